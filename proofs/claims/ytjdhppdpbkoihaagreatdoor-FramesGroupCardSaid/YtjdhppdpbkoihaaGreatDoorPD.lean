/- Box, Boxes, within; ForeContains, ForeNarrow. -/
import Derived.Test.YtjdhppdpbkoihaaGreatDoorPC
namespace Go.Proofs
open Go Go.Eng
def QUO:LC:=QRy
theorem QR0:QC QUO:=QRz
def QUP:LC:=QUO
theorem QR1:QC QUP:=QR0
def QUQ:LC:=QUP
theorem QR2:QC QUQ:=QR1
def QK1:LC:=QUQ
noncomputable def QUR:QY:=mkT QK1 M79 X4
theorem QBz:QC QK1:=QR2
theorem QR3:XM QUR:=QW QBz XC Q0
end Go.Proofs
