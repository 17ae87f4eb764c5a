/- Box, Boxes, within; ForeContains, ForeNarrow. -/
import Derived.Test.YtfhfenokfkenoaaGreatDoorPC
namespace Go.Proofs
open Go Go.Eng
def QXk:LC:=QVa
theorem QVc:QG QXk:=QVb
def QXl:LC:=QXk
theorem QVd:QG QXl:=QVc
def QXm:LC:=QXl
theorem QVe:QG QXm:=QVd
def QRR:LC:=QXm
noncomputable def QXn:Qa:=mkT QRR M79 X4
theorem QHT:QG QRR:=QVe
theorem QVf:XH QXn:=QV QHT YH Qo
end Go.Proofs
