/- What all rows of laws lean on: the table, the types of the arguments. -/
import Derived.Test.YtjdhppdpbkoihaaGreatDoorTo
import Derived.Test.YtjdhppdpbkoihaaGreatDoorN3
import Derived.Test.YtjdhppdpbkoihaaGreatDoorCards
import Derived.Test.YtjdhppdpbkoihaaGreatDoorTie
namespace Go.Proofs.YtjdhppdpbkoihaaGreatDoor
open Go Go.Eng Go.ChangeShapes Go.WideShapes Go.ChangeAt Go.WideElems Go.RowKit
theorem own:ownKnob Tryz.prog.godebug=none:=by kernel_rfl
theorem QSc:laidOutB Tryz.prog=true:=by kernel_rfl
theorem QZx:Tryz.prog.globalNamed "math/bits.deBruijn64tab" =some 1:=by kernel_rfl
abbrev QGG {H:Type}:List (String×DataW H):=[("math/bits.deBruijn64tab",Rows.laid_math_bits_deBruijn64tab)]
theorem QOa (os:Os)(args:Array Value):laidMetH Tryz.prog QGG ((World.doorLaid Tryz.prog 400 os).forCall (fun _ _=>0) ⟨#[],args,[]⟩).memory:=
 laidMetH_of_parts3 (fuel:=8) (laidMet_of_run' 8 (by kernel_rfl) (by kernel_rfl)) (by kernel_rfl) (by kernel_rfl)
theorem QZy:Vp Tryz.prog 3 22:=⟨Tryz.underlying3,Tryz.underlying22,by kernel_rfl⟩
def debZ:List Int:=debL.map Int.ofNat
theorem QOb:(debZ.map fun z=>Value.int .u8 z)=QCO:=by kernel_rfl
theorem QSd {W:World}(h:laidMetH Tryz.prog QGG W):QGp W QFt QCO:=by
 rw[<-QOb];exact QEI (n:=64) QZx (t:=202) (by kernel_rfl) (e:=5) (by kernel_rfl) (by kernel_rfl) (by kernel_rfl) (by kernel_rfl) (by kernel_rfl) h
theorem QYn:Tryz.prog.readableRec 3=true/\3<Tryz.prog.types.size:=⟨by kernel_rfl,R5 (by kernel_rfl)⟩
theorem QYo:Tryz.prog.readableRec 22=true/\22<Tryz.prog.types.size:=⟨by kernel_rfl,R5 (by kernel_rfl)⟩
end Go.Proofs.YtjdhppdpbkoihaaGreatDoor
