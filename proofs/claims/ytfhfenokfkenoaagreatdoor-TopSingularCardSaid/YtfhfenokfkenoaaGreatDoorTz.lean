/- What all rows of laws lean on: the table, the types of the arguments. -/
import Derived.Test.YtfhfenokfkenoaaGreatDoorTo
import Derived.Test.YtfhfenokfkenoaaGreatDoorN3
import Derived.Test.YtfhfenokfkenoaaGreatDoorCards
import Derived.Test.YtfhfenokfkenoaaGreatDoorTie
namespace Go.Proofs.YtfhfenokfkenoaaGreatDoor
open Go Go.Eng Go.ChangeShapes Go.WideShapes Go.ChangeAt Go.WideElems Go.RowKit
theorem own:ownKnob Tryz.prog.godebug=none:=by kernel_rfl
theorem QSW:laidOutB Tryz.prog=true:=by kernel_rfl
theorem Qas:Tryz.prog.globalNamed "math/bits.deBruijn64tab" =some 1:=by kernel_rfl
abbrev QFq {H:Type}:List (String×DataW H):=[("math/bits.deBruijn64tab",Rows.laid_math_bits_deBruijn64tab)]
theorem QOD (os:Os)(args:Array Value):laidMetH Tryz.prog QFq ((World.doorLaid Tryz.prog 400 os).forCall (fun _ _=>0) ⟨#[],args,[]⟩).memory:=
 laidMetH_of_parts3 (fuel:=8) (laidMet_of_run' 8 (by kernel_rfl) (by kernel_rfl)) (by kernel_rfl) (by kernel_rfl)
theorem Qat:Vb Tryz.prog 3 22:=⟨Tryz.underlying3,Tryz.underlying22,by kernel_rfl⟩
def debZ:List Int:=debL.map Int.ofNat
theorem QOE:(debZ.map fun z=>Value.int .u8 z)=QBq:=by kernel_rfl
theorem QSX {W:World}(h:laidMetH Tryz.prog QFq W):QGJ W QFW QBq:=by
 rw[<-QOE];exact QDq (n:=64) Qas (t:=289) (by kernel_rfl) (e:=5) (by kernel_rfl) (by kernel_rfl) (by kernel_rfl) (by kernel_rfl) (by kernel_rfl) h
theorem QZG:Tryz.prog.readableRec 3=true/\3<Tryz.prog.types.size:=⟨by kernel_rfl,R5 (by kernel_rfl)⟩
theorem QZH:Tryz.prog.readableRec 22=true/\22<Tryz.prog.types.size:=⟨by kernel_rfl,R5 (by kernel_rfl)⟩
end Go.Proofs.YtfhfenokfkenoaaGreatDoor
