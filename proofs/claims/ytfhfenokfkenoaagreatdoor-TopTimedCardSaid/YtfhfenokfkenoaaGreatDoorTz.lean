/- What all rows of laws lean on: the table, the types of the arguments. -/
import Derived.Test.YtfhfenokfkenoaaGreatDoorTo
import Derived.Test.YtfhfenokfkenoaaGreatDoorN3
import Derived.Test.YtfhfenokfkenoaaGreatDoorCards
import Derived.Test.YtfhfenokfkenoaaGreatDoorTie
namespace Go.Proofs.YtfhfenokfkenoaaGreatDoor
open Go Go.Eng Go.ChangeShapes Go.WideShapes Go.ChangeAt Go.WideElems Go.RowKit
theorem own:ownKnob Tryz.prog.godebug=none:=by kernel_rfl
theorem QQ8:laidOutB Tryz.prog=true:=by kernel_rfl
theorem QYV:Tryz.prog.globalNamed "math/bits.deBruijn64tab" =some 1:=by kernel_rfl
abbrev QFC {H:Type}:List (String×DataW H):=[("math/bits.deBruijn64tab",Rows.laid_math_bits_deBruijn64tab)]
theorem QNL (os:Os)(args:Array Value):laidMetH Tryz.prog QFC ((World.doorLaid Tryz.prog 400 os).forCall (fun _ _=>0) ⟨#[],args,[]⟩).memory:=
 laidMetH_of_parts3 (fuel:=8) (laidMet_of_run' 8 (by kernel_rfl) (by kernel_rfl)) (by kernel_rfl) (by kernel_rfl)
theorem QYW:UH Tryz.prog 3 22:=⟨Tryz.underlying3,Tryz.underlying22,by kernel_rfl⟩
def debZ:List Int:=debL.map Int.ofNat
theorem QNM:(debZ.map fun z=>Value.int .u8 z)=QBD:=by kernel_rfl
theorem QQ9 {W:World}(h:laidMetH Tryz.prog QFC W):QFX W QEn QBD:=by
 rw[<-QNM];exact QDH (n:=64) QYV (t:=289) (by kernel_rfl) (e:=5) (by kernel_rfl) (by kernel_rfl) (by kernel_rfl) (by kernel_rfl) (by kernel_rfl) h
theorem QXD:Tryz.prog.readableRec 3=true/\3<Tryz.prog.types.size:=⟨by kernel_rfl,R5 (by kernel_rfl)⟩
theorem QXE:Tryz.prog.readableRec 22=true/\22<Tryz.prog.types.size:=⟨by kernel_rfl,R5 (by kernel_rfl)⟩
end Go.Proofs.YtfhfenokfkenoaaGreatDoor
