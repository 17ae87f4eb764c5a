/- What all rows of laws lean on: the table, the types of the arguments. -/
import Derived.Test.YtnbkdgmgbaangaaGreatDoorTo
import Derived.Test.YtnbkdgmgbaangaaGreatDoorN3
import Derived.Test.YtnbkdgmgbaangaaGreatDoorCards
import Derived.Test.YtnbkdgmgbaangaaGreatDoorTie
namespace Go.Proofs.YtnbkdgmgbaangaaGreatDoor
open Go Go.Eng Go.ChangeShapes Go.WideShapes Go.ChangeAt Go.WideElems Go.RowKit
theorem own:ownKnob Tryz.prog.godebug=none:=by kernel_rfl
theorem QUa:laidOutB Tryz.prog=true:=by kernel_rfl
theorem Qdt:Tryz.prog.globalNamed "math/bits.deBruijn64tab" =some 1:=by kernel_rfl
abbrev QIE {H:Type}:List (String×DataW H):=[("math/bits.deBruijn64tab",Rows.laid_math_bits_deBruijn64tab)]
theorem QQU (os:Os)(args:Array Value):laidMetH Tryz.prog QIE ((World.doorLaid Tryz.prog 400 os).forCall (fun _ _=>0) ⟨#[],args,[]⟩).memory:=
 laidMetH_of_parts3 (fuel:=8) (laidMet_of_run' 8 (by kernel_rfl) (by kernel_rfl)) (by kernel_rfl) (by kernel_rfl)
theorem Qdu:VS Tryz.prog 3 22:=⟨Tryz.underlying3,Tryz.underlying22,by kernel_rfl⟩
def debZ:List Int:=debL.map Int.ofNat
theorem QQV:(debZ.map fun z=>Value.int .u8 z)=QG:=by kernel_rfl
theorem QUb {W:World}(h:laidMetH Tryz.prog QIE W):QIn W QH QG:=by
 rw[<-QQV];exact QFs (n:=64) Qdt (t:=290) (by kernel_rfl) (e:=5) (by kernel_rfl) (by kernel_rfl) (by kernel_rfl) (by kernel_rfl) (by kernel_rfl) h
theorem QcA:Tryz.prog.readableRec 3=true/\3<Tryz.prog.types.size:=⟨by kernel_rfl,R5 (by kernel_rfl)⟩
theorem QcB:Tryz.prog.readableRec 22=true/\22<Tryz.prog.types.size:=⟨by kernel_rfl,R5 (by kernel_rfl)⟩
end Go.Proofs.YtnbkdgmgbaangaaGreatDoor
