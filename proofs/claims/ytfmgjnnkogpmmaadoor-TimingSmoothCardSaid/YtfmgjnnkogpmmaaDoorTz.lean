/- What all rows of laws lean on: the table, the types of the arguments. -/
import Derived.Test.YtfmgjnnkogpmmaaDoorTo
import Derived.Test.YtfmgjnnkogpmmaaDoorN3
import Derived.Test.YtfmgjnnkogpmmaaDoorCards
import Derived.Test.YtfmgjnnkogpmmaaDoorTie
namespace Go.Proofs.YtfmgjnnkogpmmaaDoor
open Go Go.Eng Go.ChangeShapes Go.WideShapes Go.ChangeAt Go.WideElems Go.RowKit
theorem own:ownKnob Tryd.prog.godebug=none:=by kernel_rfl
theorem QNP:laidOutB Tryd.prog=true:=by kernel_rfl
theorem QRf:Tryd.prog.globalNamed "math/bits.deBruijn64tab" =some 1:=by kernel_rfl
abbrev QDg {H:Type}:List (String×DataW H):=[("math/bits.deBruijn64tab",Rows.laid_math_bits_deBruijn64tab)]
theorem QKm (os:Os)(args:Array Value):laidMetH Tryd.prog QDg ((World.doorLaid Tryd.prog 400 os).forCall (fun _ _=>0) ⟨#[],args,[]⟩).memory:=
 laidMetH_of_parts3 (fuel:=8) (laidMet_of_run' 8 (by kernel_rfl) (by kernel_rfl)) (by kernel_rfl) (by kernel_rfl)
theorem QRg:Vo Tryd.prog 3 38:=⟨Tryd.underlying3,Tryd.underlying38,by kernel_rfl⟩
def debZ:List Int:=debL.map Int.ofNat
theorem QKn:(debZ.map fun z=>Value.int .u8 z)=G9:=by kernel_rfl
theorem QNQ {W:World}(h:laidMetH Tryd.prog QDg W):QDq W QDC G9:=by
 rw[<-QKn];exact QB0 (n:=64) QRf (t:=139) (by kernel_rfl) (e:=5) (by kernel_rfl) (by kernel_rfl) (by kernel_rfl) (by kernel_rfl) (by kernel_rfl) h
theorem QQ9:Tryd.prog.readableRec 3=true/\3<Tryd.prog.types.size:=⟨by kernel_rfl,R5 (by kernel_rfl)⟩
theorem QRA:Tryd.prog.readableRec 38=true/\38<Tryd.prog.types.size:=⟨by kernel_rfl,R5 (by kernel_rfl)⟩
end Go.Proofs.YtfmgjnnkogpmmaaDoor
