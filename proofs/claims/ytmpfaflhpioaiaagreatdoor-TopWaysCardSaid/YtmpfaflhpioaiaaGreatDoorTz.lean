/- What all rows of laws lean on: the table, the types of the arguments. -/
import Derived.Test.YtmpfaflhpioaiaaGreatDoorTo
import Derived.Test.YtmpfaflhpioaiaaGreatDoorN3
import Derived.Test.YtmpfaflhpioaiaaGreatDoorCards
import Derived.Test.YtmpfaflhpioaiaaGreatDoorTie
namespace Go.Proofs.YtmpfaflhpioaiaaGreatDoor
open Go Go.Eng Go.ChangeShapes Go.WideShapes Go.ChangeAt Go.WideElems Go.RowKit
theorem own:ownKnob Tryz.prog.godebug=none:=o4
theorem Qan:laidOutB Tryz.prog=true:=o4
theorem Qkz:Tryz.prog.globalNamed "math/bits.deBruijn64tab" =some 1:=o4
abbrev QJT {H:Type}:List (String×DataW H):=[("math/bits.deBruijn64tab",Rows.laid_math_bits_deBruijn64tab)]
theorem QUV (os:Os)(args:Array Value):laidMetH Tryz.prog QJT ((World.doorLaid Tryz.prog 400 os).forCall (fun _ _=>0) ⟨#[],args,[]⟩).memory:=
 laidMetH_of_parts3 (fuel:=8) (laidMet_of_run' 8 o4 o4) o4 o4
theorem Qk0:GH Tryz.prog 3 22:=⟨Tryz.underlying3,Tryz.underlying22,o4⟩
def debZ:List Int:=debL.map Int.ofNat
theorem QUW:(debZ.map fun z=>Value.int .u8 z)=TH:=o4
theorem Qao {W:World}(h:laidMetH Tryz.prog QJT W):Tz W Tl TH:=by
 rw[<-QUW];exact QGy (n:=64) Qkz (t:=255) o4 (e:=5) o4 o4 o4 o4 o4 h
theorem QjH:Tryz.prog.readableRec 3=true/\3<Tryz.prog.types.size:=⟨o4,R5 o4⟩
theorem QjI:Tryz.prog.readableRec 22=true/\22<Tryz.prog.types.size:=⟨o4,R5 o4⟩
end Go.Proofs.YtmpfaflhpioaiaaGreatDoor
