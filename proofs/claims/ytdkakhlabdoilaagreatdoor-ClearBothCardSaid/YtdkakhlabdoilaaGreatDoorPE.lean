/- Outer boxes of shapes: ShapeInside. -/
import Derived.Test.YtdkakhlabdoilaaGreatDoorPD
import Derived.Test.YtdkakhlabdoilaaGreatDoorSE
/- Outer boxes of shapes: ShapeInside. -/
namespace Go.Proofs
open Go Go.Eng
def atX (l : LoV) (p : Rat × Rat) : Sp := spAdd l.x (spSub (spMul (spOf p.1) l.c) (spMul (spOf p.2) l.s))
def atY (l : LoV) (p : Rat × Rat) : Sp := spAdd l.y (spAdd (spMul (spOf p.1) l.s) (spMul (spOf p.2) l.c))
def hX (l : LoV) : List (Rat × Rat) → Sp → Sp
 | [], x => x
 | v :: vs, x => hX l vs (spJoin x (atX l v))
def hY (l : LoV) : List (Rat × Rat) → Sp → Sp
 | [], y => y
 | v :: vs, y => hY l vs (spJoin y (atY l v))
def L156s : List (Nat × Ctr) := (41, c_hPlace) :: L156
theorem L156sok : CtrsOK Tryz.prog tabG debT L156s := .cons ok_hPlace L156ok
theorem head_of {s : List (Rat × Rat)} {p : Rat × Rat} (h : s[0]? = some p) : s.headD (0, 0) = p := by
 cases s with
 | nil => cases h
 | cons v vs => cases h; rfl
def L157 : List (Nat × Ctr) := L156s
theorem L157ok : CtrsOK Tryz.prog tabG debT L157 := L156sok
def L158 : List (Nat × Ctr) := L157
theorem L158ok : CtrsOK Tryz.prog tabG debT L158 := L157ok
def L159 : List (Nat × Ctr) := L158
theorem L159ok : CtrsOK Tryz.prog tabG debT L159 := L158ok
def L160 : List (Nat × Ctr) := L159
def T160 : Tabs := mkT L160 M79 X4
theorem L160ok : CtrsOK Tryz.prog tabG debT L160 := L159ok
theorem T160ok : TabsOK Tryz.prog tabG debT T160 := mkTok L160ok M79ok X4ok
end Go.Proofs
