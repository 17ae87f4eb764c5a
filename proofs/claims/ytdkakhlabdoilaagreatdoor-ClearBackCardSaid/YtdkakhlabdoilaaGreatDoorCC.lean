/- gantmake.poly, Poly; walls, clears. -/
import Derived.Test.YtdkakhlabdoilaaGreatDoorCA
/- gantmake.poly, Poly; walls, clears. -/
namespace Go.Proofs
open Go Go.Eng
def rowP (n : Nat) (ps : List (Rat × Rat)) : Blk := .row 27 6 (ps.map (vecN n))
def ot_gpoly : OT := fun _ => ([], [])
def goal_gpoly (l : List Int) : Prop := goalM (X := List (Rat × Rat) × List Int) T184c ot_gpoly noL Tryz.f83 [.x false [.p 1000 0]] [(1000, stB l)] (fun x => PolyOK x.1 ∧ x.2.length ≤ l.length) (fun x => ⟨[(2, .x false [.w 500 0 x.1.length])], [(1000, stB x.2), (500, rowP 63 x.1)]⟩)
theorem goal_gpoly_vc (l : List Int) : goal_gpoly l = (∃(l_1:List Int),ints l=ints l_1∧((1:Int)≤6∧(6:Int)<9223372036854775808)∧l_1.length≤9223372036854775807∧∀(r:Int) (l':List Int),0≤r∧r<6→l'.length≤l_1.length→∃(l_2:List Int),ints l'=ints l_2∧((1:Int)≤6∧(6:Int)<9223372036854775808)∧l_2.length≤9223372036854775807∧∀(r_1:Int) (l':List Int),0≤r_1∧r_1<6→l'.length≤l_2.length→∃(l_3:List Int),ints l'=ints l_3∧((1:Int)≤4∧(4:Int)<9223372036854775808)∧l_3.length≤9223372036854775807∧∀(r_2:Int) (l':List Int),0≤r_2∧r_2<4→l'.length≤l_3.length→bif r_2==0 then ((-9223372036854775808<IntKind.i64.wrap (0-IntKind.i64.wrap (1+r))∧IntKind.i64.wrap (0-IntKind.i64.wrap (1+r))<9223372036854775808)∧ -9223372036854775808<IntKind.i64.wrap (0-IntKind.i64.wrap (1+r_1))∧IntKind.i64.wrap (0-IntKind.i64.wrap (1+r_1))<9223372036854775808)∧((-9223372036854775808<IntKind.i64.wrap (1+r)∧IntKind.i64.wrap (1+r)<9223372036854775808)∧ -9223372036854775808<IntKind.i64.wrap (0-IntKind.i64.wrap (1+r_1))∧IntKind.i64.wrap (0-IntKind.i64.wrap (1+r_1))<9223372036854775808)∧((-9223372036854775808<IntKind.i64.wrap (1+r)∧IntKind.i64.wrap (1+r)<9223372036854775808)∧ -9223372036854775808<IntKind.i64.wrap (1+r_1)∧IntKind.i64.wrap (1+r_1)<9223372036854775808)∧((-9223372036854775808<IntKind.i64.wrap (0-IntKind.i64.wrap (1+r))∧IntKind.i64.wrap (0-IntKind.i64.wrap (1+r))<9223372036854775808)∧ -9223372036854775808<IntKind.i64.wrap (1+r_1)∧IntKind.i64.wrap (1+r_1)<9223372036854775808)∧∃(x:List (Rat × Rat) × List Int),(PolyOK x.fst∧x.snd.length≤l.length)∧0=0∧4=x.fst.length∧82=82∧1=1∧ints l'=ints x.snd∧27=27∧6=6∧([[Ch.r (mkRat (IntKind.i64.wrap (0-IntKind.i64.wrap (1+r))) 4,mkRat (IntKind.i64.wrap (0-IntKind.i64.wrap (1+r_1))) 4).fst 63,Ch.r (mkRat (IntKind.i64.wrap (0-IntKind.i64.wrap (1+r))) 4,mkRat (IntKind.i64.wrap (0-IntKind.i64.wrap (1+r_1))) 4).snd 63],[Ch.r (mkRat (IntKind.i64.wrap (1+r)) 4,mkRat (IntKind.i64.wrap (0-IntKind.i64.wrap (1+r_1))) 4).fst 63,Ch.r (mkRat (IntKind.i64.wrap (1+r)) 4,mkRat (IntKind.i64.wrap (0-IntKind.i64.wrap (1+r_1))) 4).snd 63],[Ch.r (mkRat (IntKind.i64.wrap (1+r)) 4,mkRat (IntKind.i64.wrap (1+r_1)) 4).fst 63,Ch.r (mkRat (IntKind.i64.wrap (1+r)) 4,mkRat (IntKind.i64.wrap (1+r_1)) 4).snd 63],[Ch.r (mkRat (IntKind.i64.wrap (0-IntKind.i64.wrap (1+r))) 4,mkRat (IntKind.i64.wrap (1+r_1)) 4).fst 63,Ch.r (mkRat (IntKind.i64.wrap (0-IntKind.i64.wrap (1+r))) 4,mkRat (IntKind.i64.wrap (1+r_1)) 4).snd 63]]=List.map (vecN 63) x.fst∨RowLE [[Ch.r (mkRat (IntKind.i64.wrap (0-IntKind.i64.wrap (1+r))) 4,mkRat (IntKind.i64.wrap (0-IntKind.i64.wrap (1+r_1))) 4).fst 63,Ch.r (mkRat (IntKind.i64.wrap (0-IntKind.i64.wrap (1+r))) 4,mkRat (IntKind.i64.wrap (0-IntKind.i64.wrap (1+r_1))) 4).snd 63],[Ch.r (mkRat (IntKind.i64.wrap (1+r)) 4,mkRat (IntKind.i64.wrap (0-IntKind.i64.wrap (1+r_1))) 4).fst 63,Ch.r (mkRat (IntKind.i64.wrap (1+r)) 4,mkRat (IntKind.i64.wrap (0-IntKind.i64.wrap (1+r_1))) 4).snd 63],[Ch.r (mkRat (IntKind.i64.wrap (1+r)) 4,mkRat (IntKind.i64.wrap (1+r_1)) 4).fst 63,Ch.r (mkRat (IntKind.i64.wrap (1+r)) 4,mkRat (IntKind.i64.wrap (1+r_1)) 4).snd 63],[Ch.r (mkRat (IntKind.i64.wrap (0-IntKind.i64.wrap (1+r))) 4,mkRat (IntKind.i64.wrap (1+r_1)) 4).fst 63,Ch.r (mkRat (IntKind.i64.wrap (0-IntKind.i64.wrap (1+r))) 4,mkRat (IntKind.i64.wrap (1+r_1)) 4).snd 63]] (List.map (vecN 63) x.fst))∧True else bif r_2==1 then ((-9223372036854775808<IntKind.i64.wrap (0-IntKind.i64.wrap (1+r))∧IntKind.i64.wrap (0-IntKind.i64.wrap (1+r))<9223372036854775808)∧ -9223372036854775808<IntKind.i64.wrap (0-IntKind.i64.wrap (1+r_1))∧IntKind.i64.wrap (0-IntKind.i64.wrap (1+r_1))<9223372036854775808)∧((-9223372036854775808<IntKind.i64.wrap (1+r)∧IntKind.i64.wrap (1+r)<9223372036854775808)∧ -9223372036854775808<IntKind.i64.wrap (0-IntKind.i64.wrap (1+r_1))∧IntKind.i64.wrap (0-IntKind.i64.wrap (1+r_1))<9223372036854775808)∧∃(l_4:List Int),ints l'=ints l_4∧(1≤IntKind.i64.wrap (IntKind.i64.wrap (2*IntKind.i64.wrap (1+r))+1)∧IntKind.i64.wrap (IntKind.i64.wrap (2*IntKind.i64.wrap (1+r))+1)<9223372036854775808)∧l_4.length≤9223372036854775807∧∀(r_3:Int) (l':List Int),0≤r_3∧r_3<IntKind.i64.wrap (IntKind.i64.wrap (2*IntKind.i64.wrap (1+r))+1)→l'.length≤l_4.length→((-9223372036854775808<IntKind.i64.wrap (r_3-IntKind.i64.wrap (1+r))∧IntKind.i64.wrap (r_3-IntKind.i64.wrap (1+r))<9223372036854775808)∧ -9223372036854775808<IntKind.i64.wrap (1+r_1)∧IntKind.i64.wrap (1+r_1)<9223372036854775808)∧∃(x:List (Rat × Rat) × List Int),(PolyOK x.fst∧x.snd.length≤l.length)∧0=0∧3=x.fst.length∧82=82∧1=1∧ints l'=ints x.snd∧27=27∧6=6∧([[Ch.r (mkRat (IntKind.i64.wrap (0-IntKind.i64.wrap (1+r))) 4,mkRat (IntKind.i64.wrap (0-IntKind.i64.wrap (1+r_1))) 4).fst 63,Ch.r (mkRat (IntKind.i64.wrap (0-IntKind.i64.wrap (1+r))) 4,mkRat (IntKind.i64.wrap (0-IntKind.i64.wrap (1+r_1))) 4).snd 63],[Ch.r (mkRat (IntKind.i64.wrap (1+r)) 4,mkRat (IntKind.i64.wrap (0-IntKind.i64.wrap (1+r_1))) 4).fst 63,Ch.r (mkRat (IntKind.i64.wrap (1+r)) 4,mkRat (IntKind.i64.wrap (0-IntKind.i64.wrap (1+r_1))) 4).snd 63],[Ch.r (mkRat (IntKind.i64.wrap (r_3-IntKind.i64.wrap (1+r))) 4,mkRat (IntKind.i64.wrap (1+r_1)) 4).fst 63,Ch.r (mkRat (IntKind.i64.wrap (r_3-IntKind.i64.wrap (1+r))) 4,mkRat (IntKind.i64.wrap (1+r_1)) 4).snd 63]]=List.map (vecN 63) x.fst∨RowLE [[Ch.r (mkRat (IntKind.i64.wrap (0-IntKind.i64.wrap (1+r))) 4,mkRat (IntKind.i64.wrap (0-IntKind.i64.wrap (1+r_1))) 4).fst 63,Ch.r (mkRat (IntKind.i64.wrap (0-IntKind.i64.wrap (1+r))) 4,mkRat (IntKind.i64.wrap (0-IntKind.i64.wrap (1+r_1))) 4).snd 63],[Ch.r (mkRat (IntKind.i64.wrap (1+r)) 4,mkRat (IntKind.i64.wrap (0-IntKind.i64.wrap (1+r_1))) 4).fst 63,Ch.r (mkRat (IntKind.i64.wrap (1+r)) 4,mkRat (IntKind.i64.wrap (0-IntKind.i64.wrap (1+r_1))) 4).snd 63],[Ch.r (mkRat (IntKind.i64.wrap (r_3-IntKind.i64.wrap (1+r))) 4,mkRat (IntKind.i64.wrap (1+r_1)) 4).fst 63,Ch.r (mkRat (IntKind.i64.wrap (r_3-IntKind.i64.wrap (1+r))) 4,mkRat (IntKind.i64.wrap (1+r_1)) 4).snd 63]] (List.map (vecN 63) x.fst))∧True else bif r_2==2 then ((-9223372036854775808<IntKind.i64.wrap (IntKind.i64.wrap (0-IntKind.i64.wrap (1+r))-1)∧IntKind.i64.wrap (IntKind.i64.wrap (0-IntKind.i64.wrap (1+r))-1)<9223372036854775808)∧ -9223372036854775808<IntKind.i64.wrap (IntKind.i64.wrap (0-IntKind.i64.wrap (1+r_1))-1)∧IntKind.i64.wrap (IntKind.i64.wrap (0-IntKind.i64.wrap (1+r_1))-1)<9223372036854775808)∧((-9223372036854775808<IntKind.i64.wrap (1+r)∧IntKind.i64.wrap (1+r)<9223372036854775808)∧ -9223372036854775808<IntKind.i64.wrap (IntKind.i64.wrap (0-IntKind.i64.wrap (1+r_1))-1)∧IntKind.i64.wrap (IntKind.i64.wrap (0-IntKind.i64.wrap (1+r_1))-1)<9223372036854775808)∧((-9223372036854775808<IntKind.i64.wrap (IntKind.i64.wrap (1+r)+1)∧IntKind.i64.wrap (IntKind.i64.wrap (1+r)+1)<9223372036854775808)∧ -9223372036854775808<IntKind.i64.wrap (0-IntKind.i64.wrap (1+r_1))∧IntKind.i64.wrap (0-IntKind.i64.wrap (1+r_1))<9223372036854775808)∧((-9223372036854775808<IntKind.i64.wrap (IntKind.i64.wrap (1+r)+1)∧IntKind.i64.wrap (IntKind.i64.wrap (1+r)+1)<9223372036854775808)∧ -9223372036854775808<IntKind.i64.wrap (1+r_1)∧IntKind.i64.wrap (1+r_1)<9223372036854775808)∧((-9223372036854775808<IntKind.i64.wrap (IntKind.i64.wrap (0-IntKind.i64.wrap (1+r))-1)∧IntKind.i64.wrap (IntKind.i64.wrap (0-IntKind.i64.wrap (1+r))-1)<9223372036854775808)∧ -9223372036854775808<IntKind.i64.wrap (1+r_1)∧IntKind.i64.wrap (1+r_1)<9223372036854775808)∧∃(x:List (Rat × Rat) × List Int),(PolyOK x.fst∧x.snd.length≤l.length)∧0=0∧5=x.fst.length∧82=82∧1=1∧ints l'=ints x.snd∧27=27∧6=6∧([[Ch.r (mkRat (IntKind.i64.wrap (IntKind.i64.wrap (0-IntKind.i64.wrap (1+r))-1)) 4,mkRat (IntKind.i64.wrap (IntKind.i64.wrap (0-IntKind.i64.wrap (1+r_1))-1)) 4).fst 63,Ch.r (mkRat (IntKind.i64.wrap (IntKind.i64.wrap (0-IntKind.i64.wrap (1+r))-1)) 4,mkRat (IntKind.i64.wrap (IntKind.i64.wrap (0-IntKind.i64.wrap (1+r_1))-1)) 4).snd 63],[Ch.r (mkRat (IntKind.i64.wrap (1+r)) 4,mkRat (IntKind.i64.wrap (IntKind.i64.wrap (0-IntKind.i64.wrap (1+r_1))-1)) 4).fst 63,Ch.r (mkRat (IntKind.i64.wrap (1+r)) 4,mkRat (IntKind.i64.wrap (IntKind.i64.wrap (0-IntKind.i64.wrap (1+r_1))-1)) 4).snd 63],[Ch.r (mkRat (IntKind.i64.wrap (IntKind.i64.wrap (1+r)+1)) 4,mkRat (IntKind.i64.wrap (0-IntKind.i64.wrap (1+r_1))) 4).fst 63,Ch.r (mkRat (IntKind.i64.wrap (IntKind.i64.wrap (1+r)+1)) 4,mkRat (IntKind.i64.wrap (0-IntKind.i64.wrap (1+r_1))) 4).snd 63],[Ch.r (mkRat (IntKind.i64.wrap (IntKind.i64.wrap (1+r)+1)) 4,mkRat (IntKind.i64.wrap (1+r_1)) 4).fst 63,Ch.r (mkRat (IntKind.i64.wrap (IntKind.i64.wrap (1+r)+1)) 4,mkRat (IntKind.i64.wrap (1+r_1)) 4).snd 63],[Ch.r (mkRat (IntKind.i64.wrap (IntKind.i64.wrap (0-IntKind.i64.wrap (1+r))-1)) 4,mkRat (IntKind.i64.wrap (1+r_1)) 4).fst 63,Ch.r (mkRat (IntKind.i64.wrap (IntKind.i64.wrap (0-IntKind.i64.wrap (1+r))-1)) 4,mkRat (IntKind.i64.wrap (1+r_1)) 4).snd 63]]=List.map (vecN 63) x.fst∨RowLE [[Ch.r (mkRat (IntKind.i64.wrap (IntKind.i64.wrap (0-IntKind.i64.wrap (1+r))-1)) 4,mkRat (IntKind.i64.wrap (IntKind.i64.wrap (0-IntKind.i64.wrap (1+r_1))-1)) 4).fst 63,Ch.r (mkRat (IntKind.i64.wrap (IntKind.i64.wrap (0-IntKind.i64.wrap (1+r))-1)) 4,mkRat (IntKind.i64.wrap (IntKind.i64.wrap (0-IntKind.i64.wrap (1+r_1))-1)) 4).snd 63],[Ch.r (mkRat (IntKind.i64.wrap (1+r)) 4,mkRat (IntKind.i64.wrap (IntKind.i64.wrap (0-IntKind.i64.wrap (1+r_1))-1)) 4).fst 63,Ch.r (mkRat (IntKind.i64.wrap (1+r)) 4,mkRat (IntKind.i64.wrap (IntKind.i64.wrap (0-IntKind.i64.wrap (1+r_1))-1)) 4).snd 63],[Ch.r (mkRat (IntKind.i64.wrap (IntKind.i64.wrap (1+r)+1)) 4,mkRat (IntKind.i64.wrap (0-IntKind.i64.wrap (1+r_1))) 4).fst 63,Ch.r (mkRat (IntKind.i64.wrap (IntKind.i64.wrap (1+r)+1)) 4,mkRat (IntKind.i64.wrap (0-IntKind.i64.wrap (1+r_1))) 4).snd 63],[Ch.r (mkRat (IntKind.i64.wrap (IntKind.i64.wrap (1+r)+1)) 4,mkRat (IntKind.i64.wrap (1+r_1)) 4).fst 63,Ch.r (mkRat (IntKind.i64.wrap (IntKind.i64.wrap (1+r)+1)) 4,mkRat (IntKind.i64.wrap (1+r_1)) 4).snd 63],[Ch.r (mkRat (IntKind.i64.wrap (IntKind.i64.wrap (0-IntKind.i64.wrap (1+r))-1)) 4,mkRat (IntKind.i64.wrap (1+r_1)) 4).fst 63,Ch.r (mkRat (IntKind.i64.wrap (IntKind.i64.wrap (0-IntKind.i64.wrap (1+r))-1)) 4,mkRat (IntKind.i64.wrap (1+r_1)) 4).snd 63]] (List.map (vecN 63) x.fst))∧True else ((-9223372036854775808<IntKind.i64.wrap (0-IntKind.i64.wrap (1+r))∧IntKind.i64.wrap (0-IntKind.i64.wrap (1+r))<9223372036854775808)∧(-9223372036854775808:Int)<0∧(0:Int)<9223372036854775808)∧(((-9223372036854775808:Int)<0∧(0:Int)<9223372036854775808)∧ -9223372036854775808<IntKind.i64.wrap (0-IntKind.i64.wrap (1+r_1))∧IntKind.i64.wrap (0-IntKind.i64.wrap (1+r_1))<9223372036854775808)∧((-9223372036854775808<IntKind.i64.wrap (1+r)∧IntKind.i64.wrap (1+r)<9223372036854775808)∧(-9223372036854775808:Int)<0∧(0:Int)<9223372036854775808)∧(((-9223372036854775808:Int)<0∧(0:Int)<9223372036854775808)∧ -9223372036854775808<IntKind.i64.wrap (1+r_1)∧IntKind.i64.wrap (1+r_1)<9223372036854775808)∧∃(x:List (Rat × Rat) × List Int),(PolyOK x.fst∧x.snd.length≤l.length)∧0=0∧4=x.fst.length∧82=82∧1=1∧ints l'=ints x.snd∧27=27∧6=6∧([[Ch.r (mkRat (IntKind.i64.wrap (0-IntKind.i64.wrap (1+r))) 4,mkRat 0 4).fst 63,Ch.r (mkRat (IntKind.i64.wrap (0-IntKind.i64.wrap (1+r))) 4,mkRat 0 4).snd 63],[Ch.r (mkRat 0 4,mkRat (IntKind.i64.wrap (0-IntKind.i64.wrap (1+r_1))) 4).fst 63,Ch.r (mkRat 0 4,mkRat (IntKind.i64.wrap (0-IntKind.i64.wrap (1+r_1))) 4).snd 63],[Ch.r (mkRat (IntKind.i64.wrap (1+r)) 4,mkRat 0 4).fst 63,Ch.r (mkRat (IntKind.i64.wrap (1+r)) 4,mkRat 0 4).snd 63],[Ch.r (mkRat 0 4,mkRat (IntKind.i64.wrap (1+r_1)) 4).fst 63,Ch.r (mkRat 0 4,mkRat (IntKind.i64.wrap (1+r_1)) 4).snd 63]]=List.map (vecN 63) x.fst∨RowLE [[Ch.r (mkRat (IntKind.i64.wrap (0-IntKind.i64.wrap (1+r))) 4,mkRat 0 4).fst 63,Ch.r (mkRat (IntKind.i64.wrap (0-IntKind.i64.wrap (1+r))) 4,mkRat 0 4).snd 63],[Ch.r (mkRat 0 4,mkRat (IntKind.i64.wrap (0-IntKind.i64.wrap (1+r_1))) 4).fst 63,Ch.r (mkRat 0 4,mkRat (IntKind.i64.wrap (0-IntKind.i64.wrap (1+r_1))) 4).snd 63],[Ch.r (mkRat (IntKind.i64.wrap (1+r)) 4,mkRat 0 4).fst 63,Ch.r (mkRat (IntKind.i64.wrap (1+r)) 4,mkRat 0 4).snd 63],[Ch.r (mkRat 0 4,mkRat (IntKind.i64.wrap (1+r_1)) 4).fst 63,Ch.r (mkRat 0 4,mkRat (IntKind.i64.wrap (1+r_1)) 4).snd 63]] (List.map (vecN 63) x.fst))∧True) := by kernel_rfl
def gP0 (w h : Int) : List (Rat × Rat) := [at4 (-w) (-h), at4 w (-h), at4 w h, at4 (-w) h]
def gP1 (w h r : Int) : List (Rat × Rat) := [at4 (-w) (-h), at4 w (-h), at4 (r - w) h]
def gP2 (w h : Int) : List (Rat × Rat) := [at4 (-w - 1) (-h - 1), at4 w (-h - 1), at4 (w + 1) (-h), at4 (w + 1) h, at4 (-w - 1) h]
def gP3 (w h : Int) : List (Rat × Rat) := [at4 (-w) 0, at4 0 (-h), at4 w 0, at4 0 h]
theorem gpolys_ok : ([1, 2, 3, 4, 5, 6] : List Int).all (fun w => ([1, 2, 3, 4, 5, 6] : List Int).all fun h => polyB (gP0 w h) && polyB (gP2 w h) && polyB (gP3 w h) && (List.range (2 * w + 1).toNat).all fun (r : Nat) => polyB (gP1 w h (r : Int))) = true := by decide +kernel
theorem gpoly_of {w h : Int} (hw : 1 ≤ w ∧ w ≤ 6) (hh : 1 ≤ h ∧ h ≤ 6) : PolyOK (gP0 w h) ∧ PolyOK (gP2 w h) ∧ PolyOK (gP3 w h) ∧ ∀ r : Int, 0 ≤ r → r < 2 * w + 1 → PolyOK (gP1 w h r) := by
 have m : ∀ {x : Int}, 1 ≤ x ∧ x ≤ 6 → x ∈ ([1, 2, 3, 4, 5, 6] : List Int) := fun {x} hx => by
  have : x = 1 ∨ x = 2 ∨ x = 3 ∨ x = 4 ∨ x = 5 ∨ x = 6 := by omega
  simpa using this
 have k := List.all_eq_true.1 (List.all_eq_true.1 gpolys_ok w (m hw)) h (m hh)
 simp only [Bool.and_eq_true] at k
 refine ⟨polyB_ok k.1.1.1, polyB_ok k.1.1.2, polyB_ok k.1.2, fun r h0 h1 => ?_⟩
 have := List.all_eq_true.1 k.2 r.toNat (List.mem_range.2 (by omega))
 rw [show ((r.toNat : Nat) : Int) = r by omega] at this
 exact polyB_ok this
theorem g_gpoly (l : List Int) (hl : l.length ≤ 9223372036854775807) : Holds (goal_gpoly l) := by
 refine ⟨?_⟩
 rw [goal_gpoly_vc]
 simp only [true_and, and_true]
 refine ⟨l, rfl, by omega, hl, fun r l1 hr h1 => ⟨l1, rfl, by omega, by omega, fun r1 l2 hr1 h2 => ⟨l2, rfl, by omega, by omega, fun r2 l3 hr2 h3 => ?_⟩⟩⟩
 obtain ⟨p0, p2, p3, p1⟩ := gpoly_of (w := 1 + r) (h := 1 + r1) (by omega) (by omega)
 have e1 : IntKind.i64.wrap (1 + r) = 1 + r := w64 (by omega)
 have e2 : IntKind.i64.wrap (1 + r1) = 1 + r1 := w64 (by omega)
 have e3 : IntKind.i64.wrap (0 - (1 + r)) = -(1 + r) := by rw [w64 (by omega)]; omega
 have e4 : IntKind.i64.wrap (0 - (1 + r1)) = -(1 + r1) := by rw [w64 (by omega)]; omega
 have e5 : IntKind.i64.wrap (2 * (1 + r)) = 2 * (1 + r) := w64 (by omega)
 have e6 : IntKind.i64.wrap (2 * (1 + r) + 1) = 2 * (1 + r) + 1 := w64 (by omega)
 have e7 : IntKind.i64.wrap (-(1 + r) - 1) = -(1 + r) - 1 := w64 (by omega)
 have e8 : IntKind.i64.wrap (-(1 + r1) - 1) = -(1 + r1) - 1 := w64 (by omega)
 have e9 : IntKind.i64.wrap (1 + r + 1) = 1 + r + 1 := w64 (by omega)
 simp only [e1, e2, e3, e4, e5, e6, e7, e8, e9]
 refine bif_mk (fun _ => ⟨by omega, by omega, by omega, by omega, (gP0 (1 + r) (1 + r1), l3), ⟨p0, by simp only; omega⟩, rfl, rfl, .inl rfl⟩) (fun _ => bif_mk (fun _ => ⟨by omega, by omega, l3, rfl, by omega, by omega, fun r3 l4 hr3 h4 => ?_⟩) (fun _ => bif_mk (fun _ => ⟨by omega, by omega, by omega, by omega, by omega, (gP2 (1 + r) (1 + r1), l3), ⟨p2, by simp only; omega⟩, rfl, rfl, .inl rfl⟩) (fun _ => ⟨by omega, by omega, by omega, by omega, (gP3 (1 + r) (1 + r1), l3), ⟨p3, by simp only; omega⟩, rfl, rfl, .inl rfl⟩)))
 rw [w64 (n := r3 - (1 + r)) (by omega)]
 exact ⟨by omega, (gP1 (1 + r) (1 + r1) r3, l4), ⟨p1 r3 hr3.1 hr3.2, by simp only; omega⟩, rfl, rfl, .inl rfl⟩
def c_gpoly : CtrM := fun as0 H d => match as0 with
 | [.x false [.p k o]] => match o with
  | 0 => match H k with
   | some (.box t [.s 1 zs]) => match H d with
    | none => bif t.beq 82 then
     some fun K => ∃ l, zs = ints l ∧ l.length ≤ 9223372036854775807 ∧ ∀ (ps : List (Rat × Rat)) (l' : List Int), PolyOK ps → l'.length ≤ l.length →
      K (.x false [.w d 0 ps.length]) (backH [(1000, k), (500, d)] (lookH [(1000, stB l'), (500, rowP 63 ps)]) H)
     else none
    | some _ => none
   | _ => none
  | _ + 1 => none
 | _ => none
theorem ok_gpoly : CtrMOK Tryz.prog tabG debT 83 c_gpoly := by
 refine ⟨enters Tryz.func83 (by kernel_rfl), fun l H d T hT K hK => ?_⟩
 unfold c_gpoly at hT
 split at hT
 ·rename_i k o
  split at hT
  ·split at hT
   ·rename_i t zs e1
    split at hT
    ·rename_i hd
     cases hb : t.beq 82 with
     | false => rw [hb] at hT; cases hT
     | true =>
      rw [hb] at hT
      cases hT
      have ht := Nat.eq_of_beq_eq_true hb
      subst ht
      obtain ⟨l, rfl, hl, hK⟩ := hK
      refine specM_of (R := [(1000, k)]) (N := [(500, d)]) (Hl := [(1000, stB l)]) T184cok mixed Tryz.func83 (by kernel_rfl) (by kernel_rfl) (by rfl)
       (as0 := [.x false [.p 1000 0]]) ?_ (hand1 e1 rfl rfl) rfl (by simp) (by simp) (fun p hp => by simp at hp; subst hp; exact hd) (fun x => ⟨fun p hp => ?_, fun p hp b hb => ?_⟩) (g_gpoly l hl) (fun x hx => ?_)
      ·simp [renAs, renAV, renCh, lkB]
      ·simp at hp
       subst hp
       exact fun h => by have h' : some (stB _) = none := h; cases h'
      ·simp at hp
       rcases hp with rfl | rfl
       ·have h' : some (stB _) = some b := hb; cases h'; rfl
       ·have h' : some (rowP _ _) = some b := hb; cases h'; rfl
      ·exact ⟨_, rfl, hK _ _ hx.1 hx.2⟩
    ·cases hT
   ·cases hT
  ·cases hT
 ·cases hT
def M185 : List (Nat × CtrM) := (83, c_gpoly) :: M79
def T185 : Tabs := mkT L184c M185 X4
def mvP (v p : Rat × Rat) : Rat × Rat := (p.1 + v.1, p.2 + v.2)
structure WlX where
 ws : List (List (Rat × Rat))
 l : List Int
 n : Nat
 ps : List (Rat × Rat)
 v : Rat × Rat
 j : Nat
structure WlI (l : List Int) (x : WlX) : Prop where
 n : x.ws.length ≤ x.n ∧ x.n ≤ 3
 ok : ∀ w ∈ x.ws, PolyOK w
 l : x.l.length ≤ l.length
def inv_walls (l : List Int) : LI := fun id => bif id.beq 4 then .inv ⟨WlX, fun x => ⟨[(3, .x false [.p 11 0]), (4, .x false [.w 500 0 x.ws.length]), (13, iA .i64 x.n), (14, iA .i64 x.ws.length)], [(11, stB x.l), (500, .row 76 1 (shN 127 x.ws))]⟩, WlI l, fun x => x.n - x.ws.length, fun _ => 0⟩
 else .inv ⟨WlX, fun x => ⟨[(3, .x false [.p 11 0]), (4, .x false [.w 500 0 x.ws.length]), (5, .x false [.w 501 0 x.j]), (6, .x false [.p 6 0]), (13, iA .i64 x.n), (14, iA .i64 x.ws.length), (32, sVv 63 x.ps), (33, iA .i64 x.ps.length), (34, iA .i64 x.j)], [(6, .box 27 (vecN 63 x.v)), (11, stB x.l), (500, .row 76 1 (shN 127 x.ws)), (501, rowP 127 ((x.ps.take x.j).map (mvP x.v)))]⟩, fun x => (WlI l x ∧ x.ws.length < x.n) ∧ PolyOK x.ps ∧ x.j ≤ x.ps.length, fun x => x.ps.length - x.j, fun x => x.n - x.ws.length⟩
theorem poly_mv {l : List (Rat × Rat)} (v : Rat × Rat) (h : PolyOK l) : PolyOK (l.map (mvP v)) := by
 refine ⟨by rw [List.length_map]; exact h.lo, by rw [List.length_map]; exact h.hi, fun i k a b c h1 h2 ha hb hc => ?_⟩
 rw [List.length_map] at h2 hb hc
 rw [List.getElem?_map] at ha hb hc
 obtain ⟨a', ha', rfl⟩ := Option.map_eq_some_iff.1 ha
 obtain ⟨b', hb', rfl⟩ := Option.map_eq_some_iff.1 hb
 obtain ⟨c', hc', rfl⟩ := Option.map_eq_some_iff.1 hc
 have := h.left i k a' b' c' h1 h2 ha' hb' hc'
 unfold lft at this ⊢
 unfold mvP
 simp only
 grind
theorem M185ok : CtrMsOK Tryz.prog tabG debT M185 := .cons ok_gpoly M79ok
theorem T185ok : TabsOK Tryz.prog tabG debT T185 := mkTok L184cok M185ok X4ok
def ot_mPoly : OT := fun _ => ([], [])
def goal_mPoly (l : List Int) (K : AV → Prop) : Prop := goalL T185 ot_mPoly noL Tryz.f44 [.x false [.s 1 (ints l)]] K
theorem goal_mPoly_vc (l : List Int) (K : AV → Prop) : goal_mPoly l K = (∃(l_1:List Int),ints l=ints l_1∧l_1.length≤9223372036854775807∧∀(ps:List (Rat × Rat)) (l':List Int),PolyOK ps→l'.length≤l_1.length→K (AV.x false [Ch.s 6 (List.take ps.length (List.drop 0 (List.map (vecN 63) ps)))])) := by kernel_rfl
theorem g_mPoly (l : List Int) (hc : (l.length ≤ 9223372036854775807)) (K : AV → Prop) (hK : ∀ ps, PolyOK ps → K (sVv 63 ps)) : Holds (goal_mPoly l K) := by
 refine ⟨?_⟩
 rw [goal_mPoly_vc]
 try simp only [Int.ofNat_eq_natCast, true_and, and_true, Nat.zero_add, Nat.le_refl, true_implies, true_or, or_true]
 refine ⟨l, rfl, hc, fun ps l' hp hl => ?_⟩
 have := hK ps hp
 rw [List.drop_zero, List.take_of_length_le (by simp)]
 exact this
def c_mPoly : Ctr := fun as0 => match as0 with
 | [.x false [.s 1 xs]] => some fun K => ∃ (l : List Int), xs = ints l ∧ ((l.length ≤ 9223372036854775807)) ∧ (∀ ps, PolyOK ps → K (sVv 63 ps))
 | _ => none
theorem ok_mPoly : CtrOK Tryz.prog tabG debT 44 c_mPoly := by
 refine ⟨enters Tryz.func44 (by kernel_rfl), fun l T hT K hK => ?_⟩
 unfold c_mPoly at hT
 split at hT
 ·cases hT
  obtain ⟨l, rfl, hc, hK⟩ := hK
  exact spec_ofL T185ok mixed Tryz.func44 (by kernel_rfl) (by kernel_rfl) (by rfl) (g_mPoly _ hc K hK)
 ·cases hT
def L186c : List (Nat × Ctr) := (44, c_mPoly) :: L184c
def T186c : Tabs := mkT L186c M185 X4
theorem L186cok : CtrsOK Tryz.prog tabG debT L186c := .cons ok_mPoly L184cok
theorem T186cok : TabsOK Tryz.prog tabG debT T186c := mkTok L186cok M185ok X4ok
def ot_kWalls : OT := fun _ => ([], [])
def goal_kWalls (l : List Int) (K : AV → Prop) : Prop := goalL T186c ot_kWalls (inv_walls l) Tryz.f14 [.x false [.s 1 (ints l)]] K
theorem goal_kWalls_vc (l : List Int) (K : AV → Prop) : goal_kWalls l K = (∃(l_1:List Int),ints l=ints l_1∧((1:Int)≤4∧(4:Int)<9223372036854775808)∧l_1.length≤9223372036854775807∧∀(r:Int) (l':List Int),0≤r∧r<4→l'.length≤l_1.length→(∃(x:WlX),(WlI l x∧OfNat.ofNat 0=0)∧0=0∧Value.slice none 0 0=Value.slice none 0 0∧0=0∧x.ws.length=0∧r=Int.ofNat x.n∧0=Int.ofNat x.ws.length∧82=82∧1=1∧ints l'=ints x.l∧shN 127 x.ws=[]∧True)∧∀(x:WlX),WlI l x→OfNat.ofNat 0=0→bif decide (Int.ofNat x.ws.length<Int.ofNat x.n) then ∃(l_2:List Int),ints x.l=ints l_2∧((1:Int)≤33∧(33:Int)<9223372036854775808)∧l_2.length≤9223372036854775807∧∀(r:Int) (l':List Int),0≤r∧r<33→l'.length≤l_2.length→((-9223372036854775808<IntKind.i64.wrap (r-16)∧IntKind.i64.wrap (r-16)<9223372036854775808)∧(0:Int)<4∧(4:Int)<9223372036854775808)∧∃(l_3:List Int),ints l'=ints l_3∧((1:Int)≤33∧(33:Int)<9223372036854775808)∧l_3.length≤9223372036854775807∧∀(r_1:Int) (l':List Int),0≤r_1∧r_1<33→l'.length≤l_3.length→((-9223372036854775808<IntKind.i64.wrap (r_1-16)∧IntKind.i64.wrap (r_1-16)<9223372036854775808)∧(0:Int)<4∧(4:Int)<9223372036854775808)∧∃(l_4:List Int),ints l'=ints l_4∧((1:Int)≤60∧(60:Int)<9223372036854775808)∧l_4.length≤9223372036854775807∧∀(r_2:Int) (l':List Int),0≤r_2∧r_2<60→l'.length≤l_4.length→∃(l_5:List Int),ints l'=ints l_5∧((1:Int)≤60∧(60:Int)<9223372036854775808)∧l_5.length≤9223372036854775807∧∀(r_3:Int) (l':List Int),0≤r_3∧r_3<60→l'.length≤l_5.length→∃(l_6:List Int),ints l'=ints l_6∧((1:Int)≤60∧(60:Int)<9223372036854775808)∧l_6.length≤9223372036854775807∧∀(r_4:Int) (l':List Int),0≤r_4∧r_4<60→l'.length≤l_6.length→∃(l_7:List Int),[[Ch.v (Value.int IntKind.i64 r_2)],[Ch.v (Value.int IntKind.i64 r_3)],[Ch.v (Value.int IntKind.i64 r_4)]]=ints l_7∧l_7.length≤9223372036854775807∧∀(ps:List (Rat × Rat)),PolyOK ps→(∃(x_1:WlX),(((WlI l x_1∧x_1.ws.length<x_1.n)∧PolyOK x_1.ps∧x_1.j≤x_1.ps.length)∧x_1.n-x_1.ws.length=x.n-x.ws.length)∧0=0∧0=0∧x.ws.length=x_1.ws.length∧Value.slice none 0 0=Value.slice none 0 0∧0=0∧x_1.j=0∧0=0∧Int.ofNat x.n=Int.ofNat x_1.n∧Int.ofNat x.ws.length=Int.ofNat x_1.ws.length∧6=6∧List.map (vecN 63) ps=List.map (vecN 63) x_1.ps∧Int.ofNat (List.map (vecN 63) ps).length=Int.ofNat x_1.ps.length∧0=Int.ofNat x_1.j∧27=27∧mkRat (IntKind.i64.wrap (r-16)) 4=x_1.v.fst∧63≤63∧mkRat (IntKind.i64.wrap (r_1-16)) 4=x_1.v.snd∧63≤63∧82=82∧1=1∧ints l'=ints x_1.l∧76=76∧1=1∧(shN 127 x.ws=shN 127 x_1.ws∨RowLE (shN 127 x.ws) (shN 127 x_1.ws))∧List.map (vecN 127) (List.map (mvP x_1.v) (List.take x_1.j x_1.ps))=[]∧True)∧∀(x_1:WlX),(WlI l x_1∧x_1.ws.length<x_1.n)∧PolyOK x_1.ps∧x_1.j≤x_1.ps.length→x_1.n-x_1.ws.length=x.n-x.ws.length→bif decide (Int.ofNat x_1.j<Int.ofNat x_1.ps.length) then (0≤Int.ofNat x_1.j∧Int.ofNat x_1.j<Int.ofNat (List.map (vecN 63) x_1.ps).length)∧∃(q:Rat),∃(n:Nat),∃(q_1:Rat),∃(n_1:Nat),ldE (List.map (vecN 63) x_1.ps) (Int.ofNat x_1.j).toNat 0 6=some [Ch.r q n,Ch.r q_1 n_1]∧(n+63≤4294967290∧n_1+63≤4294967290)∧((x_1.j+1)*80≤140737488355328∧x_1.j+1≤9223372036854775807)∧∃(x':WlX),(((WlI l x'∧x'.ws.length<x'.n)∧PolyOK x'.ps∧x'.j≤x'.ps.length)∧x'.n-x'.ws.length=x.n-x.ws.length∧x'.ps.length-x'.j<x_1.ps.length-x_1.j)∧0=0∧0=0∧x_1.ws.length=x'.ws.length∧0=0∧x_1.j+1=x'.j∧0=0∧Int.ofNat x_1.n=Int.ofNat x'.n∧Int.ofNat x_1.ws.length=Int.ofNat x'.ws.length∧6=6∧List.map (vecN 63) x_1.ps=List.map (vecN 63) x'.ps∧Int.ofNat x_1.ps.length=Int.ofNat x'.ps.length∧IntKind.i64.wrap (Int.ofNat x_1.j+1)=Int.ofNat x'.j∧27=27∧x_1.v.fst=x'.v.fst∧63≤63∧x_1.v.snd=x'.v.snd∧63≤63∧82=82∧1=1∧ints x_1.l=ints x'.l∧76=76∧1=1∧(shN 127 x_1.ws=shN 127 x'.ws∨RowLE (shN 127 x_1.ws) (shN 127 x'.ws))∧27=27∧6=6∧(List.take x_1.j (List.map (vecN 127) (List.map (mvP x_1.v) (List.take x_1.j x_1.ps)))++[[Ch.r (q+x_1.v.fst) (n+63+1),Ch.r (q_1+x_1.v.snd) (n_1+63+1)]]=List.map (vecN 127) (List.map (mvP x'.v) (List.take x'.j x'.ps))∨RowLE (List.take x_1.j (List.map (vecN 127) (List.map (mvP x_1.v) (List.take x_1.j x_1.ps)))++[[Ch.r (q+x_1.v.fst) (n+63+1),Ch.r (q_1+x_1.v.snd) (n_1+63+1)]]) (List.map (vecN 127) (List.map (mvP x'.v) (List.take x'.j x'.ps))))∧True else ((x_1.ws.length+1)*24≤140737488355328∧x_1.ws.length+1≤9223372036854775807)∧∃(x':WlX),(WlI l x'∧OfNat.ofNat 0=0∧x'.n-x'.ws.length<x.n-x.ws.length)∧0=0∧0=0∧x_1.ws.length+1=x'.ws.length∧Int.ofNat x_1.n=Int.ofNat x'.n∧IntKind.i64.wrap (Int.ofNat x_1.ws.length+1)=Int.ofNat x'.ws.length∧82=82∧1=1∧ints x_1.l=ints x'.l∧76=76∧1=1∧(List.take x_1.ws.length (shN 127 x_1.ws)++[[Ch.s 6 (List.take x_1.j (List.drop 0 (List.map (vecN 127) (List.map (mvP x_1.v) (List.take x_1.j x_1.ps)))))]]=shN 127 x'.ws∨RowLE (List.take x_1.ws.length (shN 127 x_1.ws)++[[Ch.s 6 (List.take x_1.j (List.drop 0 (List.map (vecN 127) (List.map (mvP x_1.v) (List.take x_1.j x_1.ps)))))]]) (shN 127 x'.ws))∧True else K (AV.x false [Ch.s 1 (List.take x.ws.length (List.drop 0 (shN 127 x.ws)))])) := by kernel_rfl
theorem g_kWalls (l : List Int) (hc : (l.length ≤ 9223372036854775807)) (K : AV → Prop) (hK : ∀ ws : List (List (Rat × Rat)), ws.length ≤ 3 → (∀ w ∈ ws, PolyOK w) → K (slA 127 ws)) : Holds (goal_kWalls l K) := by
 refine ⟨?_⟩
 rw [goal_kWalls_vc]
 try simp only [Int.ofNat_eq_natCast, true_and, and_true, Nat.le_refl, true_implies]
 have shl : ∀ n (l : List (List (Rat × Rat))), (shN n l).length = l.length := fun n l => by simp [shN]
 refine ⟨l, rfl, by omega, hc, fun r l1 hr h1 => ⟨⟨⟨[], l1, r.toNat, [], (0, 0), 0⟩, ⟨by simp only [List.length_nil]; omega, by simp, h1⟩, rfl, by simp only; omega, rfl, rfl, rfl⟩, fun x hx => bif_mk (fun hp => ?_) (fun hp => ?_)⟩⟩
 ·have hp : x.ws.length < x.n := by have := of_decide_eq_true hp; omega
  have hn := hx.n
  have hxl := hx.l
  refine ⟨x.l, rfl, by omega, by omega, fun r2 l2 hr2 h2 => ⟨by rw [w64 (n := r2 - 16) (by omega)]; omega, l2, rfl, by omega, by omega, fun r3 l3 hr3 h3 => ⟨by rw [w64 (n := r3 - 16) (by omega)]; omega, l3, rfl, by omega, by omega, fun a1 l4 ha1 h4 => ⟨l4, rfl, by omega, by omega, fun a2 l5 ha2 h5 => ⟨l5, rfl, by omega, by omega, fun a3 l6 ha3 h6 => ⟨[a1, a2, a3], rfl, by simp, fun ps hps => ⟨⟨⟨x.ws, l6, x.n, ps, (mkRat (IntKind.i64.wrap (r2 - 16)) 4, mkRat (IntKind.i64.wrap (r3 - 16)) 4), 0⟩, ⟨⟨⟨⟨hn, hx.ok, by simp only; omega⟩, hp⟩, hps, by simp⟩, rfl⟩, rfl, rfl, rfl, rfl, rfl, by rw [List.length_map], rfl, rfl, rfl, rfl, .inl rfl, by simp⟩, fun y ⟨⟨hy1, hy2⟩, hyp, hyj⟩ hyt => ?_⟩⟩⟩⟩⟩⟩⟩
  have yn := hy1.n
  have y1 := hyp.hi
  refine bif_mk (fun hk => ?_) (fun hk => ?_)
  ·have hk : y.j < y.ps.length := by have := of_decide_eq_true hk; omega
   obtain ⟨p, hpp⟩ : ∃ p, y.ps[y.j]? = some p := ⟨_, List.getElem?_eq_getElem hk⟩
   refine ⟨by rw [List.length_map]; omega, _, _, _, _, vec_ld (by simpa using hpp), by omega, ⟨by omega, by omega⟩, ⟨y.ws, y.l, y.n, y.ps, y.v, y.j + 1⟩, ⟨⟨⟨⟨hy1.n, hy1.ok, hy1.l⟩, hy2⟩, hyp, hk⟩, hyt, by simp only; omega⟩, rfl, rfl, rfl, rfl, rfl, rfl, by rw [w64 (by omega)]; simp, rfl, rfl, rfl, .inl rfl, .inl ?_⟩
   simp only
   rw [List.take_of_length_le (by simp; omega), List.take_add_one, hpp, List.map_append, List.map_append]
   rfl
  ·have hk : y.j = y.ps.length := by have := of_decide_eq_false hk; omega
   refine ⟨⟨by omega, by omega⟩, ⟨y.ws ++ [y.ps.map (mvP y.v)], y.l, y.n, y.ps, y.v, 0⟩, ⟨⟨by simp only [List.length_append, List.length_singleton]; omega, fun w hw => ?_, hy1.l⟩, by simp only [List.length_append, List.length_singleton]; omega⟩, by simp, rfl, by rw [w64 (by omega)]; simp, rfl, .inl ?_⟩
   ·rcases List.mem_append.1 hw with hw | hw
    ·exact hy1.ok w hw
    ·rw [List.mem_singleton.1 hw]; exact poly_mv _ hyp
   ·have e1 : List.take y.j y.ps = y.ps := List.take_of_length_le (by omega)
    simp only
    rw [e1, List.drop_zero, List.take_of_length_le (l := List.map (vecN 127) _) (by simp [hk]), List.take_of_length_le (by rw [shl]; exact Nat.le_refl _)]
    unfold shN
    rw [List.map_append]
    rfl
 ·have hp : x.ws.length = x.n := by have := of_decide_eq_false hp; have := hx.n; omega
  have hn := hx.n
  rw [List.drop_zero, List.take_of_length_le (by rw [shl]; exact Nat.le_refl _)]
  exact hK x.ws (by omega) hx.ok
def c_kWalls : Ctr := fun as0 => match as0 with
 | [.x false [.s 1 xs]] => some fun K => ∃ (l : List Int), xs = ints l ∧ ((l.length ≤ 9223372036854775807)) ∧ (∀ ws : List (List (Rat × Rat)), ws.length ≤ 3 → (∀ w ∈ ws, PolyOK w) → K (slA 127 ws))
 | _ => none
theorem ok_kWalls : CtrOK Tryz.prog tabG debT 14 c_kWalls := by
 refine ⟨enters Tryz.func14 (by kernel_rfl), fun l T hT K hK => ?_⟩
 unfold c_kWalls at hT
 split at hT
 ·cases hT
  obtain ⟨l, rfl, hc, hK⟩ := hK
  exact spec_ofL T186cok mixed Tryz.func14 (by kernel_rfl) (by kernel_rfl) (by rfl) (g_kWalls _ hc K hK)
 ·cases hT
def L187c : List (Nat × Ctr) := (14, c_kWalls) :: L186c
def T187c : Tabs := mkT L187c M185 X4
theorem L187cok : CtrsOK Tryz.prog tabG debT L187c := .cons ok_kWalls L186cok
theorem T187cok : TabsOK Tryz.prog tabG debT T187c := mkTok L187cok M185ok X4ok
def ot_kClears : OT := fun _ => ([], [])
def goal_kClears  (K : AV → Prop) : Prop := goalL T187c ot_kClears noL Tryz.f10 [] K
theorem goal_kClears_vc (K : AV → Prop) : goal_kClears K = ((((-9223372036854775808:Int)<2∧(2:Int)<9223372036854775808)∧(-9223372036854775808:Int)<0∧(0:Int)<9223372036854775808)∧(((-9223372036854775808:Int)<4∧(4:Int)<9223372036854775808)∧(-9223372036854775808:Int)<0∧(0:Int)<9223372036854775808)∧(((-9223372036854775808:Int)<4∧(4:Int)<9223372036854775808)∧(-9223372036854775808:Int)<1∧(1:Int)<9223372036854775808)∧∃(ns:List Int),[[Ch.v (Value.int IntKind.i64 3)]]=ints ns∧(ns.length≤3∧∀(n:Int),n ∈ ns→1≤n∧n≤1000)∧(((-9223372036854775808:Int)<0∧(0:Int)<9223372036854775808)∧(0:Int)<1∧(1:Int)<9223372036854775808)∧∃(a:ArmV),∃(b:Nat),∃(qs:List Rat),∃(m:Nat),∃(ws:List (List (Rat × Rat))),[Ch.v (Value.string (sampleV ns).name),Ch.r (sampleV ns).x 63,Ch.r (sampleV ns).y 63,Ch.v (Value.bool false),Ch.r (sampleV ns).t 63,Ch.s 16 (List.map linkCh (sampleV ns).links)]=[Ch.v (Value.string a.name),Ch.r a.x 63,Ch.r a.y 63,Ch.v (Value.bool a.half),Ch.r a.t 63,Ch.s 16 (List.map linkCh a.links)]∧[[Ch.r (mkRat 0 1) 63]]=lR b qs∧[[Ch.s 6 [[Ch.r (mkRat 2 1,mkRat 0 1).fst 63,Ch.r (mkRat 2 1,mkRat 0 1).snd 63],[Ch.r (mkRat 4 1,mkRat 0 1).fst 63,Ch.r (mkRat 4 1,mkRat 0 1).snd 63],[Ch.r (mkRat 4 1,mkRat 1 1).fst 63,Ch.r (mkRat 4 1,mkRat 1 1).snd 63]]]]=shN m ws∧(GoodArm a∧(b≤400∧qs.length=a.links.length)∧m≤400000000∧(∀(w:List (Rat × Rat)),w ∈ ws→PolyOK w)∧ws.length≤20)∧∀(fs:List FrV) (f:FrV),fs++[f]=framesV (baseV a) a.links qs→fs.length=a.links.length→∃(ns:List Int),[[Ch.v (Value.int IntKind.i64 3)]]=ints ns∧(ns.length≤3∧∀(n:Int),n ∈ ns→1≤n∧n≤1000)∧(((-9223372036854775808:Int)<2∧(2:Int)<9223372036854775808)∧(0:Int)<1∧(1:Int)<9223372036854775808)∧∃(a_3:ArmV),∃(b:Nat),∃(qs:List Rat),∃(m:Nat),∃(ws_1:List (List (Rat × Rat))),[Ch.v (Value.string (sampleV ns).name),Ch.r (sampleV ns).x 63,Ch.r (sampleV ns).y 63,Ch.v (Value.bool false),Ch.r (sampleV ns).t 63,Ch.s 16 (List.map linkCh (sampleV ns).links)]=[Ch.v (Value.string a_3.name),Ch.r a_3.x 63,Ch.r a_3.y 63,Ch.v (Value.bool a_3.half),Ch.r a_3.t 63,Ch.s 16 (List.map linkCh a_3.links)]∧[[Ch.r (mkRat 2 1) 63]]=lR b qs∧[[Ch.s 6 [[Ch.r (mkRat 2 1,mkRat 0 1).fst 63,Ch.r (mkRat 2 1,mkRat 0 1).snd 63],[Ch.r (mkRat 4 1,mkRat 0 1).fst 63,Ch.r (mkRat 4 1,mkRat 0 1).snd 63],[Ch.r (mkRat 4 1,mkRat 1 1).fst 63,Ch.r (mkRat 4 1,mkRat 1 1).snd 63]]]]=shN m ws_1∧(GoodArm a_3∧(b≤400∧qs.length=a_3.links.length)∧m≤400000000∧(∀(w:List (Rat × Rat)),w ∈ ws_1→PolyOK w)∧ws_1.length≤20)∧∀(fs_1:List FrV) (f:FrV),fs_1++[f]=framesV (baseV a_3) a_3.links qs→fs_1.length=a_3.links.length→bif !freeB (placeV fs a.links) ws then K (AV.x false [Ch.v (Value.bool (freeB (placeV fs_1 a_3.links) ws_1))]) else K (AV.x false [Ch.v (Value.bool false)])) := by kernel_rfl
theorem g_kClears  (_hc : True) (K : AV → Prop) (hK : K (.x false [.v (.bool true)])) : Holds (goal_kClears  K) := by
 refine ⟨?_⟩
 rw [goal_kClears_vc]
 try simp only []
 have k1 : freeB (placeV ((framesV (baseV (sampleV [3])) (sampleV [3]).links [mkRat 0 1]).take 1) (sampleV [3]).links) [[pt1 2 0, pt1 4 0, pt1 4 1]] = false := by decide +kernel
 have k2 : freeB (placeV ((framesV (baseV (sampleV [3])) (sampleV [3]).links [mkRat 2 1]).take 1) (sampleV [3]).links) [[pt1 2 0, pt1 4 0, pt1 4 1]] = true := by decide +kernel
 have wp : ∀ w ∈ [[pt1 2 0, pt1 4 0, pt1 4 1]], PolyOK w := fun w hw => by
  rw [List.mem_singleton.1 hw]
  exact polyB_ok (by decide +kernel)
 refine ⟨by omega, by omega, by omega, [3], rfl, ⟨by simp, by simp⟩, by omega, sampleV [3], 63, [mkRat 0 1], 63, [[pt1 2 0, pt1 4 0, pt1 4 1]], rfl, rfl, rfl, ⟨sample_good (by simp) (by simp), ⟨by omega, rfl⟩, by omega, wp, by simp⟩, fun fs f hf hl => ⟨[3], rfl, ⟨by simp, by simp⟩, by omega, sampleV [3], 63, [mkRat 2 1], 63, [[pt1 2 0, pt1 4 0, pt1 4 1]], rfl, rfl, rfl, ⟨sample_good (by simp) (by simp), ⟨by omega, rfl⟩, by omega, wp, by simp⟩, fun gs g hg hgl => ?_⟩⟩
 obtain ⟨e1, _⟩ := snoc_of hf (show fs.length = 1 from hl)
 obtain ⟨e2, _⟩ := snoc_of hg (show gs.length = 1 from hgl)
 rw [← e1] at k1
 rw [← e2] at k2
 rw [k1, k2]
 exact hK
def c_kClears : Ctr := fun as0 => match as0 with
 | [] => some fun K => (True) ∧ (K (.x false [.v (.bool true)]))
 | _ => none
theorem ok_kClears : CtrOK Tryz.prog tabG debT 10 c_kClears := by
 refine ⟨enters Tryz.func10 (by kernel_rfl), fun l T hT K hK => ?_⟩
 unfold c_kClears at hT
 split at hT
 ·cases hT
  obtain ⟨hc, hK⟩ := hK
  exact spec_ofL T187cok mixed Tryz.func10 (by kernel_rfl) (by kernel_rfl) (by rfl) (g_kClears  hc K hK)
 ·cases hT
def L188c : List (Nat × Ctr) := (10, c_kClears) :: L187c
def T188c : Tabs := mkT L188c M185 X4
theorem L188cok : CtrsOK Tryz.prog tabG debT L188c := .cons ok_kClears L187cok
theorem T188cok : TabsOK Tryz.prog tabG debT T188c := mkTok L188cok M185ok X4ok
end Go.Proofs
/- ClearFewer, ClearBoth, ClearProves, ClearBack. -/
namespace Go.Proofs
open Go Go.Eng
def inA (l : List Int) : AV := .x false [.s 1 (ints l)]
def ot_cbck : OT := fun id => bif id.beq 4 then ([0, 1, 3, 4, 2, 5, 6, 7], [[], [], [0, 1], [], [], [3, 4, 2, 0, 1], [2, 0, 1, 5, 3, 4], [5, 3, 4, 2, 0, 1, 6]]) else ([], [])
def goal_cbck (l m k w : List Int) (p : Int) (K : AV → Prop) : Prop := goalL T188c ot_cbck noL Tryz.f6 [inA l, inA m, inA k, inA w, iA .i64 p] K
theorem goal_cbck_vc (l : List Int) (m : List Int) (k : List Int) (w : List Int) (p : Int) (K : AV → Prop) : goal_cbck l m k w p K = (True∧∃(l_1:List Int),ints l=ints l_1∧l_1.length≤9223372036854775807∧∀(a:ArmV),Made a∧1≤a.links.length→∃(a_2:ArmV),∃(l:List Int),[Ch.v (Value.string a.name),Ch.r a.x 63,Ch.r a.y 63,Ch.v (Value.bool a.half),Ch.r a.t 63,Ch.s 16 (List.map linkCh a.links)]=[Ch.v (Value.string a_2.name),Ch.r a_2.x 63,Ch.r a_2.y 63,Ch.v (Value.bool a_2.half),Ch.r a_2.t 63,Ch.s 16 (List.map linkCh a_2.links)]∧ints m=ints l∧(GoodArm a_2∧l.length≤9223372036854775807)∧∀(qs:List Rat),(∀(i:Nat) (L:LinkV) (q:Rat),a_2.links[i]?=some L→qs[i]?=some q→L.lo≤q∧q≤L.hi)→qs.length=a_2.links.length→∃(a_5:ArmV),∃(l:List Int),[Ch.v (Value.string a.name),Ch.r a.x 63,Ch.r a.y 63,Ch.v (Value.bool a.half),Ch.r a.t 63,Ch.s 16 (List.map linkCh a.links)]=[Ch.v (Value.string a_5.name),Ch.r a_5.x 63,Ch.r a_5.y 63,Ch.v (Value.bool a_5.half),Ch.r a_5.t 63,Ch.s 16 (List.map linkCh a_5.links)]∧ints k=ints l∧(GoodArm a_5∧l.length≤9223372036854775807)∧∀(qs_1:List Rat),(∀(i:Nat) (L:LinkV) (q:Rat),a_5.links[i]?=some L→qs_1[i]?=some q→L.lo≤q∧q≤L.hi)→qs_1.length=a_5.links.length→∃(l:List Int),ints w=ints l∧l.length≤9223372036854775807∧∀(ws:List (List (Rat × Rat))),ws.length≤3→(∀(w:List (Rat × Rat)),w ∈ ws→PolyOK w)→((0:Int)<3∧(3:Int)<9223372036854775808)∧∃(a_10:ArmV),∃(d:Nat),∃(p_1:List Rat),∃(e:Nat),∃(q:List Rat),∃(m:Nat),∃(ws_1:List (List (Rat × Rat))),∃(n:Nat),[Ch.v (Value.string a.name),Ch.r a.x 63,Ch.r a.y 63,Ch.v (Value.bool a.half),Ch.r a.t 63,Ch.s 16 (List.map linkCh a.links)]=[Ch.v (Value.string a_10.name),Ch.r a_10.x 63,Ch.r a_10.y 63,Ch.v (Value.bool a_10.half),Ch.r a_10.t 63,Ch.s 16 (List.map linkCh a_10.links)]∧lR 63 qs=lR d p_1∧lR 63 qs_1=lR e q∧shN 127 ws=shN m ws_1∧IntKind.i64.wrap (1+p%3)=Int.ofNat n∧(GoodArm a_10∧2*d+e+130≤400∧(p_1.length=a_10.links.length∧q.length=a_10.links.length)∧m≤400000000∧((∀(w:List (Rat × Rat)),w ∈ ws_1→PolyOK w)∧ws_1.length≤20)∧1≤n∧n≤50)∧∃(a_11:ArmV),∃(d:Nat),∃(p_2:List Rat),∃(e:Nat),∃(q_1:List Rat),∃(m:Nat),∃(ws_2:List (List (Rat × Rat))),∃(n_1:Nat),[Ch.v (Value.string a.name),Ch.r a.x 63,Ch.r a.y 63,Ch.v (Value.bool a.half),Ch.r a.t 63,Ch.s 16 (List.map linkCh a.links)]=[Ch.v (Value.string a_11.name),Ch.r a_11.x 63,Ch.r a_11.y 63,Ch.v (Value.bool a_11.half),Ch.r a_11.t 63,Ch.s 16 (List.map linkCh a_11.links)]∧lR 63 qs_1=lR d p_2∧lR 63 qs=lR e q_1∧shN 127 ws=shN m ws_2∧IntKind.i64.wrap (1+p%3)=Int.ofNat n_1∧(GoodArm a_11∧2*d+e+130≤400∧(p_2.length=a_11.links.length∧q_1.length=a_11.links.length)∧m≤400000000∧((∀(w:List (Rat × Rat)),w ∈ ws_2→PolyOK w)∧ws_2.length≤20)∧1≤n_1∧n_1≤50)∧∃(a_12:ArmV),∃(d:Nat),∃(p_3:List Rat),∃(e:Nat),∃(q_2:List Rat),∃(m:Nat),∃(ws_3:List (List (Rat × Rat))),∃(n_2:Nat),[Ch.v (Value.string a.name),Ch.r a.x 63,Ch.r a.y 63,Ch.v (Value.bool a.half),Ch.r a.t 63,Ch.s 16 (List.map linkCh a.links)]=[Ch.v (Value.string a_12.name),Ch.r a_12.x 63,Ch.r a_12.y 63,Ch.v (Value.bool a_12.half),Ch.r a_12.t 63,Ch.s 16 (List.map linkCh a_12.links)]∧lR 63 qs=lR d p_3∧lR 63 qs_1=lR e q_2∧shN 127 ws=shN m ws_3∧IntKind.i64.wrap (2*IntKind.i64.wrap (1+p%3))=Int.ofNat n_2∧(GoodArm a_12∧2*d+e+130≤400∧(p_3.length=a_12.links.length∧q_2.length=a_12.links.length)∧m≤400000000∧((∀(w:List (Rat × Rat)),w ∈ ws_3→PolyOK w)∧ws_3.length≤20)∧1≤n_2∧n_2≤50)∧True∧bif motB a_10 (splV p_1 q n) ws_1==motB a_11 (splV p_2 q_1 n_1) ws_2 then bif !motB a_10 (splV p_1 q n) ws_1 then K (AV.x false [Ch.v (Value.bool true)]) else K (AV.x false [Ch.v (Value.bool (motB a_12 (splV p_3 q_2 n_2) ws_3))]) else K (AV.x false [Ch.v (Value.bool false)])) := by kernel_rfl
theorem g_cbck (l m k w : List Int) (p : Int) (hl : l.length ≤ 9223372036854775807) (hm : m.length ≤ 9223372036854775807) (hk : k.length ≤ 9223372036854775807) (hw : w.length ≤ 9223372036854775807) (K : AV → Prop) (hK : K (.x false [.v (.bool true)])) : Holds (goal_cbck l m k w p K) := by
 refine ⟨?_⟩
 rw [goal_cbck_vc]
 simp only [Int.ofNat_eq_natCast, true_and]
 refine ⟨l, rfl, hl, fun a ha => ⟨a, m, rfl, rfl, ⟨MadeA.good ha, hm⟩, fun ps _ hp => ⟨a, k, rfl, rfl, ⟨MadeA.good ha, hk⟩, fun qs _ hq => ⟨w, rfl, hw, fun ws hws hwp => ?_⟩⟩⟩⟩
 have ga := MadeA.good ha
 obtain ⟨n, hn⟩ := Int.eq_ofNat_of_zero_le (show 0 ≤ 1 + p % 3 by omega)
 rw [w64 (n := 1 + p % 3) (by omega), hn, w64 (n := 2 * (n : Int)) (by omega)]
 have nz : ∀ v ∈ ws, v ≠ [] := fun v hv e => by have := (hwp v hv).lo; rw [e] at this; simp at this
 refine ⟨by omega, a, 63, ps, 63, qs, 127, ws, n, rfl, rfl, rfl, rfl, rfl, ⟨ga, by omega, ⟨hp, hq⟩, by omega, ⟨hwp, by omega⟩, by omega, by omega⟩, a, 63, qs, 63, ps, 127, ws, n, rfl, rfl, rfl, rfl, rfl, ⟨ga, by omega, ⟨hq, hp⟩, by omega, ⟨hwp, by omega⟩, by omega, by omega⟩, a, 63, ps, 63, qs, 127, ws, 2 * n, rfl, rfl, rfl, rfl, by omega, ⟨ga, by omega, ⟨hp, hq⟩, by omega, ⟨hwp, by omega⟩, by omega, by omega⟩, ?_⟩
 rw [mot_back (p := ps) (q := qs)]
 refine bif_mk (fun _ => bif_mk (fun _ => hK) (fun h => ?_)) (fun h => by simp at h)
 rw [mot_fine ga hp hq (by omega : 0 < n) nz (by simpa using h)]
 exact hK
theorem spec_cbck (l m k w : List Int) (p : Int) (hl : l.length ≤ 9223372036854775807) (hm : m.length ≤ 9223372036854775807) (hk : k.length ≤ 9223372036854775807) (hw : w.length ≤ 9223372036854775807) : Eng.Spec Tryz.prog tabG debT 6 [inA l, inA m, inA k, inA w, iA .i64 p] (fun av => av = .x false [.v (.bool true)]) :=
 spec_ofL T188cok mixed Tryz.func6 (by kernel_rfl) (by kernel_rfl) (by rfl) (g_cbck l m k w p hl hm hk hw _ rfl)
end Go.Proofs
