/- The stream of raw numbers. -/
import Derived.Test.YtagcmnmbgogljaaDoorR1
import Derived.Test.YtagcmnmbgogljaaDoorPl
/- The stream of raw numbers. -/
namespace Go.Proofs
open Go Go.Eng
def ints (l : List Int) : List (List Ch) := l.map fun n => [Ch.v (.int .i64 n)]
def stB (l : List Int) : Blk := .box 41 [.s 1 (ints l)]
def nxtR (l : List Int) (n : Int) : Int := match l with | [] => 0 | x :: _ => x % n
def goal_next (l : List Int) (n : Int) : Prop := goalM (X := Unit) T26 noO noL Tryd.f7 [.x false [.p 1000 0], iA .i64 n] [(1000, stB l)] (fun _ => True) (fun _ => ⟨[(4, iA .i64 (nxtR l n))], [(1000, stB l.tail)]⟩)
theorem goal_next_vc (l : List Int) (n : Int) : goal_next l n = (bif Int.ofNat (ints l).length==0 then ∃(x:Unit),True∧0=nxtR l n∧41=41∧1=1∧ints l=ints l.tail∧True else bif decide (n<1) then ∃(x:Unit),True∧0=nxtR l n∧41=41∧1=1∧ints l=ints l.tail∧True else ((0:Int)≤0∧0<Int.ofNat (ints l).length)∧∃(d:Int),ldE (ints l) 0 0 1=some [Ch.v (Value.int IntKind.i64 d)]∧((0:Int)≤1∧1≤Int.ofNat (ints l).length∧Int.ofNat (ints l).length≤Int.ofNat (ints l).length)∧(0<n∧n<9223372036854775808)∧∃(x:Unit),True∧d%n=nxtR l n∧41=41∧1=1∧List.take ((Int.ofNat (ints l).length).toNat-1) (List.drop 1 (ints l))=ints l.tail∧True) := by kernel_rfl
theorem ints_len (l : List Int) : (ints l).length = l.length := by simp [ints]
theorem nxtR_range {l : List Int} {n : Int} (hn : 1 ≤ n) : 0 ≤ nxtR l n ∧ nxtR l n < n := by
 unfold nxtR
 split
 ·omega
 ·rename_i x l'
  exact ⟨Int.emod_nonneg x (by omega), Int.emod_lt_of_pos x (by omega)⟩
theorem g_next (l : List Int) (n : Int) (hn : 1 ≤ n ∧ n < 9223372036854775808) (hl : l.length ≤ 9223372036854775807) : Holds (goal_next l n) := by
 refine ⟨?_⟩
 rw [goal_next_vc]
 simp only [Int.ofNat_eq_natCast, true_and, and_true]
 simp only [ints_len]
 cases l with
 | nil => exact ⟨(), rfl, rfl⟩
 | cons x l =>
  refine bif_mk (fun h => ?_) (fun _ => bif_mk (fun h => ?_) (fun _ => ⟨by simp, x, rfl, by simp only [List.length_cons]; omega, ⟨by omega, hn.2⟩, (), rfl, ?_⟩))
  ·simp at h; omega
  ·have := of_decide_eq_true h; omega
  ·simp only [List.length_cons, List.tail_cons, ints, List.map_cons, List.drop_succ_cons, List.drop_zero]
   exact List.take_of_length_le (by simp)
/-- A number below n; the rest of the list is left. -/
def c_next : CtrM := fun as0 H _ => match as0 with
  | [.x false [.p k o], .x false [.v (.int .i64 n)]] => match o with
    | 0 => match H k with
      | some (.box t [.s 1 xs]) => bif t.beq 41 then
          some fun K => ∃ l, xs = ints l ∧ (1 ≤ n ∧ n < 9223372036854775808) ∧ l.length ≤ 9223372036854775807 ∧ ∀ (r : Int) (l' : List Int), (0 ≤ r ∧ r < n) → l'.length ≤ l.length → K (iA .i64 r) (backH [(1000, k)] (lookH [(1000, stB l')]) H)
          else none
      | _ => none
    | _ + 1 => none
  | _ => none
theorem ok_next : CtrMOK Tryd.prog tabG debT 7 c_next := by
 refine ⟨enters Tryd.func7 (by kernel_rfl), fun l H d T hT K hK => ?_⟩
 unfold c_next at hT
 split at hT
 ·rename_i k o n
  split at hT
  ·split at hT
   ·rename_i t xs e1
    cases hb : t.beq 41 with
    | false => rw [hb] at hT; cases hT
    | true =>
     rw [hb] at hT
     cases hT
     have ht := Nat.eq_of_beq_eq_true hb
     subst ht
     obtain ⟨l, rfl, hn, hl, hK⟩ := hK
     refine specM_of (R := [(1000, k)]) (N := []) (Hl := [(1000, stB l)]) T26ok mixed Tryd.func7 (by kernel_rfl) (by kernel_rfl) (by rfl)
      (as0 := [.x false [.p 1000 0], iA .i64 n]) ?_ (hand1 e1 rfl rfl) rfl (by simp) (by simp) (fun _ h => by cases h) (fun x => ⟨fun p hp => ?_, fun p hp b hb => ?_⟩) (g_next l n hn hl) (fun _ _ => ?_)
     ·simp [renAs, renAV, renCh, lkB, iA]
     ·simp at hp
      subst hp
      exact fun h => by have h' : some (stB _) = none := h; cases h'
     ·simp at hp
      subst hp
      have h' : some (stB _) = some b := hb; cases h'; rfl
     ·exact ⟨_, rfl, hK _ _ (nxtR_range hn.1) (by rw [List.length_tail]; omega)⟩
   ·cases hT
  ·cases hT
 ·cases hT
def M30 : List (Nat × CtrM) := (7, c_next) :: M23
noncomputable def T30 : Tabs := mkT L26 M30 X4
theorem M30ok : CtrMsOK Tryd.prog tabG debT M30 := .cons ok_next M23ok
theorem T30ok : TabsOK Tryd.prog tabG debT T30 := mkTok L26ok M30ok X4ok
end Go.Proofs
/- Made arms: corners, shapes, links, arms. -/
namespace Go.Proofs
open Go Go.Eng
def vecN (n : Nat) (p : Rat × Rat) : List Ch := [.r p.1 n, .r p.2 n]
abbrev vecCh : Rat × Rat → List Ch := vecN 63
def at4 (x y : Int) : Rat × Rat := (mkRat x 4, mkRat y 4)
def ot_mAt : OT := fun _ => ([], [])
def goal_mAt (x y : Int) (K : AV → Prop) : Prop := goalL T30 ot_mAt noL Tryd.f21 [iA .i64 x, iA .i64 y] K
theorem goal_mAt_vc (x : Int) (y : Int) (K : AV → Prop) : goal_mAt x y K = (((-9223372036854775808<x∧x<9223372036854775808)∧(0:Int)<4∧(4:Int)<9223372036854775808)∧((-9223372036854775808<y∧y<9223372036854775808)∧(0:Int)<4∧(4:Int)<9223372036854775808)∧K (AV.x true [Ch.r (mkRat x 4) 63,Ch.r (mkRat y 4) 63])) := by kernel_rfl
theorem g_mAt (x y : Int) (hc : ((-9223372036854775808 < x ∧ x < 9223372036854775808) ∧ -9223372036854775808 < y ∧ y < 9223372036854775808)) (K : AV → Prop) (hK : K (.x true (vecCh (at4 x y)))) : Holds (goal_mAt x y K) := by
 refine ⟨?_⟩
 rw [goal_mAt_vc]
 try simp only [Int.ofNat_eq_natCast, true_and, and_true, Nat.zero_add, Nat.le_refl, true_implies, true_or, or_true]
 exact ⟨by omega, by omega, hK⟩
def c_mAt : Ctr := fun as0 => match as0 with
 | [.x false [.v (.int .i64 x)], .x false [.v (.int .i64 y)]] => some fun K => (((-9223372036854775808 < x ∧ x < 9223372036854775808) ∧ -9223372036854775808 < y ∧ y < 9223372036854775808)) ∧ (K (.x true (vecCh (at4 x y))))
 | _ => none
theorem ok_mAt : CtrOK Tryd.prog tabG debT 21 c_mAt := by
 refine ⟨enters Tryd.func21 (by kernel_rfl), fun l T hT K hK => ?_⟩
 unfold c_mAt at hT
 split at hT
 ·cases hT
  obtain ⟨hc, hK⟩ := hK
  exact spec_ofL T30ok mixed Tryd.func21 (by kernel_rfl) (by kernel_rfl) (by rfl) (g_mAt _ _ hc K hK)
 ·cases hT
def L31 : List (Nat × Ctr) := (21, c_mAt) :: L26
noncomputable def T31 : Tabs := mkT L31 M30 X4
theorem L31ok : CtrsOK Tryd.prog tabG debT L31 := .cons ok_mAt L26ok
theorem T31ok : TabsOK Tryd.prog tabG debT T31 := mkTok L31ok M30ok X4ok
def rect4 (x y u v : Int) : List (Rat × Rat) := [at4 x y, at4 u y, at4 u v, at4 x v]
def ot_mRect : OT := fun _ => ([], [])
def goal_mRect (x y u v : Int) (K : AV → Prop) : Prop := goalL T31 ot_mRect noL Tryd.f23 [iA .i64 x, iA .i64 y, iA .i64 u, iA .i64 v] K
theorem goal_mRect_vc (x : Int) (y : Int) (u : Int) (v : Int) (K : AV → Prop) : goal_mRect x y u v K = (((-9223372036854775808<x∧x<9223372036854775808)∧ -9223372036854775808<y∧y<9223372036854775808)∧((-9223372036854775808<u∧u<9223372036854775808)∧ -9223372036854775808<y∧y<9223372036854775808)∧((-9223372036854775808<u∧u<9223372036854775808)∧ -9223372036854775808<v∧v<9223372036854775808)∧((-9223372036854775808<x∧x<9223372036854775808)∧ -9223372036854775808<v∧v<9223372036854775808)∧K (AV.x false [Ch.s 6 [[Ch.r (mkRat x 4,mkRat y 4).fst 63,Ch.r (mkRat x 4,mkRat y 4).snd 63],[Ch.r (mkRat u 4,mkRat y 4).fst 63,Ch.r (mkRat u 4,mkRat y 4).snd 63],[Ch.r (mkRat u 4,mkRat v 4).fst 63,Ch.r (mkRat u 4,mkRat v 4).snd 63],[Ch.r (mkRat x 4,mkRat v 4).fst 63,Ch.r (mkRat x 4,mkRat v 4).snd 63]]])) := by kernel_rfl
theorem g_mRect (x y u v : Int) (hc : ((-9223372036854775808 < x ∧ x < 9223372036854775808) ∧ -9223372036854775808 < y ∧ y < 9223372036854775808) ∧ ((-9223372036854775808 < u ∧ u < 9223372036854775808) ∧ -9223372036854775808 < v ∧ v < 9223372036854775808)) (K : AV → Prop) (hK : K (.x false [.s 6 ((rect4 x y u v).map vecCh)])) : Holds (goal_mRect x y u v K) := by
 refine ⟨?_⟩
 rw [goal_mRect_vc]
 try simp only []
 exact ⟨by omega, by omega, by omega, by omega, hK⟩
def c_mRect : Ctr := fun as0 => match as0 with
 | [.x false [.v (.int .i64 x)], .x false [.v (.int .i64 y)], .x false [.v (.int .i64 u)], .x false [.v (.int .i64 v)]] => some fun K => (((-9223372036854775808 < x ∧ x < 9223372036854775808) ∧ -9223372036854775808 < y ∧ y < 9223372036854775808) ∧ ((-9223372036854775808 < u ∧ u < 9223372036854775808) ∧ -9223372036854775808 < v ∧ v < 9223372036854775808)) ∧ (K (.x false [.s 6 ((rect4 x y u v).map vecCh)]))
 | _ => none
theorem ok_mRect : CtrOK Tryd.prog tabG debT 23 c_mRect := by
 refine ⟨enters Tryd.func23 (by kernel_rfl), fun l T hT K hK => ?_⟩
 unfold c_mRect at hT
 split at hT
 ·cases hT
  obtain ⟨hc, hK⟩ := hK
  exact spec_ofL T31ok mixed Tryd.func23 (by kernel_rfl) (by kernel_rfl) (by rfl) (g_mRect _ _ _ _ hc K hK)
 ·cases hT
def L32 : List (Nat × Ctr) := (23, c_mRect) :: L31
noncomputable def T32 : Tabs := mkT L32 M30 X4
theorem L32ok : CtrsOK Tryd.prog tabG debT L32 := .cons ok_mRect L31ok
theorem T32ok : TabsOK Tryd.prog tabG debT T32 := mkTok L32ok M30ok X4ok
structure LinkV where
 len : Rat
 lo : Rat
 hi : Rat
 sp : Rat
 br : Rat
 shape : List (Rat × Rat)
def linkCh (L : LinkV) : List Ch := [.r L.len 63, .r L.lo 63, .r L.hi 63, .r L.sp 63, .r L.br 63, .s 6 (L.shape.map vecCh)]
structure ArmV where
 name : ByteArray
 x : Rat
 y : Rat
 half : Bool
 t : Rat
 links : List LinkV
def armCh (a : ArmV) : List Ch := [.v (.string a.name), .r a.x 63, .r a.y 63, .v (.bool a.half), .r a.t 63, .s 16 (a.links.map linkCh)]
def armA (a : ArmV) : AV := .x true (armCh a)
/-- The same with the links in a row of its own. -/
def armW (a : ArmV) (k : Nat) : List Ch := [.v (.string a.name), .r a.x 63, .r a.y 63, .v (.bool a.half), .r a.t 63, .w k 0 a.links.length]
def zeroArm : List Ch := [.v (.string ⟨⟨[]⟩⟩)] ++ zeroR ++ zeroR ++ [.v (.bool false)] ++ zeroR ++ [.v (.slice none 0 0)]
def mkLink (long i j s b : Int) (tri : Bool) : LinkV := ⟨mkRat long 4, mkRat (-1 - i) 3, mkRat (1 + j) 3, mkRat 1 (4 + s).toNat, mkRat 1 (10 + b).toNat, bif tri then [at4 (-1) (-1), at4 (long + 1) 0, at4 (-1) 1] else rect4 (-1) (-1) (long + 1) 1⟩
def MadeLink (L : LinkV) : Prop := ∃ r i j s b : Int, ∃ tri, (0 ≤ r ∧ r < 4) ∧ (0 ≤ i ∧ i < 6) ∧ (0 ≤ j ∧ j < 6) ∧ (0 ≤ s ∧ s < 8) ∧ (0 ≤ b ∧ b < 20) ∧ L = mkLink (4 + 2 * r) i j s b tri
def oneS : ByteArray := ⟨⟨[111, 110, 101]⟩⟩
structure Made (a : ArmV) : Prop where
 name : a.name = oneS
 x : a.x = mkRat 0 4
 y : a.y = mkRat 0 4
 half : a.half = false
 t : ∃ c d : Int, (-1 ≤ c ∧ c ≤ 1) ∧ (1 ≤ d ∧ d ≤ 3) ∧ a.t = mkRat c d.toNat
 n : a.links.length ≤ 3
 links : ∀ L ∈ a.links, MadeLink L
def rowLk (l : List LinkV) : Blk := .row 72 16 (l.map linkCh)
structure MkX where
 a : ArmV
 l : List Int
 n : Nat
def inv_marm (l : List Int) : LI := fun _ => .inv ⟨MkX, fun x => ⟨[(0, .x false [.p 1000 0]), (4, .x false [.p 4 0]), (5, .x false [.p 5 0]), (30, iA .i64 x.n), (31, iA .i64 x.a.links.length)],
 [(1000, stB x.l), (4, .box 36 zeroArm), (5, .box 36 (armW x.a 500)), (500, rowLk x.a.links)]⟩, fun x => Made x.a ∧ x.l.length ≤ l.length ∧ x.a.links.length ≤ x.n ∧ 1 ≤ x.n ∧ x.n ≤ 3, fun x => x.n - x.a.links.length, fun _ => 0⟩
def ot_marm : OT := fun id => bif id.beq 2 then ([0, 1, 3, 4, 8, 2, 5, 6, 7, 9, 10, 11, 12, 13, 14, 15], [[], [0], [1, 0], [], [], [4, 2, 1, 0], [3, 5, 4, 2, 1, 0], [6, 3, 5, 4, 2, 1, 0], [], [8, 5, 4, 2, 1, 0], [9, 8, 5, 4, 2, 1, 0], [7, 6, 3, 5, 4, 2, 1, 0, 10, 9, 8], [11, 7, 6, 3, 5, 4, 2, 1, 0, 10, 9, 8], [2, 1, 0, 12, 11, 7, 6, 3, 5, 4, 10, 9, 8], [0, 1, 2, 3, 4, 5, 6, 7, 8, 9, 10, 11, 12, 13], [14, 0, 1, 2, 3, 4, 5, 6, 7, 8, 9, 10, 11, 12, 13]]) else ([], [])
def goal_marm (l : List Int) : Prop := goalM (X := ArmV × List Int) T32 ot_marm (inv_marm l) Tryd.f12 [.x false [.p 1000 0], iA .i64 0] [(1000, stB l)] (fun x => (Made x.1 ∧ 1 ≤ x.1.links.length) ∧ x.2.length ≤ l.length) (fun x => ⟨[(4, .x false [.p 4 0])], [(1000, stB x.2), (4, .box 36 (armW x.1 500)), (500, rowLk x.1.links)]⟩)
theorem goal_marm_vc (l : List Int) : goal_marm l = (((0:Int)≤0∧(0:Int)<4)∧∃(b:ByteArray),some [Ch.v (Value.string (ByteArray.mk (Array.mk [OfNat.ofNat 111,OfNat.ofNat 110,OfNat.ofNat 101])))]=some [Ch.v (Value.string b)]∧(((-9223372036854775808:Int)<0∧(0:Int)<9223372036854775808)∧(-9223372036854775808:Int)<0∧(0:Int)<9223372036854775808)∧∃(l_1:List Int),ints l=ints l_1∧((1:Int)≤4∧(4:Int)<9223372036854775808)∧l_1.length≤9223372036854775807∧∀(r:Int) (l':List Int),0≤r∧r<4→l'.length≤l_1.length→(0≤r∧r<4)∧∃(d:Int),ldE [[Ch.v (Value.int IntKind.i64 0)],[Ch.v (Value.int IntKind.i64 1)],[Ch.v (Value.int IntKind.i64 (-1))],[Ch.v (Value.int IntKind.i64 1)]] (0+r.toNat) 0 1=some [Ch.v (Value.int IntKind.i64 d)]∧∃(l_2:List Int),ints l'=ints l_2∧((1:Int)≤3∧(3:Int)<9223372036854775808)∧l_2.length≤9223372036854775807∧∀(r:Int) (l':List Int),0≤r∧r<3→l'.length≤l_2.length→((-9223372036854775808<d∧d<9223372036854775808)∧0<IntKind.i64.wrap (1+r)∧IntKind.i64.wrap (1+r)<9223372036854775808)∧∃(l_3:List Int),ints l'=ints l_3∧((1:Int)≤3∧(3:Int)<9223372036854775808)∧l_3.length≤9223372036854775807∧∀(r_1:Int) (l':List Int),0≤r_1∧r_1<3→l'.length≤l_3.length→(∃(x:MkX),((Made x.a∧x.l.length≤l.length∧x.a.links.length≤x.n∧1≤x.n∧x.n≤3)∧OfNat.ofNat 0=0)∧0=0∧0=0∧0=0∧IntKind.i64.wrap (1+r_1)=Int.ofNat x.n∧0=Int.ofNat x.a.links.length∧41=41∧1=1∧ints l'=ints x.l∧36=36∧ByteArray.mk (Array.mk [])=ByteArray.mk (Array.mk [])∧false=false∧ByteArray.mk (Array.mk [])=ByteArray.mk (Array.mk [])∧ByteArray.mk (Array.mk [])=ByteArray.mk (Array.mk [])∧false=false∧ByteArray.mk (Array.mk [])=ByteArray.mk (Array.mk [])∧ByteArray.mk (Array.mk [])=ByteArray.mk (Array.mk [])∧false=false∧false=false∧ByteArray.mk (Array.mk [])=ByteArray.mk (Array.mk [])∧ByteArray.mk (Array.mk [])=ByteArray.mk (Array.mk [])∧Value.slice none 0 0=Value.slice none 0 0∧36=36∧b=x.a.name∧(mkRat 0 4,mkRat 0 4).fst=x.a.x∧63≤63∧(mkRat 0 4,mkRat 0 4).snd=x.a.y∧63≤63∧false=x.a.half∧mkRat d (IntKind.i64.wrap (1+r)).toNat=x.a.t∧63≤63∧Value.slice none 0 0=Value.slice none 0 0∧0=0∧x.a.links.length=0∧List.map linkCh x.a.links=[]∧True)∧∀(x:MkX),Made x.a∧x.l.length≤l.length∧x.a.links.length≤x.n∧1≤x.n∧x.n≤3→OfNat.ofNat 0=0→bif decide (Int.ofNat x.a.links.length<Int.ofNat x.n) then ∃(l_4:List Int),ints x.l=ints l_4∧((1:Int)≤4∧(4:Int)<9223372036854775808)∧l_4.length≤9223372036854775807∧∀(r:Int) (l':List Int),0≤r∧r<4→l'.length≤l_4.length→((-9223372036854775808<IntKind.i64.wrap (4+IntKind.i64.wrap (2*r))∧IntKind.i64.wrap (4+IntKind.i64.wrap (2*r))<9223372036854775808)∧(0:Int)<4∧(4:Int)<9223372036854775808)∧∃(l_5:List Int),ints l'=ints l_5∧((1:Int)≤6∧(6:Int)<9223372036854775808)∧l_5.length≤9223372036854775807∧∀(r_2:Int) (l':List Int),0≤r_2∧r_2<6→l'.length≤l_5.length→((-9223372036854775808<IntKind.i64.wrap (-1-r_2)∧IntKind.i64.wrap (-1-r_2)<9223372036854775808)∧(0:Int)<3∧(3:Int)<9223372036854775808)∧∃(l_6:List Int),ints l'=ints l_6∧((1:Int)≤6∧(6:Int)<9223372036854775808)∧l_6.length≤9223372036854775807∧∀(r_3:Int) (l':List Int),0≤r_3∧r_3<6→l'.length≤l_6.length→((-9223372036854775808<IntKind.i64.wrap (1+r_3)∧IntKind.i64.wrap (1+r_3)<9223372036854775808)∧(0:Int)<3∧(3:Int)<9223372036854775808)∧∃(l_7:List Int),ints l'=ints l_7∧((1:Int)≤8∧(8:Int)<9223372036854775808)∧l_7.length≤9223372036854775807∧∀(r_4:Int) (l':List Int),0≤r_4∧r_4<8→l'.length≤l_7.length→(((-9223372036854775808:Int)<1∧(1:Int)<9223372036854775808)∧0<IntKind.i64.wrap (4+r_4)∧IntKind.i64.wrap (4+r_4)<9223372036854775808)∧∃(l_8:List Int),ints l'=ints l_8∧((1:Int)≤20∧(20:Int)<9223372036854775808)∧l_8.length≤9223372036854775807∧∀(r_5:Int) (l':List Int),0≤r_5∧r_5<20→l'.length≤l_8.length→(((-9223372036854775808:Int)<1∧(1:Int)<9223372036854775808)∧0<IntKind.i64.wrap (10+r_5)∧IntKind.i64.wrap (10+r_5)<9223372036854775808)∧((((-9223372036854775808:Int)< -1∧(-1:Int)<9223372036854775808)∧(-9223372036854775808:Int)< -1∧(-1:Int)<9223372036854775808)∧(-9223372036854775808<IntKind.i64.wrap (IntKind.i64.wrap (4+IntKind.i64.wrap (2*r))+1)∧IntKind.i64.wrap (IntKind.i64.wrap (4+IntKind.i64.wrap (2*r))+1)<9223372036854775808)∧(-9223372036854775808:Int)<1∧(1:Int)<9223372036854775808)∧∃(l_9:List Int),ints l'=ints l_9∧((1:Int)≤3∧(3:Int)<9223372036854775808)∧l_9.length≤9223372036854775807∧∀(r_6:Int) (l':List Int),0≤r_6∧r_6<3→l'.length≤l_9.length→bif r_6==2 then (((-9223372036854775808:Int)< -1∧(-1:Int)<9223372036854775808)∧(-9223372036854775808:Int)< -1∧(-1:Int)<9223372036854775808)∧((-9223372036854775808<IntKind.i64.wrap (IntKind.i64.wrap (4+IntKind.i64.wrap (2*r))+1)∧IntKind.i64.wrap (IntKind.i64.wrap (4+IntKind.i64.wrap (2*r))+1)<9223372036854775808)∧(-9223372036854775808:Int)<0∧(0:Int)<9223372036854775808)∧(((-9223372036854775808:Int)< -1∧(-1:Int)<9223372036854775808)∧(-9223372036854775808:Int)<1∧(1:Int)<9223372036854775808)∧((x.a.links.length+1)*224≤140737488355328∧x.a.links.length+1≤9223372036854775807)∧∃(x':MkX),((Made x'.a∧x'.l.length≤l.length∧x'.a.links.length≤x'.n∧1≤x'.n∧x'.n≤3)∧OfNat.ofNat 0=0∧x'.n-x'.a.links.length<x.n-x.a.links.length)∧0=0∧0=0∧0=0∧Int.ofNat x.n=Int.ofNat x'.n∧IntKind.i64.wrap (Int.ofNat x.a.links.length+1)=Int.ofNat x'.a.links.length∧41=41∧1=1∧ints l'=ints x'.l∧36=36∧ByteArray.mk (Array.mk [])=ByteArray.mk (Array.mk [])∧false=false∧ByteArray.mk (Array.mk [])=ByteArray.mk (Array.mk [])∧ByteArray.mk (Array.mk [])=ByteArray.mk (Array.mk [])∧false=false∧ByteArray.mk (Array.mk [])=ByteArray.mk (Array.mk [])∧ByteArray.mk (Array.mk [])=ByteArray.mk (Array.mk [])∧false=false∧false=false∧ByteArray.mk (Array.mk [])=ByteArray.mk (Array.mk [])∧ByteArray.mk (Array.mk [])=ByteArray.mk (Array.mk [])∧Value.slice none 0 0=Value.slice none 0 0∧36=36∧x.a.name=x'.a.name∧x.a.x=x'.a.x∧63≤63∧x.a.y=x'.a.y∧63≤63∧x.a.half=x'.a.half∧x.a.t=x'.a.t∧63≤63∧0=0∧x.a.links.length+1=x'.a.links.length∧72=72∧16=16∧(List.take x.a.links.length (List.map linkCh x.a.links)++[[Ch.r (mkRat (IntKind.i64.wrap (4+IntKind.i64.wrap (2*r))) 4) 63,Ch.r (mkRat (IntKind.i64.wrap (-1-r_2)) 3) 63,Ch.r (mkRat (IntKind.i64.wrap (1+r_3)) 3) 63,Ch.r (mkRat 1 (IntKind.i64.wrap (4+r_4)).toNat) 63,Ch.r (mkRat 1 (IntKind.i64.wrap (10+r_5)).toNat) 63,Ch.s 6 [[Ch.r (mkRat (-1) 4,mkRat (-1) 4).fst 63,Ch.r (mkRat (-1) 4,mkRat (-1) 4).snd 63],[Ch.r (mkRat (IntKind.i64.wrap (IntKind.i64.wrap (4+IntKind.i64.wrap (2*r))+1)) 4,mkRat 0 4).fst 63,Ch.r (mkRat (IntKind.i64.wrap (IntKind.i64.wrap (4+IntKind.i64.wrap (2*r))+1)) 4,mkRat 0 4).snd 63],[Ch.r (mkRat (-1) 4,mkRat 1 4).fst 63,Ch.r (mkRat (-1) 4,mkRat 1 4).snd 63]]]]=List.map linkCh x'.a.links∨RowLE (List.take x.a.links.length (List.map linkCh x.a.links)++[[Ch.r (mkRat (IntKind.i64.wrap (4+IntKind.i64.wrap (2*r))) 4) 63,Ch.r (mkRat (IntKind.i64.wrap (-1-r_2)) 3) 63,Ch.r (mkRat (IntKind.i64.wrap (1+r_3)) 3) 63,Ch.r (mkRat 1 (IntKind.i64.wrap (4+r_4)).toNat) 63,Ch.r (mkRat 1 (IntKind.i64.wrap (10+r_5)).toNat) 63,Ch.s 6 [[Ch.r (mkRat (-1) 4,mkRat (-1) 4).fst 63,Ch.r (mkRat (-1) 4,mkRat (-1) 4).snd 63],[Ch.r (mkRat (IntKind.i64.wrap (IntKind.i64.wrap (4+IntKind.i64.wrap (2*r))+1)) 4,mkRat 0 4).fst 63,Ch.r (mkRat (IntKind.i64.wrap (IntKind.i64.wrap (4+IntKind.i64.wrap (2*r))+1)) 4,mkRat 0 4).snd 63],[Ch.r (mkRat (-1) 4,mkRat 1 4).fst 63,Ch.r (mkRat (-1) 4,mkRat 1 4).snd 63]]]]) (List.map linkCh x'.a.links))∧True else ((x.a.links.length+1)*224≤140737488355328∧x.a.links.length+1≤9223372036854775807)∧∃(x':MkX),((Made x'.a∧x'.l.length≤l.length∧x'.a.links.length≤x'.n∧1≤x'.n∧x'.n≤3)∧OfNat.ofNat 0=0∧x'.n-x'.a.links.length<x.n-x.a.links.length)∧0=0∧0=0∧0=0∧Int.ofNat x.n=Int.ofNat x'.n∧IntKind.i64.wrap (Int.ofNat x.a.links.length+1)=Int.ofNat x'.a.links.length∧41=41∧1=1∧ints l'=ints x'.l∧36=36∧ByteArray.mk (Array.mk [])=ByteArray.mk (Array.mk [])∧false=false∧ByteArray.mk (Array.mk [])=ByteArray.mk (Array.mk [])∧ByteArray.mk (Array.mk [])=ByteArray.mk (Array.mk [])∧false=false∧ByteArray.mk (Array.mk [])=ByteArray.mk (Array.mk [])∧ByteArray.mk (Array.mk [])=ByteArray.mk (Array.mk [])∧false=false∧false=false∧ByteArray.mk (Array.mk [])=ByteArray.mk (Array.mk [])∧ByteArray.mk (Array.mk [])=ByteArray.mk (Array.mk [])∧Value.slice none 0 0=Value.slice none 0 0∧36=36∧x.a.name=x'.a.name∧x.a.x=x'.a.x∧63≤63∧x.a.y=x'.a.y∧63≤63∧x.a.half=x'.a.half∧x.a.t=x'.a.t∧63≤63∧0=0∧x.a.links.length+1=x'.a.links.length∧72=72∧16=16∧(List.take x.a.links.length (List.map linkCh x.a.links)++[[Ch.r (mkRat (IntKind.i64.wrap (4+IntKind.i64.wrap (2*r))) 4) 63,Ch.r (mkRat (IntKind.i64.wrap (-1-r_2)) 3) 63,Ch.r (mkRat (IntKind.i64.wrap (1+r_3)) 3) 63,Ch.r (mkRat 1 (IntKind.i64.wrap (4+r_4)).toNat) 63,Ch.r (mkRat 1 (IntKind.i64.wrap (10+r_5)).toNat) 63,Ch.s 6 [[Ch.r (mkRat (-1) 4,mkRat (-1) 4).fst 63,Ch.r (mkRat (-1) 4,mkRat (-1) 4).snd 63],[Ch.r (mkRat (IntKind.i64.wrap (IntKind.i64.wrap (4+IntKind.i64.wrap (2*r))+1)) 4,mkRat (-1) 4).fst 63,Ch.r (mkRat (IntKind.i64.wrap (IntKind.i64.wrap (4+IntKind.i64.wrap (2*r))+1)) 4,mkRat (-1) 4).snd 63],[Ch.r (mkRat (IntKind.i64.wrap (IntKind.i64.wrap (4+IntKind.i64.wrap (2*r))+1)) 4,mkRat 1 4).fst 63,Ch.r (mkRat (IntKind.i64.wrap (IntKind.i64.wrap (4+IntKind.i64.wrap (2*r))+1)) 4,mkRat 1 4).snd 63],[Ch.r (mkRat (-1) 4,mkRat 1 4).fst 63,Ch.r (mkRat (-1) 4,mkRat 1 4).snd 63]]]]=List.map linkCh x'.a.links∨RowLE (List.take x.a.links.length (List.map linkCh x.a.links)++[[Ch.r (mkRat (IntKind.i64.wrap (4+IntKind.i64.wrap (2*r))) 4) 63,Ch.r (mkRat (IntKind.i64.wrap (-1-r_2)) 3) 63,Ch.r (mkRat (IntKind.i64.wrap (1+r_3)) 3) 63,Ch.r (mkRat 1 (IntKind.i64.wrap (4+r_4)).toNat) 63,Ch.r (mkRat 1 (IntKind.i64.wrap (10+r_5)).toNat) 63,Ch.s 6 [[Ch.r (mkRat (-1) 4,mkRat (-1) 4).fst 63,Ch.r (mkRat (-1) 4,mkRat (-1) 4).snd 63],[Ch.r (mkRat (IntKind.i64.wrap (IntKind.i64.wrap (4+IntKind.i64.wrap (2*r))+1)) 4,mkRat (-1) 4).fst 63,Ch.r (mkRat (IntKind.i64.wrap (IntKind.i64.wrap (4+IntKind.i64.wrap (2*r))+1)) 4,mkRat (-1) 4).snd 63],[Ch.r (mkRat (IntKind.i64.wrap (IntKind.i64.wrap (4+IntKind.i64.wrap (2*r))+1)) 4,mkRat 1 4).fst 63,Ch.r (mkRat (IntKind.i64.wrap (IntKind.i64.wrap (4+IntKind.i64.wrap (2*r))+1)) 4,mkRat 1 4).snd 63],[Ch.r (mkRat (-1) 4,mkRat 1 4).fst 63,Ch.r (mkRat (-1) 4,mkRat 1 4).snd 63]]]]) (List.map linkCh x'.a.links))∧True else ∃(x_1:ArmV × List Int),((Made x_1.fst∧1≤x_1.fst.links.length)∧x_1.snd.length≤l.length)∧0=0∧41=41∧1=1∧ints x.l=ints x_1.snd∧36=36∧x.a.name=x_1.fst.name∧x.a.x=x_1.fst.x∧63≤63∧x.a.y=x_1.fst.y∧63≤63∧x.a.half=x_1.fst.half∧x.a.t=x_1.fst.t∧63≤63∧0=0∧x.a.links.length=x_1.fst.links.length∧72=72∧16=16∧(List.map linkCh x.a.links=List.map linkCh x_1.fst.links∨RowLE (List.map linkCh x.a.links) (List.map linkCh x_1.fst.links))∧True) := by kernel_rfl
theorem Made.add {a : ArmV} {L : LinkV} (h : Made a) (hL : MadeLink L) (hn : a.links.length < 3) : Made { a with links := a.links ++ [L] } :=
 ⟨h.name, h.x, h.y, h.half, h.t, by simp only [List.length_append, List.length_cons, List.length_nil]; omega, fun M hM => by
  rcases List.mem_append.1 hM with hM | hM
  ·exact h.links M hM
  ·rw [List.mem_singleton.1 hM]; exact hL⟩
theorem g_marm (l : List Int) (hl : l.length ≤ 9223372036854775807) : Holds (goal_marm l) := by
 refine ⟨?_⟩
 rw [goal_marm_vc]
 simp only [Int.ofNat_eq_natCast, true_and, and_true, Nat.zero_add, Nat.le_refl, true_implies]
 refine ⟨by omega, _, rfl, by omega, l, rfl, by omega, hl, fun r l1 hr h1 => ⟨by omega, ?_⟩⟩
 obtain ⟨d, hd, hdr⟩ : ∃ d, ldE [[Ch.v (Value.int IntKind.i64 0)], [Ch.v (Value.int IntKind.i64 1)], [Ch.v (Value.int IntKind.i64 (-1))], [Ch.v (Value.int IntKind.i64 1)]] r.toNat 0 1 = some [Ch.v (Value.int IntKind.i64 d)] ∧ -1 ≤ d ∧ d ≤ 1 := by
  have : r = 0 ∨ r = 1 ∨ r = 2 ∨ r = 3 := by omega
  rcases this with rfl | rfl | rfl | rfl
  ·exact ⟨0, rfl, by omega⟩
  ·exact ⟨1, rfl, by omega⟩
  ·exact ⟨-1, rfl, by omega⟩
  ·exact ⟨1, rfl, by omega⟩
 refine ⟨d, hd, l1, rfl, by omega, by omega, fun r2 l2 hr2 h2 => ?_⟩
 rw [w64 (n := 1 + r2) (by omega)]
 refine ⟨by omega, l2, rfl, by omega, by omega, fun r3 l3 hr3 h3 => ?_⟩
 rw [w64 (n := 1 + r3) (by omega)]
 refine ⟨⟨⟨⟨oneS, mkRat 0 4, mkRat 0 4, false, mkRat d (1 + r2).toNat, []⟩, l3, (1 + r3).toNat⟩, ⟨⟨rfl, rfl, rfl, rfl, ⟨d, 1 + r2, hdr, by omega, rfl⟩, by simp, by simp⟩, by simp only; omega, by simp, by simp only; omega, by simp only; omega⟩, by simp only; omega, rfl, rfl, rfl, rfl, rfl, rfl, rfl, rfl, rfl⟩, fun x hx => bif_mk (fun hp => ?_) (fun hp => ?_)⟩
 ·obtain ⟨hm, hl1, hn, hn1, hn3⟩ := hx
  have hp := of_decide_eq_true hp
  refine ⟨_, rfl, by omega, by omega, fun r l1 hr h1 => ?_⟩
  rw [w64 (n := 2 * r) (by omega), w64 (n := 4 + 2 * r) (by omega)]
  refine ⟨by omega, l1, rfl, by omega, by omega, fun i l2 hi h2 => ?_⟩
  rw [w64 (n := -1 - i) (by omega)]
  refine ⟨by omega, l2, rfl, by omega, by omega, fun j l3 hj h3 => ?_⟩
  rw [w64 (n := 1 + j) (by omega)]
  refine ⟨by omega, l3, rfl, by omega, by omega, fun s l4 hs h4 => ?_⟩
  rw [w64 (n := 4 + s) (by omega)]
  refine ⟨by omega, l4, rfl, by omega, by omega, fun b l5 hb h5 => ?_⟩
  rw [w64 (n := 10 + b) (by omega), w64 (n := 4 + 2 * r + 1) (by omega)]
  refine ⟨by omega, by omega, l5, rfl, by omega, by omega, fun q l6 hq h6 => ?_⟩
  have hL : ∀ tri, MadeLink (mkLink (4 + 2 * r) i j s b tri) := fun tri => ⟨r, i, j, s, b, tri, hr, hi, hj, hs, hb, rfl⟩
  have ht : ∀ L : LinkV, List.take x.a.links.length (List.map linkCh x.a.links) ++ [linkCh L] = List.map linkCh (x.a.links ++ [L]) := fun L => by
   rw [List.take_of_length_le (by rw [List.length_map]; exact Nat.le_refl _), List.map_append]; rfl
  refine bif_mk (fun _ => ⟨by omega, by omega, by omega, by omega, ⟨{ x.a with links := x.a.links ++ [mkLink (4 + 2 * r) i j s b true] }, l6, x.n⟩, ⟨⟨hm.add (hL true) (by omega), by simp only; omega, ?_, hn1, hn3⟩, ?_⟩, rfl, ?_, rfl, rfl, rfl, rfl, rfl, rfl, by simp, .inl (ht (mkLink _ _ _ _ _ true))⟩) (fun _ => ⟨by omega, ⟨{ x.a with links := x.a.links ++ [mkLink (4 + 2 * r) i j s b false] }, l6, x.n⟩, ⟨⟨hm.add (hL false) (by omega), by simp only; omega, ?_, hn1, hn3⟩, ?_⟩, rfl, ?_, rfl, rfl, rfl, rfl, rfl, rfl, by simp, .inl (ht (mkLink _ _ _ _ _ false))⟩)
  all_goals simp only [List.length_append, List.length_cons, List.length_nil]
  all_goals first | omega | (rw [w64 (by omega)]; simp)
 ·obtain ⟨hm, hl1, hn, hn1, hn3⟩ := hx
  have hp := of_decide_eq_false hp
  exact ⟨⟨x.a, x.l⟩, ⟨⟨hm, by simp only; omega⟩, hl1⟩, rfl, rfl, rfl, rfl, rfl, rfl, rfl, .inl rfl⟩
end Go.Proofs
/- gantmake.arm, Arm: contracts. -/
namespace Go.Proofs
open Go Go.Eng
def MadeA (a : ArmV) : Prop := Made a ∧ 1 ≤ a.links.length
def c_marm : CtrM := fun as0 H d => match as0 with
 | [.x false [.p k o], .x false [.v (.int .i64 n)]] => match o with
  | 0 => match H k with
   | some (.box t [.s 1 xs]) => match H d with
    | none => bif t.beq 41 then
     some fun K => ∃ l, xs = ints l ∧ n = 0 ∧ l.length ≤ 9223372036854775807 ∧ ∀ (a : ArmV) (l' : List Int), MadeA a → l'.length ≤ l.length →
      K (.x true (armW a d)) (backH [(1000, k), (500, d)] (lookH [(1000, stB l'), (4, .box 36 (armW a 500)), (500, rowLk a.links)]) H)
     else none
    | some _ => none
   | _ => none
  | _ + 1 => none
 | _ => none
theorem ok_marm : CtrMOK Tryd.prog tabG debT 12 c_marm := by
 refine ⟨enters Tryd.func12 (by kernel_rfl), fun l H d T hT K hK => ?_⟩
 unfold c_marm at hT
 split at hT
 ·rename_i k o n
  split at hT
  ·split at hT
   ·rename_i t xs e1
    split at hT
    ·rename_i hd
     cases hb : t.beq 41 with
     | false => rw [hb] at hT; cases hT
     | true =>
      rw [hb] at hT
      cases hT
      have ht := Nat.eq_of_beq_eq_true hb
      subst ht
      obtain ⟨l, rfl, rfl, hl, hK⟩ := hK
      refine specM_of (R := [(1000, k)]) (N := [(500, d)]) (Hl := [(1000, stB l)]) T32ok mixed Tryd.func12 (by kernel_rfl) (by kernel_rfl) (by rfl)
       (as0 := [.x false [.p 1000 0], iA .i64 0]) ?_ (hand1 e1 rfl rfl) rfl (by simp) (by simp) (fun p hp => by simp at hp; subst hp; exact hd) (fun x => ⟨fun p hp => ?_, fun p hp b hb => ?_⟩) (g_marm l hl) (fun x hx => ?_)
      ·simp [renAs, renAV, renCh, lkB, iA]
      ·simp at hp
       subst hp
       exact fun h => by have h' : some (stB _) = none := h; cases h'
      ·simp at hp
       rcases hp with rfl | rfl
       ·have h' : some (stB _) = some b := hb; cases h'; rfl
       ·have h' : some (rowLk _) = some b := hb; cases h'; rfl
      ·exact ⟨_, rfl, hK _ _ hx.1 hx.2⟩
    ·cases hT
   ·cases hT
  ·cases hT
 ·cases hT
def M33 : List (Nat × CtrM) := (12, c_marm) :: M30
noncomputable def T33 : Tabs := mkT L32 M33 X4
theorem M33ok : CtrMsOK Tryd.prog tabG debT M33 := .cons ok_marm M30ok
theorem T33ok : TabsOK Tryd.prog tabG debT T33 := mkTok L32ok M33ok X4ok
def ot_mArm : OT := fun _ => ([], [])
def goal_mArm (l : List Int) (K : AV → Prop) : Prop := goalL T33 ot_mArm noL Tryd.f5 [.x false [.s 1 (ints l)]] K
theorem goal_mArm_vc (l : List Int) (K : AV → Prop) : goal_mArm l K = (∃(l_1:List Int),ints l=ints l_1∧(0:Int)=0∧l_1.length≤9223372036854775807∧∀(a:ArmV) (l':List Int),Made a∧1≤a.links.length→l'.length≤l_1.length→K (AV.x true [Ch.v (Value.string a.name),Ch.r a.x 63,Ch.r a.y 63,Ch.v (Value.bool a.half),Ch.r a.t 63,Ch.s 16 (List.take a.links.length (List.drop 0 (List.map linkCh a.links)))])) := by kernel_rfl
theorem g_mArm (l : List Int) (hc : (l.length ≤ 9223372036854775807)) (K : AV → Prop) (hK : ∀ a : ArmV, MadeA a → K (armA a)) : Holds (goal_mArm l K) := by
 refine ⟨?_⟩
 rw [goal_mArm_vc]
 try simp only [true_and]
 refine ⟨l, rfl, hc, fun a l' ha _ => ?_⟩
 have := hK a ha
 unfold armA armCh at this
 rw [List.drop_zero, List.take_of_length_le (by rw [List.length_map]; exact Nat.le_refl _)]
 exact this
def c_mArm : Ctr := fun as0 => match as0 with
 | [.x false [.s 1 xs]] => some fun K => ∃ (l : List Int), xs = ints l ∧ ((l.length ≤ 9223372036854775807)) ∧ (∀ a : ArmV, MadeA a → K (armA a))
 | _ => none
theorem ok_mArm : CtrOK Tryd.prog tabG debT 5 c_mArm := by
 refine ⟨enters Tryd.func5 (by kernel_rfl), fun l T hT K hK => ?_⟩
 unfold c_mArm at hT
 split at hT
 ·cases hT
  obtain ⟨l, rfl, hc, hK⟩ := hK
  exact spec_ofL T33ok mixed Tryd.func5 (by kernel_rfl) (by kernel_rfl) (by rfl) (g_mArm _ hc K hK)
 ·cases hT
def L34 : List (Nat × Ctr) := (5, c_mArm) :: L32
noncomputable def T34 : Tabs := mkT L34 M33 X4
theorem L34ok : CtrsOK Tryd.prog tabG debT L34 := .cons ok_mArm L32ok
theorem T34ok : TabsOK Tryd.prog tabG debT T34 := mkTok L34ok M33ok X4ok
end Go.Proofs
/- Small numbers; vectors; polygons. -/
namespace Go.Proofs
open Go Go.Eng
def SmallR (q : Rat) : Prop := q.num.natAbs ≤ 1000000 ∧ q.den ≤ 1000
def lft (a b c : Rat × Rat) : Rat := (b.1 - a.1) * (c.2 - a.2) - (b.2 - a.2) * (c.1 - a.1)
structure PolyOK (l : List (Rat × Rat)) : Prop where
 lo : 3 ≤ l.length
 hi : l.length ≤ 8
 left : ∀ i k a b c, 2 ≤ k → k < l.length → l[i]? = some a → l[(i + 1) % l.length]? = some b → l[(i + k) % l.length]? = some c → 0 < lft a b c
theorem cmpN_le (m n : Nat) : cmpN m n ≤ 0 ↔ m ≤ n := by
 unfold cmpN
 split
 ·omega
 ·split <;> omega
def ot_rSmall : OT := fun id => bif id.beq 1 then ([0, 1, 2, 3, 4, 5, 6, 7, 8, 9, 10, 11, 12, 13, 14, 15, 16, 17, 18, 19, 20, 21, 22, 23, 24, 25, 26, 27, 28], [[], [0], [1, 0], [2, 1, 0], [3, 2, 1, 0], [4, 3, 2, 1, 0], [5, 4, 3, 2, 1, 0], [6, 5, 4, 3, 2, 1, 0], [7, 6, 5, 4, 3, 2, 1, 0], [4, 3, 2, 1, 0, 8, 7, 6, 5], [9, 4, 3, 2, 1, 0, 8, 7, 6, 5], [10, 9, 4, 3, 2, 1, 0, 8, 7, 6, 5], [11, 10, 9, 4, 3, 2, 1, 0, 8, 7, 6, 5], [10, 9, 4, 3, 2, 1, 0, 8, 7, 6, 5, 12, 11], [13, 10, 9, 4, 3, 2, 1, 0, 8, 7, 6, 5, 12, 11], [14, 13, 10, 9, 4, 3, 2, 1, 0, 8, 7, 6, 5, 12, 11], [15, 14, 13, 10, 9, 4, 3, 2, 1, 0, 8, 7, 6, 5, 12, 11], [14, 13, 10, 9, 4, 3, 2, 1, 0, 8, 7, 6, 5, 12, 11], [16, 15, 14, 13, 10, 9, 4, 3, 2, 1, 0, 8, 7, 6, 5, 12, 11, 17], [18, 16, 15, 14, 13, 10, 9, 4, 3, 2, 1, 0, 8, 7, 6, 5, 12, 11, 17], [14, 13, 10, 9, 4, 3, 2, 1, 0, 8, 7, 6, 5, 12, 11, 19, 18, 16, 15, 17], [20, 14, 13, 10, 9, 4, 3, 2, 1, 0, 8, 7, 6, 5, 12, 11, 19, 18, 16, 15, 17], [21, 20, 14, 13, 10, 9, 4, 3, 2, 1, 0, 8, 7, 6, 5, 12, 11, 19, 18, 16, 15, 17], [22, 21, 20, 14, 13, 10, 9, 4, 3, 2, 1, 0, 8, 7, 6, 5, 12, 11, 19, 18, 16, 15, 17], [21, 20, 14, 13, 10, 9, 4, 3, 2, 1, 0, 8, 7, 6, 5, 12, 11, 19, 18, 16, 15, 17], [23, 22, 21, 20, 14, 13, 10, 9, 4, 3, 2, 1, 0, 8, 7, 6, 5, 12, 11, 19, 18, 16, 15, 17, 24], [25, 23, 22, 21, 20, 14, 13, 10, 9, 4, 3, 2, 1, 0, 8, 7, 6, 5, 12, 11, 19, 18, 16, 15, 17, 24], [21, 20, 14, 13, 10, 9, 4, 3, 2, 1, 0, 8, 7, 6, 5, 12, 11, 19, 18, 16, 15, 17, 26, 25, 23, 22, 24], [27, 21, 20, 14, 13, 10, 9, 4, 3, 2, 1, 0, 8, 7, 6, 5, 12, 11, 19, 18, 16, 15, 17, 26, 25, 23, 22, 24]]) else ([], [])
def goal_rSmall (p : Rat) (a : Nat) (K : AV → Prop) : Prop := goalL T34 ot_rSmall noL Tryd.f46 [rA p a] K
theorem goal_rSmall_vc (p : Rat) (a : Nat) (K : AV → Prop) : goal_rSmall p a K = (bif decide (Int.ofNat (natBytes p.num.natAbs).length≤3) then bif decide (Int.ofNat (natBytes p.den).length≤2) then a≤4294967296∧(1000000:Int)<9223372036854775808∧bif decide (cmpN p.num.natAbs 1000000≤0) then (1000:Int)<9223372036854775808∧K (AV.x false [Ch.v (Value.bool (decide (cmpN p.den (Int.toNat 1000)≤0)))]) else K (AV.x false [Ch.v (Value.bool false)]) else K (AV.x false [Ch.v (Value.bool false)]) else K (AV.x false [Ch.v (Value.bool false)])) := by kernel_rfl
theorem g_rSmall (p : Rat) (a : Nat) (hc : (a ≤ 1000000) ∧ (SmallR p)) (K : AV → Prop) (hK : K (.x false [.v (.bool true)])) : Holds (goal_rSmall p a K) := by
 refine ⟨?_⟩
 rw [goal_rSmall_vc]
 try simp only [Int.ofNat_eq_natCast]
 obtain ⟨h1, h2, h3⟩ := hc
 have e1 : (natBytes p.num.natAbs).length ≤ 3 := natBytes_len_iff.2 (by omega)
 have e2 : (natBytes p.den).length ≤ 2 := natBytes_len_iff.2 (by omega)
 refine bif_mk (fun _ => bif_mk (fun _ => ⟨by omega, by omega, bif_mk (fun _ => ⟨by omega, ?_⟩) (fun h => ?_)⟩) (fun h => ?_)) (fun h => ?_)
 ·rw [show decide (cmpN p.den (Int.toNat 1000) ≤ 0) = true from decide_eq_true ((cmpN_le _ _).2 h3)]
  exact hK
 ·exact absurd ((cmpN_le _ _).2 h2) (of_decide_eq_false h)
 ·have := of_decide_eq_false h; omega
 ·have := of_decide_eq_false h; omega
def c_rSmall : Ctr := fun as0 => match as0 with
 | [.x true [.r p a]] => some fun K => ((a ≤ 1000000) ∧ (SmallR p)) ∧ (K (.x false [.v (.bool true)]))
 | _ => none
theorem ok_rSmall : CtrOK Tryd.prog tabG debT 46 c_rSmall := by
 refine ⟨enters Tryd.func46 (by kernel_rfl), fun l T hT K hK => ?_⟩
 unfold c_rSmall at hT
 split at hT
 ·cases hT
  obtain ⟨hc, hK⟩ := hK
  exact spec_ofL T34ok mixed Tryd.func46 (by kernel_rfl) (by kernel_rfl) (by rfl) (g_rSmall _ _ hc K hK)
 ·cases hT
def L35 : List (Nat × Ctr) := (46, c_rSmall) :: L34
noncomputable def T35 : Tabs := mkT L35 M33 X4
theorem L35ok : CtrsOK Tryd.prog tabG debT L35 := .cons ok_rSmall L34ok
theorem T35ok : TabsOK Tryd.prog tabG debT T35 := mkTok L35ok M33ok X4ok
def ot_vSub : OT := fun id => bif id.beq 1 then ([0, 1, 2, 3, 5, 6, 7, 8, 4, 9, 10, 11], [[], [0], [], [2], [1, 0, 3, 2], [], [5], [], [7], [6, 5, 8, 7, 4, 1, 0, 3, 2], [4, 1, 0, 3, 2, 9, 6, 5, 8, 7], [10, 4, 1, 0, 3, 2, 9, 6, 5, 8, 7]]) else ([], [])
def goal_vSub (px : Rat) (a : Nat) (py : Rat) (b : Nat) (qx : Rat) (c : Nat) (qy : Rat) (d : Nat) (K : AV → Prop) : Prop := goalL T35 ot_vSub noL Tryd.f68 [.x true [.r px a, .r py b], .x true [.r qx c, .r qy d]] K
theorem goal_vSub_vc (px : Rat) (a : Nat) (py : Rat) (b : Nat) (qx : Rat) (c : Nat) (qy : Rat) (d : Nat) (K : AV → Prop) : goal_vSub px a py b qx c qy d K = (a+c+1≤4294967296∧b+d+1≤4294967296∧K (AV.x true [Ch.r (px-qx) (a+c+1),Ch.r (py-qy) (b+d+1)])) := by kernel_rfl
theorem g_vSub (px : Rat) (a : Nat) (py : Rat) (b : Nat) (qx : Rat) (c : Nat) (qy : Rat) (d : Nat) (hc : (a + c ≤ 4294967290) ∧ (b + d ≤ 4294967290)) (K : AV → Prop) (hK : K (.x true [.r (px - qx) (a + c + 1), .r (py - qy) (b + d + 1)])) : Holds (goal_vSub px a py b qx c qy d K) := by
 refine ⟨?_⟩
 rw [goal_vSub_vc]
 try simp only [Int.ofNat_eq_natCast, true_and, and_true, Nat.zero_add, Nat.le_refl, true_implies, true_or, or_true]
 exact ⟨by omega, by omega, hK⟩
def c_vSub : Ctr := fun as0 => match as0 with
 | [.x true [.r px a, .r py b], .x true [.r qx c, .r qy d]] => some fun K => ((a + c ≤ 4294967290) ∧ (b + d ≤ 4294967290)) ∧ (K (.x true [.r (px - qx) (a + c + 1), .r (py - qy) (b + d + 1)]))
 | _ => none
theorem ok_vSub : CtrOK Tryd.prog tabG debT 68 c_vSub := by
 refine ⟨enters Tryd.func68 (by kernel_rfl), fun l T hT K hK => ?_⟩
 unfold c_vSub at hT
 split at hT
 ·cases hT
  obtain ⟨hc, hK⟩ := hK
  exact spec_ofL T35ok mixed Tryd.func68 (by kernel_rfl) (by kernel_rfl) (by rfl) (g_vSub _ _ _ _ _ _ _ _ hc K hK)
 ·cases hT
def L36 : List (Nat × Ctr) := (68, c_vSub) :: L35
noncomputable def T36 : Tabs := mkT L36 M33 X4
theorem L36ok : CtrsOK Tryd.prog tabG debT L36 := .cons ok_vSub L35ok
theorem T36ok : TabsOK Tryd.prog tabG debT T36 := mkTok L36ok M33ok X4ok
def ot_vCross : OT := fun id => bif id.beq 1 then ([0, 1, 2, 3, 5, 6, 7, 8, 4, 9, 10, 11], [[], [0], [], [2], [1, 0, 3, 2], [], [5], [], [7], [6, 5, 8, 7, 4, 1, 0, 3, 2], [4, 1, 0, 3, 2, 9, 6, 5, 8, 7], [10, 4, 1, 0, 3, 2, 9, 6, 5, 8, 7]]) else ([], [])
def goal_vCross (px : Rat) (a : Nat) (py : Rat) (b : Nat) (qx : Rat) (c : Nat) (qy : Rat) (d : Nat) (K : AV → Prop) : Prop := goalL T36 ot_vCross noL Tryd.f67 [.x true [.r px a, .r py b], .x true [.r qx c, .r qy d]] K
theorem goal_vCross_vc (px : Rat) (a : Nat) (py : Rat) (b : Nat) (qx : Rat) (c : Nat) (qy : Rat) (d : Nat) (K : AV → Prop) : goal_vCross px a py b qx c qy d K = (a+d≤4294967296∧b+c≤4294967296∧a+d+(b+c)+1≤4294967296∧K (AV.x true [Ch.r (px*qy-py*qx) (a+d+(b+c)+1)])) := by kernel_rfl
theorem g_vCross (px : Rat) (a : Nat) (py : Rat) (b : Nat) (qx : Rat) (c : Nat) (qy : Rat) (d : Nat) (hc : (a + b + c + d ≤ 4294967290)) (K : AV → Prop) (hK : K (rA (px * qy - py * qx) (a + d + (b + c) + 1))) : Holds (goal_vCross px a py b qx c qy d K) := by
 refine ⟨?_⟩
 rw [goal_vCross_vc]
 try simp only [Int.ofNat_eq_natCast, true_and, and_true, Nat.zero_add, Nat.le_refl, true_implies, true_or, or_true]
 exact ⟨by omega, by omega, by omega, hK⟩
def c_vCross : Ctr := fun as0 => match as0 with
 | [.x true [.r px a, .r py b], .x true [.r qx c, .r qy d]] => some fun K => ((a + b + c + d ≤ 4294967290)) ∧ (K (rA (px * qy - py * qx) (a + d + (b + c) + 1)))
 | _ => none
theorem ok_vCross : CtrOK Tryd.prog tabG debT 67 c_vCross := by
 refine ⟨enters Tryd.func67 (by kernel_rfl), fun l T hT K hK => ?_⟩
 unfold c_vCross at hT
 split at hT
 ·cases hT
  obtain ⟨hc, hK⟩ := hK
  exact spec_ofL T36ok mixed Tryd.func67 (by kernel_rfl) (by kernel_rfl) (by rfl) (g_vCross _ _ _ _ _ _ _ _ hc K hK)
 ·cases hT
def L37 : List (Nat × Ctr) := (67, c_vCross) :: L36
noncomputable def T37 : Tabs := mkT L37 M33 X4
theorem L37ok : CtrsOK Tryd.prog tabG debT L37 := .cons ok_vCross L36ok
theorem T37ok : TabsOK Tryd.prog tabG debT T37 := mkTok L37ok M33ok X4ok
def ot_pLeft : OT := fun id => bif id.beq 1 then ([0, 1, 3, 4, 2, 5, 6, 7, 8], [[], [], [0, 1], [], [], [3, 4, 2, 0, 1], [2, 0, 1, 5, 3, 4], [6, 2, 0, 1, 5, 3, 4], [7, 6, 2, 0, 1, 5, 3, 4]]) else ([], [])
def goal_pLeft (a : Rat × Rat) (b : Rat × Rat) (c : Rat × Rat) (n : Nat) (K : AV → Prop) : Prop := goalL T37 ot_pLeft noL Tryd.f59 [.x true (vecN n a), .x true (vecN n b), .x true (vecN n c)] K
theorem goal_pLeft_vc (a : Rat × Rat) (b : Rat × Rat) (c : Rat × Rat) (n : Nat) (K : AV → Prop) : goal_pLeft a b c n K = ((n+n≤4294967290∧n+n≤4294967290)∧(n+n≤4294967290∧n+n≤4294967290)∧n+n+1+(n+n+1)+(n+n+1)+(n+n+1)≤4294967290∧n+n+1+(n+n+1)+(n+n+1+(n+n+1))+1≤4294967296∧K (AV.x false [Ch.v (Value.int IntKind.i64 (sgnR ((b.fst-a.fst)*(c.snd-a.snd)-(b.snd-a.snd)*(c.fst-a.fst))))])) := by kernel_rfl
theorem g_pLeft (a : Rat × Rat) (b : Rat × Rat) (c : Rat × Rat) (n : Nat) (hc : (n ≤ 500000000)) (K : AV → Prop) (hK : K (iA .i64 (sgnR (lft a b c)))) : Holds (goal_pLeft a b c n K) := by
 refine ⟨?_⟩
 rw [goal_pLeft_vc]
 try simp only [Int.ofNat_eq_natCast, true_and, and_true, Nat.zero_add, Nat.le_refl, true_implies, true_or, or_true]
 exact ⟨by omega, by omega, by omega, by omega, hK⟩
def c_pLeft : Ctr := fun as0 => match as0 with
 | [.x true p1, .x true p2, .x true p3] => some fun K => ∃ (a : Rat × Rat) (b : Rat × Rat) (c : Rat × Rat) (n : Nat), p1 = vecN n a ∧ p2 = vecN n b ∧ p3 = vecN n c ∧ ((n ≤ 500000000)) ∧ (K (iA .i64 (sgnR (lft a b c))))
 | _ => none
theorem ok_pLeft : CtrOK Tryd.prog tabG debT 59 c_pLeft := by
 refine ⟨enters Tryd.func59 (by kernel_rfl), fun l T hT K hK => ?_⟩
 unfold c_pLeft at hT
 split at hT
 ·cases hT
  obtain ⟨a, b, c, n, rfl, rfl, rfl, hc, hK⟩ := hK
  exact spec_ofL T37ok mixed Tryd.func59 (by kernel_rfl) (by kernel_rfl) (by rfl) (g_pLeft _ _ _ _ hc K hK)
 ·cases hT
def L38 : List (Nat × Ctr) := (59, c_pLeft) :: L37
noncomputable def T38 : Tabs := mkT L38 M33 X4
theorem L38ok : CtrsOK Tryd.prog tabG debT L38 := .cons ok_pLeft L37ok
theorem T38ok : TabsOK Tryd.prog tabG debT T38 := mkTok L38ok M33ok X4ok
end Go.Proofs
/- Small numbers, names, polygons of a works. -/
namespace Go.Proofs
open Go Go.Eng
def lRb (l : List (Rat × Nat)) : List (List Ch) := l.map fun p => [Ch.r p.1 p.2]
def NameOK (b : ByteArray) : Prop := (1 ≤ b.size ∧ b.size ≤ 12) ∧ ∀ (i : Nat) (x : UInt8), b.data.toList[i]? = some x → 97 ≤ x.toNat ∧ x.toNat ≤ 122
theorem vec_ld {n : Nat} {l : List (Rat × Rat)} {i : Nat} {a : Rat × Rat} (h : l[i]? = some a) : ldE (l.map (vecN n)) i 0 6 = some [.r a.1 n, .r a.2 n] := by
 simp only [ldE, List.getElem?_map, h]; rfl
theorem sgnR_pos {q : Rat} (h : 0 < q) : sgnR q = 1 := by
 unfold sgnR
 have h1 := Rat.num_nonneg.2 (Rat.le_of_lt h)
 have h2 : q.num ≠ 0 := fun e => by
  rw [Rat.num_eq_zero.1 e] at h
  exact absurd h Rat.lt_irrefl
 rw [if_neg h2, if_neg (by omega)]
def ot_aSmall : OT := fun _ => ([], [])
def goal_aSmall (l : List (Rat × Nat)) (K : AV → Prop) : Prop := goalL T38 ot_aSmall (fun _ => .inv ⟨Nat, fun i => ⟨[(5, .x false [.s 3 (lRb l)]), (6, iA .i64 l.length), (7, iA .i64 i)], []⟩, fun i => i ≤ l.length, fun i => l.length - i, fun _ => 0⟩) Tryd.f37 [.x false [.s 3 (lRb l)]] K
theorem goal_aSmall_vc (l : List (Rat × Nat)) (K : AV → Prop) : goal_aSmall l K = ((∃(x:Nat),(x≤l.length∧OfNat.ofNat 0=0)∧3=3∧lRb l=lRb l∧Int.ofNat (lRb l).length=Int.ofNat l.length∧0=Int.ofNat x∧True)∧∀(x:Nat),x≤l.length→OfNat.ofNat 0=0→bif decide (Int.ofNat x<Int.ofNat l.length) then (0≤Int.ofNat x∧Int.ofNat x<Int.ofNat (lRb l).length)∧∃(q:Rat),∃(n:Nat),ldE (lRb l) (Int.ofNat x).toNat 0 3=some [Ch.r q n]∧(n≤1000000∧q.num.natAbs≤1000000∧q.den≤1000)∧∃(x':Nat),(x'≤l.length∧OfNat.ofNat 0=0∧l.length-x'<l.length-x)∧3=3∧lRb l=lRb l∧Int.ofNat l.length=Int.ofNat l.length∧IntKind.i64.wrap (Int.ofNat x+1)=Int.ofNat x'∧True else K (AV.x false [Ch.v (Value.bool true)])) := by kernel_rfl
theorem g_aSmall (l : List (Rat × Nat)) (hc : (l.length ≤ 1000000) ∧ (∀ p ∈ l, SmallR p.1 ∧ p.2 ≤ 1000000)) (K : AV → Prop) (hK : K (.x false [.v (.bool true)])) : Holds (goal_aSmall l K) := by
 refine ⟨?_⟩
 rw [goal_aSmall_vc]
 try simp only [Int.ofNat_eq_natCast, true_and, and_true, true_implies]
 obtain ⟨h1, h2⟩ := hc
 have hl : (lRb l).length = l.length := by simp [lRb]
 simp only [hl]
 refine ⟨⟨0, by omega, trivial, rfl⟩, fun x hx => bif_mk (fun hp => ?_) (fun _ => hK)⟩
 have hp := of_decide_eq_true hp
 obtain ⟨p, hpp⟩ : ∃ p, l[x]? = some p := ⟨_, List.getElem?_eq_getElem (by omega)⟩
 obtain ⟨⟨a1, a2⟩, a3⟩ := h2 p (List.mem_of_getElem? hpp)
 refine ⟨by omega, p.1, p.2, by simp only [ldE, lRb, List.getElem?_map, Int.toNat_natCast, hpp]; rfl, ⟨a3, a1, a2⟩, x + 1, ⟨by omega, by omega⟩, by rw [w64 (by omega)]; simp⟩
def c_aSmall : Ctr := fun as0 => match as0 with
 | [.x false [.s 3 xs]] => some fun K => ∃ (l : List (Rat × Nat)), xs = lRb l ∧ ((l.length ≤ 1000000) ∧ (∀ p ∈ l, SmallR p.1 ∧ p.2 ≤ 1000000)) ∧ (K (.x false [.v (.bool true)]))
 | _ => none
theorem ok_aSmall : CtrOK Tryd.prog tabG debT 37 c_aSmall := by
 refine ⟨enters Tryd.func37 (by kernel_rfl), fun l T hT K hK => ?_⟩
 unfold c_aSmall at hT
 split at hT
 ·cases hT
  obtain ⟨l, rfl, hc, hK⟩ := hK
  exact spec_ofL T38ok mixed Tryd.func37 (by kernel_rfl) (by kernel_rfl) (by rfl) (g_aSmall _ hc K hK)
 ·cases hT
def L39 : List (Nat × Ctr) := (37, c_aSmall) :: L38
noncomputable def T39 : Tabs := mkT L39 M33 X4
theorem L39ok : CtrsOK Tryd.prog tabG debT L39 := .cons ok_aSmall L38ok
theorem T39ok : TabsOK Tryd.prog tabG debT T39 := mkTok L39ok M33ok X4ok
def ot_isName : OT := fun _ => ([], [])
def goal_isName (b : ByteArray) (K : AV → Prop) : Prop := goalL T39 ot_isName (fun _ => .inv ⟨Nat, fun i => ⟨[(0, .x false [.v (.string b)]), (5, iA .i64 b.size), (6, iA .i64 i)], []⟩, fun i => i ≤ b.size, fun i => b.size - i, fun _ => 0⟩) Tryd.f36 [.x false [.v (.string b)]] K
theorem goal_isName_vc (b : ByteArray) (K : AV → Prop) : goal_isName b K = ((∃(x:Nat),(x≤b.size∧OfNat.ofNat 0=0)∧b=b∧Int.ofNat b.size=Int.ofNat b.size∧0=Int.ofNat x∧True)∧∀(x:Nat),x≤b.size→OfNat.ofNat 0=0→bif decide (Int.ofNat x<Int.ofNat b.size) then ∃(b_1:UInt8),(0≤Int.ofNat x∧b.data.toList[(Int.ofNat x).toNat]?=some b_1)∧bif decide (Int.ofNat b_1.toNat<97) then K (AV.x false [Ch.v (Value.bool false)]) else ∃(b_2:UInt8),(0≤Int.ofNat x∧b.data.toList[(Int.ofNat x).toNat]?=some b_2)∧bif decide (Int.ofNat b_2.toNat>122) then K (AV.x false [Ch.v (Value.bool false)]) else ∃(x':Nat),(x'≤b.size∧OfNat.ofNat 0=0∧b.size-x'<b.size-x)∧b=b∧Int.ofNat b.size=Int.ofNat b.size∧IntKind.i64.wrap (Int.ofNat x+1)=Int.ofNat x'∧True else bif decide (Int.ofNat b.size≥1) then K (AV.x false [Ch.v (Value.bool (decide (Int.ofNat b.size≤12)))]) else K (AV.x false [Ch.v (Value.bool false)])) := by kernel_rfl
theorem g_isName (b : ByteArray) (hc : (NameOK b)) (K : AV → Prop) (hK : K (.x false [.v (.bool true)])) : Holds (goal_isName b K) := by
 refine ⟨?_⟩
 rw [goal_isName_vc]
 try simp only [Int.ofNat_eq_natCast, true_and, and_true, true_implies]
 obtain ⟨⟨h1, h2⟩, h3⟩ := hc
 have hs : b.data.toList.length = b.size := by simp
 refine ⟨⟨0, by omega, rfl⟩, fun x hx => bif_mk (fun hp => ?_) (fun _ => ?_)⟩
 ·have hp := of_decide_eq_true hp
  obtain ⟨p, hpp⟩ : ∃ p, b.data.toList[x]? = some p := ⟨_, List.getElem?_eq_getElem (by omega)⟩
  have hx3 := h3 x p hpp
  simp only [Int.toNat_natCast]
  exact ⟨p, ⟨by omega, hpp⟩, bif_mk (fun h => by have := of_decide_eq_true h; omega) (fun _ => ⟨p, ⟨by omega, hpp⟩, bif_mk (fun h => by have := of_decide_eq_true h; omega) (fun _ => ⟨x + 1, ⟨by omega, by omega⟩, by rw [w64 (by omega)]; simp⟩)⟩)⟩
 ·refine bif_mk (fun _ => ?_) (fun h => by have := of_decide_eq_false h; omega)
  rw [show decide ((b.size : Int) ≤ 12) = true from decide_eq_true (by omega)]
  exact hK
def c_isName : Ctr := fun as0 => match as0 with
 | [.x false [.v (.string b)]] => some fun K => ((NameOK b)) ∧ (K (.x false [.v (.bool true)]))
 | _ => none
theorem ok_isName : CtrOK Tryd.prog tabG debT 36 c_isName := by
 refine ⟨enters Tryd.func36 (by kernel_rfl), fun l T hT K hK => ?_⟩
 unfold c_isName at hT
 split at hT
 ·cases hT
  obtain ⟨hc, hK⟩ := hK
  exact spec_ofL T39ok mixed Tryd.func36 (by kernel_rfl) (by kernel_rfl) (by rfl) (g_isName _ hc K hK)
 ·cases hT
def L40 : List (Nat × Ctr) := (36, c_isName) :: L39
noncomputable def T40 : Tabs := mkT L40 M33 X4
theorem L40ok : CtrsOK Tryd.prog tabG debT L40 := .cons ok_isName L39ok
theorem T40ok : TabsOK Tryd.prog tabG debT T40 := mkTok L40ok M33ok X4ok
def ot_polyc : OT := fun id => bif id.beq 12 then ([0, 1, 2, 3, 4, 5, 6, 7, 8, 9, 10, 11, 12, 13, 14, 15, 16, 17], [[], [], [], [2], [], [3, 2, 4], [1, 5, 3, 2, 4], [6, 1, 5, 3, 2, 4], [], [], [], [9, 10], [], [11, 9, 10, 12], [8, 13, 11, 9, 10, 12], [14, 8, 13, 11, 9, 10, 12], [0, 7, 6, 1, 5, 3, 2, 4, 15, 14, 8, 13, 11, 9, 10, 12], [16, 0, 7, 6, 1, 5, 3, 2, 4, 15, 14, 8, 13, 11, 9, 10, 12]]) else ([], [])
def goal_polyc (n : Nat) (l : List (Rat × Rat)) (most : Int) (K : AV → Prop) : Prop := goalL T40 ot_polyc (fun id => bif id.beq 10 then .inv ⟨Nat × Nat, fun x => ⟨[(0, .x false [.s 6 (l.map (vecN n))]), (5, iA .i64 l.length), (6, iA .i64 x.1), (7, .x false [.p 7 0]), (8, iA .i64 x.2), (18, .x false [.s 6 (l.map (vecN n))]), (19, iA .i64 l.length), (20, iA .i64 x.1)], [(7, .box 29 (vecN n (l.getD x.1 (0, 0))))]⟩, fun x => x.1 < l.length ∧ 2 ≤ x.2 ∧ x.2 ≤ l.length, fun x => l.length - x.2, fun x => l.length - x.1⟩ else .inv ⟨Nat, fun i => ⟨[(0, .x false [.s 6 (l.map (vecN n))]), (5, iA .i64 l.length), (18, .x false [.s 6 (l.map (vecN n))]), (19, iA .i64 l.length), (20, iA .i64 i)], []⟩, fun i => i ≤ l.length, fun i => l.length - i, fun _ => 0⟩) Tryd.f52 [.x false [.s 6 (l.map (vecN n))], iA .i64 most] K
theorem goal_polyc_vc (n : Nat) (l : List (Rat × Rat)) (most : Int) (K : AV → Prop) : goal_polyc n l most K = (bif decide (Int.ofNat (List.map (vecN n) l).length>most) then K (AV.x false [Ch.v (Value.int IntKind.i64 2)]) else bif decide (Int.ofNat (List.map (vecN n) l).length<3) then K (AV.x false [Ch.v (Value.int IntKind.i64 3)]) else (∃(x:Nat),(x≤l.length∧OfNat.ofNat 0=0)∧6=6∧List.map (vecN n) l=List.map (vecN n) l∧Int.ofNat (List.map (vecN n) l).length=Int.ofNat l.length∧6=6∧List.map (vecN n) l=List.map (vecN n) l∧Int.ofNat (List.map (vecN n) l).length=Int.ofNat l.length∧0=Int.ofNat x∧True)∧∀(x:Nat),x≤l.length→OfNat.ofNat 0=0→bif decide (Int.ofNat x<Int.ofNat l.length) then (0≤Int.ofNat x∧Int.ofNat x<Int.ofNat (List.map (vecN n) l).length)∧∃(q:Rat),∃(n_1:Nat),∃(q_1:Rat),∃(n_2:Nat),ldE (List.map (vecN n) l) (Int.ofNat x).toNat 0 6=some [Ch.r q n_1,Ch.r q_1 n_2]∧(∃(x_1:Nat × Nat),((x_1.fst<l.length∧2≤x_1.snd∧x_1.snd≤l.length)∧l.length-x_1.fst=l.length-x)∧6=6∧List.map (vecN n) l=List.map (vecN n) l∧Int.ofNat l.length=Int.ofNat l.length∧Int.ofNat x=Int.ofNat x_1.fst∧0=0∧2=Int.ofNat x_1.snd∧6=6∧List.map (vecN n) l=List.map (vecN n) l∧Int.ofNat l.length=Int.ofNat l.length∧Int.ofNat x=Int.ofNat x_1.fst∧29=29∧q=(l.getD x_1.fst (OfNat.ofNat 0,OfNat.ofNat 0)).fst∧n_1≤n∧q_1=(l.getD x_1.fst (OfNat.ofNat 0,OfNat.ofNat 0)).snd∧n_2≤n∧True)∧∀(x_1:Nat × Nat),x_1.fst<l.length∧2≤x_1.snd∧x_1.snd≤l.length→l.length-x_1.fst=l.length-x→bif decide (Int.ofNat x_1.snd<Int.ofNat l.length) then Int.ofNat l.length≠0∧(0≤(IntKind.i64.wrap (Int.ofNat x_1.fst+1)).tmod (Int.ofNat l.length)∧(IntKind.i64.wrap (Int.ofNat x_1.fst+1)).tmod (Int.ofNat l.length)<Int.ofNat (List.map (vecN n) l).length)∧∃(q:Rat),∃(n_3:Nat),∃(q_2:Rat),∃(n_4:Nat),ldE (List.map (vecN n) l) ((IntKind.i64.wrap (Int.ofNat x_1.fst+1)).tmod (Int.ofNat l.length)).toNat 0 6=some [Ch.r q n_3,Ch.r q_2 n_4]∧Int.ofNat l.length≠0∧(0≤(IntKind.i64.wrap (Int.ofNat x_1.fst+Int.ofNat x_1.snd)).tmod (Int.ofNat l.length)∧(IntKind.i64.wrap (Int.ofNat x_1.fst+Int.ofNat x_1.snd)).tmod (Int.ofNat l.length)<Int.ofNat (List.map (vecN n) l).length)∧∃(q_3:Rat),∃(n_5:Nat),∃(q_4:Rat),∃(n_6:Nat),ldE (List.map (vecN n) l) ((IntKind.i64.wrap (Int.ofNat x_1.fst+Int.ofNat x_1.snd)).tmod (Int.ofNat l.length)).toNat 0 6=some [Ch.r q_3 n_5,Ch.r q_4 n_6]∧∃(a:Rat × Rat),∃(b:Rat × Rat),∃(c:Rat × Rat),∃(n_7:Nat),[Ch.r (l.getD x_1.fst (OfNat.ofNat 0,OfNat.ofNat 0)).fst n,Ch.r (l.getD x_1.fst (OfNat.ofNat 0,OfNat.ofNat 0)).snd n]=[Ch.r a.fst n_7,Ch.r a.snd n_7]∧[Ch.r q n_3,Ch.r q_2 n_4]=[Ch.r b.fst n_7,Ch.r b.snd n_7]∧[Ch.r q_3 n_5,Ch.r q_4 n_6]=[Ch.r c.fst n_7,Ch.r c.snd n_7]∧n_7≤500000000∧bif decide (sgnR (lft a b c)≤0) then K (AV.x false [Ch.v (Value.int IntKind.i64 3)]) else ∃(x':Nat × Nat),((x'.fst<l.length∧2≤x'.snd∧x'.snd≤l.length)∧l.length-x'.fst=l.length-x∧l.length-x'.snd<l.length-x_1.snd)∧6=6∧List.map (vecN n) l=List.map (vecN n) l∧Int.ofNat l.length=Int.ofNat l.length∧Int.ofNat x_1.fst=Int.ofNat x'.fst∧0=0∧IntKind.i64.wrap (Int.ofNat x_1.snd+1)=Int.ofNat x'.snd∧6=6∧List.map (vecN n) l=List.map (vecN n) l∧Int.ofNat l.length=Int.ofNat l.length∧Int.ofNat x_1.fst=Int.ofNat x'.fst∧29=29∧(l.getD x_1.fst (OfNat.ofNat 0,OfNat.ofNat 0)).fst=(l.getD x'.fst (OfNat.ofNat 0,OfNat.ofNat 0)).fst∧n≤n∧(l.getD x_1.fst (OfNat.ofNat 0,OfNat.ofNat 0)).snd=(l.getD x'.fst (OfNat.ofNat 0,OfNat.ofNat 0)).snd∧n≤n∧True else ∃(x':Nat),(x'≤l.length∧OfNat.ofNat 0=0∧l.length-x'<l.length-x)∧6=6∧List.map (vecN n) l=List.map (vecN n) l∧Int.ofNat l.length=Int.ofNat l.length∧6=6∧List.map (vecN n) l=List.map (vecN n) l∧Int.ofNat l.length=Int.ofNat l.length∧IntKind.i64.wrap (Int.ofNat x_1.fst+1)=Int.ofNat x'∧True else K (AV.x false [Ch.v (Value.int IntKind.i64 0)])) := by kernel_rfl
theorem g_polyc (n : Nat) (l : List (Rat × Rat)) (most : Int) (hc : (n ≤ 500000000) ∧ (PolyOK l) ∧ ((8 ≤ most))) (K : AV → Prop) (hK : K (iA .i64 0)) : Holds (goal_polyc n l most K) := by
 refine ⟨?_⟩
 rw [goal_polyc_vc]
 try simp only [Int.ofNat_eq_natCast, true_and, and_true, Nat.le_refl, true_implies]
 obtain ⟨h1, h2, h3⟩ := hc
 have l1 := h2.lo
 have l2 := h2.hi
 simp only [List.length_map]
 refine bif_mk (fun h => by have := of_decide_eq_true h; omega) (fun _ => bif_mk (fun h => by have := of_decide_eq_true h; omega) (fun _ => ⟨⟨0, by omega, trivial, trivial, rfl⟩, fun x hx => bif_mk (fun hp => ?_) (fun _ => hK)⟩))
 have hp : x < l.length := by have := of_decide_eq_true hp; omega
 obtain ⟨a, ha⟩ : ∃ a, l[x]? = some a := ⟨_, List.getElem?_eq_getElem hp⟩
 have hga : l.getD x (0, 0) = a := by rw [List.getD_eq_getElem?_getD, ha]; rfl
 refine ⟨by omega, _, _, _, _, vec_ld (by simpa using ha), ⟨(x, 2), ⟨⟨hp, by simp only; omega, by simp only; omega⟩, rfl⟩, rfl, rfl, rfl, by simp only; rw [← hga], Nat.le_refl _, by simp only; rw [← hga], Nat.le_refl _⟩, fun y hy ht => ?_⟩
 obtain ⟨i, k⟩ := y
 simp only at hy ht ⊢
 have hi : i = x := by omega
 subst hi
 refine bif_mk (fun hk => ?_) (fun _ => ⟨i + 1, ⟨by omega, by omega⟩, by rw [w64 (by omega)]; simp⟩)
 have hk : k < l.length := by have := of_decide_eq_true hk; omega
 have e1 : (IntKind.i64.wrap ((i : Int) + 1)).tmod (l.length : Int) = (((i + 1) % l.length : Nat) : Int) := by
  rw [w64 (by omega), tm (by omega)]; simp
 have e2 : (IntKind.i64.wrap ((i : Int) + k)).tmod (l.length : Int) = (((i + k) % l.length : Nat) : Int) := by
  rw [w64 (by omega), tm (by omega)]; simp
 have m1 := Nat.mod_lt (i + 1) (by omega : 0 < l.length)
 have m2 := Nat.mod_lt (i + k) (by omega : 0 < l.length)
 obtain ⟨b, hb⟩ : ∃ b, l[(i + 1) % l.length]? = some b := ⟨_, List.getElem?_eq_getElem m1⟩
 obtain ⟨c, hcc⟩ : ∃ c, l[(i + k) % l.length]? = some c := ⟨_, List.getElem?_eq_getElem m2⟩
 have hpos := h2.left i k a b c hy.2.1 hk ha hb hcc
 rw [e1, e2, Int.toNat_natCast, Int.toNat_natCast]
 refine ⟨by omega, by omega, _, _, _, _, vec_ld hb, by omega, by omega, _, _, _, _, vec_ld hcc, a, b, c, n, by rw [hga], rfl, rfl, by omega, bif_mk (fun h => ?_) (fun _ => ?_)⟩
 ·have h := of_decide_eq_true h
  rw [sgnR_pos hpos] at h
  omega
 ·refine ⟨(i, k + 1), ?_⟩
  simp only
  refine ⟨⟨⟨hp, by omega, by omega⟩, trivial, by omega⟩, trivial, ?_, trivial, trivial, trivial⟩
  rw [w64 (by omega)]; simp
def c_polyc : Ctr := fun as0 => match as0 with
 | [.x false [.s 6 xs], .x false [.v (.int .i64 most)]] => some fun K => ∃ (n : Nat) (l : List (Rat × Rat)), xs = l.map (vecN n) ∧ ((n ≤ 500000000) ∧ (PolyOK l) ∧ ((8 ≤ most))) ∧ (K (iA .i64 0))
 | _ => none
theorem ok_polyc : CtrOK Tryd.prog tabG debT 52 c_polyc := by
 refine ⟨enters Tryd.func52 (by kernel_rfl), fun l T hT K hK => ?_⟩
 unfold c_polyc at hT
 split at hT
 ·cases hT
  obtain ⟨n, l, rfl, hc, hK⟩ := hK
  exact spec_ofL T40ok mixed Tryd.func52 (by kernel_rfl) (by kernel_rfl) (by rfl) (g_polyc _ _ _ hc K hK)
 ·cases hT
def L41 : List (Nat × Ctr) := (52, c_polyc) :: L40
noncomputable def T41 : Tabs := mkT L41 M33 X4
theorem L41ok : CtrsOK Tryd.prog tabG debT L41 := .cons ok_polyc L40ok
theorem T41ok : TabsOK Tryd.prog tabG debT T41 := mkTok L41ok M33ok X4ok
end Go.Proofs
/- Valid arms: Check, Has, Fits. -/
namespace Go.Proofs
open Go Go.Eng
structure GoodLink (L : LinkV) : Prop where
 small : SmallR L.len ∧ SmallR L.lo ∧ SmallR L.hi ∧ SmallR L.sp ∧ SmallR L.br
 len : 0 < L.len
 lim : L.lo < L.hi
 sp : 0 < L.sp
 br : 0 < L.br
 poly : PolyOK L.shape
 shape : ∀ p ∈ L.shape, SmallR p.1 ∧ SmallR p.2
structure GoodArm (a : ArmV) : Prop where
 name : NameOK a.name
 n : 1 ≤ a.links.length ∧ a.links.length ≤ 3
 small : SmallR a.x ∧ SmallR a.y ∧ SmallR a.t
 half : a.half = true → a.t = 0
 links : ∀ L ∈ a.links, GoodLink L
theorem link_ld {l : List LinkV} {i : Nat} {L : LinkV} (h : l[i]? = some L) : ldE (l.map linkCh) i 0 16 = some (linkCh L) := by
 simp only [ldE, List.getElem?_map, h]; rfl
def ot_polyC : OT := fun _ => ([], [])
def goal_polyC (n : Nat) (l : List (Rat × Rat)) (K : AV → Prop) : Prop := goalL T41 ot_polyC noL Tryd.f47 [.x false [.s 6 (l.map (vecN n))]] K
theorem goal_polyC_vc (n : Nat) (l : List (Rat × Rat)) (K : AV → Prop) : goal_polyC n l K = (∃(n_1:Nat),∃(l_1:List (Rat × Rat)),List.map (vecN n) l=List.map (vecN n_1) l_1∧(n_1≤500000000∧PolyOK l_1∧(8:Int)≤8)∧K (AV.x false [Ch.v (Value.int IntKind.i64 0)])) := by kernel_rfl
theorem g_polyC (n : Nat) (l : List (Rat × Rat)) (hc : (n ≤ 500000000) ∧ (PolyOK l)) (K : AV → Prop) (hK : K (iA .i64 0)) : Holds (goal_polyC n l K) := by
 refine ⟨?_⟩
 rw [goal_polyC_vc]
 try simp only [Int.ofNat_eq_natCast, true_and, and_true, Nat.zero_add, Nat.le_refl, true_implies, true_or, or_true]
 exact ⟨n, l, rfl, ⟨hc.1, hc.2, by omega⟩, hK⟩
def c_polyC : Ctr := fun as0 => match as0 with
 | [.x false [.s 6 xs]] => some fun K => ∃ (n : Nat) (l : List (Rat × Rat)), xs = l.map (vecN n) ∧ ((n ≤ 500000000) ∧ (PolyOK l)) ∧ (K (iA .i64 0))
 | _ => none
theorem ok_polyC : CtrOK Tryd.prog tabG debT 47 c_polyC := by
 refine ⟨enters Tryd.func47 (by kernel_rfl), fun l T hT K hK => ?_⟩
 unfold c_polyC at hT
 split at hT
 ·cases hT
  obtain ⟨n, l, rfl, hc, hK⟩ := hK
  exact spec_ofL T41ok mixed Tryd.func47 (by kernel_rfl) (by kernel_rfl) (by rfl) (g_polyC _ _ hc K hK)
 ·cases hT
def L42 : List (Nat × Ctr) := (47, c_polyC) :: L41
noncomputable def T42 : Tabs := mkT L42 M33 X4
theorem L42ok : CtrsOK Tryd.prog tabG debT L42 := .cons ok_polyC L41ok
theorem T42ok : TabsOK Tryd.prog tabG debT T42 := mkTok L42ok M33ok X4ok
def ot_aCheckL : OT := fun _ => ([], [])
def goal_aCheckL (L : LinkV) (K : AV → Prop) : Prop := goalL T42 ot_aCheckL (fun _ => .inv ⟨Nat, fun i => ⟨[(50, .x false [.s 6 (L.shape.map vecCh)]), (51, iA .i64 L.shape.length), (52, iA .i64 i)], []⟩, fun i => i ≤ L.shape.length, fun i => L.shape.length - i, fun _ => 0⟩) Tryd.f39 [.x true (linkCh L)] K
theorem goal_aCheckL_vc (L : LinkV) (K : AV → Prop) : goal_aCheckL L K = (∃(l:List (Rat × Nat)),[[Ch.r L.len 63],[Ch.r L.lo 63],[Ch.r L.hi 63],[Ch.r L.sp 63],[Ch.r L.br 63]]=lRb l∧(l.length≤1000000∧∀(p:Rat × Nat),p ∈ l→(p.fst.num.natAbs≤1000000∧p.fst.den≤1000)∧p.snd≤1000000)∧63≤4294967296∧bif decide (sgnR L.len≤0) then K (AV.x false [Ch.v (Value.int IntKind.i64 1)]) else 126≤4294967296∧bif decide (cmpR L.lo L.hi≥0) then K (AV.x false [Ch.v (Value.int IntKind.i64 1)]) else 63≤4294967296∧bif decide (sgnR L.sp≤0) then K (AV.x false [Ch.v (Value.int IntKind.i64 1)]) else 63≤4294967296∧bif decide (sgnR L.br≤0) then K (AV.x false [Ch.v (Value.int IntKind.i64 1)]) else ∃(n:Nat),∃(l:List (Rat × Rat)),List.map vecCh L.shape=List.map (vecN n) l∧(n≤500000000∧PolyOK l)∧(∃(x:Nat),(x≤L.shape.length∧OfNat.ofNat 0=0)∧6=6∧List.map vecCh L.shape=List.map vecCh L.shape∧Int.ofNat (List.map vecCh L.shape).length=Int.ofNat L.shape.length∧0=Int.ofNat x∧True)∧∀(x:Nat),x≤L.shape.length→OfNat.ofNat 0=0→bif decide (Int.ofNat x<Int.ofNat L.shape.length) then (0≤Int.ofNat x∧Int.ofNat x<Int.ofNat (List.map vecCh L.shape).length)∧∃(q:Rat),∃(n:Nat),∃(q_1:Rat),∃(n_1:Nat),ldE (List.map vecCh L.shape) (Int.ofNat x).toNat 0 6=some [Ch.r q n,Ch.r q_1 n_1]∧∃(l:List (Rat × Nat)),[[Ch.r q n],[Ch.r q_1 n_1]]=lRb l∧(l.length≤1000000∧∀(p:Rat × Nat),p ∈ l→(p.fst.num.natAbs≤1000000∧p.fst.den≤1000)∧p.snd≤1000000)∧∃(x':Nat),(x'≤L.shape.length∧OfNat.ofNat 0=0∧L.shape.length-x'<L.shape.length-x)∧6=6∧List.map vecCh L.shape=List.map vecCh L.shape∧Int.ofNat L.shape.length=Int.ofNat L.shape.length∧IntKind.i64.wrap (Int.ofNat x+1)=Int.ofNat x'∧True else K (AV.x false [Ch.v (Value.int IntKind.i64 0)])) := by kernel_rfl
theorem g_aCheckL (L : LinkV) (hc : (GoodLink L)) (K : AV → Prop) (hK : K (iA .i64 0)) : Holds (goal_aCheckL L K) := by
 refine ⟨?_⟩
 rw [goal_aCheckL_vc]
 try simp only [Int.ofNat_eq_natCast, true_and, and_true, true_implies]
 obtain ⟨⟨s1, s2, s3, s4, s5⟩, h1, h2, h3, h4, h5, h6⟩ := hc
 have sg : ∀ {q : Rat}, 0 < q → decide (sgnR q ≤ 0) = true → False := fun h h' => by
  have := of_decide_eq_true h'
  rw [sgnR_pos h] at this
  omega
 refine ⟨[(L.len, 63), (L.lo, 63), (L.hi, 63), (L.sp, 63), (L.br, 63)], rfl, ⟨by simp, fun p hp => ?_⟩, by omega, bif_mk (fun h => (sg h1 h).elim) (fun _ => ⟨by omega, bif_mk (fun h => ?_) (fun _ => ⟨by omega, bif_mk (fun h => (sg h3 h).elim) (fun _ => ⟨by omega, bif_mk (fun h => (sg h4 h).elim) (fun _ => ⟨63, L.shape, rfl, ⟨by omega, h5⟩, ⟨0, by omega, by simp, rfl⟩, fun x hx => bif_mk (fun hp => ?_) (fun _ => hK)⟩)⟩)⟩)⟩)⟩
 ·simp only [List.mem_cons, List.not_mem_nil, or_false] at hp
  rcases hp with rfl | rfl | rfl | rfl | rfl
  ·exact ⟨s1, by simp⟩
  ·exact ⟨s2, by simp⟩
  ·exact ⟨s3, by simp⟩
  ·exact ⟨s4, by simp⟩
  ·exact ⟨s5, by simp⟩
 ·have := (cmp_ge _ _).1 (of_decide_eq_true h)
  exact absurd h2 (Rat.not_lt.2 this)
 ·have hp : x < L.shape.length := by have := of_decide_eq_true hp; omega
  obtain ⟨p, hpp⟩ : ∃ p, L.shape[x]? = some p := ⟨_, List.getElem?_eq_getElem hp⟩
  obtain ⟨a1, a2⟩ := h6 p (List.mem_of_getElem? hpp)
  refine ⟨by rw [List.length_map]; omega, _, _, _, _, vec_ld (by simpa using hpp), [(p.1, 63), (p.2, 63)], rfl, ⟨by simp, fun r hr => ?_⟩, x + 1, ⟨by omega, by omega⟩, by rw [w64 (by have := h5.hi; omega)]; simp⟩
  simp only [List.mem_cons, List.not_mem_nil, or_false] at hr
  rcases hr with rfl | rfl
  ·exact ⟨a1, by simp⟩
  ·exact ⟨a2, by simp⟩
def c_aCheckL : Ctr := fun as0 => match as0 with
 | [.x true xs] => some fun K => ∃ (L : LinkV), xs = linkCh L ∧ ((GoodLink L)) ∧ (K (iA .i64 0))
 | _ => none
theorem ok_aCheckL : CtrOK Tryd.prog tabG debT 39 c_aCheckL := by
 refine ⟨enters Tryd.func39 (by kernel_rfl), fun l T hT K hK => ?_⟩
 unfold c_aCheckL at hT
 split at hT
 ·cases hT
  obtain ⟨L, rfl, hc, hK⟩ := hK
  exact spec_ofL T42ok mixed Tryd.func39 (by kernel_rfl) (by kernel_rfl) (by rfl) (g_aCheckL _ hc K hK)
 ·cases hT
def L43 : List (Nat × Ctr) := (39, c_aCheckL) :: L42
noncomputable def T43 : Tabs := mkT L43 M33 X4
theorem L43ok : CtrsOK Tryd.prog tabG debT L43 := .cons ok_aCheckL L42ok
theorem T43ok : TabsOK Tryd.prog tabG debT T43 := mkTok L43ok M33ok X4ok
def ot_aCheck : OT := fun _ => ([], [])
def goal_aCheck (a : ArmV) (K : AV → Prop) : Prop := goalL T43 ot_aCheck (fun _ => .inv ⟨Nat, fun i => ⟨[(48, .x false [.s 16 (a.links.map linkCh)]), (49, iA .i64 a.links.length), (50, iA .i64 i)], []⟩, fun i => i ≤ a.links.length, fun i => a.links.length - i, fun _ => 0⟩) Tryd.f24 [armA a] K
theorem goal_aCheck_vc (a : ArmV) (K : AV → Prop) : goal_aCheck a K = (((1≤a.name.size∧a.name.size≤12)∧∀(i:Nat) (x:UInt8),a.name.data.toList[i]?=some x→97≤x.toNat∧x.toNat≤122)∧bif decide (Int.ofNat (List.map linkCh a.links).length>3) then K (AV.x false [Ch.v (Value.int IntKind.i64 2)]) else bif Int.ofNat (List.map linkCh a.links).length==0 then K (AV.x false [Ch.v (Value.int IntKind.i64 1)]) else ∃(l:List (Rat × Nat)),[[Ch.r a.x 63],[Ch.r a.y 63],[Ch.r a.t 63]]=lRb l∧(l.length≤1000000∧∀(p:Rat × Nat),p ∈ l→(p.fst.num.natAbs≤1000000∧p.fst.den≤1000)∧p.snd≤1000000)∧bif a.half then 63≤4294967296∧bif sgnR a.t != 0 then K (AV.x false [Ch.v (Value.int IntKind.i64 1)]) else (∃(x:Nat),(x≤a.links.length∧OfNat.ofNat 0=0)∧16=16∧List.map linkCh a.links=List.map linkCh a.links∧Int.ofNat (List.map linkCh a.links).length=Int.ofNat a.links.length∧0=Int.ofNat x∧True)∧∀(x:Nat),x≤a.links.length→OfNat.ofNat 0=0→bif decide (Int.ofNat x<Int.ofNat a.links.length) then (0≤Int.ofNat x∧Int.ofNat x<Int.ofNat (List.map linkCh a.links).length)∧∃(q:Rat),∃(n:Nat),∃(q_1:Rat),∃(n_1:Nat),∃(q_2:Rat),∃(n_2:Nat),∃(q_3:Rat),∃(n_3:Nat),∃(q_4:Rat),∃(n_4:Nat),∃(ys:List (List Ch)),ldE (List.map linkCh a.links) (Int.ofNat x).toNat 0 16=some [Ch.r q n,Ch.r q_1 n_1,Ch.r q_2 n_2,Ch.r q_3 n_3,Ch.r q_4 n_4,Ch.s 6 ys]∧∃(L:LinkV),[Ch.r q n,Ch.r q_1 n_1,Ch.r q_2 n_2,Ch.r q_3 n_3,Ch.r q_4 n_4,Ch.s 6 ys]=[Ch.r L.len 63,Ch.r L.lo 63,Ch.r L.hi 63,Ch.r L.sp 63,Ch.r L.br 63,Ch.s 6 (List.map vecCh L.shape)]∧GoodLink L∧∃(x':Nat),(x'≤a.links.length∧OfNat.ofNat 0=0∧a.links.length-x'<a.links.length-x)∧16=16∧List.map linkCh a.links=List.map linkCh a.links∧Int.ofNat a.links.length=Int.ofNat a.links.length∧IntKind.i64.wrap (Int.ofNat x+1)=Int.ofNat x'∧True else K (AV.x false [Ch.v (Value.int IntKind.i64 0)]) else (∃(x:Nat),(x≤a.links.length∧OfNat.ofNat 0=0)∧16=16∧List.map linkCh a.links=List.map linkCh a.links∧Int.ofNat (List.map linkCh a.links).length=Int.ofNat a.links.length∧0=Int.ofNat x∧True)∧∀(x:Nat),x≤a.links.length→OfNat.ofNat 0=0→bif decide (Int.ofNat x<Int.ofNat a.links.length) then (0≤Int.ofNat x∧Int.ofNat x<Int.ofNat (List.map linkCh a.links).length)∧∃(q:Rat),∃(n:Nat),∃(q_1:Rat),∃(n_1:Nat),∃(q_2:Rat),∃(n_2:Nat),∃(q_3:Rat),∃(n_3:Nat),∃(q_4:Rat),∃(n_4:Nat),∃(ys:List (List Ch)),ldE (List.map linkCh a.links) (Int.ofNat x).toNat 0 16=some [Ch.r q n,Ch.r q_1 n_1,Ch.r q_2 n_2,Ch.r q_3 n_3,Ch.r q_4 n_4,Ch.s 6 ys]∧∃(L:LinkV),[Ch.r q n,Ch.r q_1 n_1,Ch.r q_2 n_2,Ch.r q_3 n_3,Ch.r q_4 n_4,Ch.s 6 ys]=[Ch.r L.len 63,Ch.r L.lo 63,Ch.r L.hi 63,Ch.r L.sp 63,Ch.r L.br 63,Ch.s 6 (List.map vecCh L.shape)]∧GoodLink L∧∃(x':Nat),(x'≤a.links.length∧OfNat.ofNat 0=0∧a.links.length-x'<a.links.length-x)∧16=16∧List.map linkCh a.links=List.map linkCh a.links∧Int.ofNat a.links.length=Int.ofNat a.links.length∧IntKind.i64.wrap (Int.ofNat x+1)=Int.ofNat x'∧True else K (AV.x false [Ch.v (Value.int IntKind.i64 0)])) := by kernel_rfl
theorem g_aCheck (a : ArmV) (hc : (GoodArm a)) (K : AV → Prop) (hK : K (iA .i64 0)) : Holds (goal_aCheck a K) := by
 refine ⟨?_⟩
 rw [goal_aCheck_vc]
 try simp only [Int.ofNat_eq_natCast, true_and, and_true, true_implies]
 have hl := hc.n
 obtain ⟨s1, s2, s3⟩ := hc.small
 have loop : (∃ x, x ≤ a.links.length ∧ ((List.map linkCh a.links).length : Int) = a.links.length ∧ (0 : Int) = (x : Nat)) ∧ ∀ (x : Nat), x ≤ a.links.length → bif decide ((x : Int) < a.links.length) then ((0 : Int) ≤ x ∧ (x : Int) < ((List.map linkCh a.links).length : Nat)) ∧
   ∃ q n q_1 n_1 q_2 n_2 q_3 n_3 q_4 n_4 ys, ldE (List.map linkCh a.links) (x : Int).toNat 0 16 = some [Ch.r q n, Ch.r q_1 n_1, Ch.r q_2 n_2, Ch.r q_3 n_3, Ch.r q_4 n_4, Ch.s 6 ys] ∧
    ∃ L : LinkV, [Ch.r q n, Ch.r q_1 n_1, Ch.r q_2 n_2, Ch.r q_3 n_3, Ch.r q_4 n_4, Ch.s 6 ys] = [Ch.r L.len 63, Ch.r L.lo 63, Ch.r L.hi 63, Ch.r L.sp 63, Ch.r L.br 63, Ch.s 6 (List.map vecCh L.shape)] ∧ GoodLink L ∧
     ∃ x' : Nat, (x' ≤ a.links.length ∧ a.links.length - x' < a.links.length - x) ∧ IntKind.i64.wrap ((x : Int) + 1) = x'
   else K (AV.x false [Ch.v (Value.int IntKind.i64 0)]) := by
  refine ⟨⟨0, by omega, by simp, rfl⟩, fun x hx => bif_mk (fun hp => ?_) (fun _ => hK)⟩
  have hp : x < a.links.length := by have := of_decide_eq_true hp; omega
  obtain ⟨L, hL⟩ : ∃ L, a.links[x]? = some L := ⟨_, List.getElem?_eq_getElem hp⟩
  exact ⟨by rw [List.length_map]; omega, _, _, _, _, _, _, _, _, _, _, _, link_ld (by simpa using hL), L, rfl, hc.links L (List.mem_of_getElem? hL), x + 1, ⟨by omega, by omega⟩, by rw [w64 (by omega)]; simp⟩
 simp only [List.length_map] at loop ⊢
 refine ⟨hc.name, bif_mk (fun h => by have := of_decide_eq_true h; omega) (fun _ => bif_mk (fun h => by simp only [beq_iff_eq] at h; omega) (fun _ => ⟨[(a.x, 63), (a.y, 63), (a.t, 63)], rfl, ⟨by simp, fun p hp => ?_⟩, bif_mk (fun h => ⟨by omega, bif_mk (fun h' => ?_) (fun _ => loop)⟩) (fun _ => loop)⟩))⟩
 ·simp only [List.mem_cons, List.not_mem_nil, or_false] at hp
  rcases hp with rfl | rfl | rfl
  ·exact ⟨s1, by simp⟩
  ·exact ⟨s2, by simp⟩
  ·exact ⟨s3, by simp⟩
 ·rw [hc.half h] at h'
  exact absurd h' (by decide)
def c_aCheck : Ctr := fun as0 => match as0 with
 | [.x true xs] => some fun K => ∃ (a : ArmV), xs = armCh a ∧ ((GoodArm a)) ∧ (K (iA .i64 0))
 | _ => none
theorem ok_aCheck : CtrOK Tryd.prog tabG debT 24 c_aCheck := by
 refine ⟨enters Tryd.func24 (by kernel_rfl), fun l T hT K hK => ?_⟩
 unfold c_aCheck at hT
 split at hT
 ·cases hT
  obtain ⟨a, rfl, hc, hK⟩ := hK
  exact spec_ofL T43ok mixed Tryd.func24 (by kernel_rfl) (by kernel_rfl) (by rfl) (g_aCheck _ hc K hK)
 ·cases hT
def L44 : List (Nat × Ctr) := (24, c_aCheck) :: L43
theorem L44ok : CtrsOK Tryd.prog tabG debT L44 := .cons ok_aCheck L43ok
def L45 : List (Nat × Ctr) := L44
theorem L45ok : CtrsOK Tryd.prog tabG debT L45 := L44ok
def L46 : List (Nat × Ctr) := L45
noncomputable def T46 : Tabs := mkT L46 M33 X4
theorem L46ok : CtrsOK Tryd.prog tabG debT L46 := L45ok
end Go.Proofs
/- Made arms are valid. -/
namespace Go.Proofs
open Go Go.Eng
theorem small_mk {n : Int} {d : Nat} (hn : n.natAbs ≤ 1000000) (hd : d ≠ 0 ∧ d ≤ 1000) : SmallR (mkRat n d) := by
 refine ⟨?_, ?_⟩
 ·rw [mk_num _ _ hd.1, Int.natAbs_tdiv, Int.natAbs_natCast]
  exact Nat.le_trans (Nat.div_le_self _ _) hn
 ·rw [mk_den _ _ hd.1]
  exact Nat.le_trans (Nat.div_le_self _ _) hd.2
def polyB (l : List (Rat × Rat)) : Bool := decide (3 ≤ l.length) && decide (l.length ≤ 8) && (List.range l.length).all fun i => (List.range l.length).all fun k => decide (k < 2) || decide (0 < lft (l.getD i (0, 0)) (l.getD ((i + 1) % l.length) (0, 0)) (l.getD ((i + k) % l.length) (0, 0)))
theorem polyB_ok {l : List (Rat × Rat)} (h : polyB l = true) : PolyOK l := by
 simp only [polyB, Bool.and_eq_true, decide_eq_true_eq, List.all_eq_true, List.mem_range, Bool.or_eq_true] at h
 obtain ⟨⟨h1, h2⟩, h3⟩ := h
 refine ⟨h1, h2, fun i k a b c hk hkl ha hb hc => ?_⟩
 have := h3 i (List.getElem?_eq_some_iff.1 ha).1 k hkl
 simp only [List.getD_eq_getElem?_getD, ha, hb, hc, Option.getD_some] at this
 rcases this with h | h
 ·omega
 ·exact h
theorem shapes_ok : ([4, 6, 8, 10] : List Int).all (fun n => polyB (rect4 (-1) (-1) (n + 1) 1) && polyB [at4 (-1) (-1), at4 (n + 1) 0, at4 (-1) 1]) = true := by decide +kernel
theorem MadeLink.good {L : LinkV} (h : MadeLink L) : GoodLink L := by
 obtain ⟨r, i, j, s, b, tri, hr, hi, hj, hs, hb, rfl⟩ := h
 have hsh := List.all_eq_true.1 shapes_ok (4 + 2 * r) (by
  have : r = 0 ∨ r = 1 ∨ r = 2 ∨ r = 3 := by omega
  rcases this with rfl | rfl | rfl | rfl <;> decide)
 simp only [Bool.and_eq_true] at hsh
 have lo : mkRat (-1 - i) 3 < 0 := by
  have := mkRat_pos (n := 1 + i) (d := 3) (by omega) (by decide)
  have e : mkRat (-1 - i) 3 = -mkRat (1 + i) 3 := by rw [Rat.neg_mkRat]; congr 1; omega
  rw [e]; grind
 have hi' := mkRat_pos (n := 1 + j) (d := 3) (by omega) (by decide)
 refine ⟨⟨?_, ?_, ?_, ?_, ?_⟩, ?_, ?_, ?_, ?_, ?_, ?_⟩
 ·exact small_mk (by omega) (by decide)
 ·exact small_mk (by omega) (by decide)
 ·exact small_mk (by omega) (by decide)
 ·exact small_mk (by omega) (by omega)
 ·exact small_mk (by omega) (by omega)
 ·exact mkRat_pos (by omega) (by decide)
 ·show mkRat (-1 - i) 3 < mkRat (1 + j) 3
  grind
 ·exact mkRat_pos (by omega) (by omega)
 ·exact mkRat_pos (by omega) (by omega)
 ·cases tri
  ·exact polyB_ok hsh.1
  ·exact polyB_ok hsh.2
 ·have c : ∀ x y : Int, x.natAbs ≤ 1000000 → y.natAbs ≤ 1000000 → SmallR (at4 x y).1 ∧ SmallR (at4 x y).2 := fun x y hx hy => ⟨small_mk hx (by decide), small_mk hy (by decide)⟩
  intro p hp
  cases tri
  ·simp only [mkLink, cond_false, rect4, List.mem_cons, List.not_mem_nil, or_false] at hp
   rcases hp with rfl | rfl | rfl | rfl <;> exact c _ _ (by omega) (by omega)
  ·simp only [mkLink, cond_true, List.mem_cons, List.not_mem_nil, or_false] at hp
   rcases hp with rfl | rfl | rfl <;> exact c _ _ (by omega) (by omega)
theorem oneS_ok : NameOK oneS := by
 refine ⟨by decide, fun i x hx => ?_⟩
 match i, hx with
 | 0, hx => cases hx; decide
 | 1, hx => cases hx; decide
 | 2, hx => cases hx; decide
 | i + 3, hx => cases hx
theorem MadeA.good {a : ArmV} (h : MadeA a) : GoodArm a := by
 obtain ⟨⟨h1, h2, h3, h4, h5, h6, h7⟩, h8⟩ := h
 obtain ⟨c, d, hc, hd, ht⟩ := h5
 refine ⟨by rw [h1]; exact oneS_ok, ⟨h8, h6⟩, ⟨?_, ?_, ?_⟩, fun h => absurd (h4.symm.trans h) (by decide), fun L hL => (h7 L hL).good⟩
 ·rw [h2]; exact small_mk (by decide) (by decide)
 ·rw [h3]; exact small_mk (by decide) (by decide)
 ·rw [ht]; exact small_mk (by omega) (by omega)
/-- What tracks lean on. -/
theorem MadeLink.wide {L : LinkV} (h : MadeLink L) : L.hi - L.lo ≤ 4 ∧ mkRat 1 11 ≤ L.sp := by
  obtain ⟨r, i, j, s, b, tri, hr, hi, hj, hs, hb, rfl⟩ := h
  show mkRat (1 + j) 3 - mkRat (-1 - i) 3 ≤ 4 ∧ mkRat 1 11 ≤ mkRat 1 (4 + s).toNat
  have hj' : j = 0 ∨ j = 1 ∨ j = 2 ∨ j = 3 ∨ j = 4 ∨ j = 5 := by omega
  have hi' : i = 0 ∨ i = 1 ∨ i = 2 ∨ i = 3 ∨ i = 4 ∨ i = 5 := by omega
  have hs' : s = 0 ∨ s = 1 ∨ s = 2 ∨ s = 3 ∨ s = 4 ∨ s = 5 ∨ s = 6 ∨ s = 7 := by omega
  constructor
  · rcases hj' with rfl | rfl | rfl | rfl | rfl | rfl <;> rcases hi' with rfl | rfl | rfl | rfl | rfl | rfl <;> decide +kernel
  · rcases hs' with rfl | rfl | rfl | rfl | rfl | rfl | rfl | rfl <;> decide +kernel
end Go.Proofs
/- Configurations within the limits: fraction, conf, Conf. -/
namespace Go.Proofs
open Go Go.Eng
def L47 : List (Nat × Ctr) := L46
noncomputable def T47 : Tabs := mkT L47 M33 X4
theorem L47ok : CtrsOK Tryd.prog tabG debT L47 := L46ok
end Go.Proofs
/- Configurations within the limits: contracts. -/
namespace Go.Proofs
open Go Go.Eng
def M48 : List (Nat × CtrM) := M33
theorem M48ok : CtrMsOK Tryd.prog tabG debT M48 := M33ok
def L49 : List (Nat × Ctr) := L47
noncomputable def T49 : Tabs := mkT L49 M48 X4
theorem L49ok : CtrsOK Tryd.prog tabG debT L49 := L47ok
end Go.Proofs
