/- The stream of raw numbers. -/
import Derived.Test.YtglebancgilfdaaDoorR1
import Derived.Test.YtglebancgilfdaaDoorPl
/- The stream of raw numbers. -/
namespace Go.Proofs
open Go Go.Eng
def ints (l : List Int) : List (List Ch) := l.map fun n => [Ch.v (.int .i64 n)]
def stB (l : List Int) : Blk := .box 55 [.s 1 (ints l)]
def nxtR (l : List Int) (n : Int) : Int := match l with | [] => 0 | x :: _ => x % n
def goal_next (l : List Int) (n : Int) : Prop := goalM (X := Unit) T26 noO noL Tryd.f19 [.x false [.p 1000 0], iA .i64 n] [(1000, stB l)] (fun _ => True) (fun _ => ⟨[(4, iA .i64 (nxtR l n))], [(1000, stB l.tail)]⟩)
theorem goal_next_vc (l : List Int) (n : Int) : goal_next l n = (bif Int.ofNat (ints l).length==0 then ∃(x:Unit),True∧0=nxtR l n∧55=55∧1=1∧ints l=ints l.tail∧True else bif decide (n<1) then ∃(x:Unit),True∧0=nxtR l n∧55=55∧1=1∧ints l=ints l.tail∧True else ((0:Int)≤0∧0<Int.ofNat (ints l).length)∧∃(d:Int),ldE (ints l) 0 0 1=some [Ch.v (Value.int IntKind.i64 d)]∧((0:Int)≤1∧1≤Int.ofNat (ints l).length∧Int.ofNat (ints l).length≤Int.ofNat (ints l).length)∧(0<n∧n<9223372036854775808)∧∃(x:Unit),True∧d%n=nxtR l n∧55=55∧1=1∧List.take ((Int.ofNat (ints l).length).toNat-1) (List.drop 1 (ints l))=ints l.tail∧True) := by kernel_rfl
theorem ints_len (l : List Int) : (ints l).length = l.length := by simp [ints]
theorem nxtR_range {l : List Int} {n : Int} (hn : 1 ≤ n) : 0 ≤ nxtR l n ∧ nxtR l n < n := by
 unfold nxtR
 split
 ·omega
 ·rename_i x l'
  exact ⟨Int.emod_nonneg x (by omega), Int.emod_lt_of_pos x (by omega)⟩
theorem g_next (l : List Int) (n : Int) (hn : 1 ≤ n ∧ n < 9223372036854775808) (hl : l.length ≤ 9223372036854775807) : Holds (goal_next l n) := by
 refine ⟨?_⟩
 rw [goal_next_vc]
 simp only [Int.ofNat_eq_natCast, true_and, and_true]
 simp only [ints_len]
 cases l with
 | nil => exact ⟨(), rfl, rfl⟩
 | cons x l =>
  refine bif_mk (fun h => ?_) (fun _ => bif_mk (fun h => ?_) (fun _ => ⟨by simp, x, rfl, by simp only [List.length_cons]; omega, ⟨by omega, hn.2⟩, (), rfl, ?_⟩))
  ·simp at h; omega
  ·have := of_decide_eq_true h; omega
  ·simp only [List.length_cons, List.tail_cons, ints, List.map_cons, List.drop_succ_cons, List.drop_zero]
   exact List.take_of_length_le (by simp)
/-- A number below n; the rest of the list is left. -/
def c_next : CtrM := fun as0 H _ => match as0 with
  | [.x false [.p k o], .x false [.v (.int .i64 n)]] => match o with
    | 0 => match H k with
      | some (.box t [.s 1 xs]) => bif t.beq 55 then
          some fun K => ∃ l, xs = ints l ∧ (1 ≤ n ∧ n < 9223372036854775808) ∧ l.length ≤ 9223372036854775807 ∧ ∀ (r : Int) (l' : List Int), (0 ≤ r ∧ r < n) → l'.length ≤ l.length → K (iA .i64 r) (backH [(1000, k)] (lookH [(1000, stB l')]) H)
          else none
      | _ => none
    | _ + 1 => none
  | _ => none
theorem ok_next : CtrMOK Tryd.prog tabG debT 19 c_next := by
 refine ⟨enters Tryd.func19 (by kernel_rfl), fun l H d T hT K hK => ?_⟩
 unfold c_next at hT
 split at hT
 ·rename_i k o n
  split at hT
  ·split at hT
   ·rename_i t xs e1
    cases hb : t.beq 55 with
    | false => rw [hb] at hT; cases hT
    | true =>
     rw [hb] at hT
     cases hT
     have ht := Nat.eq_of_beq_eq_true hb
     subst ht
     obtain ⟨l, rfl, hn, hl, hK⟩ := hK
     refine specM_of (R := [(1000, k)]) (N := []) (Hl := [(1000, stB l)]) T26ok mixed Tryd.func19 (by kernel_rfl) (by kernel_rfl) (by rfl)
      (as0 := [.x false [.p 1000 0], iA .i64 n]) ?_ (hand1 e1 rfl rfl) rfl (by simp) (by simp) (fun _ h => by cases h) (fun x => ⟨fun p hp => ?_, fun p hp b hb => ?_⟩) (g_next l n hn hl) (fun _ _ => ?_)
     ·simp [renAs, renAV, renCh, lkB, iA]
     ·simp at hp
      subst hp
      exact fun h => by have h' : some (stB _) = none := h; cases h'
     ·simp at hp
      subst hp
      have h' : some (stB _) = some b := hb; cases h'; rfl
     ·exact ⟨_, rfl, hK _ _ (nxtR_range hn.1) (by rw [List.length_tail]; omega)⟩
   ·cases hT
  ·cases hT
 ·cases hT
def M30 : List (Nat × CtrM) := (19, c_next) :: M23
noncomputable def T30 : Tabs := mkT L26 M30 X4
theorem M30ok : CtrMsOK Tryd.prog tabG debT M30 := .cons ok_next M23ok
theorem T30ok : TabsOK Tryd.prog tabG debT T30 := mkTok L26ok M30ok X4ok
end Go.Proofs
/- Made arms: corners, shapes, links, arms. -/
namespace Go.Proofs
open Go Go.Eng
def vecN (n : Nat) (p : Rat × Rat) : List Ch := [.r p.1 n, .r p.2 n]
abbrev vecCh : Rat × Rat → List Ch := vecN 63
def at4 (x y : Int) : Rat × Rat := (mkRat x 4, mkRat y 4)
def ot_mAt : OT := fun _ => ([], [])
def goal_mAt (x y : Int) (K : AV → Prop) : Prop := goalL T30 ot_mAt noL Tryd.f64 [iA .i64 x, iA .i64 y] K
theorem goal_mAt_vc (x : Int) (y : Int) (K : AV → Prop) : goal_mAt x y K = (((-9223372036854775808<x∧x<9223372036854775808)∧(0:Int)<4∧(4:Int)<9223372036854775808)∧((-9223372036854775808<y∧y<9223372036854775808)∧(0:Int)<4∧(4:Int)<9223372036854775808)∧K (AV.x true [Ch.r (mkRat x 4) 63,Ch.r (mkRat y 4) 63])) := by kernel_rfl
theorem g_mAt (x y : Int) (hc : ((-9223372036854775808 < x ∧ x < 9223372036854775808) ∧ -9223372036854775808 < y ∧ y < 9223372036854775808)) (K : AV → Prop) (hK : K (.x true (vecCh (at4 x y)))) : Holds (goal_mAt x y K) := by
 refine ⟨?_⟩
 rw [goal_mAt_vc]
 try simp only [Int.ofNat_eq_natCast, true_and, and_true, Nat.zero_add, Nat.le_refl, true_implies, true_or, or_true]
 exact ⟨by omega, by omega, hK⟩
def c_mAt : Ctr := fun as0 => match as0 with
 | [.x false [.v (.int .i64 x)], .x false [.v (.int .i64 y)]] => some fun K => (((-9223372036854775808 < x ∧ x < 9223372036854775808) ∧ -9223372036854775808 < y ∧ y < 9223372036854775808)) ∧ (K (.x true (vecCh (at4 x y))))
 | _ => none
theorem ok_mAt : CtrOK Tryd.prog tabG debT 64 c_mAt := by
 refine ⟨enters Tryd.func64 (by kernel_rfl), fun l T hT K hK => ?_⟩
 unfold c_mAt at hT
 split at hT
 ·cases hT
  obtain ⟨hc, hK⟩ := hK
  exact spec_ofL T30ok mixed Tryd.func64 (by kernel_rfl) (by kernel_rfl) (by rfl) (g_mAt _ _ hc K hK)
 ·cases hT
def L31 : List (Nat × Ctr) := (64, c_mAt) :: L26
noncomputable def T31 : Tabs := mkT L31 M30 X4
theorem L31ok : CtrsOK Tryd.prog tabG debT L31 := .cons ok_mAt L26ok
theorem T31ok : TabsOK Tryd.prog tabG debT T31 := mkTok L31ok M30ok X4ok
def rect4 (x y u v : Int) : List (Rat × Rat) := [at4 x y, at4 u y, at4 u v, at4 x v]
def ot_mRect : OT := fun _ => ([], [])
def goal_mRect (x y u v : Int) (K : AV → Prop) : Prop := goalL T31 ot_mRect noL Tryd.f65 [iA .i64 x, iA .i64 y, iA .i64 u, iA .i64 v] K
theorem goal_mRect_vc (x : Int) (y : Int) (u : Int) (v : Int) (K : AV → Prop) : goal_mRect x y u v K = (((-9223372036854775808<x∧x<9223372036854775808)∧ -9223372036854775808<y∧y<9223372036854775808)∧((-9223372036854775808<u∧u<9223372036854775808)∧ -9223372036854775808<y∧y<9223372036854775808)∧((-9223372036854775808<u∧u<9223372036854775808)∧ -9223372036854775808<v∧v<9223372036854775808)∧((-9223372036854775808<x∧x<9223372036854775808)∧ -9223372036854775808<v∧v<9223372036854775808)∧K (AV.x false [Ch.s 6 [[Ch.r (mkRat x 4,mkRat y 4).fst 63,Ch.r (mkRat x 4,mkRat y 4).snd 63],[Ch.r (mkRat u 4,mkRat y 4).fst 63,Ch.r (mkRat u 4,mkRat y 4).snd 63],[Ch.r (mkRat u 4,mkRat v 4).fst 63,Ch.r (mkRat u 4,mkRat v 4).snd 63],[Ch.r (mkRat x 4,mkRat v 4).fst 63,Ch.r (mkRat x 4,mkRat v 4).snd 63]]])) := by kernel_rfl
theorem g_mRect (x y u v : Int) (hc : ((-9223372036854775808 < x ∧ x < 9223372036854775808) ∧ -9223372036854775808 < y ∧ y < 9223372036854775808) ∧ ((-9223372036854775808 < u ∧ u < 9223372036854775808) ∧ -9223372036854775808 < v ∧ v < 9223372036854775808)) (K : AV → Prop) (hK : K (.x false [.s 6 ((rect4 x y u v).map vecCh)])) : Holds (goal_mRect x y u v K) := by
 refine ⟨?_⟩
 rw [goal_mRect_vc]
 try simp only []
 exact ⟨by omega, by omega, by omega, by omega, hK⟩
def c_mRect : Ctr := fun as0 => match as0 with
 | [.x false [.v (.int .i64 x)], .x false [.v (.int .i64 y)], .x false [.v (.int .i64 u)], .x false [.v (.int .i64 v)]] => some fun K => (((-9223372036854775808 < x ∧ x < 9223372036854775808) ∧ -9223372036854775808 < y ∧ y < 9223372036854775808) ∧ ((-9223372036854775808 < u ∧ u < 9223372036854775808) ∧ -9223372036854775808 < v ∧ v < 9223372036854775808)) ∧ (K (.x false [.s 6 ((rect4 x y u v).map vecCh)]))
 | _ => none
theorem ok_mRect : CtrOK Tryd.prog tabG debT 65 c_mRect := by
 refine ⟨enters Tryd.func65 (by kernel_rfl), fun l T hT K hK => ?_⟩
 unfold c_mRect at hT
 split at hT
 ·cases hT
  obtain ⟨hc, hK⟩ := hK
  exact spec_ofL T31ok mixed Tryd.func65 (by kernel_rfl) (by kernel_rfl) (by rfl) (g_mRect _ _ _ _ hc K hK)
 ·cases hT
def L32 : List (Nat × Ctr) := (65, c_mRect) :: L31
noncomputable def T32 : Tabs := mkT L32 M30 X4
theorem L32ok : CtrsOK Tryd.prog tabG debT L32 := .cons ok_mRect L31ok
theorem T32ok : TabsOK Tryd.prog tabG debT T32 := mkTok L32ok M30ok X4ok
structure LinkV where
 len : Rat
 lo : Rat
 hi : Rat
 sp : Rat
 br : Rat
 shape : List (Rat × Rat)
def linkCh (L : LinkV) : List Ch := [.r L.len 63, .r L.lo 63, .r L.hi 63, .r L.sp 63, .r L.br 63, .s 6 (L.shape.map vecCh)]
structure ArmV where
 name : ByteArray
 x : Rat
 y : Rat
 half : Bool
 t : Rat
 links : List LinkV
def armCh (a : ArmV) : List Ch := [.v (.string a.name), .r a.x 63, .r a.y 63, .v (.bool a.half), .r a.t 63, .s 16 (a.links.map linkCh)]
def armA (a : ArmV) : AV := .x true (armCh a)
/-- The same with the links in a row of its own. -/
def armW (a : ArmV) (k : Nat) : List Ch := [.v (.string a.name), .r a.x 63, .r a.y 63, .v (.bool a.half), .r a.t 63, .w k 0 a.links.length]
def zeroArm : List Ch := [.v (.string ⟨⟨[]⟩⟩)] ++ zeroR ++ zeroR ++ [.v (.bool false)] ++ zeroR ++ [.v (.slice none 0 0)]
def mkLink (long i j s b : Int) (tri : Bool) : LinkV := ⟨mkRat long 4, mkRat (-1 - i) 3, mkRat (1 + j) 3, mkRat 1 (4 + s).toNat, mkRat 1 (10 + b).toNat, bif tri then [at4 (-1) (-1), at4 (long + 1) 0, at4 (-1) 1] else rect4 (-1) (-1) (long + 1) 1⟩
def MadeLink (L : LinkV) : Prop := ∃ r i j s b : Int, ∃ tri, (0 ≤ r ∧ r < 4) ∧ (0 ≤ i ∧ i < 6) ∧ (0 ≤ j ∧ j < 6) ∧ (0 ≤ s ∧ s < 8) ∧ (0 ≤ b ∧ b < 20) ∧ L = mkLink (4 + 2 * r) i j s b tri
def oneS : ByteArray := ⟨⟨[111, 110, 101]⟩⟩
structure Made (a : ArmV) : Prop where
 name : a.name = oneS
 x : a.x = mkRat 0 4
 y : a.y = mkRat 0 4
 half : a.half = false
 t : ∃ c d : Int, (-1 ≤ c ∧ c ≤ 1) ∧ (1 ≤ d ∧ d ≤ 3) ∧ a.t = mkRat c d.toNat
 n : a.links.length ≤ 3
 links : ∀ L ∈ a.links, MadeLink L
def rowLk (l : List LinkV) : Blk := .row 103 16 (l.map linkCh)
structure MkX where
 a : ArmV
 l : List Int
 n : Nat
def inv_marm (l : List Int) : LI := fun _ => .inv ⟨MkX, fun x => ⟨[(0, .x false [.p 1000 0]), (4, .x false [.p 4 0]), (5, .x false [.p 5 0]), (30, iA .i64 x.n), (31, iA .i64 x.a.links.length)],
 [(1000, stB x.l), (4, .box 34 zeroArm), (5, .box 34 (armW x.a 500)), (500, rowLk x.a.links)]⟩, fun x => Made x.a ∧ x.l.length ≤ l.length ∧ x.a.links.length ≤ x.n ∧ 1 ≤ x.n ∧ x.n ≤ 3, fun x => x.n - x.a.links.length, fun _ => 0⟩
def ot_marm : OT := fun id => bif id.beq 2 then ([0, 1, 3, 4, 8, 2, 5, 6, 7, 9, 10, 11, 12, 13, 14, 15], [[], [0], [1, 0], [], [], [4, 2, 1, 0], [3, 5, 4, 2, 1, 0], [6, 3, 5, 4, 2, 1, 0], [], [8, 5, 4, 2, 1, 0], [9, 8, 5, 4, 2, 1, 0], [7, 6, 3, 5, 4, 2, 1, 0, 10, 9, 8], [11, 7, 6, 3, 5, 4, 2, 1, 0, 10, 9, 8], [2, 1, 0, 12, 11, 7, 6, 3, 5, 4, 10, 9, 8], [0, 1, 2, 3, 4, 5, 6, 7, 8, 9, 10, 11, 12, 13], [14, 0, 1, 2, 3, 4, 5, 6, 7, 8, 9, 10, 11, 12, 13]]) else ([], [])
def goal_marm (l : List Int) : Prop := goalM (X := ArmV × List Int) T32 ot_marm (inv_marm l) Tryd.f37 [.x false [.p 1000 0], iA .i64 0] [(1000, stB l)] (fun x => (Made x.1 ∧ 1 ≤ x.1.links.length) ∧ x.2.length ≤ l.length) (fun x => ⟨[(4, .x false [.p 4 0])], [(1000, stB x.2), (4, .box 34 (armW x.1 500)), (500, rowLk x.1.links)]⟩)
theorem goal_marm_vc (l : List Int) : goal_marm l = (((0:Int)≤0∧(0:Int)<4)∧∃(b:ByteArray),some [Ch.v (Value.string (ByteArray.mk (Array.mk [OfNat.ofNat 111,OfNat.ofNat 110,OfNat.ofNat 101])))]=some [Ch.v (Value.string b)]∧(((-9223372036854775808:Int)<0∧(0:Int)<9223372036854775808)∧(-9223372036854775808:Int)<0∧(0:Int)<9223372036854775808)∧∃(l_1:List Int),ints l=ints l_1∧((1:Int)≤4∧(4:Int)<9223372036854775808)∧l_1.length≤9223372036854775807∧∀(r:Int) (l':List Int),0≤r∧r<4→l'.length≤l_1.length→(0≤r∧r<4)∧∃(d:Int),ldE [[Ch.v (Value.int IntKind.i64 0)],[Ch.v (Value.int IntKind.i64 1)],[Ch.v (Value.int IntKind.i64 (-1))],[Ch.v (Value.int IntKind.i64 1)]] (0+r.toNat) 0 1=some [Ch.v (Value.int IntKind.i64 d)]∧∃(l_2:List Int),ints l'=ints l_2∧((1:Int)≤3∧(3:Int)<9223372036854775808)∧l_2.length≤9223372036854775807∧∀(r:Int) (l':List Int),0≤r∧r<3→l'.length≤l_2.length→((-9223372036854775808<d∧d<9223372036854775808)∧0<IntKind.i64.wrap (1+r)∧IntKind.i64.wrap (1+r)<9223372036854775808)∧∃(l_3:List Int),ints l'=ints l_3∧((1:Int)≤3∧(3:Int)<9223372036854775808)∧l_3.length≤9223372036854775807∧∀(r_1:Int) (l':List Int),0≤r_1∧r_1<3→l'.length≤l_3.length→(∃(x:MkX),((Made x.a∧x.l.length≤l.length∧x.a.links.length≤x.n∧1≤x.n∧x.n≤3)∧OfNat.ofNat 0=0)∧0=0∧0=0∧0=0∧IntKind.i64.wrap (1+r_1)=Int.ofNat x.n∧0=Int.ofNat x.a.links.length∧55=55∧1=1∧ints l'=ints x.l∧34=34∧ByteArray.mk (Array.mk [])=ByteArray.mk (Array.mk [])∧false=false∧ByteArray.mk (Array.mk [])=ByteArray.mk (Array.mk [])∧ByteArray.mk (Array.mk [])=ByteArray.mk (Array.mk [])∧false=false∧ByteArray.mk (Array.mk [])=ByteArray.mk (Array.mk [])∧ByteArray.mk (Array.mk [])=ByteArray.mk (Array.mk [])∧false=false∧false=false∧ByteArray.mk (Array.mk [])=ByteArray.mk (Array.mk [])∧ByteArray.mk (Array.mk [])=ByteArray.mk (Array.mk [])∧Value.slice none 0 0=Value.slice none 0 0∧34=34∧b=x.a.name∧(mkRat 0 4,mkRat 0 4).fst=x.a.x∧63≤63∧(mkRat 0 4,mkRat 0 4).snd=x.a.y∧63≤63∧false=x.a.half∧mkRat d (IntKind.i64.wrap (1+r)).toNat=x.a.t∧63≤63∧Value.slice none 0 0=Value.slice none 0 0∧0=0∧x.a.links.length=0∧List.map linkCh x.a.links=[]∧True)∧∀(x:MkX),Made x.a∧x.l.length≤l.length∧x.a.links.length≤x.n∧1≤x.n∧x.n≤3→OfNat.ofNat 0=0→bif decide (Int.ofNat x.a.links.length<Int.ofNat x.n) then ∃(l_4:List Int),ints x.l=ints l_4∧((1:Int)≤4∧(4:Int)<9223372036854775808)∧l_4.length≤9223372036854775807∧∀(r:Int) (l':List Int),0≤r∧r<4→l'.length≤l_4.length→((-9223372036854775808<IntKind.i64.wrap (4+IntKind.i64.wrap (2*r))∧IntKind.i64.wrap (4+IntKind.i64.wrap (2*r))<9223372036854775808)∧(0:Int)<4∧(4:Int)<9223372036854775808)∧∃(l_5:List Int),ints l'=ints l_5∧((1:Int)≤6∧(6:Int)<9223372036854775808)∧l_5.length≤9223372036854775807∧∀(r_2:Int) (l':List Int),0≤r_2∧r_2<6→l'.length≤l_5.length→((-9223372036854775808<IntKind.i64.wrap (-1-r_2)∧IntKind.i64.wrap (-1-r_2)<9223372036854775808)∧(0:Int)<3∧(3:Int)<9223372036854775808)∧∃(l_6:List Int),ints l'=ints l_6∧((1:Int)≤6∧(6:Int)<9223372036854775808)∧l_6.length≤9223372036854775807∧∀(r_3:Int) (l':List Int),0≤r_3∧r_3<6→l'.length≤l_6.length→((-9223372036854775808<IntKind.i64.wrap (1+r_3)∧IntKind.i64.wrap (1+r_3)<9223372036854775808)∧(0:Int)<3∧(3:Int)<9223372036854775808)∧∃(l_7:List Int),ints l'=ints l_7∧((1:Int)≤8∧(8:Int)<9223372036854775808)∧l_7.length≤9223372036854775807∧∀(r_4:Int) (l':List Int),0≤r_4∧r_4<8→l'.length≤l_7.length→(((-9223372036854775808:Int)<1∧(1:Int)<9223372036854775808)∧0<IntKind.i64.wrap (4+r_4)∧IntKind.i64.wrap (4+r_4)<9223372036854775808)∧∃(l_8:List Int),ints l'=ints l_8∧((1:Int)≤20∧(20:Int)<9223372036854775808)∧l_8.length≤9223372036854775807∧∀(r_5:Int) (l':List Int),0≤r_5∧r_5<20→l'.length≤l_8.length→(((-9223372036854775808:Int)<1∧(1:Int)<9223372036854775808)∧0<IntKind.i64.wrap (10+r_5)∧IntKind.i64.wrap (10+r_5)<9223372036854775808)∧((((-9223372036854775808:Int)< -1∧(-1:Int)<9223372036854775808)∧(-9223372036854775808:Int)< -1∧(-1:Int)<9223372036854775808)∧(-9223372036854775808<IntKind.i64.wrap (IntKind.i64.wrap (4+IntKind.i64.wrap (2*r))+1)∧IntKind.i64.wrap (IntKind.i64.wrap (4+IntKind.i64.wrap (2*r))+1)<9223372036854775808)∧(-9223372036854775808:Int)<1∧(1:Int)<9223372036854775808)∧∃(l_9:List Int),ints l'=ints l_9∧((1:Int)≤3∧(3:Int)<9223372036854775808)∧l_9.length≤9223372036854775807∧∀(r_6:Int) (l':List Int),0≤r_6∧r_6<3→l'.length≤l_9.length→bif r_6==2 then (((-9223372036854775808:Int)< -1∧(-1:Int)<9223372036854775808)∧(-9223372036854775808:Int)< -1∧(-1:Int)<9223372036854775808)∧((-9223372036854775808<IntKind.i64.wrap (IntKind.i64.wrap (4+IntKind.i64.wrap (2*r))+1)∧IntKind.i64.wrap (IntKind.i64.wrap (4+IntKind.i64.wrap (2*r))+1)<9223372036854775808)∧(-9223372036854775808:Int)<0∧(0:Int)<9223372036854775808)∧(((-9223372036854775808:Int)< -1∧(-1:Int)<9223372036854775808)∧(-9223372036854775808:Int)<1∧(1:Int)<9223372036854775808)∧((x.a.links.length+1)*224≤140737488355328∧x.a.links.length+1≤9223372036854775807)∧∃(x':MkX),((Made x'.a∧x'.l.length≤l.length∧x'.a.links.length≤x'.n∧1≤x'.n∧x'.n≤3)∧OfNat.ofNat 0=0∧x'.n-x'.a.links.length<x.n-x.a.links.length)∧0=0∧0=0∧0=0∧Int.ofNat x.n=Int.ofNat x'.n∧IntKind.i64.wrap (Int.ofNat x.a.links.length+1)=Int.ofNat x'.a.links.length∧55=55∧1=1∧ints l'=ints x'.l∧34=34∧ByteArray.mk (Array.mk [])=ByteArray.mk (Array.mk [])∧false=false∧ByteArray.mk (Array.mk [])=ByteArray.mk (Array.mk [])∧ByteArray.mk (Array.mk [])=ByteArray.mk (Array.mk [])∧false=false∧ByteArray.mk (Array.mk [])=ByteArray.mk (Array.mk [])∧ByteArray.mk (Array.mk [])=ByteArray.mk (Array.mk [])∧false=false∧false=false∧ByteArray.mk (Array.mk [])=ByteArray.mk (Array.mk [])∧ByteArray.mk (Array.mk [])=ByteArray.mk (Array.mk [])∧Value.slice none 0 0=Value.slice none 0 0∧34=34∧x.a.name=x'.a.name∧x.a.x=x'.a.x∧63≤63∧x.a.y=x'.a.y∧63≤63∧x.a.half=x'.a.half∧x.a.t=x'.a.t∧63≤63∧0=0∧x.a.links.length+1=x'.a.links.length∧103=103∧16=16∧(List.take x.a.links.length (List.map linkCh x.a.links)++[[Ch.r (mkRat (IntKind.i64.wrap (4+IntKind.i64.wrap (2*r))) 4) 63,Ch.r (mkRat (IntKind.i64.wrap (-1-r_2)) 3) 63,Ch.r (mkRat (IntKind.i64.wrap (1+r_3)) 3) 63,Ch.r (mkRat 1 (IntKind.i64.wrap (4+r_4)).toNat) 63,Ch.r (mkRat 1 (IntKind.i64.wrap (10+r_5)).toNat) 63,Ch.s 6 [[Ch.r (mkRat (-1) 4,mkRat (-1) 4).fst 63,Ch.r (mkRat (-1) 4,mkRat (-1) 4).snd 63],[Ch.r (mkRat (IntKind.i64.wrap (IntKind.i64.wrap (4+IntKind.i64.wrap (2*r))+1)) 4,mkRat 0 4).fst 63,Ch.r (mkRat (IntKind.i64.wrap (IntKind.i64.wrap (4+IntKind.i64.wrap (2*r))+1)) 4,mkRat 0 4).snd 63],[Ch.r (mkRat (-1) 4,mkRat 1 4).fst 63,Ch.r (mkRat (-1) 4,mkRat 1 4).snd 63]]]]=List.map linkCh x'.a.links∨RowLE (List.take x.a.links.length (List.map linkCh x.a.links)++[[Ch.r (mkRat (IntKind.i64.wrap (4+IntKind.i64.wrap (2*r))) 4) 63,Ch.r (mkRat (IntKind.i64.wrap (-1-r_2)) 3) 63,Ch.r (mkRat (IntKind.i64.wrap (1+r_3)) 3) 63,Ch.r (mkRat 1 (IntKind.i64.wrap (4+r_4)).toNat) 63,Ch.r (mkRat 1 (IntKind.i64.wrap (10+r_5)).toNat) 63,Ch.s 6 [[Ch.r (mkRat (-1) 4,mkRat (-1) 4).fst 63,Ch.r (mkRat (-1) 4,mkRat (-1) 4).snd 63],[Ch.r (mkRat (IntKind.i64.wrap (IntKind.i64.wrap (4+IntKind.i64.wrap (2*r))+1)) 4,mkRat 0 4).fst 63,Ch.r (mkRat (IntKind.i64.wrap (IntKind.i64.wrap (4+IntKind.i64.wrap (2*r))+1)) 4,mkRat 0 4).snd 63],[Ch.r (mkRat (-1) 4,mkRat 1 4).fst 63,Ch.r (mkRat (-1) 4,mkRat 1 4).snd 63]]]]) (List.map linkCh x'.a.links))∧True else ((x.a.links.length+1)*224≤140737488355328∧x.a.links.length+1≤9223372036854775807)∧∃(x':MkX),((Made x'.a∧x'.l.length≤l.length∧x'.a.links.length≤x'.n∧1≤x'.n∧x'.n≤3)∧OfNat.ofNat 0=0∧x'.n-x'.a.links.length<x.n-x.a.links.length)∧0=0∧0=0∧0=0∧Int.ofNat x.n=Int.ofNat x'.n∧IntKind.i64.wrap (Int.ofNat x.a.links.length+1)=Int.ofNat x'.a.links.length∧55=55∧1=1∧ints l'=ints x'.l∧34=34∧ByteArray.mk (Array.mk [])=ByteArray.mk (Array.mk [])∧false=false∧ByteArray.mk (Array.mk [])=ByteArray.mk (Array.mk [])∧ByteArray.mk (Array.mk [])=ByteArray.mk (Array.mk [])∧false=false∧ByteArray.mk (Array.mk [])=ByteArray.mk (Array.mk [])∧ByteArray.mk (Array.mk [])=ByteArray.mk (Array.mk [])∧false=false∧false=false∧ByteArray.mk (Array.mk [])=ByteArray.mk (Array.mk [])∧ByteArray.mk (Array.mk [])=ByteArray.mk (Array.mk [])∧Value.slice none 0 0=Value.slice none 0 0∧34=34∧x.a.name=x'.a.name∧x.a.x=x'.a.x∧63≤63∧x.a.y=x'.a.y∧63≤63∧x.a.half=x'.a.half∧x.a.t=x'.a.t∧63≤63∧0=0∧x.a.links.length+1=x'.a.links.length∧103=103∧16=16∧(List.take x.a.links.length (List.map linkCh x.a.links)++[[Ch.r (mkRat (IntKind.i64.wrap (4+IntKind.i64.wrap (2*r))) 4) 63,Ch.r (mkRat (IntKind.i64.wrap (-1-r_2)) 3) 63,Ch.r (mkRat (IntKind.i64.wrap (1+r_3)) 3) 63,Ch.r (mkRat 1 (IntKind.i64.wrap (4+r_4)).toNat) 63,Ch.r (mkRat 1 (IntKind.i64.wrap (10+r_5)).toNat) 63,Ch.s 6 [[Ch.r (mkRat (-1) 4,mkRat (-1) 4).fst 63,Ch.r (mkRat (-1) 4,mkRat (-1) 4).snd 63],[Ch.r (mkRat (IntKind.i64.wrap (IntKind.i64.wrap (4+IntKind.i64.wrap (2*r))+1)) 4,mkRat (-1) 4).fst 63,Ch.r (mkRat (IntKind.i64.wrap (IntKind.i64.wrap (4+IntKind.i64.wrap (2*r))+1)) 4,mkRat (-1) 4).snd 63],[Ch.r (mkRat (IntKind.i64.wrap (IntKind.i64.wrap (4+IntKind.i64.wrap (2*r))+1)) 4,mkRat 1 4).fst 63,Ch.r (mkRat (IntKind.i64.wrap (IntKind.i64.wrap (4+IntKind.i64.wrap (2*r))+1)) 4,mkRat 1 4).snd 63],[Ch.r (mkRat (-1) 4,mkRat 1 4).fst 63,Ch.r (mkRat (-1) 4,mkRat 1 4).snd 63]]]]=List.map linkCh x'.a.links∨RowLE (List.take x.a.links.length (List.map linkCh x.a.links)++[[Ch.r (mkRat (IntKind.i64.wrap (4+IntKind.i64.wrap (2*r))) 4) 63,Ch.r (mkRat (IntKind.i64.wrap (-1-r_2)) 3) 63,Ch.r (mkRat (IntKind.i64.wrap (1+r_3)) 3) 63,Ch.r (mkRat 1 (IntKind.i64.wrap (4+r_4)).toNat) 63,Ch.r (mkRat 1 (IntKind.i64.wrap (10+r_5)).toNat) 63,Ch.s 6 [[Ch.r (mkRat (-1) 4,mkRat (-1) 4).fst 63,Ch.r (mkRat (-1) 4,mkRat (-1) 4).snd 63],[Ch.r (mkRat (IntKind.i64.wrap (IntKind.i64.wrap (4+IntKind.i64.wrap (2*r))+1)) 4,mkRat (-1) 4).fst 63,Ch.r (mkRat (IntKind.i64.wrap (IntKind.i64.wrap (4+IntKind.i64.wrap (2*r))+1)) 4,mkRat (-1) 4).snd 63],[Ch.r (mkRat (IntKind.i64.wrap (IntKind.i64.wrap (4+IntKind.i64.wrap (2*r))+1)) 4,mkRat 1 4).fst 63,Ch.r (mkRat (IntKind.i64.wrap (IntKind.i64.wrap (4+IntKind.i64.wrap (2*r))+1)) 4,mkRat 1 4).snd 63],[Ch.r (mkRat (-1) 4,mkRat 1 4).fst 63,Ch.r (mkRat (-1) 4,mkRat 1 4).snd 63]]]]) (List.map linkCh x'.a.links))∧True else ∃(x_1:ArmV × List Int),((Made x_1.fst∧1≤x_1.fst.links.length)∧x_1.snd.length≤l.length)∧0=0∧55=55∧1=1∧ints x.l=ints x_1.snd∧34=34∧x.a.name=x_1.fst.name∧x.a.x=x_1.fst.x∧63≤63∧x.a.y=x_1.fst.y∧63≤63∧x.a.half=x_1.fst.half∧x.a.t=x_1.fst.t∧63≤63∧0=0∧x.a.links.length=x_1.fst.links.length∧103=103∧16=16∧(List.map linkCh x.a.links=List.map linkCh x_1.fst.links∨RowLE (List.map linkCh x.a.links) (List.map linkCh x_1.fst.links))∧True) := by kernel_rfl
theorem Made.add {a : ArmV} {L : LinkV} (h : Made a) (hL : MadeLink L) (hn : a.links.length < 3) : Made { a with links := a.links ++ [L] } :=
 ⟨h.name, h.x, h.y, h.half, h.t, by simp only [List.length_append, List.length_cons, List.length_nil]; omega, fun M hM => by
  rcases List.mem_append.1 hM with hM | hM
  ·exact h.links M hM
  ·rw [List.mem_singleton.1 hM]; exact hL⟩
theorem g_marm (l : List Int) (hl : l.length ≤ 9223372036854775807) : Holds (goal_marm l) := by
 refine ⟨?_⟩
 rw [goal_marm_vc]
 simp only [Int.ofNat_eq_natCast, true_and, and_true, Nat.zero_add, Nat.le_refl, true_implies]
 refine ⟨by omega, _, rfl, by omega, l, rfl, by omega, hl, fun r l1 hr h1 => ⟨by omega, ?_⟩⟩
 obtain ⟨d, hd, hdr⟩ : ∃ d, ldE [[Ch.v (Value.int IntKind.i64 0)], [Ch.v (Value.int IntKind.i64 1)], [Ch.v (Value.int IntKind.i64 (-1))], [Ch.v (Value.int IntKind.i64 1)]] r.toNat 0 1 = some [Ch.v (Value.int IntKind.i64 d)] ∧ -1 ≤ d ∧ d ≤ 1 := by
  have : r = 0 ∨ r = 1 ∨ r = 2 ∨ r = 3 := by omega
  rcases this with rfl | rfl | rfl | rfl
  ·exact ⟨0, rfl, by omega⟩
  ·exact ⟨1, rfl, by omega⟩
  ·exact ⟨-1, rfl, by omega⟩
  ·exact ⟨1, rfl, by omega⟩
 refine ⟨d, hd, l1, rfl, by omega, by omega, fun r2 l2 hr2 h2 => ?_⟩
 rw [w64 (n := 1 + r2) (by omega)]
 refine ⟨by omega, l2, rfl, by omega, by omega, fun r3 l3 hr3 h3 => ?_⟩
 rw [w64 (n := 1 + r3) (by omega)]
 refine ⟨⟨⟨⟨oneS, mkRat 0 4, mkRat 0 4, false, mkRat d (1 + r2).toNat, []⟩, l3, (1 + r3).toNat⟩, ⟨⟨rfl, rfl, rfl, rfl, ⟨d, 1 + r2, hdr, by omega, rfl⟩, by simp, by simp⟩, by simp only; omega, by simp, by simp only; omega, by simp only; omega⟩, by simp only; omega, rfl, rfl, rfl, rfl, rfl, rfl, rfl, rfl, rfl⟩, fun x hx => bif_mk (fun hp => ?_) (fun hp => ?_)⟩
 ·obtain ⟨hm, hl1, hn, hn1, hn3⟩ := hx
  have hp := of_decide_eq_true hp
  refine ⟨_, rfl, by omega, by omega, fun r l1 hr h1 => ?_⟩
  rw [w64 (n := 2 * r) (by omega), w64 (n := 4 + 2 * r) (by omega)]
  refine ⟨by omega, l1, rfl, by omega, by omega, fun i l2 hi h2 => ?_⟩
  rw [w64 (n := -1 - i) (by omega)]
  refine ⟨by omega, l2, rfl, by omega, by omega, fun j l3 hj h3 => ?_⟩
  rw [w64 (n := 1 + j) (by omega)]
  refine ⟨by omega, l3, rfl, by omega, by omega, fun s l4 hs h4 => ?_⟩
  rw [w64 (n := 4 + s) (by omega)]
  refine ⟨by omega, l4, rfl, by omega, by omega, fun b l5 hb h5 => ?_⟩
  rw [w64 (n := 10 + b) (by omega), w64 (n := 4 + 2 * r + 1) (by omega)]
  refine ⟨by omega, by omega, l5, rfl, by omega, by omega, fun q l6 hq h6 => ?_⟩
  have hL : ∀ tri, MadeLink (mkLink (4 + 2 * r) i j s b tri) := fun tri => ⟨r, i, j, s, b, tri, hr, hi, hj, hs, hb, rfl⟩
  have ht : ∀ L : LinkV, List.take x.a.links.length (List.map linkCh x.a.links) ++ [linkCh L] = List.map linkCh (x.a.links ++ [L]) := fun L => by
   rw [List.take_of_length_le (by rw [List.length_map]; exact Nat.le_refl _), List.map_append]; rfl
  refine bif_mk (fun _ => ⟨by omega, by omega, by omega, by omega, ⟨{ x.a with links := x.a.links ++ [mkLink (4 + 2 * r) i j s b true] }, l6, x.n⟩, ⟨⟨hm.add (hL true) (by omega), by simp only; omega, ?_, hn1, hn3⟩, ?_⟩, rfl, ?_, rfl, rfl, rfl, rfl, rfl, rfl, by simp, .inl (ht (mkLink _ _ _ _ _ true))⟩) (fun _ => ⟨by omega, ⟨{ x.a with links := x.a.links ++ [mkLink (4 + 2 * r) i j s b false] }, l6, x.n⟩, ⟨⟨hm.add (hL false) (by omega), by simp only; omega, ?_, hn1, hn3⟩, ?_⟩, rfl, ?_, rfl, rfl, rfl, rfl, rfl, rfl, by simp, .inl (ht (mkLink _ _ _ _ _ false))⟩)
  all_goals simp only [List.length_append, List.length_cons, List.length_nil]
  all_goals first | omega | (rw [w64 (by omega)]; simp)
 ·obtain ⟨hm, hl1, hn, hn1, hn3⟩ := hx
  have hp := of_decide_eq_false hp
  exact ⟨⟨x.a, x.l⟩, ⟨⟨hm, by simp only; omega⟩, hl1⟩, rfl, rfl, rfl, rfl, rfl, rfl, rfl, .inl rfl⟩
end Go.Proofs
/- gantmake.arm, Arm: contracts. -/
namespace Go.Proofs
open Go Go.Eng
def MadeA (a : ArmV) : Prop := Made a ∧ 1 ≤ a.links.length
def c_marm : CtrM := fun as0 H d => match as0 with
 | [.x false [.p k o], .x false [.v (.int .i64 n)]] => match o with
  | 0 => match H k with
   | some (.box t [.s 1 xs]) => match H d with
    | none => bif t.beq 55 then
     some fun K => ∃ l, xs = ints l ∧ n = 0 ∧ l.length ≤ 9223372036854775807 ∧ ∀ (a : ArmV) (l' : List Int), MadeA a → l'.length ≤ l.length →
      K (.x true (armW a d)) (backH [(1000, k), (500, d)] (lookH [(1000, stB l'), (4, .box 34 (armW a 500)), (500, rowLk a.links)]) H)
     else none
    | some _ => none
   | _ => none
  | _ + 1 => none
 | _ => none
theorem ok_marm : CtrMOK Tryd.prog tabG debT 37 c_marm := by
 refine ⟨enters Tryd.func37 (by kernel_rfl), fun l H d T hT K hK => ?_⟩
 unfold c_marm at hT
 split at hT
 ·rename_i k o n
  split at hT
  ·split at hT
   ·rename_i t xs e1
    split at hT
    ·rename_i hd
     cases hb : t.beq 55 with
     | false => rw [hb] at hT; cases hT
     | true =>
      rw [hb] at hT
      cases hT
      have ht := Nat.eq_of_beq_eq_true hb
      subst ht
      obtain ⟨l, rfl, rfl, hl, hK⟩ := hK
      refine specM_of (R := [(1000, k)]) (N := [(500, d)]) (Hl := [(1000, stB l)]) T32ok mixed Tryd.func37 (by kernel_rfl) (by kernel_rfl) (by rfl)
       (as0 := [.x false [.p 1000 0], iA .i64 0]) ?_ (hand1 e1 rfl rfl) rfl (by simp) (by simp) (fun p hp => by simp at hp; subst hp; exact hd) (fun x => ⟨fun p hp => ?_, fun p hp b hb => ?_⟩) (g_marm l hl) (fun x hx => ?_)
      ·simp [renAs, renAV, renCh, lkB, iA]
      ·simp at hp
       subst hp
       exact fun h => by have h' : some (stB _) = none := h; cases h'
      ·simp at hp
       rcases hp with rfl | rfl
       ·have h' : some (stB _) = some b := hb; cases h'; rfl
       ·have h' : some (rowLk _) = some b := hb; cases h'; rfl
      ·exact ⟨_, rfl, hK _ _ hx.1 hx.2⟩
    ·cases hT
   ·cases hT
  ·cases hT
 ·cases hT
def M33 : List (Nat × CtrM) := (37, c_marm) :: M30
noncomputable def T33 : Tabs := mkT L32 M33 X4
theorem M33ok : CtrMsOK Tryd.prog tabG debT M33 := .cons ok_marm M30ok
theorem T33ok : TabsOK Tryd.prog tabG debT T33 := mkTok L32ok M33ok X4ok
def ot_mArm : OT := fun _ => ([], [])
def goal_mArm (l : List Int) (K : AV → Prop) : Prop := goalL T33 ot_mArm noL Tryd.f10 [.x false [.s 1 (ints l)]] K
theorem goal_mArm_vc (l : List Int) (K : AV → Prop) : goal_mArm l K = (∃(l_1:List Int),ints l=ints l_1∧(0:Int)=0∧l_1.length≤9223372036854775807∧∀(a:ArmV) (l':List Int),Made a∧1≤a.links.length→l'.length≤l_1.length→K (AV.x true [Ch.v (Value.string a.name),Ch.r a.x 63,Ch.r a.y 63,Ch.v (Value.bool a.half),Ch.r a.t 63,Ch.s 16 (List.take a.links.length (List.drop 0 (List.map linkCh a.links)))])) := by kernel_rfl
theorem g_mArm (l : List Int) (hc : (l.length ≤ 9223372036854775807)) (K : AV → Prop) (hK : ∀ a : ArmV, MadeA a → K (armA a)) : Holds (goal_mArm l K) := by
 refine ⟨?_⟩
 rw [goal_mArm_vc]
 try simp only [true_and]
 refine ⟨l, rfl, hc, fun a l' ha _ => ?_⟩
 have := hK a ha
 unfold armA armCh at this
 rw [List.drop_zero, List.take_of_length_le (by rw [List.length_map]; exact Nat.le_refl _)]
 exact this
def c_mArm : Ctr := fun as0 => match as0 with
 | [.x false [.s 1 xs]] => some fun K => ∃ (l : List Int), xs = ints l ∧ ((l.length ≤ 9223372036854775807)) ∧ (∀ a : ArmV, MadeA a → K (armA a))
 | _ => none
theorem ok_mArm : CtrOK Tryd.prog tabG debT 10 c_mArm := by
 refine ⟨enters Tryd.func10 (by kernel_rfl), fun l T hT K hK => ?_⟩
 unfold c_mArm at hT
 split at hT
 ·cases hT
  obtain ⟨l, rfl, hc, hK⟩ := hK
  exact spec_ofL T33ok mixed Tryd.func10 (by kernel_rfl) (by kernel_rfl) (by rfl) (g_mArm _ hc K hK)
 ·cases hT
def L34 : List (Nat × Ctr) := (10, c_mArm) :: L32
noncomputable def T34 : Tabs := mkT L34 M33 X4
theorem L34ok : CtrsOK Tryd.prog tabG debT L34 := .cons ok_mArm L32ok
end Go.Proofs
/- Small numbers; vectors; polygons. -/
namespace Go.Proofs
open Go Go.Eng
def SmallR (q : Rat) : Prop := q.num.natAbs ≤ 1000000 ∧ q.den ≤ 1000
def lft (a b c : Rat × Rat) : Rat := (b.1 - a.1) * (c.2 - a.2) - (b.2 - a.2) * (c.1 - a.1)
structure PolyOK (l : List (Rat × Rat)) : Prop where
 lo : 3 ≤ l.length
 hi : l.length ≤ 8
 left : ∀ i k a b c, 2 ≤ k → k < l.length → l[i]? = some a → l[(i + 1) % l.length]? = some b → l[(i + k) % l.length]? = some c → 0 < lft a b c
def L35 : List (Nat × Ctr) := L34
theorem L35ok : CtrsOK Tryd.prog tabG debT L35 := L34ok
def L36 : List (Nat × Ctr) := L35
theorem L36ok : CtrsOK Tryd.prog tabG debT L36 := L35ok
def L37 : List (Nat × Ctr) := L36
theorem L37ok : CtrsOK Tryd.prog tabG debT L37 := L36ok
def L38 : List (Nat × Ctr) := L37
noncomputable def T38 : Tabs := mkT L38 M33 X4
theorem L38ok : CtrsOK Tryd.prog tabG debT L38 := L37ok
end Go.Proofs
/- Small numbers, names, polygons of a works. -/
namespace Go.Proofs
open Go Go.Eng
def NameOK (b : ByteArray) : Prop := (1 ≤ b.size ∧ b.size ≤ 12) ∧ ∀ (i : Nat) (x : UInt8), b.data.toList[i]? = some x → 97 ≤ x.toNat ∧ x.toNat ≤ 122
def L39 : List (Nat × Ctr) := L38
theorem L39ok : CtrsOK Tryd.prog tabG debT L39 := L38ok
def L40 : List (Nat × Ctr) := L39
theorem L40ok : CtrsOK Tryd.prog tabG debT L40 := L39ok
def L41 : List (Nat × Ctr) := L40
noncomputable def T41 : Tabs := mkT L41 M33 X4
theorem L41ok : CtrsOK Tryd.prog tabG debT L41 := L40ok
end Go.Proofs
/- Valid arms: Check, Has, Fits. -/
namespace Go.Proofs
open Go Go.Eng
structure GoodLink (L : LinkV) : Prop where
 small : SmallR L.len ∧ SmallR L.lo ∧ SmallR L.hi ∧ SmallR L.sp ∧ SmallR L.br
 len : 0 < L.len
 lim : L.lo < L.hi
 sp : 0 < L.sp
 br : 0 < L.br
 poly : PolyOK L.shape
 shape : ∀ p ∈ L.shape, SmallR p.1 ∧ SmallR p.2
structure GoodArm (a : ArmV) : Prop where
 name : NameOK a.name
 n : 1 ≤ a.links.length ∧ a.links.length ≤ 3
 small : SmallR a.x ∧ SmallR a.y ∧ SmallR a.t
 half : a.half = true → a.t = 0
 links : ∀ L ∈ a.links, GoodLink L
def Fit (a : ArmV) (qs : List Rat) : Prop := ∀ (i : Nat) (L : LinkV) (q : Rat), a.links[i]? = some L → qs[i]? = some q → L.lo ≤ q ∧ q ≤ L.hi
theorem link_ld {l : List LinkV} {i : Nat} {L : LinkV} (h : l[i]? = some L) : ldE (l.map linkCh) i 0 16 = some (linkCh L) := by
 simp only [ldE, List.getElem?_map, h]; rfl
def L42 : List (Nat × Ctr) := L41
theorem L42ok : CtrsOK Tryd.prog tabG debT L42 := L41ok
def L43 : List (Nat × Ctr) := L42
theorem L43ok : CtrsOK Tryd.prog tabG debT L43 := L42ok
def L44 : List (Nat × Ctr) := L43
theorem L44ok : CtrsOK Tryd.prog tabG debT L44 := L43ok
def L45 : List (Nat × Ctr) := L44
theorem L45ok : CtrsOK Tryd.prog tabG debT L45 := L44ok
def L46 : List (Nat × Ctr) := L45
noncomputable def T46 : Tabs := mkT L46 M33 X4
theorem L46ok : CtrsOK Tryd.prog tabG debT L46 := L45ok
theorem T46ok : TabsOK Tryd.prog tabG debT T46 := mkTok L46ok M33ok X4ok
end Go.Proofs
/- Made arms are valid. -/
namespace Go.Proofs
open Go Go.Eng
theorem small_mk {n : Int} {d : Nat} (hn : n.natAbs ≤ 1000000) (hd : d ≠ 0 ∧ d ≤ 1000) : SmallR (mkRat n d) := by
 refine ⟨?_, ?_⟩
 ·rw [mk_num _ _ hd.1, Int.natAbs_tdiv, Int.natAbs_natCast]
  exact Nat.le_trans (Nat.div_le_self _ _) hn
 ·rw [mk_den _ _ hd.1]
  exact Nat.le_trans (Nat.div_le_self _ _) hd.2
def polyB (l : List (Rat × Rat)) : Bool := decide (3 ≤ l.length) && decide (l.length ≤ 8) && (List.range l.length).all fun i => (List.range l.length).all fun k => decide (k < 2) || decide (0 < lft (l.getD i (0, 0)) (l.getD ((i + 1) % l.length) (0, 0)) (l.getD ((i + k) % l.length) (0, 0)))
theorem polyB_ok {l : List (Rat × Rat)} (h : polyB l = true) : PolyOK l := by
 simp only [polyB, Bool.and_eq_true, decide_eq_true_eq, List.all_eq_true, List.mem_range, Bool.or_eq_true] at h
 obtain ⟨⟨h1, h2⟩, h3⟩ := h
 refine ⟨h1, h2, fun i k a b c hk hkl ha hb hc => ?_⟩
 have := h3 i (List.getElem?_eq_some_iff.1 ha).1 k hkl
 simp only [List.getD_eq_getElem?_getD, ha, hb, hc, Option.getD_some] at this
 rcases this with h | h
 ·omega
 ·exact h
theorem shapes_ok : ([4, 6, 8, 10] : List Int).all (fun n => polyB (rect4 (-1) (-1) (n + 1) 1) && polyB [at4 (-1) (-1), at4 (n + 1) 0, at4 (-1) 1]) = true := by decide +kernel
theorem MadeLink.good {L : LinkV} (h : MadeLink L) : GoodLink L := by
 obtain ⟨r, i, j, s, b, tri, hr, hi, hj, hs, hb, rfl⟩ := h
 have hsh := List.all_eq_true.1 shapes_ok (4 + 2 * r) (by
  have : r = 0 ∨ r = 1 ∨ r = 2 ∨ r = 3 := by omega
  rcases this with rfl | rfl | rfl | rfl <;> decide)
 simp only [Bool.and_eq_true] at hsh
 have lo : mkRat (-1 - i) 3 < 0 := by
  have := mkRat_pos (n := 1 + i) (d := 3) (by omega) (by decide)
  have e : mkRat (-1 - i) 3 = -mkRat (1 + i) 3 := by rw [Rat.neg_mkRat]; congr 1; omega
  rw [e]; grind
 have hi' := mkRat_pos (n := 1 + j) (d := 3) (by omega) (by decide)
 refine ⟨⟨?_, ?_, ?_, ?_, ?_⟩, ?_, ?_, ?_, ?_, ?_, ?_⟩
 ·exact small_mk (by omega) (by decide)
 ·exact small_mk (by omega) (by decide)
 ·exact small_mk (by omega) (by decide)
 ·exact small_mk (by omega) (by omega)
 ·exact small_mk (by omega) (by omega)
 ·exact mkRat_pos (by omega) (by decide)
 ·show mkRat (-1 - i) 3 < mkRat (1 + j) 3
  grind
 ·exact mkRat_pos (by omega) (by omega)
 ·exact mkRat_pos (by omega) (by omega)
 ·cases tri
  ·exact polyB_ok hsh.1
  ·exact polyB_ok hsh.2
 ·have c : ∀ x y : Int, x.natAbs ≤ 1000000 → y.natAbs ≤ 1000000 → SmallR (at4 x y).1 ∧ SmallR (at4 x y).2 := fun x y hx hy => ⟨small_mk hx (by decide), small_mk hy (by decide)⟩
  intro p hp
  cases tri
  ·simp only [mkLink, cond_false, rect4, List.mem_cons, List.not_mem_nil, or_false] at hp
   rcases hp with rfl | rfl | rfl | rfl <;> exact c _ _ (by omega) (by omega)
  ·simp only [mkLink, cond_true, List.mem_cons, List.not_mem_nil, or_false] at hp
   rcases hp with rfl | rfl | rfl <;> exact c _ _ (by omega) (by omega)
theorem oneS_ok : NameOK oneS := by
 refine ⟨by decide, fun i x hx => ?_⟩
 match i, hx with
 | 0, hx => cases hx; decide
 | 1, hx => cases hx; decide
 | 2, hx => cases hx; decide
 | i + 3, hx => cases hx
theorem MadeA.good {a : ArmV} (h : MadeA a) : GoodArm a := by
 obtain ⟨⟨h1, h2, h3, h4, h5, h6, h7⟩, h8⟩ := h
 obtain ⟨c, d, hc, hd, ht⟩ := h5
 refine ⟨by rw [h1]; exact oneS_ok, ⟨h8, h6⟩, ⟨?_, ?_, ?_⟩, fun h => absurd (h4.symm.trans h) (by decide), fun L hL => (h7 L hL).good⟩
 ·rw [h2]; exact small_mk (by decide) (by decide)
 ·rw [h3]; exact small_mk (by decide) (by decide)
 ·rw [ht]; exact small_mk (by omega) (by omega)
/-- What tracks lean on. -/
theorem MadeLink.wide {L : LinkV} (h : MadeLink L) : L.hi - L.lo ≤ 4 ∧ mkRat 1 11 ≤ L.sp := by
  obtain ⟨r, i, j, s, b, tri, hr, hi, hj, hs, hb, rfl⟩ := h
  show mkRat (1 + j) 3 - mkRat (-1 - i) 3 ≤ 4 ∧ mkRat 1 11 ≤ mkRat 1 (4 + s).toNat
  have hj' : j = 0 ∨ j = 1 ∨ j = 2 ∨ j = 3 ∨ j = 4 ∨ j = 5 := by omega
  have hi' : i = 0 ∨ i = 1 ∨ i = 2 ∨ i = 3 ∨ i = 4 ∨ i = 5 := by omega
  have hs' : s = 0 ∨ s = 1 ∨ s = 2 ∨ s = 3 ∨ s = 4 ∨ s = 5 ∨ s = 6 ∨ s = 7 := by omega
  constructor
  · rcases hj' with rfl | rfl | rfl | rfl | rfl | rfl <;> rcases hi' with rfl | rfl | rfl | rfl | rfl | rfl <;> decide +kernel
  · rcases hs' with rfl | rfl | rfl | rfl | rfl | rfl | rfl | rfl <;> decide +kernel
end Go.Proofs
/- Configurations within the limits: fraction, conf, Conf. -/
namespace Go.Proofs
open Go Go.Eng
def fracS (q : Rat) (v : Int) (w : Int) (bs : List UInt8) (i : Nat) (ti tb tl tn : Nat) : SL := ⟨[(1, .x false [.p 1 0]), (4, iA .i64 v), (5, iA .i64 w), (tb, .x false [.s 1 (bs.map byteEl)]), (tl, iA .i64 bs.length), (ti, iA .i64 i)], [(1, .box 25 [.r q tn])]⟩
theorem pre_step {l : List UInt8} {i : Nat} {b : UInt8} (h : l[i]? = some b) : beNat (l.take (i + 1)) = 256 * beNat (l.take i) + b.toNat := by
 rw [List.take_add_one, h]
 exact beNat_snoc _ _
theorem pre_le (l : List UInt8) (i : Nat) : beNat (l.take i) ≤ beNat l := by
 conv => rhs; rw [← List.take_append_drop i l, beNat_append]
 have : 1 ≤ 256 ^ (l.drop i).length := Nat.pow_pos (by decide)
 have := Nat.mul_le_mul_left (beNat (l.take i)) this
 omega
theorem byte_ld {l : List UInt8} {i : Nat} {b : UInt8} (h : l[i]? = some b) : ldE (l.map byteEl) i 0 1 = some [.v (.int .u8 (b.toNat : Int))] := by
 simp only [ldE, List.getElem?_map, h]; rfl
theorem mul_bd {x y : Int} {a b : Nat} (hx : x.natAbs ≤ a) (hy : y.natAbs ≤ b) : (x * y).natAbs ≤ a * b := by
 rw [Int.natAbs_mul]; exact Nat.mul_le_mul hx hy
theorem conf_arith {n d m e r : Int} (hn : n.natAbs ≤ 1000000) (hd : 1 ≤ d ∧ d ≤ 1000) (hm : m.natAbs ≤ 1000000) (he : 1 ≤ e ∧ e ≤ 1000) (hr : 0 ≤ r ∧ r ≤ 8) :
  IntKind.i64.wrap (IntKind.i64.wrap (IntKind.i64.wrap (8 * n) * e) + IntKind.i64.wrap (IntKind.i64.wrap (IntKind.i64.wrap (m * d) - IntKind.i64.wrap (n * e)) * r)) = 8 * n * e + (m * d - n * e) * r ∧
  IntKind.i64.wrap (IntKind.i64.wrap (8 * d) * e) = 8 * d * e ∧ (-9223372036854775808 < 8 * n * e + (m * d - n * e) * r ∧ 8 * n * e + (m * d - n * e) * r < 9223372036854775808) ∧ 0 < 8 * d * e ∧ 8 * d * e < 9223372036854775808 := by
 have p1 := mul_bd hn (show e.natAbs ≤ 1000 by omega)
 have p2 := mul_bd hm (show d.natAbs ≤ 1000 by omega)
 have p3 := mul_bd (show (m * d - n * e).natAbs ≤ 2000000000 by omega) (show r.natAbs ≤ 8 by omega)
 have p4 := mul_bd (show (8 * n).natAbs ≤ 8000000 by omega) (show e.natAbs ≤ 1000 by omega)
 have p5 := mul_bd (show (8 * d).natAbs ≤ 8000 by omega) (show e.natAbs ≤ 1000 by omega)
 have p6 : 0 < 8 * d * e := Int.mul_pos (by omega) (by omega)
 rw [w64 (n := 8 * n) (by omega), w64 (n := 8 * n * e) (by omega), w64 (n := m * d) (by omega), w64 (n := n * e) (by omega), w64 (n := m * d - n * e) (by omega), w64 (n := (m * d - n * e) * r) (by omega), w64 (n := 8 * d) (by omega), w64 (n := 8 * d * e) (by omega), w64 (by omega)]
 exact ⟨rfl, rfl, by omega, p6, by omega⟩
def ot_mFrac : OT := fun _ => ([], [])
def goal_mFrac (q : Rat) (n : Nat) (K : AV → Prop) : Prop := goalL T46 ot_mFrac (fun id => bif id.beq 3 then .inv ⟨Nat, fun i => fracS q (beNat ((natBytes q.num.natAbs).take i)) 0 (natBytes q.num.natAbs) i 14 12 13 n, fun i => i ≤ (natBytes q.num.natAbs).length, fun i => (natBytes q.num.natAbs).length - i, fun _ => 0⟩ else .inv ⟨Nat, fun i => fracS q q.num.natAbs (beNat ((natBytes q.den).take i)) (natBytes q.den) i 28 26 27 n, fun i => i ≤ (natBytes q.den).length, fun i => (natBytes q.den).length - i, fun _ => 0⟩) Tryd.f66 [rA q n] K
theorem goal_mFrac_vc (q : Rat) (n : Nat) (K : AV → Prop) : goal_mFrac q n K = ((∃(x:Nat),(x≤(natBytes q.num.natAbs).length∧OfNat.ofNat 0=0)∧0=0∧0=Int.ofNat (beNat (List.take x (natBytes q.num.natAbs)))∧(0:Int)=0∧1=1∧List.map byteEl (natBytes q.num.natAbs)=List.map byteEl (natBytes q.num.natAbs)∧Int.ofNat (List.map byteEl (natBytes q.num.natAbs)).length=Int.ofNat (natBytes q.num.natAbs).length∧0=Int.ofNat x∧25=25∧q=q∧n≤n∧True)∧∀(x:Nat),x≤(natBytes q.num.natAbs).length→OfNat.ofNat 0=0→bif decide (Int.ofNat x<Int.ofNat (natBytes q.num.natAbs).length) then (0≤Int.ofNat x∧Int.ofNat x<Int.ofNat (List.map byteEl (natBytes q.num.natAbs)).length)∧∃(d:Int),ldE (List.map byteEl (natBytes q.num.natAbs)) (Int.ofNat x).toNat 0 1=some [Ch.v (Value.int IntKind.u8 d)]∧∃(x':Nat),(x'≤(natBytes q.num.natAbs).length∧OfNat.ofNat 0=0∧(natBytes q.num.natAbs).length-x'<(natBytes q.num.natAbs).length-x)∧0=0∧IntKind.i64.wrap (IntKind.i64.wrap (256*Int.ofNat (beNat (List.take x (natBytes q.num.natAbs))))+IntKind.i64.wrap d)=Int.ofNat (beNat (List.take x' (natBytes q.num.natAbs)))∧(0:Int)=0∧1=1∧List.map byteEl (natBytes q.num.natAbs)=List.map byteEl (natBytes q.num.natAbs)∧Int.ofNat (natBytes q.num.natAbs).length=Int.ofNat (natBytes q.num.natAbs).length∧IntKind.i64.wrap (Int.ofNat x+1)=Int.ofNat x'∧25=25∧q=q∧n≤n∧True else (∃(x_1:Nat),(x_1≤(natBytes q.den).length∧OfNat.ofNat 0=0)∧0=0∧Int.ofNat (beNat (List.take x (natBytes q.num.natAbs)))=Int.ofNat q.num.natAbs∧0=Int.ofNat (beNat (List.take x_1 (natBytes q.den)))∧1=1∧List.map byteEl (natBytes q.den)=List.map byteEl (natBytes q.den)∧Int.ofNat (List.map byteEl (natBytes q.den)).length=Int.ofNat (natBytes q.den).length∧0=Int.ofNat x_1∧25=25∧q=q∧n≤n∧True)∧∀(x:Nat),x≤(natBytes q.den).length→OfNat.ofNat 0=0→bif decide (Int.ofNat x<Int.ofNat (natBytes q.den).length) then (0≤Int.ofNat x∧Int.ofNat x<Int.ofNat (List.map byteEl (natBytes q.den)).length)∧∃(d:Int),ldE (List.map byteEl (natBytes q.den)) (Int.ofNat x).toNat 0 1=some [Ch.v (Value.int IntKind.u8 d)]∧∃(x':Nat),(x'≤(natBytes q.den).length∧OfNat.ofNat 0=0∧(natBytes q.den).length-x'<(natBytes q.den).length-x)∧0=0∧Int.ofNat q.num.natAbs=Int.ofNat q.num.natAbs∧IntKind.i64.wrap (IntKind.i64.wrap (256*Int.ofNat (beNat (List.take x (natBytes q.den))))+IntKind.i64.wrap d)=Int.ofNat (beNat (List.take x' (natBytes q.den)))∧1=1∧List.map byteEl (natBytes q.den)=List.map byteEl (natBytes q.den)∧Int.ofNat (natBytes q.den).length=Int.ofNat (natBytes q.den).length∧IntKind.i64.wrap (Int.ofNat x+1)=Int.ofNat x'∧25=25∧q=q∧n≤n∧True else bif decide (q.num<0) then K (AV.t [(false,[Ch.v (Value.int IntKind.i64 (IntKind.i64.wrap (0-Int.ofNat q.num.natAbs)))]),(false,[Ch.v (Value.int IntKind.i64 (bif true then if 1>Int.ofNat (beNat (List.take x (natBytes q.den))) then 1 else Int.ofNat (beNat (List.take x (natBytes q.den))) else if 1<Int.ofNat (beNat (List.take x (natBytes q.den))) then 1 else Int.ofNat (beNat (List.take x (natBytes q.den)))))])]) else K (AV.t [(false,[Ch.v (Value.int IntKind.i64 (Int.ofNat q.num.natAbs))]),(false,[Ch.v (Value.int IntKind.i64 (bif true then if 1>Int.ofNat (beNat (List.take x (natBytes q.den))) then 1 else Int.ofNat (beNat (List.take x (natBytes q.den))) else if 1<Int.ofNat (beNat (List.take x (natBytes q.den))) then 1 else Int.ofNat (beNat (List.take x (natBytes q.den)))))])])) := by kernel_rfl
theorem g_mFrac (q : Rat) (n : Nat) (hc : (q.num.natAbs < 1000000000) ∧ (q.den < 1000000000)) (K : AV → Prop) (hK : K (.t [(false, [.v (.int .i64 q.num)]), (false, [.v (.int .i64 q.den)])])) : Holds (goal_mFrac q n K) := by
 refine ⟨?_⟩
 rw [goal_mFrac_vc]
 try simp only [Int.ofNat_eq_natCast, true_and, and_true, Nat.le_refl, true_implies]
 have hl1 : beNat (natBytes q.num.natAbs) = q.num.natAbs := beNat_natBytes _
 have hl2 : beNat (natBytes q.den) = q.den := beNat_natBytes _
 have hz := q.den_nz
 have b1 : (natBytes q.num.natAbs).length ≤ 4 := natBytes_len_iff.2 (by omega)
 have b2 : (natBytes q.den).length ≤ 4 := natBytes_len_iff.2 (by omega)
 generalize natBytes q.num.natAbs = u at *
 generalize natBytes q.den = v at *
 simp only [List.length_map]
 refine ⟨⟨0, by omega, by simp [beNat_nil], trivial, rfl⟩, fun x hx => bif_mk (fun hp => ?_) (fun hp => ?_)⟩
 ·have hp : x < u.length := by have := of_decide_eq_true hp; omega
  obtain ⟨b, hb⟩ : ∃ b, u[x]? = some b := ⟨_, List.getElem?_eq_getElem hp⟩
  have e1 := pre_step hb
  have e2 := pre_le u (x + 1)
  have hb8 := b.toNat_lt
  refine ⟨by omega, _, byte_ld (by simpa using hb), x + 1, ⟨by omega, by omega⟩, ?_, by rw [w64 (by omega)]; simp⟩
  rw [w64 (n := 256 * _) (by omega), w64 (n := (b.toNat : Int)) (by omega), w64 (by omega), e1]; simp
 ·have hp : x = u.length := by have := of_decide_eq_false hp; omega
  subst hp
  refine ⟨⟨0, by omega, by rw [List.take_length, hl1], by simp [beNat_nil], trivial, rfl⟩, fun x hx => bif_mk (fun hp => ?_) (fun hp => ?_)⟩
  ·have hp : x < v.length := by have := of_decide_eq_true hp; omega
   obtain ⟨b, hb⟩ : ∃ b, v[x]? = some b := ⟨_, List.getElem?_eq_getElem hp⟩
   have e1 := pre_step hb
   have e2 := pre_le v (x + 1)
   have hb8 := b.toNat_lt
   refine ⟨by omega, _, byte_ld (by simpa using hb), x + 1, ⟨by omega, by omega⟩, ?_, by rw [w64 (by omega)]; simp⟩
   rw [w64 (n := 256 * _) (by omega), w64 (n := (b.toNat : Int)) (by omega), w64 (by omega), e1]; simp
  ·have hp : x = v.length := by have := of_decide_eq_false hp; omega
   subst hp
   rw [List.take_length, hl2]
   have e : (bif true then if (1 : Int) > (q.den : Int) then (1 : Int) else (q.den : Int) else if (1 : Int) < (q.den : Int) then (1 : Int) else (q.den : Int)) = (q.den : Int) := by
    simp only [cond_true]; rw [if_neg (by omega)]
   rw [e]
   refine bif_mk (fun h => ?_) (fun h => ?_)
   ·have h := of_decide_eq_true h
    rw [w64 (by omega), show (0 : Int) - (q.num.natAbs : Int) = q.num by omega]
    exact hK
   ·have h := of_decide_eq_false h
    rw [show (q.num.natAbs : Int) = q.num by omega]
    exact hK
def c_mFrac : Ctr := fun as0 => match as0 with
 | [.x true [.r q _n]] => some fun K => ((q.num.natAbs < 1000000000) ∧ (q.den < 1000000000)) ∧ (K (.t [(false, [.v (.int .i64 q.num)]), (false, [.v (.int .i64 q.den)])]))
 | _ => none
theorem ok_mFrac : CtrOK Tryd.prog tabG debT 66 c_mFrac := by
 refine ⟨enters Tryd.func66 (by kernel_rfl), fun l T hT K hK => ?_⟩
 unfold c_mFrac at hT
 split at hT
 ·cases hT
  obtain ⟨hc, hK⟩ := hK
  exact spec_ofL T46ok mixed Tryd.func66 (by kernel_rfl) (by kernel_rfl) (by rfl) (g_mFrac _ _ hc K hK)
 ·cases hT
def L47 : List (Nat × Ctr) := (66, c_mFrac) :: L46
noncomputable def T47 : Tabs := mkT L47 M33 X4
theorem L47ok : CtrsOK Tryd.prog tabG debT L47 := .cons ok_mFrac L46ok
theorem T47ok : TabsOK Tryd.prog tabG debT T47 := mkTok L47ok M33ok X4ok
def confsOK (ls : List LinkV) (qs : List Rat) : Prop := qs.length ≤ ls.length ∧ ∀ (i : Nat) (L : LinkV) (q : Rat), ls[i]? = some L → qs[i]? = some q → L.lo ≤ q ∧ q ≤ L.hi
structure CfX where
 qs : List Rat
 l : List Int
def cfS (a : ArmV) (x : CfX) : SL := ⟨[(1, .x false [.p 1000 0]), (5, .x false [.w 500 0 x.qs.length]), (14, .x false [.s 16 (a.links.map linkCh)]), (15, iA .i64 a.links.length), (16, iA .i64 x.qs.length)], [(1000, stB x.l), (500, rowR 63 x.qs)]⟩
def inv_conf (a : ArmV) (l : List Int) : LI := fun _ => .inv ⟨CfX, cfS a, fun x => confsOK a.links x.qs ∧ x.l.length ≤ l.length, fun x => a.links.length - x.qs.length, fun _ => 0⟩
def ot_conf : OT := fun _ => ([], [])
def goal_conf (a : ArmV) (l : List Int) : Prop := goalM (X := CfX) T47 ot_conf (inv_conf a l) Tryd.f38 [armA a, .x false [.p 1000 0]] [(1000, stB l)] (fun x => (confsOK a.links x.qs ∧ x.qs.length = a.links.length) ∧ x.l.length ≤ l.length) (fun x => ⟨[(4, .x false [.w 500 0 x.qs.length])], [(1000, stB x.l), (500, rowR 63 x.qs)]⟩)
theorem goal_conf_vc (a : ArmV) (l : List Int) : goal_conf a l = ((∃(x:CfX),(((x.qs.length≤a.links.length∧∀(i:Nat) (L:LinkV) (q:Rat),a.links[i]?=some L→x.qs[i]?=some q→L.lo≤q∧q≤L.hi)∧x.l.length≤l.length)∧OfNat.ofNat 0=0)∧0=0∧Value.slice none 0 0=Value.slice none 0 0∧0=0∧x.qs.length=0∧16=16∧List.map linkCh a.links=List.map linkCh a.links∧Int.ofNat (List.map linkCh a.links).length=Int.ofNat a.links.length∧0=Int.ofNat x.qs.length∧55=55∧1=1∧ints l=ints x.l∧List.map (fun(q:Rat)=>[Ch.r q 63]) x.qs=[]∧True)∧∀(x:CfX),(x.qs.length≤a.links.length∧∀(i:Nat) (L:LinkV) (q:Rat),a.links[i]?=some L→x.qs[i]?=some q→L.lo≤q∧q≤L.hi)∧x.l.length≤l.length→OfNat.ofNat 0=0→bif decide (Int.ofNat x.qs.length<Int.ofNat a.links.length) then (0≤Int.ofNat x.qs.length∧Int.ofNat x.qs.length<Int.ofNat (List.map linkCh a.links).length)∧∃(q:Rat),∃(n:Nat),∃(q_1:Rat),∃(n_1:Nat),∃(q_2:Rat),∃(n_2:Nat),∃(q_3:Rat),∃(n_3:Nat),∃(q_4:Rat),∃(n_4:Nat),∃(ys:List (List Ch)),ldE (List.map linkCh a.links) (Int.ofNat x.qs.length).toNat 0 16=some [Ch.r q n,Ch.r q_1 n_1,Ch.r q_2 n_2,Ch.r q_3 n_3,Ch.r q_4 n_4,Ch.s 6 ys]∧(q_1.num.natAbs<1000000000∧q_1.den<1000000000)∧(q_2.num.natAbs<1000000000∧q_2.den<1000000000)∧∃(l_1:List Int),ints x.l=ints l_1∧((1:Int)≤9∧(9:Int)<9223372036854775808)∧l_1.length≤9223372036854775807∧∀(r:Int) (l':List Int),0≤r∧r<9→l'.length≤l_1.length→((-9223372036854775808<IntKind.i64.wrap (IntKind.i64.wrap (IntKind.i64.wrap (8*q_1.num)*Int.ofNat q_2.den)+IntKind.i64.wrap (IntKind.i64.wrap (IntKind.i64.wrap (q_2.num*Int.ofNat q_1.den)-IntKind.i64.wrap (q_1.num*Int.ofNat q_2.den))*r))∧IntKind.i64.wrap (IntKind.i64.wrap (IntKind.i64.wrap (8*q_1.num)*Int.ofNat q_2.den)+IntKind.i64.wrap (IntKind.i64.wrap (IntKind.i64.wrap (q_2.num*Int.ofNat q_1.den)-IntKind.i64.wrap (q_1.num*Int.ofNat q_2.den))*r))<9223372036854775808)∧0<IntKind.i64.wrap (IntKind.i64.wrap (8*Int.ofNat q_1.den)*Int.ofNat q_2.den)∧IntKind.i64.wrap (IntKind.i64.wrap (8*Int.ofNat q_1.den)*Int.ofNat q_2.den)<9223372036854775808)∧((x.qs.length+1)*40≤140737488355328∧x.qs.length+1≤9223372036854775807)∧∃(x':CfX),(((x'.qs.length≤a.links.length∧∀(i:Nat) (L:LinkV) (q:Rat),a.links[i]?=some L→x'.qs[i]?=some q→L.lo≤q∧q≤L.hi)∧x'.l.length≤l.length)∧OfNat.ofNat 0=0∧a.links.length-x'.qs.length<a.links.length-x.qs.length)∧0=0∧0=0∧x.qs.length+1=x'.qs.length∧16=16∧List.map linkCh a.links=List.map linkCh a.links∧Int.ofNat a.links.length=Int.ofNat a.links.length∧IntKind.i64.wrap (Int.ofNat x.qs.length+1)=Int.ofNat x'.qs.length∧55=55∧1=1∧ints l'=ints x'.l∧25=25∧3=3∧(List.take x.qs.length (List.map (fun(q:Rat)=>[Ch.r q 63]) x.qs)++[[Ch.r (mkRat (IntKind.i64.wrap (IntKind.i64.wrap (IntKind.i64.wrap (8*q_1.num)*Int.ofNat q_2.den)+IntKind.i64.wrap (IntKind.i64.wrap (IntKind.i64.wrap (q_2.num*Int.ofNat q_1.den)-IntKind.i64.wrap (q_1.num*Int.ofNat q_2.den))*r))) (IntKind.i64.wrap (IntKind.i64.wrap (8*Int.ofNat q_1.den)*Int.ofNat q_2.den)).toNat) 63]]=List.map (fun(q:Rat)=>[Ch.r q 63]) x'.qs∨RowLE (List.take x.qs.length (List.map (fun(q:Rat)=>[Ch.r q 63]) x.qs)++[[Ch.r (mkRat (IntKind.i64.wrap (IntKind.i64.wrap (IntKind.i64.wrap (8*q_1.num)*Int.ofNat q_2.den)+IntKind.i64.wrap (IntKind.i64.wrap (IntKind.i64.wrap (q_2.num*Int.ofNat q_1.den)-IntKind.i64.wrap (q_1.num*Int.ofNat q_2.den))*r))) (IntKind.i64.wrap (IntKind.i64.wrap (8*Int.ofNat q_1.den)*Int.ofNat q_2.den)).toNat) 63]]) (List.map (fun(q:Rat)=>[Ch.r q 63]) x'.qs))∧True else ∃(x_1:CfX),(((x_1.qs.length≤a.links.length∧∀(i:Nat) (L:LinkV) (q:Rat),a.links[i]?=some L→x_1.qs[i]?=some q→L.lo≤q∧q≤L.hi)∧x_1.qs.length=a.links.length)∧x_1.l.length≤l.length)∧0=0∧x.qs.length=x_1.qs.length∧55=55∧1=1∧ints x.l=ints x_1.l∧25=25∧3=3∧(List.map (fun(q:Rat)=>[Ch.r q 63]) x.qs=List.map (fun(q:Rat)=>[Ch.r q 63]) x_1.qs∨RowLE (List.map (fun(q:Rat)=>[Ch.r q 63]) x.qs) (List.map (fun(q:Rat)=>[Ch.r q 63]) x_1.qs))∧True) := by kernel_rfl
theorem g_conf (a : ArmV) (l : List Int) (ha : GoodArm a) (hl : l.length ≤ 9223372036854775807) : Holds (goal_conf a l) := by
 refine ⟨?_⟩
 rw [goal_conf_vc]
 simp only [Int.ofNat_eq_natCast, true_and, and_true, true_implies]
 have hn := ha.n
 refine ⟨⟨⟨[], l⟩, ⟨⟨by simp, fun i L q _ h => by simp at h⟩, by simp⟩, rfl, by simp, rfl, rfl, rfl⟩, fun x hx => bif_mk (fun hp => ?_) (fun hp => ?_)⟩
 ·obtain ⟨⟨h1, h2⟩, h3⟩ := hx
  have hp : x.qs.length < a.links.length := by have := of_decide_eq_true hp; omega
  obtain ⟨L, hL⟩ : ∃ L, a.links[x.qs.length]? = some L := ⟨_, List.getElem?_eq_getElem hp⟩
  have hg := ha.links L (List.mem_of_getElem? hL)
  obtain ⟨_, s2, s3, _⟩ := hg.small
  have d2 := L.lo.den_nz
  have d3 := L.hi.den_nz
  refine ⟨by rw [List.length_map]; omega, _, _, _, _, _, _, _, _, _, _, _, link_ld (by simpa using hL), ⟨by have := s2.1; omega, by have := s2.2; omega⟩, ⟨by have := s3.1; omega, by have := s3.2; omega⟩, x.l, rfl, by omega, by omega, fun r l' hr hl' => ?_⟩
  obtain ⟨w1, w2, w3, w4⟩ := conf_arith (n := L.lo.num) (d := L.lo.den) (m := L.hi.num) (e := L.hi.den) (r := r) s2.1 (by have := s2.2; omega) s3.1 (by have := s3.2; omega) (by omega)
  rw [w1, w2]
  have hq := confQ_range (k := r) (Rat.le_of_lt hg.lim) (by omega)
  refine ⟨⟨w3, w4⟩, by omega, ⟨x.qs ++ [confQ L.lo L.hi r], l'⟩, ⟨⟨⟨by simp only [List.length_append, List.length_cons, List.length_nil]; omega, fun i M q hM hi => ?_⟩, by simp only; omega⟩, by simp only [List.length_append, List.length_cons, List.length_nil]; omega⟩, by simp, by rw [w64 (by omega)]; simp, rfl, .inl ?_⟩
  ·by_cases e : i < x.qs.length
   ·rw [List.getElem?_append_left e] at hi
    exact h2 i M q hM hi
   ·have hlt := (List.getElem?_eq_some_iff.1 hi).1
    simp only [List.length_append, List.length_cons, List.length_nil] at hlt
    have e' : i = x.qs.length := by omega
    subst e'
    rw [hL] at hM; cases hM
    simp at hi
    subst hi
    exact hq
  ·rw [List.take_of_length_le (by rw [List.length_map]; exact Nat.le_refl _), List.map_append]
   simp only [List.map_cons, List.map_nil]
   unfold confQ
   have e : (8 * (L.lo.den : Int) * (L.hi.den : Int)).toNat = 8 * L.lo.den * L.hi.den := by
    rw [show (8 * (L.lo.den : Int) * (L.hi.den : Int)) = ((8 * L.lo.den * L.hi.den : Nat) : Int) by simp]
    exact Int.toNat_natCast _
   rw [e]
 ·obtain ⟨⟨h1, h2⟩, h3⟩ := hx
  have hp := of_decide_eq_false hp
  exact ⟨x, ⟨⟨⟨h1, h2⟩, by omega⟩, h3⟩, rfl, rfl, .inl rfl⟩
end Go.Proofs
/- Configurations within the limits: contracts. -/
namespace Go.Proofs
open Go Go.Eng
def c_conf : CtrM := fun as0 H d => match as0 with
 | [.x true xs, .x false [.p k o]] => match o with
  | 0 => match H k with
   | some (.box t [.s 1 zs]) => match H d with
    | none => bif t.beq 55 then
     some fun K => ∃ a l, xs = armCh a ∧ zs = ints l ∧ GoodArm a ∧ l.length ≤ 9223372036854775807 ∧ ∀ (qs : List Rat) (l' : List Int), Fit a qs → qs.length = a.links.length → l'.length ≤ l.length →
      K (.x false [.w d 0 qs.length]) (backH [(1000, k), (500, d)] (lookH [(1000, stB l'), (500, rowR 63 qs)]) H)
     else none
    | some _ => none
   | _ => none
  | _ + 1 => none
 | _ => none
theorem ok_conf : CtrMOK Tryd.prog tabG debT 38 c_conf := by
 refine ⟨enters Tryd.func38 (by kernel_rfl), fun l H d T hT K hK => ?_⟩
 unfold c_conf at hT
 split at hT
 ·rename_i xs k o
  split at hT
  ·split at hT
   ·rename_i t zs e1
    split at hT
    ·rename_i hd
     cases hb : t.beq 55 with
     | false => rw [hb] at hT; cases hT
     | true =>
      rw [hb] at hT
      cases hT
      have ht := Nat.eq_of_beq_eq_true hb
      subst ht
      obtain ⟨a, l, rfl, rfl, ha, hl, hK⟩ := hK
      refine specM_of (R := [(1000, k)]) (N := [(500, d)]) (Hl := [(1000, stB l)]) T47ok mixed Tryd.func38 (by kernel_rfl) (by kernel_rfl) (by rfl)
       (as0 := [armA a, .x false [.p 1000 0]]) ?_ (hand1 e1 rfl rfl) rfl (by simp) (by simp) (fun p hp => by simp at hp; subst hp; exact hd) (fun x => ⟨fun p hp => ?_, fun p hp b hb => ?_⟩) (g_conf a l ha hl) (fun x hx => ?_)
      ·simp [renAs, renAV, renCh, lkB, armA, armCh]
      ·simp at hp
       subst hp
       exact fun h => by have h' : some (stB _) = none := h; cases h'
      ·simp at hp
       rcases hp with rfl | rfl
       ·have h' : some (stB _) = some b := hb; cases h'; rfl
       ·have h' : some (rowR _ _) = some b := hb; cases h'; rfl
      ·exact ⟨_, rfl, hK _ _ (fun i L q h1 h2 => hx.1.1.2 i L q h1 h2) hx.1.2 hx.2⟩
    ·cases hT
   ·cases hT
  ·cases hT
 ·cases hT
def M48 : List (Nat × CtrM) := (38, c_conf) :: M33
theorem M48ok : CtrMsOK Tryd.prog tabG debT M48 := .cons ok_conf M33ok
def L49 : List (Nat × Ctr) := L47
noncomputable def T49 : Tabs := mkT L49 M48 X4
theorem L49ok : CtrsOK Tryd.prog tabG debT L49 := L47ok
theorem T49ok : TabsOK Tryd.prog tabG debT T49 := mkTok L49ok M48ok X4ok
end Go.Proofs
