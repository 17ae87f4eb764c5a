/- The sample arm; the length of an arm. -/
import Derived.Test.YtglebancgilfdaaDoorA1
/- The sample arm; the length of an arm. -/
namespace Go.Proofs
open Go Go.Eng
def pt1 (x y : Int) : Rat × Rat := (mkRat x 1, mkRat y 1)
def slink (n : Int) : LinkV := ⟨mkRat n 1, mkRat (-2) 1, mkRat 2 1, mkRat 1 4, mkRat 1 10, [pt1 0 (-1), pt1 n (-1), pt1 n 1, pt1 0 1]⟩
def sampleV (ns : List Int) : ArmV := ⟨oneS, mkRat 0 1, mkRat 0 1, false, mkRat 0 1, ns.map slink⟩
structure SmX where
 i : Nat
 ls : List LinkV
theorem int_ld {l : List Int} {i : Nat} {n : Int} (h : l[i]? = some n) : ldE (ints l) i 0 1 = some [.v (.int .i64 n)] := by
 simp only [ldE, ints, List.getElem?_map, h]; rfl
theorem slinks_ok : ([3, 2, 5, 1] : List Int).all (fun n => polyB (slink n).shape) = true := by decide +kernel
theorem slink_good {n : Int} (h : n ∈ ([3, 2, 5, 1] : List Int)) : GoodLink (slink n) := by
 have hp := polyB_ok (List.all_eq_true.1 slinks_ok n h)
 have hn : 1 ≤ n ∧ n ≤ 1000 := by simp at h; omega
 refine ⟨⟨?_, ?_, ?_, ?_, ?_⟩, ?_, ?_, ?_, ?_, hp, fun p hp => ?_⟩
 ·exact small_mk (by omega) (by decide)
 ·exact small_mk (by decide) (by decide)
 ·exact small_mk (by decide) (by decide)
 ·exact small_mk (by decide) (by decide)
 ·exact small_mk (by decide) (by decide)
 ·exact mkRat_pos (by omega) (by decide)
 ·show mkRat (-2) 1 < mkRat 2 1
  decide +kernel
 ·exact mkRat_pos (by decide) (by decide)
 ·exact mkRat_pos (by decide) (by decide)
 ·have c : ∀ x y : Int, x.natAbs ≤ 1000000 → y.natAbs ≤ 1000000 → SmallR (pt1 x y).1 ∧ SmallR (pt1 x y).2 := fun x y hx hy => ⟨small_mk hx (by decide), small_mk hy (by decide)⟩
  simp only [slink, List.mem_cons, List.not_mem_nil, or_false] at hp
  rcases hp with rfl | rfl | rfl | rfl <;> exact c _ _ (by omega) (by omega)
theorem sample_good {ns : List Int} (h1 : 1 ≤ ns.length ∧ ns.length ≤ 3) (h2 : ∀ n ∈ ns, n ∈ ([3, 2, 5, 1] : List Int)) : GoodArm (sampleV ns) := by
 refine ⟨oneS_ok, by simpa [sampleV] using h1, ⟨?_, ?_, ?_⟩, fun h => Bool.noConfusion h, fun L hL => ?_⟩
 ·exact small_mk (by decide) (by decide)
 ·exact small_mk (by decide) (by decide)
 ·exact small_mk (by decide) (by decide)
 ·obtain ⟨n, hn, rfl⟩ := List.mem_map.1 hL
  exact slink_good (h2 n hn)
def ot_kPt : OT := fun _ => ([], [])
def goal_kPt (x y : Int) (K : AV → Prop) : Prop := goalL T49 ot_kPt noL Tryd.f83 [iA .i64 x, iA .i64 y] K
theorem goal_kPt_vc (x : Int) (y : Int) (K : AV → Prop) : goal_kPt x y K = (((-9223372036854775808<x∧x<9223372036854775808)∧(0:Int)<1∧(1:Int)<9223372036854775808)∧((-9223372036854775808<y∧y<9223372036854775808)∧(0:Int)<1∧(1:Int)<9223372036854775808)∧K (AV.x true [Ch.r (mkRat x 1) 63,Ch.r (mkRat y 1) 63])) := by kernel_rfl
theorem g_kPt (x y : Int) (hc : ((-9223372036854775808 < x ∧ x < 9223372036854775808) ∧ -9223372036854775808 < y ∧ y < 9223372036854775808)) (K : AV → Prop) (hK : K (.x true (vecCh (pt1 x y)))) : Holds (goal_kPt x y K) := by
 refine ⟨?_⟩
 rw [goal_kPt_vc]
 try simp only [Int.ofNat_eq_natCast, true_and, and_true, Nat.zero_add, Nat.le_refl, true_implies, true_or, or_true]
 exact ⟨by omega, by omega, hK⟩
def c_kPt : Ctr := fun as0 => match as0 with
 | [.x false [.v (.int .i64 x)], .x false [.v (.int .i64 y)]] => some fun K => (((-9223372036854775808 < x ∧ x < 9223372036854775808) ∧ -9223372036854775808 < y ∧ y < 9223372036854775808)) ∧ (K (.x true (vecCh (pt1 x y))))
 | _ => none
theorem ok_kPt : CtrOK Tryd.prog tabG debT 83 c_kPt := by
 refine ⟨enters Tryd.func83 (by kernel_rfl), fun l T hT K hK => ?_⟩
 unfold c_kPt at hT
 split at hT
 ·cases hT
  obtain ⟨hc, hK⟩ := hK
  exact spec_ofL T49ok mixed Tryd.func83 (by kernel_rfl) (by kernel_rfl) (by rfl) (g_kPt _ _ hc K hK)
 ·cases hT
def L50 : List (Nat × Ctr) := (83, c_kPt) :: L49
def T50 : Tabs := mkT L50 M48 X4
theorem L50ok : CtrsOK Tryd.prog tabG debT L50 := .cons ok_kPt L49ok
theorem T50ok : TabsOK Tryd.prog tabG debT T50 := mkTok L50ok M48ok X4ok
def ot_kSample : OT := fun id => bif id.beq 5 then ([0, 1, 2, 9, 11, 3, 4, 5, 6, 7, 8, 10, 12, 13, 14, 15, 16, 17, 18, 19], [[], [0], [], [2], [3, 2], [4, 3, 2], [5, 4, 3, 2], [6, 5, 4, 3, 2], [7, 6, 5, 4, 3, 2], [], [9, 8, 7, 6, 5, 4, 3, 2], [], [11, 10, 9, 8, 7, 6, 5, 4, 3, 2], [12, 11, 10, 9, 8, 7, 6, 5, 4, 3, 2], [8, 7, 6, 5, 4, 3, 2, 10, 9, 12, 11, 13], [3, 2, 4, 5, 6, 7, 14, 8, 10, 9, 12, 11, 13], [15, 3, 2, 4, 5, 6, 7, 14, 8, 10, 9, 12, 11, 13], [1, 0, 16, 15, 3, 2, 4, 5, 6, 7, 14, 8, 10, 9, 12, 11, 13], [0, 1, 2, 3, 4, 5, 6, 7, 8, 9, 10, 11, 12, 13, 14, 15, 16, 17], [18, 0, 1, 2, 3, 4, 5, 6, 7, 8, 9, 10, 11, 12, 13, 14, 15, 16, 17]]) else ([], [])
def goal_kSample (ns : List Int) (K : AV → Prop) : Prop := goalL T50 ot_kSample (fun _ => .inv ⟨SmX, fun x => ⟨[(2, .x false [.p 2 0]), (3, .x false [.p 3 0]), (11, .x false [.s 1 (ints ns)]), (12, iA .i64 ns.length), (13, iA .i64 x.i)], [(2, .box 34 zeroArm), (3, .box 34 [.v (.string oneS), .r (mkRat 0 1) 63, .r (mkRat 0 1) 63, .v (.bool false), .r (mkRat 0 1) 63, .w 500 0 x.ls.length]), (500, rowLk x.ls)]⟩, fun x => x.ls = (ns.take x.i).map slink ∧ x.i ≤ ns.length, fun x => ns.length - x.i, fun _ => 0⟩) Tryd.f57 [.x false [.s 1 (ints ns)]] K
theorem goal_kSample_vc (ns : List Int) (K : AV → Prop) : goal_kSample ns K = ((((-9223372036854775808:Int)<0∧(0:Int)<9223372036854775808)∧(-9223372036854775808:Int)<0∧(0:Int)<9223372036854775808)∧(((-9223372036854775808:Int)<0∧(0:Int)<9223372036854775808)∧(0:Int)<1∧(1:Int)<9223372036854775808)∧(∃(x:SmX),((x.ls=List.map slink (List.take x.i ns)∧x.i≤ns.length)∧OfNat.ofNat 0=0)∧0=0∧0=0∧1=1∧ints ns=ints ns∧Int.ofNat (ints ns).length=Int.ofNat ns.length∧0=Int.ofNat x.i∧34=34∧ByteArray.mk (Array.mk [])=ByteArray.mk (Array.mk [])∧false=false∧ByteArray.mk (Array.mk [])=ByteArray.mk (Array.mk [])∧ByteArray.mk (Array.mk [])=ByteArray.mk (Array.mk [])∧false=false∧ByteArray.mk (Array.mk [])=ByteArray.mk (Array.mk [])∧ByteArray.mk (Array.mk [])=ByteArray.mk (Array.mk [])∧false=false∧false=false∧ByteArray.mk (Array.mk [])=ByteArray.mk (Array.mk [])∧ByteArray.mk (Array.mk [])=ByteArray.mk (Array.mk [])∧Value.slice none 0 0=Value.slice none 0 0∧34=34∧ByteArray.mk (Array.mk [OfNat.ofNat 111,OfNat.ofNat 110,OfNat.ofNat 101])=ByteArray.mk (Array.mk [OfNat.ofNat 111,OfNat.ofNat 110,OfNat.ofNat 101])∧(mkRat 0 1,mkRat 0 1).fst=mkRat 0 1∧63≤63∧(mkRat 0 1,mkRat 0 1).snd=mkRat 0 1∧63≤63∧false=false∧mkRat 0 1=mkRat 0 1∧63≤63∧Value.slice none 0 0=Value.slice none 0 0∧0=0∧x.ls.length=0∧List.map linkCh x.ls=[]∧True)∧∀(x:SmX),x.ls=List.map slink (List.take x.i ns)∧x.i≤ns.length→OfNat.ofNat 0=0→bif decide (Int.ofNat x.i<Int.ofNat ns.length) then (0≤Int.ofNat x.i∧Int.ofNat x.i<Int.ofNat (ints ns).length)∧∃(d:Int),ldE (ints ns) (Int.ofNat x.i).toNat 0 1=some [Ch.v (Value.int IntKind.i64 d)]∧((-9223372036854775808<d∧d<9223372036854775808)∧(0:Int)<1∧(1:Int)<9223372036854775808)∧(((-9223372036854775808:Int)< -2∧(-2:Int)<9223372036854775808)∧(0:Int)<1∧(1:Int)<9223372036854775808)∧(((-9223372036854775808:Int)<2∧(2:Int)<9223372036854775808)∧(0:Int)<1∧(1:Int)<9223372036854775808)∧(((-9223372036854775808:Int)<1∧(1:Int)<9223372036854775808)∧(0:Int)<4∧(4:Int)<9223372036854775808)∧(((-9223372036854775808:Int)<1∧(1:Int)<9223372036854775808)∧(0:Int)<10∧(10:Int)<9223372036854775808)∧(((-9223372036854775808:Int)<0∧(0:Int)<9223372036854775808)∧(-9223372036854775808:Int)< -1∧(-1:Int)<9223372036854775808)∧((-9223372036854775808<d∧d<9223372036854775808)∧(-9223372036854775808:Int)< -1∧(-1:Int)<9223372036854775808)∧((-9223372036854775808<d∧d<9223372036854775808)∧(-9223372036854775808:Int)<1∧(1:Int)<9223372036854775808)∧(((-9223372036854775808:Int)<0∧(0:Int)<9223372036854775808)∧(-9223372036854775808:Int)<1∧(1:Int)<9223372036854775808)∧((x.ls.length+1)*224≤140737488355328∧x.ls.length+1≤9223372036854775807)∧∃(x':SmX),((x'.ls=List.map slink (List.take x'.i ns)∧x'.i≤ns.length)∧OfNat.ofNat 0=0∧ns.length-x'.i<ns.length-x.i)∧0=0∧0=0∧1=1∧ints ns=ints ns∧Int.ofNat ns.length=Int.ofNat ns.length∧IntKind.i64.wrap (Int.ofNat x.i+1)=Int.ofNat x'.i∧34=34∧ByteArray.mk (Array.mk [])=ByteArray.mk (Array.mk [])∧false=false∧ByteArray.mk (Array.mk [])=ByteArray.mk (Array.mk [])∧ByteArray.mk (Array.mk [])=ByteArray.mk (Array.mk [])∧false=false∧ByteArray.mk (Array.mk [])=ByteArray.mk (Array.mk [])∧ByteArray.mk (Array.mk [])=ByteArray.mk (Array.mk [])∧false=false∧false=false∧ByteArray.mk (Array.mk [])=ByteArray.mk (Array.mk [])∧ByteArray.mk (Array.mk [])=ByteArray.mk (Array.mk [])∧Value.slice none 0 0=Value.slice none 0 0∧34=34∧ByteArray.mk (Array.mk [OfNat.ofNat 111,OfNat.ofNat 110,OfNat.ofNat 101])=ByteArray.mk (Array.mk [OfNat.ofNat 111,OfNat.ofNat 110,OfNat.ofNat 101])∧mkRat 0 1=mkRat 0 1∧63≤63∧mkRat 0 1=mkRat 0 1∧63≤63∧false=false∧mkRat 0 1=mkRat 0 1∧63≤63∧0=0∧x.ls.length+1=x'.ls.length∧103=103∧16=16∧(List.take x.ls.length (List.map linkCh x.ls)++[[Ch.r (mkRat d 1) 63,Ch.r (mkRat (-2) 1) 63,Ch.r (mkRat 2 1) 63,Ch.r (mkRat 1 4) 63,Ch.r (mkRat 1 10) 63,Ch.s 6 [[Ch.r (mkRat 0 1,mkRat (-1) 1).fst 63,Ch.r (mkRat 0 1,mkRat (-1) 1).snd 63],[Ch.r (mkRat d 1,mkRat (-1) 1).fst 63,Ch.r (mkRat d 1,mkRat (-1) 1).snd 63],[Ch.r (mkRat d 1,mkRat 1 1).fst 63,Ch.r (mkRat d 1,mkRat 1 1).snd 63],[Ch.r (mkRat 0 1,mkRat 1 1).fst 63,Ch.r (mkRat 0 1,mkRat 1 1).snd 63]]]]=List.map linkCh x'.ls∨RowLE (List.take x.ls.length (List.map linkCh x.ls)++[[Ch.r (mkRat d 1) 63,Ch.r (mkRat (-2) 1) 63,Ch.r (mkRat 2 1) 63,Ch.r (mkRat 1 4) 63,Ch.r (mkRat 1 10) 63,Ch.s 6 [[Ch.r (mkRat 0 1,mkRat (-1) 1).fst 63,Ch.r (mkRat 0 1,mkRat (-1) 1).snd 63],[Ch.r (mkRat d 1,mkRat (-1) 1).fst 63,Ch.r (mkRat d 1,mkRat (-1) 1).snd 63],[Ch.r (mkRat d 1,mkRat 1 1).fst 63,Ch.r (mkRat d 1,mkRat 1 1).snd 63],[Ch.r (mkRat 0 1,mkRat 1 1).fst 63,Ch.r (mkRat 0 1,mkRat 1 1).snd 63]]]]) (List.map linkCh x'.ls))∧True else K (AV.x true [Ch.v (Value.string (ByteArray.mk (Array.mk [OfNat.ofNat 111,OfNat.ofNat 110,OfNat.ofNat 101]))),Ch.r (mkRat 0 1) 63,Ch.r (mkRat 0 1) 63,Ch.v (Value.bool false),Ch.r (mkRat 0 1) 63,Ch.s 16 (List.take x.ls.length (List.drop 0 (List.map linkCh x.ls)))])) := by kernel_rfl
theorem g_kSample (ns : List Int) (hc : (ns.length ≤ 3) ∧ (∀ n ∈ ns, 1 ≤ n ∧ n ≤ 1000)) (K : AV → Prop) (hK : K (armA (sampleV ns))) : Holds (goal_kSample ns K) := by
 refine ⟨?_⟩
 rw [goal_kSample_vc]
 try simp only [Int.ofNat_eq_natCast, true_and, and_true, Nat.le_refl, true_implies]
 obtain ⟨h1, h2⟩ := hc
 have hl : (ints ns).length = ns.length := ints_len ns
 simp only [hl]
 refine ⟨by omega, by omega, ⟨⟨0, []⟩, ⟨rfl, by simp only; omega⟩, trivial, rfl, rfl, rfl⟩, fun x hx => ?_⟩
 obtain ⟨i, ls⟩ := x
 obtain ⟨hls, hi⟩ := hx
 simp only at hls hi ⊢
 refine bif_mk (fun hp => ?_) (fun hp => ?_)
 ·have hp : i < ns.length := by have := of_decide_eq_true hp; omega
  obtain ⟨n, hn⟩ : ∃ n, ns[i]? = some n := ⟨_, List.getElem?_eq_getElem hp⟩
  have hb := h2 n (List.mem_of_getElem? hn)
  have hll : ls.length ≤ 3 := by rw [hls, List.length_map, List.length_take]; omega
  refine ⟨by omega, n, int_ld (by simpa using hn), by omega, by omega, by omega, by omega, by omega, by omega, by omega, by omega, by omega, by omega, ⟨i + 1, ls ++ [slink n]⟩, ⟨⟨by rw [hls, List.take_add_one, hn, List.map_append]; rfl, by simp only; omega⟩, by simp only; omega⟩, by rw [w64 (by omega)]; simp, by simp, .inl ?_⟩
  rw [List.take_of_length_le (by rw [List.length_map]; exact Nat.le_refl _), List.map_append]
  rfl
 ·have hp : i = ns.length := by have := of_decide_eq_false hp; omega
  subst hp
  rw [List.take_length] at hls
  rw [List.drop_zero, List.take_of_length_le (by rw [List.length_map]; exact Nat.le_refl _), hls]
  exact hK
def c_kSample : Ctr := fun as0 => match as0 with
 | [.x false [.s 1 xs]] => some fun K => ∃ (ns : List Int), xs = ints ns ∧ ((ns.length ≤ 3) ∧ (∀ n ∈ ns, 1 ≤ n ∧ n ≤ 1000)) ∧ (K (armA (sampleV ns)))
 | _ => none
theorem ok_kSample : CtrOK Tryd.prog tabG debT 57 c_kSample := by
 refine ⟨enters Tryd.func57 (by kernel_rfl), fun l T hT K hK => ?_⟩
 unfold c_kSample at hT
 split at hT
 ·cases hT
  obtain ⟨ns, rfl, hc, hK⟩ := hK
  exact spec_ofL T50ok mixed Tryd.func57 (by kernel_rfl) (by kernel_rfl) (by rfl) (g_kSample _ hc K hK)
 ·cases hT
def L51 : List (Nat × Ctr) := (57, c_kSample) :: L50
theorem L51ok : CtrsOK Tryd.prog tabG debT L51 := .cons ok_kSample L50ok
def L52 : List (Nat × Ctr) := L51
def T52 : Tabs := mkT L52 M48 X4
theorem L52ok : CtrsOK Tryd.prog tabG debT L52 := L51ok
end Go.Proofs
