/- Arms that are moved: Check and Frames of an arm whose base has large numbers; frames one against the other; ForeMoved. -/
import Derived.Test.YtdbkndfkgdbhpaaDoorFG
import Derived.Test.YtdbkndfkgdbhpaaDoorFA
/- Arms that are moved: Check and Frames of an arm whose base has large numbers; frames one against the other; ForeMoved. -/
namespace Go.Proofs
open Go Go.Eng
def inv_asw (l : List (Rat × Nat)) : LI := fun _ => .inv ⟨Nat, fun i => ⟨[(5, .x false [.s 3 (lRb l)]), (6, iA .i64 l.length), (7, iA .i64 i)], []⟩, fun i => i ≤ l.length ∧ ∀ (j : Nat) p, j < i → l[j]? = some p → SmallR p.1, fun i => l.length - i, fun _ => 0⟩
def inv_acw (ls : List LinkV) : LI := fun _ => .inv ⟨Nat, fun i => ⟨[(48, .x false [.s 16 (ls.map linkCh)]), (49, iA .i64 ls.length), (50, iA .i64 i)], []⟩, fun i => i ≤ ls.length, fun i => ls.length - i, fun _ => 0⟩
def ot_rSmallW : OT := fun id => bif id.beq 1 then ([0, 1, 2, 3, 4, 5, 6, 7, 8, 9, 10, 11, 12, 13, 14, 15, 16, 17, 18, 19, 20, 21, 22, 23, 24, 25, 26, 27, 28], [[], [0], [1, 0], [2, 1, 0], [3, 2, 1, 0], [4, 3, 2, 1, 0], [5, 4, 3, 2, 1, 0], [6, 5, 4, 3, 2, 1, 0], [7, 6, 5, 4, 3, 2, 1, 0], [4, 3, 2, 1, 0, 8, 7, 6, 5], [9, 4, 3, 2, 1, 0, 8, 7, 6, 5], [10, 9, 4, 3, 2, 1, 0, 8, 7, 6, 5], [11, 10, 9, 4, 3, 2, 1, 0, 8, 7, 6, 5], [10, 9, 4, 3, 2, 1, 0, 8, 7, 6, 5, 12, 11], [13, 10, 9, 4, 3, 2, 1, 0, 8, 7, 6, 5, 12, 11], [14, 13, 10, 9, 4, 3, 2, 1, 0, 8, 7, 6, 5, 12, 11], [15, 14, 13, 10, 9, 4, 3, 2, 1, 0, 8, 7, 6, 5, 12, 11], [14, 13, 10, 9, 4, 3, 2, 1, 0, 8, 7, 6, 5, 12, 11], [16, 15, 14, 13, 10, 9, 4, 3, 2, 1, 0, 8, 7, 6, 5, 12, 11, 17], [18, 16, 15, 14, 13, 10, 9, 4, 3, 2, 1, 0, 8, 7, 6, 5, 12, 11, 17], [14, 13, 10, 9, 4, 3, 2, 1, 0, 8, 7, 6, 5, 12, 11, 19, 18, 16, 15, 17], [20, 14, 13, 10, 9, 4, 3, 2, 1, 0, 8, 7, 6, 5, 12, 11, 19, 18, 16, 15, 17], [21, 20, 14, 13, 10, 9, 4, 3, 2, 1, 0, 8, 7, 6, 5, 12, 11, 19, 18, 16, 15, 17], [22, 21, 20, 14, 13, 10, 9, 4, 3, 2, 1, 0, 8, 7, 6, 5, 12, 11, 19, 18, 16, 15, 17], [21, 20, 14, 13, 10, 9, 4, 3, 2, 1, 0, 8, 7, 6, 5, 12, 11, 19, 18, 16, 15, 17], [23, 22, 21, 20, 14, 13, 10, 9, 4, 3, 2, 1, 0, 8, 7, 6, 5, 12, 11, 19, 18, 16, 15, 17, 24], [25, 23, 22, 21, 20, 14, 13, 10, 9, 4, 3, 2, 1, 0, 8, 7, 6, 5, 12, 11, 19, 18, 16, 15, 17, 24], [21, 20, 14, 13, 10, 9, 4, 3, 2, 1, 0, 8, 7, 6, 5, 12, 11, 19, 18, 16, 15, 17, 26, 25, 23, 22, 24], [27, 21, 20, 14, 13, 10, 9, 4, 3, 2, 1, 0, 8, 7, 6, 5, 12, 11, 19, 18, 16, 15, 17, 26, 25, 23, 22, 24]]) else ([], [])
def goal_rSmallW (p : Rat) (a : Nat) (K : AV → Prop) : Prop := goalL T117 ot_rSmallW noL Tryd.f115 [rA p a] K
theorem goal_rSmallW_vc (p : Rat) (a : Nat) (K : AV → Prop) : goal_rSmallW p a K = (
 bif decide (Int.ofNat (List.length (natBytes (Int.natAbs (Rat.num p)))) ≤ (3 : Int)) then
 bif decide (Int.ofNat (List.length (natBytes (Rat.den p))) ≤ (2 : Int)) then
 a ≤ (4294967296 : Nat) ∧
 (1000000 : Int) < (9223372036854775808 : Int) ∧
 bif decide (cmpN (Int.natAbs (Rat.num p)) (1000000 : Nat) ≤ (0 : Int)) then
 (1000 : Int) < (9223372036854775808 : Int) ∧
 K (AV.x false [Ch.v (Value.bool (decide (cmpN (Rat.den p) (Int.toNat (1000 : Int)) ≤ (0 : Int))))])
 else K (AV.x false [Ch.v (Value.bool false)])
 else K (AV.x false [Ch.v (Value.bool false)])
 else K (AV.x false [Ch.v (Value.bool false)])) := by kernel_rfl
theorem g_rSmallW (p : Rat) (a : Nat) (hc : (a ≤ 1000000)) (K : AV → Prop) (hK : ∀ b : Bool, (b = true → SmallR p) → K (.x false [.v (.bool b)])) : Holds (goal_rSmallW p a K) := by
  refine ⟨?_⟩
  rw [goal_rSmallW_vc]
  try simp only [Int.ofNat_eq_natCast]
  refine bif_mk (fun _ => bif_mk (fun _ => ⟨by omega, by omega, bif_mk (fun h2 => ⟨by omega, hK _ fun h3 => ⟨?_, ?_⟩⟩) (fun _ => hK false fun h => by cases h)⟩) (fun _ => hK false fun h => by cases h)) (fun _ => hK false fun h => by cases h)
  · exact (cmpN_le _ _).1 (of_decide_eq_true h2)
  · exact (cmpN_le _ _).1 (of_decide_eq_true h3)
def c_rSmallW : Ctr := fun as0 => match as0 with
  | [.x true [.r p a]] => some fun K => ((a ≤ 1000000)) ∧ (∀ b : Bool, (b = true → SmallR p) → K (.x false [.v (.bool b)]))
  | _ => none
theorem ok_rSmallW : CtrOK Tryd.prog tabG debT 115 c_rSmallW := by
  refine ⟨enters Tryd.func115 (by kernel_rfl), fun l T hT K hK => ?_⟩
  unfold c_rSmallW at hT
  split at hT
  · cases hT
    obtain ⟨hc, hK⟩ := hK
    exact spec_ofL T117ok mixed Tryd.func115 (by kernel_rfl) (by kernel_rfl) (by rfl) (g_rSmallW _ _ hc K hK)
  · cases hT
def L118 : List (Nat × Ctr) := (115, c_rSmallW) :: L117
def T118 : Tabs := mkT L118 M79 X4
theorem L118ok : CtrsOK Tryd.prog tabG debT L118 := .cons ok_rSmallW L117ok
theorem T118ok : TabsOK Tryd.prog tabG debT T118 := mkTok L118ok M79ok X4ok
def ot_aSmallW : OT := fun _ => ([], [])
def goal_aSmallW (l : List (Rat × Nat)) (K : AV → Prop) : Prop := goalL T118 ot_aSmallW (inv_asw l) Tryd.f88 [.x false [.s 3 (lRb l)]] K
theorem goal_aSmallW_vc (l : List (Rat × Nat)) (K : AV → Prop) : goal_aSmallW l K = (
 (∃ (x : Nat),
 ((x ≤ List.length l ∧
 ∀ (j : Nat) (p : Rat × Nat),
 j < x → l[j]? = some p → Int.natAbs (Rat.num (Prod.fst p)) ≤ (1000000 : Nat) ∧ Rat.den (Prod.fst p) ≤ (1000 : Nat)) ∧
 OfNat.ofNat (0 : Nat) = (0 : Nat)) ∧
 (3 : Nat) = (3 : Nat) ∧
 lRb l = lRb l ∧ Int.ofNat (List.length (lRb l)) = Int.ofNat (List.length l) ∧ (0 : Int) = Int.ofNat x ∧ True) ∧
 ∀ (x : Nat),
 (x ≤ List.length l ∧
 ∀ (j : Nat) (p : Rat × Nat),
 j < x → l[j]? = some p → Int.natAbs (Rat.num (Prod.fst p)) ≤ (1000000 : Nat) ∧ Rat.den (Prod.fst p) ≤ (1000 : Nat)) →
 OfNat.ofNat (0 : Nat) = (0 : Nat) →
 bif decide (Int.ofNat x < Int.ofNat (List.length l)) then
 ((0 : Int) ≤ Int.ofNat x ∧ Int.ofNat x < Int.ofNat (List.length (lRb l))) ∧
 ∃ (q : Rat),
 ∃ (n : Nat),
 ldE (lRb l) (Int.toNat (Int.ofNat x)) (0 : Nat) (3 : Nat) = some [Ch.r q n] ∧
 n ≤ (1000000 : Nat) ∧
 ∀ (b : Bool),
 (b = true → Int.natAbs (Rat.num q) ≤ (1000000 : Nat) ∧ Rat.den q ≤ (1000 : Nat)) →
 bif !b then K (AV.x false [Ch.v (Value.bool false)])
 else
 ∃ (x' : Nat),
 ((x' ≤ List.length l ∧
 ∀ (j : Nat) (p : Rat × Nat),
 j < x' →
 l[j]? = some p →
 Int.natAbs (Rat.num (Prod.fst p)) ≤ (1000000 : Nat) ∧ Rat.den (Prod.fst p) ≤ (1000 : Nat)) ∧
 OfNat.ofNat (0 : Nat) = (0 : Nat) ∧ List.length l - x' < List.length l - x) ∧
 (3 : Nat) = (3 : Nat) ∧
 lRb l = lRb l ∧
 Int.ofNat (List.length l) = Int.ofNat (List.length l) ∧
 IntKind.wrap IntKind.i64 (Int.ofNat x + (1 : Int)) = Int.ofNat x' ∧ True
 else K (AV.x false [Ch.v (Value.bool true)])) := by kernel_rfl
theorem g_aSmallW (l : List (Rat × Nat)) (hc : (l.length ≤ 1000000) ∧ (∀ p ∈ l, p.2 ≤ 1000000)) (K : AV → Prop) (hK : ∀ b : Bool, (b = true → ∀ p ∈ l, SmallR p.1) → K (.x false [.v (.bool b)])) : Holds (goal_aSmallW l K) := by
  refine ⟨?_⟩
  rw [goal_aSmallW_vc]
  try simp only [Int.ofNat_eq_natCast, true_and, and_true, true_implies]
  obtain ⟨h1, h2⟩ := hc
  have hl : (lRb l).length = l.length := by simp [lRb]
  simp only [hl]
  refine ⟨⟨0, ⟨by omega, fun j p hj => by omega⟩, trivial, rfl⟩, fun x hx => bif_mk (fun hp => ?_) (fun hp => hK true fun _ p hp' => ?_)⟩
  · have hp := of_decide_eq_true hp
    obtain ⟨p, hpp⟩ : ∃ p, l[x]? = some p := ⟨_, List.getElem?_eq_getElem (by omega)⟩
    refine ⟨by omega, p.1, p.2, by simp only [ldE, lRb, List.getElem?_map, Int.toNat_natCast, hpp]; rfl, h2 p (List.mem_of_getElem? hpp), fun b hb => bif_mk (fun h => hK false fun h => by cases h) (fun h => ⟨x + 1, ⟨⟨by omega, fun j q hj hq => ?_⟩, by omega⟩, by rw [w64 (by omega)]; simp⟩)⟩
    by_cases e : j = x
    · subst e
      rw [hpp] at hq; cases hq
      exact hb (by simpa using h)
    · exact hx.2 j q (by omega) hq
  · obtain ⟨j, hj⟩ := List.getElem?_of_mem hp'
    have := (List.getElem?_eq_some_iff.1 hj).1
    have hp := of_decide_eq_false hp
    exact hx.2 j p (by omega) hj
def c_aSmallW : Ctr := fun as0 => match as0 with
  | [.x false [.s 3 xs]] => some fun K => ∃ (l : List (Rat × Nat)), xs = lRb l ∧ ((l.length ≤ 1000000) ∧ (∀ p ∈ l, p.2 ≤ 1000000)) ∧ (∀ b : Bool, (b = true → ∀ p ∈ l, SmallR p.1) → K (.x false [.v (.bool b)]))
  | _ => none
theorem ok_aSmallW : CtrOK Tryd.prog tabG debT 88 c_aSmallW := by
  refine ⟨enters Tryd.func88 (by kernel_rfl), fun l T hT K hK => ?_⟩
  unfold c_aSmallW at hT
  split at hT
  · cases hT
    obtain ⟨l, rfl, hc, hK⟩ := hK
    exact spec_ofL T118ok mixed Tryd.func88 (by kernel_rfl) (by kernel_rfl) (by rfl) (g_aSmallW _ hc K hK)
  · cases hT
def L119 : List (Nat × Ctr) := (88, c_aSmallW) :: L118
def T119 : Tabs := mkT L119 M79 X4
theorem L119ok : CtrsOK Tryd.prog tabG debT L119 := .cons ok_aSmallW L118ok
theorem T119ok : TabsOK Tryd.prog tabG debT T119 := mkTok L119ok M79ok X4ok
def ot_aCheckW : OT := fun _ => ([], [])
def goal_aCheckW (nm : ByteArray) (x : Rat) (i : Nat) (y : Rat) (j : Nat) (h : Bool) (t : Rat) (k : Nat) (ls : List LinkV) (K : AV → Prop) : Prop := goalL T119 ot_aCheckW (inv_acw ls) Tryd.f51 [.x true [.v (.string nm), .r x i, .r y j, .v (.bool h), .r t k, .s 16 (ls.map linkCh)]] K
theorem goal_aCheckW_vc (nm : ByteArray) (x : Rat) (i : Nat) (y : Rat) (j : Nat) (h : Bool) (t : Rat) (k : Nat) (ls : List LinkV) (K : AV → Prop) : goal_aCheckW nm x i y j h t k ls K = (
 (((1 : Nat) ≤ ByteArray.size nm ∧ ByteArray.size nm ≤ (12 : Nat)) ∧
 ∀ (i : Nat) (x : UInt8), (Array.toList (ByteArray.data nm))[i]? = some x → (97 : Nat) ≤ UInt8.toNat x ∧ UInt8.toNat x ≤ (122 : Nat)) ∧
 bif decide (Int.ofNat (List.length (List.map linkCh ls)) > (3 : Int)) then K (AV.x false [Ch.v (Value.int IntKind.i64 (2 : Int))])
 else
 bif Int.ofNat (List.length (List.map linkCh ls)) == (0 : Int) then K (AV.x false [Ch.v (Value.int IntKind.i64 (1 : Int))])
 else
 ∃ (l : List (Rat × Nat)),
 [[Ch.r x i], [Ch.r y j], [Ch.r t k]] = lRb l ∧
 (List.length l ≤ (1000000 : Nat) ∧ ∀ (p : Rat × Nat), p ∈ l → Prod.snd p ≤ (1000000 : Nat)) ∧
 ∀ (b : Bool),
 (b = true →
 ∀ (p : Rat × Nat), p ∈ l → Int.natAbs (Rat.num (Prod.fst p)) ≤ (1000000 : Nat) ∧ Rat.den (Prod.fst p) ≤ (1000 : Nat)) →
 bif !b then K (AV.x false [Ch.v (Value.int IntKind.i64 (1 : Int))])
 else
 bif h then
 k ≤ (4294967296 : Nat) ∧
 bif sgnR t != (0 : Int) then K (AV.x false [Ch.v (Value.int IntKind.i64 (1 : Int))])
 else
 (∃ (x : Nat),
 (x ≤ List.length ls ∧ OfNat.ofNat (0 : Nat) = (0 : Nat)) ∧
 (16 : Nat) = (16 : Nat) ∧
 List.map linkCh ls = List.map linkCh ls ∧
 Int.ofNat (List.length (List.map linkCh ls)) = Int.ofNat (List.length ls) ∧
 (0 : Int) = Int.ofNat x ∧ True) ∧
 ∀ (x : Nat),
 x ≤ List.length ls →
 OfNat.ofNat (0 : Nat) = (0 : Nat) →
 bif decide (Int.ofNat x < Int.ofNat (List.length ls)) then
 ((0 : Int) ≤ Int.ofNat x ∧ Int.ofNat x < Int.ofNat (List.length (List.map linkCh ls))) ∧
 ∃ (q : Rat),
 ∃ (n : Nat),
 ∃ (q_1 : Rat),
 ∃ (n_1 : Nat),
 ∃ (q_2 : Rat),
 ∃ (n_2 : Nat),
 ∃ (q_3 : Rat),
 ∃ (n_3 : Nat),
 ∃ (q_4 : Rat),
 ∃ (n_4 : Nat),
 ∃ (ys : List (List Ch)),
 ldE (List.map linkCh ls) (Int.toNat (Int.ofNat x)) (0 : Nat) (16 : Nat) =
 some
 [Ch.r q n, Ch.r q_1 n_1, Ch.r q_2 n_2, Ch.r q_3 n_3, Ch.r q_4 n_4,
 Ch.s (6 : Nat) ys] ∧
 ∃ (L : LinkV),
 [Ch.r q n, Ch.r q_1 n_1, Ch.r q_2 n_2, Ch.r q_3 n_3, Ch.r q_4 n_4,
 Ch.s (6 : Nat) ys] =
 [Ch.r (LinkV.len L) (63 : Nat), Ch.r (LinkV.lo L) (63 : Nat),
 Ch.r (LinkV.hi L) (63 : Nat), Ch.r (LinkV.sp L) (63 : Nat),
 Ch.r (LinkV.br L) (63 : Nat),
 Ch.s (6 : Nat) (List.map vecCh (LinkV.shape L))] ∧
 GoodLink L ∧
 ∃ (x' : Nat),
 (x' ≤ List.length ls ∧
 OfNat.ofNat (0 : Nat) = (0 : Nat) ∧
 List.length ls - x' < List.length ls - x) ∧
 (16 : Nat) = (16 : Nat) ∧
 List.map linkCh ls = List.map linkCh ls ∧
 Int.ofNat (List.length ls) = Int.ofNat (List.length ls) ∧
 IntKind.wrap IntKind.i64 (Int.ofNat x + (1 : Int)) =
 Int.ofNat x' ∧
 True
 else K (AV.x false [Ch.v (Value.int IntKind.i64 (0 : Int))])
 else
 (∃ (x : Nat),
 (x ≤ List.length ls ∧ OfNat.ofNat (0 : Nat) = (0 : Nat)) ∧
 (16 : Nat) = (16 : Nat) ∧
 List.map linkCh ls = List.map linkCh ls ∧
 Int.ofNat (List.length (List.map linkCh ls)) = Int.ofNat (List.length ls) ∧ (0 : Int) = Int.ofNat x ∧ True) ∧
 ∀ (x : Nat),
 x ≤ List.length ls →
 OfNat.ofNat (0 : Nat) = (0 : Nat) →
 bif decide (Int.ofNat x < Int.ofNat (List.length ls)) then
 ((0 : Int) ≤ Int.ofNat x ∧ Int.ofNat x < Int.ofNat (List.length (List.map linkCh ls))) ∧
 ∃ (q : Rat),
 ∃ (n : Nat),
 ∃ (q_1 : Rat),
 ∃ (n_1 : Nat),
 ∃ (q_2 : Rat),
 ∃ (n_2 : Nat),
 ∃ (q_3 : Rat),
 ∃ (n_3 : Nat),
 ∃ (q_4 : Rat),
 ∃ (n_4 : Nat),
 ∃ (ys : List (List Ch)),
 ldE (List.map linkCh ls) (Int.toNat (Int.ofNat x)) (0 : Nat) (16 : Nat) =
 some
 [Ch.r q n, Ch.r q_1 n_1, Ch.r q_2 n_2, Ch.r q_3 n_3, Ch.r q_4 n_4,
 Ch.s (6 : Nat) ys] ∧
 ∃ (L : LinkV),
 [Ch.r q n, Ch.r q_1 n_1, Ch.r q_2 n_2, Ch.r q_3 n_3, Ch.r q_4 n_4,
 Ch.s (6 : Nat) ys] =
 [Ch.r (LinkV.len L) (63 : Nat), Ch.r (LinkV.lo L) (63 : Nat),
 Ch.r (LinkV.hi L) (63 : Nat), Ch.r (LinkV.sp L) (63 : Nat),
 Ch.r (LinkV.br L) (63 : Nat),
 Ch.s (6 : Nat) (List.map vecCh (LinkV.shape L))] ∧
 GoodLink L ∧
 ∃ (x' : Nat),
 (x' ≤ List.length ls ∧
 OfNat.ofNat (0 : Nat) = (0 : Nat) ∧
 List.length ls - x' < List.length ls - x) ∧
 (16 : Nat) = (16 : Nat) ∧
 List.map linkCh ls = List.map linkCh ls ∧
 Int.ofNat (List.length ls) = Int.ofNat (List.length ls) ∧
 IntKind.wrap IntKind.i64 (Int.ofNat x + (1 : Int)) = Int.ofNat x' ∧
 True
 else K (AV.x false [Ch.v (Value.int IntKind.i64 (0 : Int))])) := by kernel_rfl
theorem g_aCheckW (nm : ByteArray) (x : Rat) (i : Nat) (y : Rat) (j : Nat) (h : Bool) (t : Rat) (k : Nat) (ls : List LinkV) (hc : (NameOK nm) ∧ (1 ≤ ls.length ∧ ls.length ≤ 3) ∧ (∀ L ∈ ls, GoodLink L) ∧ (i ≤ 1000000 ∧ j ≤ 1000000 ∧ k ≤ 1000000)) (K : AV → Prop) (hK : ∀ e : Int, (e = 0 → (SmallR x ∧ SmallR y ∧ SmallR t) ∧ (h = true → t = 0)) → K (iA .i64 e)) : Holds (goal_aCheckW nm x i y j h t k ls K) := by
  refine ⟨?_⟩
  rw [goal_aCheckW_vc]
  try simp only [Int.ofNat_eq_natCast, true_and, and_true, true_implies]
  obtain ⟨hnm, hl, hlk, hi, hj, hk⟩ := hc
  have loop : ((SmallR x ∧ SmallR y ∧ SmallR t) ∧ (h = true → t = 0)) → (∃ x, x ≤ ls.length ∧ ((List.map linkCh ls).length : Int) = ls.length ∧ (0 : Int) = (x : Nat)) ∧ ∀ (x : Nat), x ≤ ls.length → bif decide ((x : Int) < ls.length) then ((0 : Int) ≤ x ∧ (x : Int) < ((List.map linkCh ls).length : Nat)) ∧
      ∃ q n q_1 n_1 q_2 n_2 q_3 n_3 q_4 n_4 ys, ldE (List.map linkCh ls) (x : Int).toNat 0 16 = some [Ch.r q n, Ch.r q_1 n_1, Ch.r q_2 n_2, Ch.r q_3 n_3, Ch.r q_4 n_4, Ch.s 6 ys] ∧
        ∃ L : LinkV, [Ch.r q n, Ch.r q_1 n_1, Ch.r q_2 n_2, Ch.r q_3 n_3, Ch.r q_4 n_4, Ch.s 6 ys] = [Ch.r L.len 63, Ch.r L.lo 63, Ch.r L.hi 63, Ch.r L.sp 63, Ch.r L.br 63, Ch.s 6 (List.map vecCh L.shape)] ∧ GoodLink L ∧
          ∃ x' : Nat, (x' ≤ ls.length ∧ ls.length - x' < ls.length - x) ∧ IntKind.i64.wrap ((x : Int) + 1) = x'
      else K (AV.x false [Ch.v (Value.int IntKind.i64 0)]) := by
    intro hS
    refine ⟨⟨0, by omega, by simp, rfl⟩, fun x hx => bif_mk (fun hp => ?_) (fun _ => hK 0 fun _ => hS)⟩
    have hp : x < ls.length := by have := of_decide_eq_true hp; omega
    obtain ⟨L, hL⟩ : ∃ L, ls[x]? = some L := ⟨_, List.getElem?_eq_getElem hp⟩
    exact ⟨by rw [List.length_map]; omega, _, _, _, _, _, _, _, _, _, _, _, link_ld (by simpa using hL), L, rfl, hlk L (List.mem_of_getElem? hL), x + 1, ⟨by omega, by omega⟩, by rw [w64 (by omega)]; simp⟩
  simp only [List.length_map] at loop ⊢
  refine ⟨hnm, bif_mk (fun h => by have := of_decide_eq_true h; omega) (fun _ => bif_mk (fun h => by simp only [beq_iff_eq] at h; omega) (fun _ => ⟨[(x, i), (y, j), (t, k)], rfl, ⟨by simp, fun p hp => ?_⟩, fun b hb => bif_mk (fun _ => hK 1 fun h => absurd h (by decide)) (fun hb1 => ?_)⟩))⟩
  · simp only [List.mem_cons, List.not_mem_nil, or_false] at hp
    rcases hp with rfl | rfl | rfl <;> assumption
  · have hb := hb (by simpa using hb1)
    have hS : SmallR x ∧ SmallR y ∧ SmallR t := ⟨hb (x, i) (by simp), hb (y, j) (by simp), hb (t, k) (by simp)⟩
    refine bif_mk (fun hh => ⟨by omega, bif_mk (fun _ => hK 1 fun h => absurd h (by decide)) (fun hs => loop ⟨hS, fun _ => ?_⟩)⟩) (fun hh => loop ⟨hS, fun h => by rw [hh] at h; cases h⟩)
    have hs : sgnR t = 0 := by simpa using hs
    unfold sgnR at hs
    split at hs
    · rename_i h0; exact Rat.num_eq_zero.1 h0
    · split at hs <;> cases hs
def c_aCheckW : Ctr := fun as0 => match as0 with
  | [.x true [.v (.string nm), .r x i, .r y j, .v (.bool h), .r t k, .s 16 zs]] => some fun K => ∃ (ls : List LinkV), zs = ls.map linkCh ∧ ((NameOK nm) ∧ (1 ≤ ls.length ∧ ls.length ≤ 3) ∧ (∀ L ∈ ls, GoodLink L) ∧ (i ≤ 1000000 ∧ j ≤ 1000000 ∧ k ≤ 1000000)) ∧ (∀ e : Int, (e = 0 → (SmallR x ∧ SmallR y ∧ SmallR t) ∧ (h = true → t = 0)) → K (iA .i64 e))
  | _ => none
theorem ok_aCheckW : CtrOK Tryd.prog tabG debT 51 c_aCheckW := by
  refine ⟨enters Tryd.func51 (by kernel_rfl), fun l T hT K hK => ?_⟩
  unfold c_aCheckW at hT
  split at hT
  · cases hT
    obtain ⟨ls, rfl, hc, hK⟩ := hK
    exact spec_ofL T119ok mixed Tryd.func51 (by kernel_rfl) (by kernel_rfl) (by rfl) (g_aCheckW _ _ _ _ _ _ _ _ _ hc K hK)
  · cases hT
def L120 : List (Nat × Ctr) := (51, c_aCheckW) :: L119
def T120 : Tabs := mkT L120 M79 X4
theorem L120ok : CtrsOK Tryd.prog tabG debT L120 := .cons ok_aCheckW L119ok
theorem T120ok : TabsOK Tryd.prog tabG debT T120 := mkTok L120ok M79ok X4ok
-- the newest table: L120 M79 X4 T120
end Go.Proofs
/- Frames of moved arms, one against the other: ForeMoved. -/
namespace Go.Proofs
open Go Go.Eng
def c_framesW : Ctr := fun as0 => match as0 with
  | [.x true [.v (.string nm), .r x _i, .r y _j, .v (.bool h), .r t _k, .s 16 zs], .x false [.s 3 ys]] => some fun K => ∃ (ls : List LinkV) (b : Nat) (qs : List Rat), zs = ls.map linkCh ∧ ys = lR b qs ∧ (GoodArm ⟨nm, x, y, h, t, ls⟩ ∧ (b ≤ 400 ∧ qs.length = ls.length)) ∧ (∀ (fs : List FrV) (f : FrV), fs ++ [f] = framesV ⟨x, y, h, t⟩ ls qs → fs.length = ls.length → K (.t [(false, [.s 10 (fs.map frCh ++ [frN (bnd ls.length) f])]), (false, [.v (.int .i64 0)])]))
  | _ => none
theorem small_bd {q : Rat} (h : SmallR q) : Bd 63 q := ⟨Nat.lt_of_le_of_lt h.1 (by decide), Nat.lt_of_le_of_lt h.2 (by decide)⟩
theorem arm_small {W : World} {O : Nat → Prop} {ρ : Env} {nm : ByteArray} {x y t : Rat} {i j k : Nat} {h : Bool} {zs : List (List Ch)} {vs : List Value} (hx : SmallR x) (hy : SmallR y) (ht : SmallR t)
    (hc : CC W O ρ [.v (.string nm), .r x i, .r y j, .v (.bool h), .r t k, .s 16 zs] vs) : CC W O ρ [.v (.string nm), .r x 63, .r y 63, .v (.bool h), .r t 63, .s 16 zs] vs := by
  cases hc with | v a hc => cases hc with | r b hc => cases hc with | r c hc => cases hc with | v d hc => cases hc with | r e hc => exact .v a (.r (small_bd hx) (.r (small_bd hy) (.v d (.r (small_bd ht) hc))))
theorem ok_framesW : CtrOK Tryd.prog tabG debT 19 c_framesW := by
  refine ⟨enters Tryd.func19 (by kernel_rfl), fun l T hT K hK => ?_⟩
  unfold c_framesW at hT
  split at hT
  · rename_i nm x i y j h t k zs ys
    cases hT
    obtain ⟨ls, b, qs, rfl, rfl, hc, hK⟩ := hK
    obtain ⟨s1, s2, s3⟩ := hc.1.small
    refine Eng.Spec.args (ok_fFrames.sound [armA ⟨nm, x, y, h, t, ls⟩, sR b qs] _ rfl K ⟨⟨nm, x, y, h, t, ls⟩, b, qs, rfl, rfl, hc, hK⟩) fun w O vals hv => ?_
    cases hv with
    | cons h1 hv =>
      obtain ⟨us, hu, hv'⟩ := h1
      exact .cons ⟨us, arm_small s1 s2 s3 hu, hv'⟩ hv
  · cases hT
def L121w : List (Nat × Ctr) := (19, c_framesW) :: L120
def T121w : Tabs := mkT L121w M79 X4
theorem L121wok : CtrsOK Tryd.prog tabG debT L121w := .cons ok_framesW L120ok
theorem T121wok : TabsOK Tryd.prog tabG debT T121w := mkTok L121wok M79ok X4ok
def frB (x : Rat) (i : Nat) (y : Rat) (j : Nat) (h : Bool) (t : Rat) (k : Nat) : Blk := .box 31 [.r x i, .r y j, .v (.bool h), .r t k]
def ot_mov1 : OT := fun id => bif id.beq 1 then ([0, 1, 3, 2, 4, 5], [[], [], [0, 1], [], [2, 0, 1, 3], [4, 2, 0, 1, 3]]) else ([], [])
def goal_mov1 (x : Rat) (i : Nat) (y : Rat) (j : Nat) (h : Bool) (t : Rat) (k : Nat) (px : Rat) (a : Nat) (py : Rat) (b : Nat) (ph : Bool) (pt : Rat) (c : Nat) (qx : Rat) (d : Nat) (qy : Rat) (e : Nat) (qh : Bool) (qt : Rat) (f : Nat) : Prop :=
  goalM (X := Unit) T121w ot_mov1 noL Tryd.f53 [.x true [.r px a, .r py b, .v (.bool ph), .r pt c], .x true [.r qx d, .r qy e, .v (.bool qh), .r qt f], .x false [.p 1000 0]] [(1000, frB x i y j h t k)] (fun _ => True) (fun _ => ⟨[(5, .x false [.v (.bool true)])], [(1000, frB x i y j h t k)]⟩)
theorem goal_mov1_vc (x : Rat) (i : Nat) (y : Rat) (j : Nat) (h : Bool) (t : Rat) (k : Nat) (px : Rat) (a : Nat) (py : Rat) (b : Nat) (ph : Bool) (pt : Rat) (c : Nat) (qx : Rat) (d : Nat) (qy : Rat) (e : Nat) (qh : Bool) (qt : Rat) (f : Nat) : goal_mov1 x i y j h t k px a py b ph pt c qx d qy e qh qt f = (
 i + j + k + a + b + c ≤ (400000000 : Nat) ∧
 ∀ (f : FrV) (n m o : Nat),
 f = frThen (FrV.mk x y h t) (FrV.mk px py ph pt) →
 n ≤ i + a + b + (8 : Nat) * k + (1100 : Nat) →
 m ≤ j + a + b + (8 : Nat) * k + (1100 : Nat) →
 o ≤ (2 : Nat) * k + (2 : Nat) * c + (400 : Nat) →
 ∃ (_x_1 : Unit),
 True ∧
 (decide (FrV.x f = qx) && (decide (FrV.y f = qy) && (FrV.h f == qh && (decide (FrV.t f = qt) && true)))) = true ∧
 (31 : Nat) = (31 : Nat) ∧ x = x ∧ i ≤ i ∧ y = y ∧ j ≤ j ∧ h = h ∧ t = t ∧ k ≤ k ∧ True) := by kernel_rfl
theorem g_mov1 (x : Rat) (i : Nat) (y : Rat) (j : Nat) (h : Bool) (t : Rat) (k : Nat) (px : Rat) (a : Nat) (py : Rat) (b : Nat) (ph : Bool) (pt : Rat) (c : Nat) (qx : Rat) (d : Nat) (qy : Rat) (e : Nat) (qh : Bool) (qt : Rat) (f : Nat)
    (hb : i + j + k ≤ 1000000 ∧ a ≤ 120000000 ∧ b ≤ 120000000 ∧ c ≤ 120000000) (he : frThen ⟨x, y, h, t⟩ ⟨px, py, ph, pt⟩ = ⟨qx, qy, qh, qt⟩) : Holds (goal_mov1 x i y j h t k px a py b ph pt c qx d qy e qh qt f) := by
  refine ⟨?_⟩
  rw [goal_mov1_vc]
  try simp only [true_and, and_true, Nat.le_refl]
  refine ⟨by omega, fun f n m o hf _ _ _ => ⟨(), ?_⟩⟩
  rw [hf, he]
  simp
theorem backH_same {k c : Nat} {b : Blk} {H : HP} (h : H k = some b) : backH [(c, k)] (lookH [(c, b)]) H = H := by
  funext j
  unfold backH
  simp only [lkB]
  cases hj : j.beq k with
  | false => rfl
  | true =>
    have := Nat.eq_of_beq_eq_true hj
    subst this
    simp [lookH, h]
def c_mov1 : CtrM := fun as0 H _ => match as0 with
  | [.x true [.r px a, .r py b, .v (.bool ph), .r pt c], .x true [.r qx _d, .r qy _e, .v (.bool qh), .r qt _f], .x false [.p m o]] => match o with
    | 0 => match H m with
      | some (.box z [.r x i, .r y j, .v (.bool h), .r t k]) => bif z.beq 31 then
          some fun K => (i + j + k ≤ 1000000 ∧ a ≤ 120000000 ∧ b ≤ 120000000 ∧ c ≤ 120000000) ∧ frThen ⟨x, y, h, t⟩ ⟨px, py, ph, pt⟩ = ⟨qx, qy, qh, qt⟩ ∧ K (.x false [.v (.bool true)]) H
          else none
      | _ => none
    | _ + 1 => none
  | _ => none
theorem ok_mov1 : CtrMOK Tryd.prog tabG debT 53 c_mov1 := by
  refine ⟨enters Tryd.func53 (by kernel_rfl), fun l H d T hT K hK => ?_⟩
  unfold c_mov1 at hT
  split at hT
  · rename_i px a py b ph pt c qx d qy e qh qt f m o
    split at hT
    · split at hT
      · rename_i z x i y j h t k e1
        cases hb : z.beq 31 with
        | false => rw [hb] at hT; cases hT
        | true =>
          rw [hb] at hT
          cases hT
          have ht := Nat.eq_of_beq_eq_true hb
          subst ht
          obtain ⟨h1, h2, hK⟩ := hK
          refine specM_of (R := [(1000, m)]) (N := []) (Hl := [(1000, frB x i y j h t k)]) T121wok mixed Tryd.func53 (by kernel_rfl) (by kernel_rfl) (by rfl)
            (as0 := [.x true [.r px a, .r py b, .v (.bool ph), .r pt c], .x true [.r qx d, .r qy e, .v (.bool qh), .r qt f], .x false [.p 1000 0]]) ?_ (hand1 e1 rfl rfl) rfl (by simp) (by simp) (fun _ h => by cases h) (fun x => ⟨fun p hp => ?_, fun p hp b hb => ?_⟩) (g_mov1 _ _ _ _ _ _ _ _ _ _ _ _ _ _ _ _ _ _ _ _ _ h1 h2) (fun _ _ => ?_)
          · simp [renAs, renAV, renCh, lkB]
          · simp at hp
            subst hp
            exact fun h => by have h' : some (frB _ _ _ _ _ _ _) = none := h; cases h'
          · simp at hp
            subst hp
            have h' : some (frB _ _ _ _ _ _ _) = some b := hb; cases h'; rfl
          · exact ⟨_, rfl, by rw [show ([(1000, m)] ++ [] : RN) = [(1000, m)] from rfl, show backH [(1000, m)] (lookH [(1000, frB x i y j h t k)]) H = H from backH_same e1]; exact hK⟩
      · cases hT
    · cases hT
  · cases hT
def M124 : List (Nat × CtrM) := (53, c_mov1) :: M79
def T122w : Tabs := mkT L121w M124 X4
theorem M124ok : CtrMsOK Tryd.prog tabG debT M124 := .cons ok_mov1 M79ok
theorem T122wok : TabsOK Tryd.prog tabG debT T122w := mkTok L121wok M124ok X4ok
structure FrsMoved (g : FrV) (xs ys : List (List Ch)) : Prop where
  len : xs.length = ys.length
  le : xs.length ≤ 1000
  at' : ∀ n, n < xs.length → ∃ f h a b, ldE xs n 0 10 = some (frN a f) ∧ ldE ys n 0 10 = some (frN b h) ∧ a ≤ 120000000 ∧ frThen g f = h
def inv_eqFr (x : Rat) (i : Nat) (y : Rat) (j : Nat) (h : Bool) (t : Rat) (k : Nat) (xs ys : List (List Ch)) : LI := fun _ => .inv ⟨Nat, fun n => ⟨[(1, .x false [.s 10 ys]), (2, .x false [.f 53 1000]), (15, .x false [.s 10 xs]), (16, iA .i64 xs.length), (17, iA .i64 n)], [(1000, frB x i y j h t k)]⟩, fun n => n ≤ xs.length, fun n => xs.length - n, fun _ => 0⟩
def goal_eqFr (x : Rat) (i : Nat) (y : Rat) (j : Nat) (h : Bool) (t : Rat) (k : Nat) (xs ys : List (List Ch)) : Prop :=
  goalM (X := Unit) T122w noO (inv_eqFr x i y j h t k xs ys) Tryd.f52 [.x false [.s 10 xs], .x false [.s 10 ys], .x false [.f 53 1000]] [(1000, frB x i y j h t k)] (fun _ => True) (fun _ => ⟨[(6, .x false [.v (.bool true)])], [(1000, frB x i y j h t k)]⟩)
theorem goal_eqFr_vc (x : Rat) (i : Nat) (y : Rat) (j : Nat) (h : Bool) (t : Rat) (k : Nat) (xs : List (List Ch)) (ys : List (List Ch)) : goal_eqFr x i y j h t k xs ys = (
 bif Int.ofNat (List.length xs) != Int.ofNat (List.length ys) then
 ∃ (_x_1 : Unit), True ∧ false = true ∧ (31 : Nat) = (31 : Nat) ∧ x = x ∧ i ≤ i ∧ y = y ∧ j ≤ j ∧ h = h ∧ t = t ∧ k ≤ k ∧ True
 else
 (∃ (x_1 : Nat),
 (x_1 ≤ List.length xs ∧ OfNat.ofNat (0 : Nat) = (0 : Nat)) ∧
 (10 : Nat) = (10 : Nat) ∧
 ys = ys ∧
 (53 : Nat) = (53 : Nat) ∧
 (10 : Nat) = (10 : Nat) ∧
 xs = xs ∧
 Int.ofNat (List.length xs) = Int.ofNat (List.length xs) ∧
 (0 : Int) = Int.ofNat x_1 ∧ (31 : Nat) = (31 : Nat) ∧ x = x ∧ i ≤ i ∧ y = y ∧ j ≤ j ∧ h = h ∧ t = t ∧ k ≤ k ∧ True) ∧
 ∀ (x_1 : Nat),
 x_1 ≤ List.length xs →
 OfNat.ofNat (0 : Nat) = (0 : Nat) →
 bif decide (Int.ofNat x_1 < Int.ofNat (List.length xs)) then
 ((0 : Int) ≤ Int.ofNat x_1 ∧ Int.ofNat x_1 < Int.ofNat (List.length xs)) ∧
 ∃ (q : Rat),
 ∃ (n : Nat),
 ∃ (q_1 : Rat),
 ∃ (n_1 : Nat),
 ∃ (b : Bool),
 ∃ (q_2 : Rat),
 ∃ (n_2 : Nat),
 ldE xs (Int.toNat (Int.ofNat x_1)) (0 : Nat) (10 : Nat) =
 some [Ch.r q n, Ch.r q_1 n_1, Ch.v (Value.bool b), Ch.r q_2 n_2] ∧
 ((0 : Int) ≤ Int.ofNat x_1 ∧ Int.ofNat x_1 < Int.ofNat (List.length ys)) ∧
 ∃ (q_3 : Rat),
 ∃ (n_3 : Nat),
 ∃ (q_4 : Rat),
 ∃ (n_4 : Nat),
 ∃ (b_1 : Bool),
 ∃ (q_5 : Rat),
 ∃ (n_5 : Nat),
 ldE ys (Int.toNat (Int.ofNat x_1)) (0 : Nat) (10 : Nat) =
 some [Ch.r q_3 n_3, Ch.r q_4 n_4, Ch.v (Value.bool b_1), Ch.r q_5 n_5] ∧
 (i + j + k ≤ (1000000 : Nat) ∧
 n ≤ (120000000 : Nat) ∧ n_1 ≤ (120000000 : Nat) ∧ n_2 ≤ (120000000 : Nat)) ∧
 frThen (FrV.mk x y h t) (FrV.mk q q_1 b q_2) = FrV.mk q_3 q_4 b_1 q_5 ∧
 ∃ (x' : Nat),
 (x' ≤ List.length xs ∧
 OfNat.ofNat (0 : Nat) = (0 : Nat) ∧ List.length xs - x' < List.length xs - x_1) ∧
 (10 : Nat) = (10 : Nat) ∧
 ys = ys ∧
 (53 : Nat) = (53 : Nat) ∧
 (10 : Nat) = (10 : Nat) ∧
 xs = xs ∧
 Int.ofNat (List.length xs) = Int.ofNat (List.length xs) ∧
 IntKind.wrap IntKind.i64 (Int.ofNat x_1 + (1 : Int)) = Int.ofNat x' ∧
 (31 : Nat) = (31 : Nat) ∧
 x = x ∧ i ≤ i ∧ y = y ∧ j ≤ j ∧ h = h ∧ t = t ∧ k ≤ k ∧ True
 else ∃ (_x_2 : Unit), True ∧ true = true ∧ (31 : Nat) = (31 : Nat) ∧ x = x ∧ i ≤ i ∧ y = y ∧ j ≤ j ∧ h = h ∧ t = t ∧ k ≤ k ∧ True) := by kernel_rfl
theorem g_eqFr (x : Rat) (i : Nat) (y : Rat) (j : Nat) (h : Bool) (t : Rat) (k : Nat) (xs ys : List (List Ch)) (hb : i + j + k ≤ 1000000) (hm : FrsMoved ⟨x, y, h, t⟩ xs ys) : Holds (goal_eqFr x i y j h t k xs ys) := by
  refine ⟨?_⟩
  rw [goal_eqFr_vc]
  try simp only [Int.ofNat_eq_natCast, true_and, and_true, Nat.le_refl, true_implies]
  have hl := hm.len
  have hle := hm.le
  refine bif_mk (fun h => by simp [hl] at h) (fun _ => ⟨⟨0, by omega, rfl⟩, fun n hn => bif_mk (fun hp => ?_) (fun _ => ⟨(), trivial⟩)⟩)
  have hp : n < xs.length := by have := of_decide_eq_true hp; omega
  obtain ⟨f, g, a, b, l1, l2, ha, he⟩ := hm.at' n hp
  exact ⟨by omega, _, _, _, _, _, _, _, by rw [Int.toNat_natCast]; exact l1, by omega, _, _, _, _, _, _, _, by rw [Int.toNat_natCast]; exact l2, ⟨hb, ha, ha, ha⟩, he, n + 1, ⟨by omega, by omega⟩, by rw [w64 (by omega)]; simp⟩
def c_eqFr : CtrM := fun as0 H _ => match as0 with
  | [.x false [.s 10 xs], .x false [.s 10 ys], .x false [.f fid m]] => match H m with
    | some (.box z [.r x i, .r y j, .v (.bool h), .r t k]) => bif z.beq 31 && fid.beq 53 then
        some fun K => i + j + k ≤ 1000000 ∧ FrsMoved ⟨x, y, h, t⟩ xs ys ∧ K (.x false [.v (.bool true)]) H
        else none
    | _ => none
  | _ => none
theorem ok_eqFr : CtrMOK Tryd.prog tabG debT 52 c_eqFr := by
  refine ⟨enters Tryd.func52 (by kernel_rfl), fun l H d T hT K hK => ?_⟩
  unfold c_eqFr at hT
  split at hT
  · rename_i xs ys fid m
    split at hT
    · rename_i z x i y j h t k e1
      cases hb : z.beq 31 && fid.beq 53 with
      | false => rw [hb] at hT; cases hT
      | true =>
        rw [hb] at hT
        cases hT
        simp only [Bool.and_eq_true] at hb
        have ht := Nat.eq_of_beq_eq_true hb.1
        have hf := Nat.eq_of_beq_eq_true hb.2
        subst ht
        subst hf
        obtain ⟨h1, h2, hK⟩ := hK
        refine specM_of (R := [(1000, m)]) (N := []) (Hl := [(1000, frB x i y j h t k)]) T122wok mixed Tryd.func52 (by kernel_rfl) (by kernel_rfl) (by rfl)
          (as0 := [.x false [.s 10 xs], .x false [.s 10 ys], .x false [.f 53 1000]]) ?_ (hand1 e1 rfl rfl) rfl (by simp) (by simp) (fun _ h => by cases h) (fun x => ⟨fun p hp => ?_, fun p hp b hb => ?_⟩) (g_eqFr _ _ _ _ _ _ _ _ _ h1 h2) (fun _ _ => ?_)
        · simp [renAs, renAV, renCh, lkB]
        · simp at hp
          subst hp
          exact fun h => by have h' : some (frB _ _ _ _ _ _ _) = none := h; cases h'
        · simp at hp
          subst hp
          have h' : some (frB _ _ _ _ _ _ _) = some b := hb; cases h'; rfl
        · exact ⟨_, rfl, by rw [show ([(1000, m)] ++ [] : RN) = [(1000, m)] from rfl, show backH [(1000, m)] (lookH [(1000, frB x i y j h t k)]) H = H from backH_same e1]; exact hK⟩
    · cases hT
  · cases hT
def M125 : List (Nat × CtrM) := (52, c_eqFr) :: M124
def T123w : Tabs := mkT L121w M125 X4
theorem M125ok : CtrMsOK Tryd.prog tabG debT M125 := .cons ok_eqFr M124ok
theorem T123wok : TabsOK Tryd.prog tabG debT T123w := mkTok L121wok M125ok X4ok
def ot_fmov : OT := fun _ => ([], [])
def goal_fmov (l m k : List Int) (t : Int) (K : AV → Prop) : Prop := goalL T123w ot_fmov noL Tryd.f10 [.x false [.s 1 (ints l)], .x false [.s 1 (ints m)], .x false [.s 1 (ints k)], iA .i64 t] K
theorem goal_fmov_vc (l : List Int) (m : List Int) (k : List Int) (t : Int) (K : AV → Prop) : goal_fmov l m k t K = (
 True ∧
 ∃ (l_1 : List Int),
 ints l = ints l_1 ∧
 List.length l_1 ≤ (9223372036854775807 : Nat) ∧
 ∀ (a : ArmV),
 Made a ∧ (1 : Nat) ≤ List.length (ArmV.links a) →
 ∃ (a_2 : ArmV),
 ∃ (l : List Int),
 [Ch.v (Value.string (ArmV.name a)), Ch.r (ArmV.x a) (63 : Nat), Ch.r (ArmV.y a) (63 : Nat), Ch.v (Value.bool (ArmV.half a)),
 Ch.r (ArmV.t a) (63 : Nat), Ch.s (16 : Nat) (List.map linkCh (ArmV.links a))] =
 [Ch.v (Value.string (ArmV.name a_2)), Ch.r (ArmV.x a_2) (63 : Nat), Ch.r (ArmV.y a_2) (63 : Nat),
 Ch.v (Value.bool (ArmV.half a_2)), Ch.r (ArmV.t a_2) (63 : Nat), Ch.s (16 : Nat) (List.map linkCh (ArmV.links a_2))] ∧
 ints m = ints l ∧
 (GoodArm a_2 ∧ List.length l ≤ (9223372036854775807 : Nat)) ∧
 ∀ (qs : List Rat),
 (∀ (i : Nat) (L : LinkV) (q : Rat),
 (ArmV.links a_2)[i]? = some L → qs[i]? = some q → LinkV.lo L ≤ q ∧ q ≤ LinkV.hi L) →
 List.length qs = List.length (ArmV.links a_2) →
 ∃ (l : List Int),
 ints k = ints l ∧
 List.length l ≤ (9223372036854775807 : Nat) ∧
 ∀ (p : Rat × Rat),
 ((0 : Int) < (9 : Int) ∧ (9 : Int) < (9223372036854775808 : Int)) ∧
 (((-9223372036854775808 : Int) < IntKind.wrap IntKind.i64 (t % (9 : Int) - (4 : Int)) ∧
 IntKind.wrap IntKind.i64 (t % (9 : Int) - (4 : Int)) < (9223372036854775808 : Int)) ∧
 (0 : Int) < (2 : Int) ∧ (2 : Int) < (9223372036854775808 : Int)) ∧
 (63 : Nat) ≤ (1000000000 : Nat) ∧
 (378 : Nat) ≤ (400000000 : Nat) ∧
 ∀ (f : FrV) (n m o : Nat),
 f =
 frThen
 (FrV.mk (Prod.fst p) (Prod.snd p) false
 (mkRat (IntKind.wrap IntKind.i64 (t % (9 : Int) - (4 : Int))) (2 : Nat)))
 (FrV.mk (ArmV.x a) (ArmV.y a) (ArmV.half a) (ArmV.t a)) →
 n ≤ (1793 : Nat) →
 m ≤ (1793 : Nat) →
 o ≤ (652 : Nat) →
 ∃ (ls : List LinkV),
 List.map linkCh (ArmV.links a) = List.map linkCh ls ∧
 ((((1 : Nat) ≤ ByteArray.size (ArmV.name a) ∧
 ByteArray.size (ArmV.name a) ≤ (12 : Nat)) ∧
 ∀ (i : Nat) (x : UInt8),
 (Array.toList (ByteArray.data (ArmV.name a)))[i]? = some x →
 (97 : Nat) ≤ UInt8.toNat x ∧ UInt8.toNat x ≤ (122 : Nat)) ∧
 ((1 : Nat) ≤ List.length ls ∧ List.length ls ≤ (3 : Nat)) ∧
 (∀ (L : LinkV), L ∈ ls → GoodLink L) ∧
 n ≤ (1000000 : Nat) ∧ m ≤ (1000000 : Nat) ∧ o ≤ (1000000 : Nat)) ∧
 ∀ (e : Int),
 (e = (0 : Int) →
 ((Int.natAbs (Rat.num (FrV.x f)) ≤ (1000000 : Nat) ∧
 Rat.den (FrV.x f) ≤ (1000 : Nat)) ∧
 (Int.natAbs (Rat.num (FrV.y f)) ≤ (1000000 : Nat) ∧
 Rat.den (FrV.y f) ≤ (1000 : Nat)) ∧
 Int.natAbs (Rat.num (FrV.t f)) ≤ (1000000 : Nat) ∧
 Rat.den (FrV.t f) ≤ (1000 : Nat)) ∧
 (FrV.h f = true → FrV.t f = OfNat.ofNat (0 : Nat))) →
 bif e != (0 : Int) then K (AV.x false [Ch.v (Value.bool true)])
 else
 ∃ (ls : List LinkV),
 ∃ (b : Nat),
 ∃ (qs_1 : List Rat),
 List.map linkCh (ArmV.links a) = List.map linkCh ls ∧
 lR (63 : Nat) qs = lR b qs_1 ∧
 (GoodArm
 (ArmV.mk (ArmV.name a) (ArmV.x a) (ArmV.y a) (ArmV.half a)
 (ArmV.t a) ls) ∧
 b ≤ (400 : Nat) ∧ List.length qs_1 = List.length ls) ∧
 ∀ (fs : List FrV) (f_1 : FrV),
 fs ++ [f_1] =
 framesV
 (FrV.mk (ArmV.x a) (ArmV.y a) (ArmV.half a)
 (ArmV.t a))
 ls qs_1 →
 List.length fs = List.length ls →
 ∃ (ls_1 : List LinkV),
 ∃ (b : Nat),
 ∃ (qs_2 : List Rat),
 List.map linkCh (ArmV.links a) =
 List.map linkCh ls_1 ∧
 lR (63 : Nat) qs = lR b qs_2 ∧
 (GoodArm
 (ArmV.mk (ArmV.name a) (FrV.x f)
 (FrV.y f) (FrV.h f) (FrV.t f) ls_1) ∧
 b ≤ (400 : Nat) ∧
 List.length qs_2 = List.length ls_1) ∧
 ∀ (fs_1 : List FrV) (f_2 : FrV),
 fs_1 ++ [f_2] =
 framesV
 (FrV.mk (FrV.x f) (FrV.y f)
 (FrV.h f) (FrV.t f))
 ls_1 qs_2 →
 List.length fs_1 = List.length ls_1 →
 (189 : Nat) ≤ (1000000 : Nat) ∧
 FrsMoved
 (FrV.mk (Prod.fst p)
 (Prod.snd p) false
 (mkRat
 (IntKind.wrap IntKind.i64
 (t % (9 : Int) -
 (4 : Int)))
 (2 : Nat)))
 (List.map frCh fs ++
 [[Ch.r (FrV.x f_1)
 (bnd (List.length ls)),
 Ch.r (FrV.y f_1)
 (bnd (List.length ls)),
 Ch.v
 (Value.bool
 (FrV.h f_1)),
 Ch.r (FrV.t f_1)
 (bnd
 (List.length ls))]])
 (List.map frCh fs_1 ++
 [[Ch.r (FrV.x f_2)
 (bnd
 (List.length ls_1)),
 Ch.r (FrV.y f_2)
 (bnd
 (List.length ls_1)),
 Ch.v
 (Value.bool
 (FrV.h f_2)),
 Ch.r (FrV.t f_2)
 (bnd
 (List.length
 ls_1))]]) ∧
 K
 (AV.x false
 [Ch.v (Value.bool true)])) := by kernel_rfl
theorem g_fmov (l m k : List Int) (t : Int) (hl : l.length ≤ 9223372036854775807) (hm : m.length ≤ 9223372036854775807) (hk : k.length ≤ 9223372036854775807) (K : AV → Prop) (hK : K (.x false [.v (.bool true)])) : Holds (goal_fmov l m k t K) := by
  refine ⟨?_⟩
  rw [goal_fmov_vc]
  simp only [true_and]
  refine ⟨l, rfl, hl, fun a ha => ⟨a, m, rfl, rfl, ⟨MadeA.good ha, hm⟩, fun qs _ hq => ⟨k, rfl, hk, fun p => ?_⟩⟩⟩
  have hg := MadeA.good ha
  have hn := hg.n
  have hw : IntKind.i64.wrap (t % 9 - 4) = t % 9 - 4 := w64 (by omega)
  rw [hw]
  refine ⟨⟨by omega, by omega⟩, ⟨⟨by omega, by omega⟩, by omega, by omega⟩, by omega, by omega, fun b i j o hb hi hj ho => ⟨a.links, rfl, ⟨hg.name, hn, hg.links, by omega, by omega, by omega⟩, fun e he => bif_mk (fun _ => hK) (fun h0 => ?_)⟩⟩
  have he := he (by simpa using h0)
  have hgb : GoodArm ⟨a.name, b.x, b.y, b.h, b.t, a.links⟩ := ⟨hg.name, hn, he.1, he.2, hg.links⟩
  refine ⟨a.links, 63, qs, rfl, rfl, ⟨hg, by omega, hq⟩, fun fs f hf hl1 => ⟨a.links, 63, qs, rfl, rfl, ⟨hgb, by omega, hq⟩, fun gs g hgs hl2 => ⟨by omega, ?_, hK⟩⟩⟩
  have hbase : baseV a = ⟨a.x, a.y, a.half, a.t⟩ := rfl
  rw [show (⟨b.x, b.y, b.h, b.t⟩ : FrV) = b from rfl, hb, frames_moved, ← hf, List.map_append] at hgs
  obtain ⟨e1, e2⟩ := snoc_inj hgs
  have hbn : bnd a.links.length ≤ 120000000 := bnd_le hn.2
  refine ⟨by simp; omega, by simp; omega, fun i hi => ?_⟩
  have hi : i < (fs ++ [f]).length := by simpa using hi
  obtain ⟨u, hu⟩ : ∃ u, (fs ++ [f])[i]? = some u := ⟨_, List.getElem?_eq_getElem hi⟩
  have hv : (gs ++ [g])[i]? = some (frThen ⟨p.1, p.2, false, mkRat (t % 9 - 4) 2⟩ u) := by
    rw [hgs, ← List.map_append, List.getElem?_map, hu]; rfl
  obtain ⟨n1, h1, ld1⟩ := frs_ld hbn hu
  obtain ⟨n2, h2, ld2⟩ := frs_ld hbn hv
  exact ⟨u, _, n1, n2, by simp only [ldE]; erw [ld1]; rfl, by simp only [ldE]; erw [ld2]; rfl, h1, rfl⟩
theorem spec_fmov (l m k : List Int) (t : Int) (hl : l.length ≤ 9223372036854775807) (hm : m.length ≤ 9223372036854775807) (hk : k.length ≤ 9223372036854775807) : Eng.Spec Tryd.prog tabG debT 10 [.x false [.s 1 (ints l)], .x false [.s 1 (ints m)], .x false [.s 1 (ints k)], iA .i64 t] (fun av => av = .x false [.v (.bool true)]) :=
  spec_ofL T123wok mixed Tryd.func10 (by kernel_rfl) (by kernel_rfl) (by rfl) (g_fmov l m k t hl hm hk _ rfl)
end Go.Proofs
