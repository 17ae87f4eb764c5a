/- Lists of numbers: slices.Clone, slices.Equal; timing: cover, need. -/
import Derived.Test.YtmbpebgpiacppaaDoorR1
/- Lists of numbers: slices.Clone, slices.Equal; timing: cover, need. -/
namespace Go.Proofs
open Go Go.Eng
def lR (n : Nat) (qs : List Rat) : List (List Ch) := qs.map fun q => [Ch.r q n]
def sR (n : Nat) (qs : List Rat) : AV := .x false [.s 3 (lR n qs)]
def goal_cloneR (n : Nat) (qs : List Rat) : Prop := goalM (X := Unit) T26 noO noL Tryd.f24 [sR n qs] [] (fun _ => True) (fun _ => ⟨[(2, .x false [.w 0 0 qs.length])], [(0, rowR n qs)]⟩)
theorem goal_cloneR_vc (n : Nat) (qs : List Rat) : goal_cloneR n qs = (
 lR n qs ≠ [] ∧
 (((0 : Nat) + List.length (lR n qs)) * (40 : Nat) ≤ (140737488355328 : Nat) ∧
 (0 : Nat) + List.length (lR n qs) ≤ (9223372036854775807 : Nat)) ∧
 ∃ (x : Unit),
 True ∧
 (0 : Nat) = (0 : Nat) ∧
 (0 : Nat) + List.length (lR n qs) = List.length qs ∧
 (25 : Nat) = (25 : Nat) ∧
 (3 : Nat) = (3 : Nat) ∧
 ([] ++ lR n qs = List.map (fun (q : Rat) => [Ch.r q n]) qs ∨
 RowLE ([] ++ lR n qs) (List.map (fun (q : Rat) => [Ch.r q n]) qs)) ∧
 True) := by kernel_rfl
def inv_equalR (a : Nat) (ps : List Rat) (b : Nat) (qs : List Rat) : LI := fun _ => .inv ⟨Nat, fun i => ⟨[(0, sR a ps), (1, sR b qs), (12, iA .i64 ps.length), (13, iA .i64 i)], []⟩, fun i => i ≤ ps.length ∧ ps.take i = qs.take i, fun i => ps.length - i, fun _ => 0⟩
def ot_equalR : OT := fun id => bif id.beq 6 then ([0, 1, 2, 3, 4, 5, 6, 7, 8], [[], [], [0, 1], [2, 0, 1], [], [], [4, 5], [6, 4, 5], [3, 2, 0, 1, 7, 6, 4, 5]]) else ([], [])
def goal_equalR (a : Nat) (ps : List Rat) (b : Nat) (qs : List Rat) (K : AV → Prop) : Prop := goalL T26 ot_equalR (inv_equalR a ps b qs) Tryd.f18 [sR a ps, sR b qs] K
theorem goal_equalR_vc (a : Nat) (ps : List Rat) (b : Nat) (qs : List Rat) (K : AV → Prop) : goal_equalR a ps b qs K = (
 bif Int.ofNat (List.length (lR a ps)) != Int.ofNat (List.length (lR b qs)) then K (AV.x false [Ch.v (Value.bool false)])
 else
 (∃ (x : Nat),
 ((x ≤ List.length ps ∧ List.take x ps = List.take x qs) ∧ OfNat.ofNat (0 : Nat) = (0 : Nat)) ∧
 (3 : Nat) = (3 : Nat) ∧
 lR a ps = lR a ps ∧
 (3 : Nat) = (3 : Nat) ∧
 lR b qs = lR b qs ∧ Int.ofNat (List.length (lR a ps)) = Int.ofNat (List.length ps) ∧ (0 : Int) = Int.ofNat x ∧ True) ∧
 ∀ (x : Nat),
 x ≤ List.length ps ∧ List.take x ps = List.take x qs →
 OfNat.ofNat (0 : Nat) = (0 : Nat) →
 bif decide (Int.ofNat x < Int.ofNat (List.length ps)) then
 ((0 : Int) ≤ Int.ofNat x ∧ Int.ofNat x < Int.ofNat (List.length (lR a ps))) ∧
 ∃ (q : Rat),
 ∃ (n : Nat),
 ldE (lR a ps) (Int.toNat (Int.ofNat x)) (0 : Nat) (3 : Nat) = some [Ch.r q n] ∧
 ((0 : Int) ≤ Int.ofNat x ∧ Int.ofNat x < Int.ofNat (List.length (lR b qs))) ∧
 ∃ (q_1 : Rat),
 ∃ (n : Nat),
 ldE (lR b qs) (Int.toNat (Int.ofNat x)) (0 : Nat) (3 : Nat) = some [Ch.r q_1 n] ∧
 bif !(decide (q = q_1) && true) then K (AV.x false [Ch.v (Value.bool false)])
 else
 ∃ (x' : Nat),
 ((x' ≤ List.length ps ∧ List.take x' ps = List.take x' qs) ∧
 OfNat.ofNat (0 : Nat) = (0 : Nat) ∧ List.length ps - x' < List.length ps - x) ∧
 (3 : Nat) = (3 : Nat) ∧
 lR a ps = lR a ps ∧
 (3 : Nat) = (3 : Nat) ∧
 lR b qs = lR b qs ∧
 Int.ofNat (List.length ps) = Int.ofNat (List.length ps) ∧
 IntKind.wrap IntKind.i64 (Int.ofNat x + (1 : Int)) = Int.ofNat x' ∧ True
 else K (AV.x false [Ch.v (Value.bool true)])) := by kernel_rfl
def cvB (a b k : Nat) : Nat := 64 + k * (max a (b + 64) + 1)
def inv_cover (n : Nat) (sp : Rat) (a : Nat) (ac : Rat) (b : Nat) : LI := fun _ => .inv ⟨Nat, fun k => ⟨[(0, iA .i64 n), (4, .x false [.p 4 0]), (5, .x false [.p 5 0]), (6, .x false [.p 6 0]), (7, .x false [.p 7 0]), (8, iA .i64 ((k : Int) + 1))],
  [(4, .box 25 [.r sp a]), (5, .box 25 [.r ac b]), (6, .box 25 zeroR), (7, .box 25 [.r (sumF (capR sp ac n) k) (cvB a b k)])]⟩, fun k => k ≤ n, fun k => n - k, fun _ => 0⟩
def ot_cover : OT := fun id => bif id.beq 5 then ([0, 1, 2, 3, 4, 5, 6, 7, 8, 9, 10, 11, 12, 13], [[], [], [], [], [], [4], [], [5, 4, 6], [3, 7, 5, 4, 6], [8, 3, 7, 5, 4, 6], [2, 9, 8, 3, 7, 5, 4, 6], [1, 10, 2, 9, 8, 3, 7, 5, 4, 6], [0, 11, 1, 10, 2, 9, 8, 3, 7, 5, 4, 6], [12, 0, 11, 1, 10, 2, 9, 8, 3, 7, 5, 4, 6]]) else ([], [])
def goal_cover (n : Nat) (sp : Rat) (a : Nat) (ac : Rat) (b : Nat) (K : AV → Prop) : Prop := goalL T26 ot_cover (inv_cover n sp a ac b) Tryd.f67 [iA .i64 n, rA sp a, rA ac b] K
theorem goal_cover_vc (n : Nat) (sp : Rat) (a : Nat) (ac : Rat) (b : Nat) (K : AV → Prop) : goal_cover n sp a ac b K = (
 ((-9223372036854775808 : Int) ≤ (0 : Int) ∧ (0 : Int) < (9223372036854775808 : Int)) ∧
 (∃ (x : Nat),
 (x ≤ n ∧ OfNat.ofNat (0 : Nat) = (0 : Nat)) ∧
 Int.ofNat n = Int.ofNat n ∧
 (0 : Nat) = (0 : Nat) ∧
 (0 : Nat) = (0 : Nat) ∧
 (0 : Nat) = (0 : Nat) ∧
 (0 : Nat) = (0 : Nat) ∧
 (1 : Int) = Int.ofNat x + (1 : Int) ∧
 (25 : Nat) = (25 : Nat) ∧
 sp = sp ∧
 a ≤ a ∧
 (25 : Nat) = (25 : Nat) ∧
 ac = ac ∧
 b ≤ b ∧
 (25 : Nat) = (25 : Nat) ∧
 false = false ∧
 ByteArray.mk (Array.mk []) = ByteArray.mk (Array.mk []) ∧
 ByteArray.mk (Array.mk []) = ByteArray.mk (Array.mk []) ∧
 (25 : Nat) = (25 : Nat) ∧ ↑(0 : Int) = sumF (capR sp ac n) x ∧ (64 : Nat) ≤ cvB a b x ∧ True) ∧
 ∀ (x : Nat),
 x ≤ n →
 OfNat.ofNat (0 : Nat) = (0 : Nat) →
 bif decide (Int.ofNat x + (1 : Int) ≤ Int.ofNat n) then
 (((-9223372036854775808 : Int) ≤
 bif false then
 if
 IntKind.wrap IntKind.i64 (IntKind.wrap IntKind.i64 (Int.ofNat n + (1 : Int)) - (Int.ofNat x + (1 : Int))) >
 Int.ofNat x + (1 : Int) then
 IntKind.wrap IntKind.i64 (IntKind.wrap IntKind.i64 (Int.ofNat n + (1 : Int)) - (Int.ofNat x + (1 : Int)))
 else Int.ofNat x + (1 : Int)
 else
 if
 IntKind.wrap IntKind.i64 (IntKind.wrap IntKind.i64 (Int.ofNat n + (1 : Int)) - (Int.ofNat x + (1 : Int))) <
 Int.ofNat x + (1 : Int) then
 IntKind.wrap IntKind.i64 (IntKind.wrap IntKind.i64 (Int.ofNat n + (1 : Int)) - (Int.ofNat x + (1 : Int)))
 else Int.ofNat x + (1 : Int)) ∧
 (bif false then
 if
 IntKind.wrap IntKind.i64 (IntKind.wrap IntKind.i64 (Int.ofNat n + (1 : Int)) - (Int.ofNat x + (1 : Int))) >
 Int.ofNat x + (1 : Int) then
 IntKind.wrap IntKind.i64 (IntKind.wrap IntKind.i64 (Int.ofNat n + (1 : Int)) - (Int.ofNat x + (1 : Int)))
 else Int.ofNat x + (1 : Int)
 else
 if
 IntKind.wrap IntKind.i64 (IntKind.wrap IntKind.i64 (Int.ofNat n + (1 : Int)) - (Int.ofNat x + (1 : Int))) <
 Int.ofNat x + (1 : Int) then
 IntKind.wrap IntKind.i64 (IntKind.wrap IntKind.i64 (Int.ofNat n + (1 : Int)) - (Int.ofNat x + (1 : Int)))
 else Int.ofNat x + (1 : Int)) <
 (9223372036854775808 : Int)) ∧
 b + (64 : Nat) ≤ (4294967296 : Nat) ∧
 a + (b + (64 : Nat)) ≤ (4294967296 : Nat) ∧
 cvB a b x + max a (b + (64 : Nat)) + (1 : Nat) ≤ (4294967296 : Nat) ∧
 ∃ (x' : Nat),
 (x' ≤ n ∧ OfNat.ofNat (0 : Nat) = (0 : Nat) ∧ n - x' < n - x) ∧
 Int.ofNat n = Int.ofNat n ∧
 (0 : Nat) = (0 : Nat) ∧
 (0 : Nat) = (0 : Nat) ∧
 (0 : Nat) = (0 : Nat) ∧
 (0 : Nat) = (0 : Nat) ∧
 IntKind.wrap IntKind.i64 (Int.ofNat x + (1 : Int) + (1 : Int)) = Int.ofNat x' + (1 : Int) ∧
 (25 : Nat) = (25 : Nat) ∧
 sp = sp ∧
 a ≤ a ∧
 (25 : Nat) = (25 : Nat) ∧
 ac = ac ∧
 b ≤ b ∧
 (25 : Nat) = (25 : Nat) ∧
 false = false ∧
 ByteArray.mk (Array.mk []) = ByteArray.mk (Array.mk []) ∧
 ByteArray.mk (Array.mk []) = ByteArray.mk (Array.mk []) ∧
 (25 : Nat) = (25 : Nat) ∧
 sumF (capR sp ac n) x +
 minR sp
 (ac *
 ↑(bif false then
 if
 IntKind.wrap IntKind.i64
 (IntKind.wrap IntKind.i64 (Int.ofNat n + (1 : Int)) -
 (Int.ofNat x + (1 : Int))) >
 Int.ofNat x + (1 : Int) then
 IntKind.wrap IntKind.i64
 (IntKind.wrap IntKind.i64 (Int.ofNat n + (1 : Int)) -
 (Int.ofNat x + (1 : Int)))
 else Int.ofNat x + (1 : Int)
 else
 if
 IntKind.wrap IntKind.i64
 (IntKind.wrap IntKind.i64 (Int.ofNat n + (1 : Int)) -
 (Int.ofNat x + (1 : Int))) <
 Int.ofNat x + (1 : Int) then
 IntKind.wrap IntKind.i64
 (IntKind.wrap IntKind.i64 (Int.ofNat n + (1 : Int)) -
 (Int.ofNat x + (1 : Int)))
 else Int.ofNat x + (1 : Int))) =
 sumF (capR sp ac n) x' ∧
 cvB a b x + max a (b + (64 : Nat)) + (1 : Nat) ≤ cvB a b x' ∧ True
 else K (AV.x true [Ch.r (sumF (capR sp ac n) x) (cvB a b x)])) := by kernel_rfl
theorem lR_len (n : Nat) (qs : List Rat) : (lR n qs).length = qs.length := by simp [lR]
theorem lR_ld {n : Nat} {qs : List Rat} {i : Nat} {q : Rat} (h : qs[i]? = some q) : ldE (lR n qs) i 0 3 = some [.r q n] := by
  simp only [ldE, lR, List.getElem?_map, h]; rfl
theorem g_cloneR (n : Nat) (qs : List Rat) (h : qs ≠ []) (hl : qs.length ≤ 1000000000) : Holds (goal_cloneR n qs) := by
  refine ⟨?_⟩
  rw [goal_cloneR_vc]
  simp only [Int.ofNat_eq_natCast, true_and, and_true, Nat.zero_add, Nat.le_refl, true_implies, true_or, or_true]
  simp only [lR_len, true_and]
  refine ⟨fun e => h (by simpa [lR] using e), by omega, ⟨(), .inl ?_⟩⟩
  simp [lR]
theorem g_equalR (a : Nat) (ps : List Rat) (b : Nat) (qs : List Rat) (hl : ps.length ≤ 1000000000) (hl2 : qs.length ≤ 1000000000) (K : AV → Prop) (hK : K (.x false [.v (.bool (decide (ps = qs)))])) : Holds (goal_equalR a ps b qs K) := by
  refine ⟨?_⟩
  rw [goal_equalR_vc]
  simp only [Int.ofNat_eq_natCast, true_and, and_true, Nat.zero_add, Nat.le_refl, true_implies, true_or, or_true]
  simp only [lR_len, true_and]
  refine bif_mk (fun h => ?_) (fun h => ⟨⟨0, by simp, rfl⟩, fun x hx => bif_mk (fun hp => ?_) (fun hp => ?_)⟩)
  · have h : ps.length ≠ qs.length := fun e => by rw [e] at h; simp at h
    have : decide (ps = qs) = false := by simp; exact fun e => h (by rw [e])
    rw [this] at hK; exact hK
  · have h : ps.length = qs.length := by simp at h; omega
    have hp : x < ps.length := by have := of_decide_eq_true hp; omega
    obtain ⟨p, hpp⟩ : ∃ p, ps[x]? = some p := ⟨_, List.getElem?_eq_getElem hp⟩
    obtain ⟨q, hqq⟩ : ∃ q, qs[x]? = some q := ⟨_, List.getElem?_eq_getElem (by omega)⟩
    simp only [Int.toNat_natCast]
    refine ⟨by omega, _, _, lR_ld hpp, by omega, _, _, lR_ld hqq, bif_mk (fun he => ?_) (fun he => ?_)⟩
    · have he : p ≠ q := by simpa using he
      have : decide (ps = qs) = false := by
        simp
        intro e
        rw [e, hqq] at hpp
        exact he (Option.some.inj hpp).symm
      rw [this] at hK; exact hK
    · have he : p = q := by simpa using he
      subst he
      refine ⟨x + 1, ⟨⟨by omega, ?_⟩, by omega⟩, by rw [w64 (by omega)]; simp⟩
      rw [List.take_add_one, List.take_add_one, hx.2, hpp, hqq]
  · have h : ps.length = qs.length := by simp at h; omega
    have hp : ¬ x < ps.length := by have := of_decide_eq_false hp; omega
    have e := hx.2
    rw [List.take_of_length_le (by omega), List.take_of_length_le (by omega)] at e
    have : decide (ps = qs) = true := by simpa using e
    rw [this] at hK; exact hK
theorem min_nat {x y : Int} (hx : 0 ≤ x) (hy : 0 ≤ y) : (bif false then if y > x then y else x else if y < x then y else x) = ((min x.toNat y.toNat : Nat) : Int) := by
  simp only [cond_false]
  split <;> omega
theorem g_cover (n : Nat) (sp : Rat) (a : Nat) (ac : Rat) (b : Nat) (hn : n ≤ 50) (ha : a ≤ 1000000) (hb : b ≤ 1000000) (K : AV → Prop) (hK : K (rA (coverR sp ac n) (cvB a b n))) : Holds (goal_cover n sp a ac b K) := by
  refine ⟨?_⟩
  rw [goal_cover_vc]
  simp only [Int.ofNat_eq_natCast, true_and, and_true, Nat.zero_add, Nat.le_refl, true_implies, true_or, or_true]
  have cb : ∀ x, x ≤ n → cvB a b x ≤ 64 + 50 * (max a (b + 64) + 1) := fun x hx => by
    unfold cvB
    have : x * (max a (b + 64) + 1) ≤ 50 * (max a (b + 64) + 1) := Nat.mul_le_mul_right _ (by omega)
    omega
  refine ⟨by omega, ⟨0, Nat.zero_le _, by omega, by simp [sumF], Nat.le_add_right _ _⟩, fun x hx => bif_mk (fun hp => ?_) (fun hp => ?_)⟩
  · have hp : x + 1 ≤ n := by have := of_decide_eq_true hp; omega
    have e1 : IntKind.i64.wrap (IntKind.i64.wrap ((n : Int) + 1) - ((x : Int) + 1)) = ((n - x : Nat) : Int) := by
      rw [w64 (n := (n : Int) + 1) (by omega), w64 (by omega)]; omega
    have e2 : ((x : Int) + 1) = ((x + 1 : Nat) : Int) := by omega
    have hc := cb x hx
    rw [e1, e2, min_nat (by omega) (by omega), Int.toNat_natCast, Int.toNat_natCast]
    refine ⟨by omega, by omega, by omega, by omega, x + 1, ⟨hp, by omega⟩, by rw [w64 (by omega)], ?_, ?_⟩
    · show _ = sumF (capR sp ac n) x + capR sp ac n (x + 1)
      unfold capR
      rw [show n + 1 - (x + 1) = n - x by omega]
      rfl
    · unfold cvB
      rw [Nat.add_mul]
      omega
  · have hp : x = n := by have := of_decide_eq_false hp; omega
    subst hp
    exact hK
def c_cloneR : CtrM := fun as0 H d => match as0 with
  | [.x false [.s 3 xs]] => match H d with
    | none => some fun K => ∃ n qs, xs = lR n qs ∧ qs ≠ [] ∧ qs.length ≤ 1000000000 ∧ K (.x false [.w d 0 qs.length]) (backH [(0, d)] (lookH [(0, rowR n qs)]) H)
    | some _ => none
  | _ => none
def c_equalR : Ctr := fun as0 => match as0 with
  | [.x false [.s 3 xs], .x false [.s 3 ys]] => some fun K => ∃ a ps b qs, xs = lR a ps ∧ ys = lR b qs ∧ (ps.length ≤ 1000000000 ∧ qs.length ≤ 1000000000) ∧ K (.x false [.v (.bool (decide (ps = qs)))])
  | _ => none
def c_cover : Ctr := fun as0 => match as0 with
  | [.x false [.v (.int .i64 n)], .x true [.r sp a], .x true [.r ac b]] => some fun K => (0 ≤ n ∧ n ≤ 50) ∧ (a ≤ 1000000 ∧ b ≤ 1000000) ∧ K (rA (coverR sp ac n.toNat) (cvB a b n.toNat))
  | _ => none
theorem ok_cloneR : CtrMOK Tryd.prog tabG debT 24 c_cloneR := by
  refine ⟨enters Tryd.func24 (by kernel_rfl), fun l H d T hT K hK => ?_⟩
  unfold c_cloneR at hT
  split at hT
  · split at hT
    · rename_i hd
      cases hT
      obtain ⟨n, qs, rfl, h0, hl, hK⟩ := hK
      exact specM_new T26ok mixed Tryd.func24 (by kernel_rfl) (by kernel_rfl) (by rfl) (by rfl) hd (by kernel_rfl) (g_cloneR n qs h0 hl) hK
    · cases hT
  · cases hT
theorem ok_equalR : CtrOK Tryd.prog tabG debT 18 c_equalR := by
  refine ⟨enters Tryd.func18 (by kernel_rfl), fun l T hT K hK => ?_⟩
  unfold c_equalR at hT
  split at hT
  · cases hT
    obtain ⟨a, ps, b, qs, rfl, rfl, ⟨h1, h2⟩, hK⟩ := hK
    exact spec_ofL T26ok mixed Tryd.func18 (by kernel_rfl) (by kernel_rfl) (by rfl) (g_equalR a ps b qs h1 h2 K hK)
  · cases hT
theorem ok_cover : CtrOK Tryd.prog tabG debT 67 c_cover := by
  refine ⟨enters Tryd.func67 (by kernel_rfl), fun l T hT K hK => ?_⟩
  unfold c_cover at hT
  split at hT
  · cases hT
    obtain ⟨⟨h0, h1⟩, ⟨h2, h3⟩, hK⟩ := hK
    rename_i n sp a ac b
    obtain ⟨n, rfl⟩ := Int.eq_ofNat_of_zero_le h0
    exact spec_ofL T26ok mixed Tryd.func67 (by kernel_rfl) (by kernel_rfl) (by rfl) (g_cover n sp a ac b (by omega) h2 h3 K hK)
  · cases hT
def L27 : List (Nat × Ctr) := (18, c_equalR) :: (67, c_cover) :: L26
def M27 : List (Nat × CtrM) := (24, c_cloneR) :: M23
def T27 : Tabs := mkT L27 M27 X4
theorem L27ok : CtrsOK Tryd.prog tabG debT L27 := .cons ok_equalR (.cons ok_cover L26ok)
theorem M27ok : CtrMsOK Tryd.prog tabG debT M27 := .cons ok_cloneR M23ok
theorem T27ok : TabsOK Tryd.prog tabG debT T27 := mkTok L27ok M27ok X4ok
def inv_need (far : Rat) (c : Nat) (sp : Rat) (a : Nat) (ac : Rat) (b : Nat) : LI := fun _ => .inv ⟨Nat, fun k => ⟨[(3, .x false [.p 3 0]), (4, .x false [.p 4 0]), (5, .x false [.p 5 0]), (7, iA .i64 ((k : Int) + 1))],
  [(3, .box 25 [.r far c]), (4, .box 25 [.r sp a]), (5, .box 25 [.r ac b])]⟩, fun k => k ≤ 50 ∧ ∀ j, 1 ≤ j → j ≤ k → ¬ far ≤ coverR sp ac j, fun k => 50 - k, fun _ => 0⟩
def ot_need : OT := fun id => bif id.beq 4 then ([0, 1, 2, 4, 3, 5, 6], [[], [], [], [0, 1, 2], [], [3, 0, 1, 2, 4], [5, 3, 0, 1, 2, 4]]) else ([], [])
def goal_need (far : Rat) (c : Nat) (sp : Rat) (a : Nat) (ac : Rat) (b : Nat) (K : AV → Prop) : Prop := goalL T27 ot_need (inv_need far c sp a ac b) Tryd.f66 [rA far c, rA sp a, rA ac b] K
theorem goal_need_vc (far : Rat) (c : Nat) (sp : Rat) (a : Nat) (ac : Rat) (b : Nat) (K : AV → Prop) : goal_need far c sp a ac b K = (
 (∃ (x : Nat),
 ((x ≤ (50 : Nat) ∧ ∀ (j : Nat), (1 : Nat) ≤ j → j ≤ x → ¬far ≤ coverR sp ac j) ∧ OfNat.ofNat (0 : Nat) = (0 : Nat)) ∧
 (0 : Nat) = (0 : Nat) ∧
 (0 : Nat) = (0 : Nat) ∧
 (0 : Nat) = (0 : Nat) ∧
 (1 : Int) = Int.ofNat x + (1 : Int) ∧
 (25 : Nat) = (25 : Nat) ∧
 far = far ∧ c ≤ c ∧ (25 : Nat) = (25 : Nat) ∧ sp = sp ∧ a ≤ a ∧ (25 : Nat) = (25 : Nat) ∧ ac = ac ∧ b ≤ b ∧ True) ∧
 ∀ (x : Nat),
 (x ≤ (50 : Nat) ∧ ∀ (j : Nat), (1 : Nat) ≤ j → j ≤ x → ¬far ≤ coverR sp ac j) →
 OfNat.ofNat (0 : Nat) = (0 : Nat) →
 bif decide (Int.ofNat x + (1 : Int) ≤ (50 : Int)) then
 ((0 : Int) ≤ Int.ofNat x + (1 : Int) ∧ Int.ofNat x + (1 : Int) ≤ (50 : Int)) ∧
 (a ≤ (1000000 : Nat) ∧ b ≤ (1000000 : Nat)) ∧
 cvB a b (Int.toNat (Int.ofNat x + (1 : Int))) + c ≤ (4294967296 : Nat) ∧
 bif decide (cmpR (coverR sp ac (Int.toNat (Int.ofNat x + (1 : Int)))) far ≥ (0 : Int)) then
 K (AV.x false [Ch.v (Value.int IntKind.i64 (Int.ofNat x + (1 : Int)))])
 else
 ∃ (x' : Nat),
 ((x' ≤ (50 : Nat) ∧ ∀ (j : Nat), (1 : Nat) ≤ j → j ≤ x' → ¬far ≤ coverR sp ac j) ∧
 OfNat.ofNat (0 : Nat) = (0 : Nat) ∧ (50 : Nat) - x' < (50 : Nat) - x) ∧
 (0 : Nat) = (0 : Nat) ∧
 (0 : Nat) = (0 : Nat) ∧
 (0 : Nat) = (0 : Nat) ∧
 IntKind.wrap IntKind.i64 (Int.ofNat x + (1 : Int) + (1 : Int)) = Int.ofNat x' + (1 : Int) ∧
 (25 : Nat) = (25 : Nat) ∧
 far = far ∧
 c ≤ c ∧ (25 : Nat) = (25 : Nat) ∧ sp = sp ∧ a ≤ a ∧ (25 : Nat) = (25 : Nat) ∧ ac = ac ∧ b ≤ b ∧ True
 else K (AV.x false [Ch.v (Value.int IntKind.i64 (-1 : Int))])) := by kernel_rfl
def IsNeed (far sp ac : Rat) (n : Nat) : Prop := 1 ≤ n ∧ n ≤ 50 ∧ far ≤ coverR sp ac n ∧ ∀ j, 1 ≤ j → j < n → ¬ far ≤ coverR sp ac j
def NoNeed (far sp ac : Rat) : Prop := ∀ j, 1 ≤ j → j ≤ 50 → ¬ far ≤ coverR sp ac j
theorem g_need (far : Rat) (c : Nat) (sp : Rat) (a : Nat) (ac : Rat) (b : Nat) (hc : c ≤ 1000000) (ha : a ≤ 1000000) (hb : b ≤ 1000000) (K : AV → Prop) (h1 : ∀ n : Nat, IsNeed far sp ac n → K (iA .i64 n)) (h2 : NoNeed far sp ac → K (iA .i64 (-1))) : Holds (goal_need far c sp a ac b K) := by
  refine ⟨?_⟩
  rw [goal_need_vc]
  simp only [Int.ofNat_eq_natCast, true_and, and_true, Nat.zero_add, Nat.le_refl, true_implies, true_or, or_true]
  have cb : ∀ x, x ≤ 50 → cvB a b x ≤ 64 + 50 * (max a (b + 64) + 1) := fun x hx => by
    unfold cvB
    have : x * (max a (b + 64) + 1) ≤ 50 * (max a (b + 64) + 1) := Nat.mul_le_mul_right _ (by omega)
    omega
  refine ⟨⟨0, ⟨by omega, fun j h1 h2 => by omega⟩, by omega⟩, fun x hx => bif_mk (fun hp => ?_) (fun hp => ?_)⟩
  · have hp : x + 1 ≤ 50 := by have := of_decide_eq_true hp; omega
    have e2 : ((x : Int) + 1) = ((x + 1 : Nat) : Int) := by omega
    have hc2 := cb (x + 1) hp
    simp only [e2, Int.toNat_natCast]
    refine ⟨by omega, by omega, by omega, bif_mk (fun hq => ?_) (fun hq => ?_)⟩
    · have hq := (cmp_ge _ _).1 (of_decide_eq_true hq)
      exact h1 (x + 1) ⟨by omega, hp, hq, fun j a b => hx.2 j a (by omega)⟩
    · have hq : ¬ far ≤ coverR sp ac (x + 1) := fun h => of_decide_eq_false hq ((cmp_ge _ _).2 h)
      refine ⟨x + 1, ⟨⟨hp, fun j h1 h2 => ?_⟩, by omega⟩, by rw [w64 (by omega)]⟩
      by_cases e : j = x + 1
      · subst e; exact hq
      · exact hx.2 j h1 (by omega)
  · have hp : ¬ x + 1 ≤ 50 := by have := of_decide_eq_false hp; omega
    exact h2 fun j a b => hx.2 j a (by omega)
def c_need : Ctr := fun as0 => match as0 with
  | [.x true [.r far c], .x true [.r sp a], .x true [.r ac b]] => some fun K => (c ≤ 1000000 ∧ a ≤ 1000000 ∧ b ≤ 1000000) ∧ (∀ n : Nat, IsNeed far sp ac n → K (iA .i64 n)) ∧ (NoNeed far sp ac → K (iA .i64 (-1)))
  | _ => none
theorem ok_need : CtrOK Tryd.prog tabG debT 66 c_need := by
  refine ⟨enters Tryd.func66 (by kernel_rfl), fun l T hT K hK => ?_⟩
  unfold c_need at hT
  split at hT
  · cases hT
    obtain ⟨⟨h1, h2, h3⟩, h4, h5⟩ := hK
    exact spec_ofL T27ok mixed Tryd.func66 (by kernel_rfl) (by kernel_rfl) (by rfl) (g_need _ _ _ _ _ _ h1 h2 h3 K h4 h5)
  · cases hT
def L28 : List (Nat × Ctr) := (66, c_need) :: L27
def T28 : Tabs := mkT L28 M27 X4
theorem L28ok : CtrsOK Tryd.prog tabG debT L28 := .cons ok_need L27ok
theorem T28ok : TabsOK Tryd.prog tabG debT T28 := mkTok L28ok M27ok X4ok
end Go.Proofs
/- timing.Profile. -/
namespace Go.Proofs
open Go Go.Eng
/-- the first k changes of a profile of m ticks -/
def profR (far sp ac : Rat) (m k : Nat) : List Rat := (List.range k).map fun i => far / coverR sp ac m * capR sp ac m (i + 1)
def pfB (c a b m : Nat) : Nat := c + cvB a b m + max a (b + 64)
def okM (far sp ac : Rat) (ticks : Int) (m : Nat) : Prop := ∃ n, IsNeed far sp ac n ∧ m = max n ticks.toNat ∧ (0 < ticks → (n : Int) ≤ ticks)
def pfH (far : Rat) (c : Nat) (sp : Rat) (a : Nat) (ac : Rat) (b m : Nat) : List (Nat × Blk) := [(4, .box 25 [.r far c]), (5, .box 25 [.r sp a]), (6, .box 25 [.r ac b]), (11, .box 25 [.r (far / coverR sp ac m) (c + cvB a b m)])]
def pfT (m : Nat) : List (Nat × AV) := [(4, .x false [.p 4 0]), (5, .x false [.p 5 0]), (6, .x false [.p 6 0]), (10, iA .i64 m), (11, .x false [.p 11 0])]
def inv_Profile (far : Rat) (c : Nat) (sp : Rat) (a : Nat) (ac : Rat) (b : Nat) (ticks : Int) : LI := fun id => bif id.beq 6 then .cut ⟨Nat, fun n => ⟨[(3, iA .i64 ticks), (4, .x false [.p 4 0]), (5, .x false [.p 5 0]), (6, .x false [.p 6 0]), (10, iA .i64 n)], [(4, .box 25 [.r far c]), (5, .box 25 [.r sp a]), (6, .box 25 [.r ac b])]⟩, fun n => IsNeed far sp ac n ∧ (0 < ticks → (n : Int) ≤ ticks), fun _ => 0, fun _ => 0⟩
  else bif id.beq 8 then .cut ⟨Nat, fun m => ⟨pfT m, pfH far c sp a ac b m⟩, okM far sp ac ticks, fun _ => 0, fun _ => 0⟩
  else bif id.beq 10 then .inv ⟨Nat × Nat, fun x => ⟨(13, .x false [.w 500 0 x.2]) :: (14, iA .i64 ((x.2 : Int) + 1)) :: pfT x.1,
  (500, rowR (pfB c a b x.1) (profR far sp ac x.1 x.2)) :: pfH far c sp a ac b x.1⟩, fun x => okM far sp ac ticks x.1 ∧ x.2 ≤ x.1, fun x => x.1 - x.2, fun _ => 0⟩ else .no
def ot_Profile : OT := fun id => bif id.beq 7 then ([0, 1, 2, 3, 9, 4, 5, 6, 7, 8, 10, 11], [[], [], [], [], [1, 2, 3], [0, 4, 1, 2, 3], [5, 0, 4, 1, 2, 3], [6, 5, 0, 4, 1, 2, 3], [6, 5, 0, 4, 1, 2, 3], [], [9, 7, 6, 5, 0, 4, 1, 2, 3], [8, 6, 5, 0, 4, 1, 2, 3, 10, 9, 7]]) else bif id.beq 12 then ([0, 1, 2, 3, 4, 5, 6, 7, 8, 9, 10, 11, 12, 13, 14, 15, 16], [[], [], [], [], [], [], [5], [], [6, 5, 7], [4, 8, 6, 5, 7], [9, 4, 8, 6, 5, 7], [3, 10, 9, 4, 8, 6, 5, 7], [2, 11, 3, 10, 9, 4, 8, 6, 5, 7], [1, 12, 2, 11, 3, 10, 9, 4, 8, 6, 5, 7], [13, 1, 12, 2, 11, 3, 10, 9, 4, 8, 6, 5, 7], [0, 14, 13, 1, 12, 2, 11, 3, 10, 9, 4, 8, 6, 5, 7], [15, 0, 14, 13, 1, 12, 2, 11, 3, 10, 9, 4, 8, 6, 5, 7]]) else ([], [])
def goal_Profile (far : Rat) (c : Nat) (sp : Rat) (a : Nat) (ac : Rat) (b : Nat) (ticks : Int) (K : AV → Prop) : Prop := goalL T28 ot_Profile (inv_Profile far c sp a ac b ticks) Tryd.f21 [rA far c, rA sp a, rA ac b, iA .i64 ticks] K
theorem goal_Profile_vc (far : Rat) (c : Nat) (sp : Rat) (a : Nat) (ac : Rat) (b : Nat) (ticks : Int) (K : AV → Prop) : goal_Profile far c sp a ac b ticks K = (
 c ≤ (4294967296 : Nat) ∧
 bif decide (sgnR far < (0 : Int)) then
 K (AV.t [(false, [Ch.v (Value.slice none (0 : Nat) (0 : Nat))]), (false, [Ch.v (Value.int IntKind.i64 (1 : Int))])])
 else
 a ≤ (4294967296 : Nat) ∧
 bif decide (sgnR sp ≤ (0 : Int)) then
 K (AV.t [(false, [Ch.v (Value.slice none (0 : Nat) (0 : Nat))]), (false, [Ch.v (Value.int IntKind.i64 (1 : Int))])])
 else
 b ≤ (4294967296 : Nat) ∧
 bif decide (sgnR ac ≤ (0 : Int)) then
 K (AV.t [(false, [Ch.v (Value.slice none (0 : Nat) (0 : Nat))]), (false, [Ch.v (Value.int IntKind.i64 (1 : Int))])])
 else
 bif decide (ticks < (0 : Int)) then
 K (AV.t [(false, [Ch.v (Value.slice none (0 : Nat) (0 : Nat))]), (false, [Ch.v (Value.int IntKind.i64 (1 : Int))])])
 else
 bif decide (ticks > (50 : Int)) then
 K (AV.t [(false, [Ch.v (Value.slice none (0 : Nat) (0 : Nat))]), (false, [Ch.v (Value.int IntKind.i64 (1 : Int))])])
 else
 (c ≤ (1000000 : Nat) ∧ a ≤ (1000000 : Nat) ∧ b ≤ (1000000 : Nat)) ∧
 (∀ (n : Nat),
 ((1 : Nat) ≤ n ∧ n ≤ (50 : Nat) ∧ far ≤ coverR sp ac n ∧ ∀ (j : Nat), (1 : Nat) ≤ j → j < n → ¬far ≤ coverR sp ac j) →
 (bif decide (ticks > (0 : Int)) then
 bif decide (Int.ofNat n > ticks) then
 K
 (AV.t
 [(false, [Ch.v (Value.slice none (0 : Nat) (0 : Nat))]),
 (false, [Ch.v (Value.int IntKind.i64 (19 : Int))])])
 else
 ∃ (x : Nat),
 ((((1 : Nat) ≤ x ∧
 x ≤ (50 : Nat) ∧
 far ≤ coverR sp ac x ∧ ∀ (j : Nat), (1 : Nat) ≤ j → j < x → ¬far ≤ coverR sp ac j) ∧
 ((0 : Int) < ticks → Int.ofNat x ≤ ticks)) ∧
 OfNat.ofNat (0 : Nat) = (0 : Nat)) ∧
 ticks = ticks ∧
 (0 : Nat) = (0 : Nat) ∧
 (0 : Nat) = (0 : Nat) ∧
 (0 : Nat) = (0 : Nat) ∧
 Int.ofNat n = Int.ofNat x ∧
 (25 : Nat) = (25 : Nat) ∧
 far = far ∧
 c ≤ c ∧
 (25 : Nat) = (25 : Nat) ∧
 sp = sp ∧ a ≤ a ∧ (25 : Nat) = (25 : Nat) ∧ ac = ac ∧ b ≤ b ∧ True
 else
 ∃ (x : Nat),
 ((((1 : Nat) ≤ x ∧
 x ≤ (50 : Nat) ∧ far ≤ coverR sp ac x ∧ ∀ (j : Nat), (1 : Nat) ≤ j → j < x → ¬far ≤ coverR sp ac j) ∧
 ((0 : Int) < ticks → Int.ofNat x ≤ ticks)) ∧
 OfNat.ofNat (0 : Nat) = (0 : Nat)) ∧
 ticks = ticks ∧
 (0 : Nat) = (0 : Nat) ∧
 (0 : Nat) = (0 : Nat) ∧
 (0 : Nat) = (0 : Nat) ∧
 Int.ofNat n = Int.ofNat x ∧
 (25 : Nat) = (25 : Nat) ∧
 far = far ∧
 c ≤ c ∧
 (25 : Nat) = (25 : Nat) ∧
 sp = sp ∧ a ≤ a ∧ (25 : Nat) = (25 : Nat) ∧ ac = ac ∧ b ≤ b ∧ True) ∧
 ∀ (x : Nat),
 ((1 : Nat) ≤ x ∧
 x ≤ (50 : Nat) ∧ far ≤ coverR sp ac x ∧ ∀ (j : Nat), (1 : Nat) ≤ j → j < x → ¬far ≤ coverR sp ac j) ∧
 ((0 : Int) < ticks → Int.ofNat x ≤ ticks) →
 OfNat.ofNat (0 : Nat) = (0 : Nat) →
 ((((0 : Int) ≤
 bif true then if ticks > Int.ofNat x then ticks else Int.ofNat x
 else if ticks < Int.ofNat x then ticks else Int.ofNat x) ∧
 (bif true then if ticks > Int.ofNat x then ticks else Int.ofNat x
 else if ticks < Int.ofNat x then ticks else Int.ofNat x) ≤
 (50 : Int)) ∧
 (a ≤ (1000000 : Nat) ∧ b ≤ (1000000 : Nat)) ∧
 c +
 cvB a b
 (Int.toNat
 (bif true then if ticks > Int.ofNat x then ticks else Int.ofNat x
 else if ticks < Int.ofNat x then ticks else Int.ofNat x)) ≤
 (4294967296 : Nat) ∧
 (coverR sp ac
 (Int.toNat
 (bif true then if ticks > Int.ofNat x then ticks else Int.ofNat x
 else if ticks < Int.ofNat x then ticks else Int.ofNat x)) ≠
 OfNat.ofNat (0 : Nat) →
 ∃ (x_1 : Nat),
 ((∃ (n : Nat),
 ((1 : Nat) ≤ n ∧
 n ≤ (50 : Nat) ∧
 far ≤ coverR sp ac n ∧
 ∀ (j : Nat), (1 : Nat) ≤ j → j < n → ¬far ≤ coverR sp ac j) ∧
 x_1 = max n (Int.toNat ticks) ∧ ((0 : Int) < ticks → Int.ofNat n ≤ ticks)) ∧
 OfNat.ofNat (0 : Nat) = (0 : Nat)) ∧
 (0 : Nat) = (0 : Nat) ∧
 (0 : Nat) = (0 : Nat) ∧
 (0 : Nat) = (0 : Nat) ∧
 (bif true then if ticks > Int.ofNat x then ticks else Int.ofNat x
 else if ticks < Int.ofNat x then ticks else Int.ofNat x) =
 Int.ofNat x_1 ∧
 (0 : Nat) = (0 : Nat) ∧
 (25 : Nat) = (25 : Nat) ∧
 far = far ∧
 c ≤ c ∧
 (25 : Nat) = (25 : Nat) ∧
 sp = sp ∧
 a ≤ a ∧
 (25 : Nat) = (25 : Nat) ∧
 ac = ac ∧
 b ≤ b ∧
 (25 : Nat) = (25 : Nat) ∧
 far /
 coverR sp ac
 (Int.toNat
 (bif true then
 if ticks > Int.ofNat x then ticks else Int.ofNat x
 else
 if ticks < Int.ofNat x then ticks
 else Int.ofNat x)) =
 far / coverR sp ac x_1 ∧
 c +
 cvB a b
 (Int.toNat
 (bif true then
 if ticks > Int.ofNat x then ticks
 else Int.ofNat x
 else
 if ticks < Int.ofNat x then ticks
 else Int.ofNat x)) ≤
 c + cvB a b x_1 ∧
 True) ∧
 (coverR sp ac
 (Int.toNat
 (bif true then if ticks > Int.ofNat x then ticks else Int.ofNat x
 else if ticks < Int.ofNat x then ticks else Int.ofNat x)) =
 OfNat.ofNat (0 : Nat) →
 ∃ (x_1 : Nat),
 ((∃ (n : Nat),
 ((1 : Nat) ≤ n ∧
 n ≤ (50 : Nat) ∧
 far ≤ coverR sp ac n ∧
 ∀ (j : Nat), (1 : Nat) ≤ j → j < n → ¬far ≤ coverR sp ac j) ∧
 x_1 = max n (Int.toNat ticks) ∧ ((0 : Int) < ticks → Int.ofNat n ≤ ticks)) ∧
 OfNat.ofNat (0 : Nat) = (0 : Nat)) ∧
 (0 : Nat) = (0 : Nat) ∧
 (0 : Nat) = (0 : Nat) ∧
 (0 : Nat) = (0 : Nat) ∧
 (bif true then if ticks > Int.ofNat x then ticks else Int.ofNat x
 else if ticks < Int.ofNat x then ticks else Int.ofNat x) =
 Int.ofNat x_1 ∧
 (0 : Nat) = (0 : Nat) ∧
 (25 : Nat) = (25 : Nat) ∧
 far = far ∧
 c ≤ c ∧
 (25 : Nat) = (25 : Nat) ∧
 sp = sp ∧
 a ≤ a ∧
 (25 : Nat) = (25 : Nat) ∧
 ac = ac ∧ b ≤ b ∧ (25 : Nat) = (25 : Nat) ∧ False)) ∧
 ∀ (x : Nat),
 okM far sp ac ticks x →
 OfNat.ofNat (0 : Nat) = (0 : Nat) →
 (∃ (x_1 : Nat × Nat),
 (((∃ (n : Nat),
 ((1 : Nat) ≤ n ∧
 n ≤ (50 : Nat) ∧
 far ≤ coverR sp ac n ∧
 ∀ (j : Nat), (1 : Nat) ≤ j → j < n → ¬far ≤ coverR sp ac j) ∧
 Prod.fst x_1 = max n (Int.toNat ticks) ∧ ((0 : Int) < ticks → Int.ofNat n ≤ ticks)) ∧
 Prod.snd x_1 ≤ Prod.fst x_1) ∧
 OfNat.ofNat (0 : Nat) = (0 : Nat)) ∧
 Value.slice none (0 : Nat) (0 : Nat) = Value.slice none (0 : Nat) (0 : Nat) ∧
 (0 : Nat) = (0 : Nat) ∧
 Prod.snd x_1 = (0 : Nat) ∧
 (1 : Int) = Int.ofNat (Prod.snd x_1) + (1 : Int) ∧
 (0 : Nat) = (0 : Nat) ∧
 (0 : Nat) = (0 : Nat) ∧
 (0 : Nat) = (0 : Nat) ∧
 Int.ofNat x = Int.ofNat (Prod.fst x_1) ∧
 (0 : Nat) = (0 : Nat) ∧
 List.map (fun (q : Rat) => [Ch.r q (pfB c a b (Prod.fst x_1))])
 (profR far sp ac (Prod.fst x_1) (Prod.snd x_1)) =
 [] ∧
 (25 : Nat) = (25 : Nat) ∧
 far = far ∧
 c ≤ c ∧
 (25 : Nat) = (25 : Nat) ∧
 sp = sp ∧
 a ≤ a ∧
 (25 : Nat) = (25 : Nat) ∧
 ac = ac ∧
 b ≤ b ∧
 (25 : Nat) = (25 : Nat) ∧
 far / coverR sp ac x =
 far / coverR sp ac (Prod.fst x_1) ∧
 c + cvB a b x ≤ c + cvB a b (Prod.fst x_1) ∧ True) ∧
 ∀ (x : Nat × Nat),
 okM far sp ac ticks (Prod.fst x) ∧ Prod.snd x ≤ Prod.fst x →
 OfNat.ofNat (0 : Nat) = (0 : Nat) →
 bif decide (Int.ofNat (Prod.snd x) + (1 : Int) ≤ Int.ofNat (Prod.fst x)) then
 (((-9223372036854775808 : Int) ≤
 bif false then
 if
 IntKind.wrap IntKind.i64
 (IntKind.wrap IntKind.i64 (Int.ofNat (Prod.fst x) + (1 : Int)) -
 (Int.ofNat (Prod.snd x) + (1 : Int))) >
 Int.ofNat (Prod.snd x) + (1 : Int) then
 IntKind.wrap IntKind.i64
 (IntKind.wrap IntKind.i64 (Int.ofNat (Prod.fst x) + (1 : Int)) -
 (Int.ofNat (Prod.snd x) + (1 : Int)))
 else Int.ofNat (Prod.snd x) + (1 : Int)
 else
 if
 IntKind.wrap IntKind.i64
 (IntKind.wrap IntKind.i64 (Int.ofNat (Prod.fst x) + (1 : Int)) -
 (Int.ofNat (Prod.snd x) + (1 : Int))) <
 Int.ofNat (Prod.snd x) + (1 : Int) then
 IntKind.wrap IntKind.i64
 (IntKind.wrap IntKind.i64 (Int.ofNat (Prod.fst x) + (1 : Int)) -
 (Int.ofNat (Prod.snd x) + (1 : Int)))
 else Int.ofNat (Prod.snd x) + (1 : Int)) ∧
 (bif false then
 if
 IntKind.wrap IntKind.i64
 (IntKind.wrap IntKind.i64 (Int.ofNat (Prod.fst x) + (1 : Int)) -
 (Int.ofNat (Prod.snd x) + (1 : Int))) >
 Int.ofNat (Prod.snd x) + (1 : Int) then
 IntKind.wrap IntKind.i64
 (IntKind.wrap IntKind.i64 (Int.ofNat (Prod.fst x) + (1 : Int)) -
 (Int.ofNat (Prod.snd x) + (1 : Int)))
 else Int.ofNat (Prod.snd x) + (1 : Int)
 else
 if
 IntKind.wrap IntKind.i64
 (IntKind.wrap IntKind.i64 (Int.ofNat (Prod.fst x) + (1 : Int)) -
 (Int.ofNat (Prod.snd x) + (1 : Int))) <
 Int.ofNat (Prod.snd x) + (1 : Int) then
 IntKind.wrap IntKind.i64
 (IntKind.wrap IntKind.i64 (Int.ofNat (Prod.fst x) + (1 : Int)) -
 (Int.ofNat (Prod.snd x) + (1 : Int)))
 else Int.ofNat (Prod.snd x) + (1 : Int)) <
 (9223372036854775808 : Int)) ∧
 b + (64 : Nat) ≤ (4294967296 : Nat) ∧
 a + (b + (64 : Nat)) ≤ (4294967296 : Nat) ∧
 c + cvB a b (Prod.fst x) + max a (b + (64 : Nat)) ≤ (4294967296 : Nat) ∧
 ((Prod.snd x + (1 : Nat)) * (40 : Nat) ≤ (140737488355328 : Nat) ∧
 Prod.snd x + (1 : Nat) ≤ (9223372036854775807 : Nat)) ∧
 ∃ (x' : Nat × Nat),
 (((∃ (n : Nat),
 ((1 : Nat) ≤ n ∧
 n ≤ (50 : Nat) ∧
 far ≤ coverR sp ac n ∧
 ∀ (j : Nat), (1 : Nat) ≤ j → j < n → ¬far ≤ coverR sp ac j) ∧
 Prod.fst x' = max n (Int.toNat ticks) ∧
 ((0 : Int) < ticks → Int.ofNat n ≤ ticks)) ∧
 Prod.snd x' ≤ Prod.fst x') ∧
 OfNat.ofNat (0 : Nat) = (0 : Nat) ∧
 Prod.fst x' - Prod.snd x' < Prod.fst x - Prod.snd x) ∧
 (0 : Nat) = (0 : Nat) ∧
 Prod.snd x + (1 : Nat) = Prod.snd x' ∧
 IntKind.wrap IntKind.i64
 (Int.ofNat (Prod.snd x) + (1 : Int) + (1 : Int)) =
 Int.ofNat (Prod.snd x') + (1 : Int) ∧
 (0 : Nat) = (0 : Nat) ∧
 (0 : Nat) = (0 : Nat) ∧
 (0 : Nat) = (0 : Nat) ∧
 Int.ofNat (Prod.fst x) = Int.ofNat (Prod.fst x') ∧
 (0 : Nat) = (0 : Nat) ∧
 (25 : Nat) = (25 : Nat) ∧
 (3 : Nat) = (3 : Nat) ∧
 (List.take (Prod.snd x)
 (List.map
 (fun (q : Rat) =>
 [Ch.r q (pfB c a b (Prod.fst x))])
 (profR far sp ac (Prod.fst x)
 (Prod.snd x))) ++
 [[Ch.r
 (far / coverR sp ac (Prod.fst x) *
 minR sp
 (ac *
 ↑(bif false then
 if
 IntKind.wrap IntKind.i64
 (IntKind.wrap
 IntKind.i64
 (Int.ofNat
 (Prod.fst x) +
 (1 : Int)) -
 (Int.ofNat
 (Prod.snd x) +
 (1 : Int))) >
 Int.ofNat (Prod.snd x) +
 (1 : Int) then
 IntKind.wrap IntKind.i64
 (IntKind.wrap IntKind.i64
 (Int.ofNat
 (Prod.fst x) +
 (1 : Int)) -
 (Int.ofNat (Prod.snd x) +
 (1 : Int)))
 else
 Int.ofNat (Prod.snd x) +
 (1 : Int)
 else
 if
 IntKind.wrap IntKind.i64
 (IntKind.wrap
 IntKind.i64
 (Int.ofNat
 (Prod.fst x) +
 (1 : Int)) -
 (Int.ofNat
 (Prod.snd x) +
 (1 : Int))) <
 Int.ofNat (Prod.snd x) +
 (1 : Int) then
 IntKind.wrap IntKind.i64
 (IntKind.wrap IntKind.i64
 (Int.ofNat
 (Prod.fst x) +
 (1 : Int)) -
 (Int.ofNat (Prod.snd x) +
 (1 : Int)))
 else
 Int.ofNat (Prod.snd x) +
 (1 : Int))))
 (c + cvB a b (Prod.fst x) +
 max a (b + (64 : Nat)))]] =
 List.map
 (fun (q : Rat) =>
 [Ch.r q (pfB c a b (Prod.fst x'))])
 (profR far sp ac (Prod.fst x') (Prod.snd x')) ∨
 RowLE
 (List.take (Prod.snd x)
 (List.map
 (fun (q : Rat) =>
 [Ch.r q (pfB c a b (Prod.fst x))])
 (profR far sp ac (Prod.fst x)
 (Prod.snd x))) ++
 [[Ch.r
 (far / coverR sp ac (Prod.fst x) *
 minR sp
 (ac *
 ↑(bif false then
 if
 IntKind.wrap IntKind.i64
 (IntKind.wrap
 IntKind.i64
 (Int.ofNat
 (Prod.fst x) +
 (1 : Int)) -
 (Int.ofNat
 (Prod.snd x) +
 (1 : Int))) >
 Int.ofNat (Prod.snd x) +
 (1 : Int) then
 IntKind.wrap IntKind.i64
 (IntKind.wrap IntKind.i64
 (Int.ofNat
 (Prod.fst x) +
 (1 : Int)) -
 (Int.ofNat (Prod.snd x) +
 (1 : Int)))
 else
 Int.ofNat (Prod.snd x) +
 (1 : Int)
 else
 if
 IntKind.wrap IntKind.i64
 (IntKind.wrap
 IntKind.i64
 (Int.ofNat
 (Prod.fst x) +
 (1 : Int)) -
 (Int.ofNat
 (Prod.snd x) +
 (1 : Int))) <
 Int.ofNat (Prod.snd x) +
 (1 : Int) then
 IntKind.wrap IntKind.i64
 (IntKind.wrap IntKind.i64
 (Int.ofNat
 (Prod.fst x) +
 (1 : Int)) -
 (Int.ofNat (Prod.snd x) +
 (1 : Int)))
 else
 Int.ofNat (Prod.snd x) +
 (1 : Int))))
 (c + cvB a b (Prod.fst x) +
 max a (b + (64 : Nat)))]])
 (List.map
 (fun (q : Rat) =>
 [Ch.r q (pfB c a b (Prod.fst x'))])
 (profR far sp ac (Prod.fst x')
 (Prod.snd x')))) ∧
 (25 : Nat) = (25 : Nat) ∧
 far = far ∧
 c ≤ c ∧
 (25 : Nat) = (25 : Nat) ∧
 sp = sp ∧
 a ≤ a ∧
 (25 : Nat) = (25 : Nat) ∧
 ac = ac ∧
 b ≤ b ∧
 (25 : Nat) = (25 : Nat) ∧
 far / coverR sp ac (Prod.fst x) =
 far /
 coverR sp ac (Prod.fst x') ∧
 c + cvB a b (Prod.fst x) ≤
 c + cvB a b (Prod.fst x') ∧
 True
 else
 K
 (AV.t
 [(false,
 [Ch.s (3 : Nat)
 (List.take (Prod.snd x)
 (List.drop (0 : Nat)
 (List.map (fun (q : Rat) => [Ch.r q (pfB c a b (Prod.fst x))])
 (profR far sp ac (Prod.fst x) (Prod.snd x)))))]),
 (false, [Ch.v (Value.int IntKind.i64 (0 : Int))])])) ∧
 ((∀ (j : Nat), (1 : Nat) ≤ j → j ≤ (50 : Nat) → ¬far ≤ coverR sp ac j) →
 K
 (AV.t
 [(false, [Ch.v (Value.slice none (0 : Nat) (0 : Nat))]), (false, [Ch.v (Value.int IntKind.i64 (19 : Int))])]) ∧
 ∀ (x : Nat),
 ((1 : Nat) ≤ x ∧
 x ≤ (50 : Nat) ∧ far ≤ coverR sp ac x ∧ ∀ (j : Nat), (1 : Nat) ≤ j → j < x → ¬far ≤ coverR sp ac j) ∧
 ((0 : Int) < ticks → Int.ofNat x ≤ ticks) →
 OfNat.ofNat (0 : Nat) = (0 : Nat) →
 ((((0 : Int) ≤
 bif true then if ticks > Int.ofNat x then ticks else Int.ofNat x
 else if ticks < Int.ofNat x then ticks else Int.ofNat x) ∧
 (bif true then if ticks > Int.ofNat x then ticks else Int.ofNat x
 else if ticks < Int.ofNat x then ticks else Int.ofNat x) ≤
 (50 : Int)) ∧
 (a ≤ (1000000 : Nat) ∧ b ≤ (1000000 : Nat)) ∧
 c +
 cvB a b
 (Int.toNat
 (bif true then if ticks > Int.ofNat x then ticks else Int.ofNat x
 else if ticks < Int.ofNat x then ticks else Int.ofNat x)) ≤
 (4294967296 : Nat) ∧
 (coverR sp ac
 (Int.toNat
 (bif true then if ticks > Int.ofNat x then ticks else Int.ofNat x
 else if ticks < Int.ofNat x then ticks else Int.ofNat x)) ≠
 OfNat.ofNat (0 : Nat) →
 ∃ (x_1 : Nat),
 ((∃ (n : Nat),
 ((1 : Nat) ≤ n ∧
 n ≤ (50 : Nat) ∧
 far ≤ coverR sp ac n ∧ ∀ (j : Nat), (1 : Nat) ≤ j → j < n → ¬far ≤ coverR sp ac j) ∧
 x_1 = max n (Int.toNat ticks) ∧ ((0 : Int) < ticks → Int.ofNat n ≤ ticks)) ∧
 OfNat.ofNat (0 : Nat) = (0 : Nat)) ∧
 (0 : Nat) = (0 : Nat) ∧
 (0 : Nat) = (0 : Nat) ∧
 (0 : Nat) = (0 : Nat) ∧
 (bif true then if ticks > Int.ofNat x then ticks else Int.ofNat x
 else if ticks < Int.ofNat x then ticks else Int.ofNat x) =
 Int.ofNat x_1 ∧
 (0 : Nat) = (0 : Nat) ∧
 (25 : Nat) = (25 : Nat) ∧
 far = far ∧
 c ≤ c ∧
 (25 : Nat) = (25 : Nat) ∧
 sp = sp ∧
 a ≤ a ∧
 (25 : Nat) = (25 : Nat) ∧
 ac = ac ∧
 b ≤ b ∧
 (25 : Nat) = (25 : Nat) ∧
 far /
 coverR sp ac
 (Int.toNat
 (bif true then
 if ticks > Int.ofNat x then ticks else Int.ofNat x
 else
 if ticks < Int.ofNat x then ticks
 else Int.ofNat x)) =
 far / coverR sp ac x_1 ∧
 c +
 cvB a b
 (Int.toNat
 (bif true then
 if ticks > Int.ofNat x then ticks else Int.ofNat x
 else
 if ticks < Int.ofNat x then ticks
 else Int.ofNat x)) ≤
 c + cvB a b x_1 ∧
 True) ∧
 (coverR sp ac
 (Int.toNat
 (bif true then if ticks > Int.ofNat x then ticks else Int.ofNat x
 else if ticks < Int.ofNat x then ticks else Int.ofNat x)) =
 OfNat.ofNat (0 : Nat) →
 ∃ (x_1 : Nat),
 ((∃ (n : Nat),
 ((1 : Nat) ≤ n ∧
 n ≤ (50 : Nat) ∧
 far ≤ coverR sp ac n ∧ ∀ (j : Nat), (1 : Nat) ≤ j → j < n → ¬far ≤ coverR sp ac j) ∧
 x_1 = max n (Int.toNat ticks) ∧ ((0 : Int) < ticks → Int.ofNat n ≤ ticks)) ∧
 OfNat.ofNat (0 : Nat) = (0 : Nat)) ∧
 (0 : Nat) = (0 : Nat) ∧
 (0 : Nat) = (0 : Nat) ∧
 (0 : Nat) = (0 : Nat) ∧
 (bif true then if ticks > Int.ofNat x then ticks else Int.ofNat x
 else if ticks < Int.ofNat x then ticks else Int.ofNat x) =
 Int.ofNat x_1 ∧
 (0 : Nat) = (0 : Nat) ∧
 (25 : Nat) = (25 : Nat) ∧
 far = far ∧
 c ≤ c ∧
 (25 : Nat) = (25 : Nat) ∧
 sp = sp ∧
 a ≤ a ∧
 (25 : Nat) = (25 : Nat) ∧
 ac = ac ∧ b ≤ b ∧ (25 : Nat) = (25 : Nat) ∧ False)) ∧
 ∀ (x : Nat),
 okM far sp ac ticks x →
 OfNat.ofNat (0 : Nat) = (0 : Nat) →
 (∃ (x_1 : Nat × Nat),
 (((∃ (n : Nat),
 ((1 : Nat) ≤ n ∧
 n ≤ (50 : Nat) ∧
 far ≤ coverR sp ac n ∧ ∀ (j : Nat), (1 : Nat) ≤ j → j < n → ¬far ≤ coverR sp ac j) ∧
 Prod.fst x_1 = max n (Int.toNat ticks) ∧ ((0 : Int) < ticks → Int.ofNat n ≤ ticks)) ∧
 Prod.snd x_1 ≤ Prod.fst x_1) ∧
 OfNat.ofNat (0 : Nat) = (0 : Nat)) ∧
 Value.slice none (0 : Nat) (0 : Nat) = Value.slice none (0 : Nat) (0 : Nat) ∧
 (0 : Nat) = (0 : Nat) ∧
 Prod.snd x_1 = (0 : Nat) ∧
 (1 : Int) = Int.ofNat (Prod.snd x_1) + (1 : Int) ∧
 (0 : Nat) = (0 : Nat) ∧
 (0 : Nat) = (0 : Nat) ∧
 (0 : Nat) = (0 : Nat) ∧
 Int.ofNat x = Int.ofNat (Prod.fst x_1) ∧
 (0 : Nat) = (0 : Nat) ∧
 List.map (fun (q : Rat) => [Ch.r q (pfB c a b (Prod.fst x_1))])
 (profR far sp ac (Prod.fst x_1) (Prod.snd x_1)) =
 [] ∧
 (25 : Nat) = (25 : Nat) ∧
 far = far ∧
 c ≤ c ∧
 (25 : Nat) = (25 : Nat) ∧
 sp = sp ∧
 a ≤ a ∧
 (25 : Nat) = (25 : Nat) ∧
 ac = ac ∧
 b ≤ b ∧
 (25 : Nat) = (25 : Nat) ∧
 far / coverR sp ac x =
 far / coverR sp ac (Prod.fst x_1) ∧
 c + cvB a b x ≤ c + cvB a b (Prod.fst x_1) ∧ True) ∧
 ∀ (x : Nat × Nat),
 okM far sp ac ticks (Prod.fst x) ∧ Prod.snd x ≤ Prod.fst x →
 OfNat.ofNat (0 : Nat) = (0 : Nat) →
 bif decide (Int.ofNat (Prod.snd x) + (1 : Int) ≤ Int.ofNat (Prod.fst x)) then
 (((-9223372036854775808 : Int) ≤
 bif false then
 if
 IntKind.wrap IntKind.i64
 (IntKind.wrap IntKind.i64 (Int.ofNat (Prod.fst x) + (1 : Int)) -
 (Int.ofNat (Prod.snd x) + (1 : Int))) >
 Int.ofNat (Prod.snd x) + (1 : Int) then
 IntKind.wrap IntKind.i64
 (IntKind.wrap IntKind.i64 (Int.ofNat (Prod.fst x) + (1 : Int)) -
 (Int.ofNat (Prod.snd x) + (1 : Int)))
 else Int.ofNat (Prod.snd x) + (1 : Int)
 else
 if
 IntKind.wrap IntKind.i64
 (IntKind.wrap IntKind.i64 (Int.ofNat (Prod.fst x) + (1 : Int)) -
 (Int.ofNat (Prod.snd x) + (1 : Int))) <
 Int.ofNat (Prod.snd x) + (1 : Int) then
 IntKind.wrap IntKind.i64
 (IntKind.wrap IntKind.i64 (Int.ofNat (Prod.fst x) + (1 : Int)) -
 (Int.ofNat (Prod.snd x) + (1 : Int)))
 else Int.ofNat (Prod.snd x) + (1 : Int)) ∧
 (bif false then
 if
 IntKind.wrap IntKind.i64
 (IntKind.wrap IntKind.i64 (Int.ofNat (Prod.fst x) + (1 : Int)) -
 (Int.ofNat (Prod.snd x) + (1 : Int))) >
 Int.ofNat (Prod.snd x) + (1 : Int) then
 IntKind.wrap IntKind.i64
 (IntKind.wrap IntKind.i64 (Int.ofNat (Prod.fst x) + (1 : Int)) -
 (Int.ofNat (Prod.snd x) + (1 : Int)))
 else Int.ofNat (Prod.snd x) + (1 : Int)
 else
 if
 IntKind.wrap IntKind.i64
 (IntKind.wrap IntKind.i64 (Int.ofNat (Prod.fst x) + (1 : Int)) -
 (Int.ofNat (Prod.snd x) + (1 : Int))) <
 Int.ofNat (Prod.snd x) + (1 : Int) then
 IntKind.wrap IntKind.i64
 (IntKind.wrap IntKind.i64 (Int.ofNat (Prod.fst x) + (1 : Int)) -
 (Int.ofNat (Prod.snd x) + (1 : Int)))
 else Int.ofNat (Prod.snd x) + (1 : Int)) <
 (9223372036854775808 : Int)) ∧
 b + (64 : Nat) ≤ (4294967296 : Nat) ∧
 a + (b + (64 : Nat)) ≤ (4294967296 : Nat) ∧
 c + cvB a b (Prod.fst x) + max a (b + (64 : Nat)) ≤ (4294967296 : Nat) ∧
 ((Prod.snd x + (1 : Nat)) * (40 : Nat) ≤ (140737488355328 : Nat) ∧
 Prod.snd x + (1 : Nat) ≤ (9223372036854775807 : Nat)) ∧
 ∃ (x' : Nat × Nat),
 (((∃ (n : Nat),
 ((1 : Nat) ≤ n ∧
 n ≤ (50 : Nat) ∧
 far ≤ coverR sp ac n ∧
 ∀ (j : Nat), (1 : Nat) ≤ j → j < n → ¬far ≤ coverR sp ac j) ∧
 Prod.fst x' = max n (Int.toNat ticks) ∧
 ((0 : Int) < ticks → Int.ofNat n ≤ ticks)) ∧
 Prod.snd x' ≤ Prod.fst x') ∧
 OfNat.ofNat (0 : Nat) = (0 : Nat) ∧
 Prod.fst x' - Prod.snd x' < Prod.fst x - Prod.snd x) ∧
 (0 : Nat) = (0 : Nat) ∧
 Prod.snd x + (1 : Nat) = Prod.snd x' ∧
 IntKind.wrap IntKind.i64
 (Int.ofNat (Prod.snd x) + (1 : Int) + (1 : Int)) =
 Int.ofNat (Prod.snd x') + (1 : Int) ∧
 (0 : Nat) = (0 : Nat) ∧
 (0 : Nat) = (0 : Nat) ∧
 (0 : Nat) = (0 : Nat) ∧
 Int.ofNat (Prod.fst x) = Int.ofNat (Prod.fst x') ∧
 (0 : Nat) = (0 : Nat) ∧
 (25 : Nat) = (25 : Nat) ∧
 (3 : Nat) = (3 : Nat) ∧
 (List.take (Prod.snd x)
 (List.map
 (fun (q : Rat) =>
 [Ch.r q (pfB c a b (Prod.fst x))])
 (profR far sp ac (Prod.fst x)
 (Prod.snd x))) ++
 [[Ch.r
 (far / coverR sp ac (Prod.fst x) *
 minR sp
 (ac *
 ↑(bif false then
 if
 IntKind.wrap IntKind.i64
 (IntKind.wrap IntKind.i64
 (Int.ofNat
 (Prod.fst x) +
 (1 : Int)) -
 (Int.ofNat
 (Prod.snd x) +
 (1 : Int))) >
 Int.ofNat (Prod.snd x) +
 (1 : Int) then
 IntKind.wrap IntKind.i64
 (IntKind.wrap IntKind.i64
 (Int.ofNat (Prod.fst x) +
 (1 : Int)) -
 (Int.ofNat (Prod.snd x) +
 (1 : Int)))
 else
 Int.ofNat (Prod.snd x) +
 (1 : Int)
 else
 if
 IntKind.wrap IntKind.i64
 (IntKind.wrap IntKind.i64
 (Int.ofNat
 (Prod.fst x) +
 (1 : Int)) -
 (Int.ofNat
 (Prod.snd x) +
 (1 : Int))) <
 Int.ofNat (Prod.snd x) +
 (1 : Int) then
 IntKind.wrap IntKind.i64
 (IntKind.wrap IntKind.i64
 (Int.ofNat (Prod.fst x) +
 (1 : Int)) -
 (Int.ofNat (Prod.snd x) +
 (1 : Int)))
 else
 Int.ofNat (Prod.snd x) +
 (1 : Int))))
 (c + cvB a b (Prod.fst x) +
 max a (b + (64 : Nat)))]] =
 List.map
 (fun (q : Rat) =>
 [Ch.r q (pfB c a b (Prod.fst x'))])
 (profR far sp ac (Prod.fst x') (Prod.snd x')) ∨
 RowLE
 (List.take (Prod.snd x)
 (List.map
 (fun (q : Rat) =>
 [Ch.r q (pfB c a b (Prod.fst x))])
 (profR far sp ac (Prod.fst x)
 (Prod.snd x))) ++
 [[Ch.r
 (far / coverR sp ac (Prod.fst x) *
 minR sp
 (ac *
 ↑(bif false then
 if
 IntKind.wrap IntKind.i64
 (IntKind.wrap IntKind.i64
 (Int.ofNat
 (Prod.fst x) +
 (1 : Int)) -
 (Int.ofNat
 (Prod.snd x) +
 (1 : Int))) >
 Int.ofNat (Prod.snd x) +
 (1 : Int) then
 IntKind.wrap IntKind.i64
 (IntKind.wrap IntKind.i64
 (Int.ofNat (Prod.fst x) +
 (1 : Int)) -
 (Int.ofNat (Prod.snd x) +
 (1 : Int)))
 else
 Int.ofNat (Prod.snd x) +
 (1 : Int)
 else
 if
 IntKind.wrap IntKind.i64
 (IntKind.wrap IntKind.i64
 (Int.ofNat
 (Prod.fst x) +
 (1 : Int)) -
 (Int.ofNat
 (Prod.snd x) +
 (1 : Int))) <
 Int.ofNat (Prod.snd x) +
 (1 : Int) then
 IntKind.wrap IntKind.i64
 (IntKind.wrap IntKind.i64
 (Int.ofNat (Prod.fst x) +
 (1 : Int)) -
 (Int.ofNat (Prod.snd x) +
 (1 : Int)))
 else
 Int.ofNat (Prod.snd x) +
 (1 : Int))))
 (c + cvB a b (Prod.fst x) +
 max a (b + (64 : Nat)))]])
 (List.map
 (fun (q : Rat) =>
 [Ch.r q (pfB c a b (Prod.fst x'))])
 (profR far sp ac (Prod.fst x') (Prod.snd x')))) ∧
 (25 : Nat) = (25 : Nat) ∧
 far = far ∧
 c ≤ c ∧
 (25 : Nat) = (25 : Nat) ∧
 sp = sp ∧
 a ≤ a ∧
 (25 : Nat) = (25 : Nat) ∧
 ac = ac ∧
 b ≤ b ∧
 (25 : Nat) = (25 : Nat) ∧
 far / coverR sp ac (Prod.fst x) =
 far /
 coverR sp ac (Prod.fst x') ∧
 c + cvB a b (Prod.fst x) ≤
 c + cvB a b (Prod.fst x') ∧
 True
 else
 K
 (AV.t
 [(false,
 [Ch.s (3 : Nat)
 (List.take (Prod.snd x)
 (List.drop (0 : Nat)
 (List.map (fun (q : Rat) => [Ch.r q (pfB c a b (Prod.fst x))])
 (profR far sp ac (Prod.fst x) (Prod.snd x)))))]),
 (false, [Ch.v (Value.int IntKind.i64 (0 : Int))])]))) := by kernel_rfl
theorem share {α : Sort _} {P Q : α → Prop} {N C B : Prop} (hb : B) (h1 : ∀ a, P a → Q a) (h2 : N → C) : (∀ a, P a → Q a ∧ B) ∧ (N → C ∧ B) := ⟨fun a h => ⟨h1 a h, hb⟩, fun h => ⟨h2 h, hb⟩⟩
theorem profR_succ (far sp ac : Rat) (m k : Nat) : profR far sp ac m (k + 1) = profR far sp ac m k ++ [far / coverR sp ac m * capR sp ac m (k + 1)] := by
  unfold profR
  rw [List.range_succ, List.map_append]; rfl
theorem profR_len (far sp ac : Rat) (m k : Nat) : (profR far sp ac m k).length = k := by simp [profR]
theorem sgn_nn {q : Rat} (h : 0 ≤ q) : ¬ sgnR q < 0 := by
  unfold sgnR
  have := Rat.num_nonneg.2 h
  split
  · omega
  · rw [if_neg (by omega)]; omega
theorem sgn_pos {q : Rat} (h : 0 < q) : sgnR q = 1 := by
  unfold sgnR
  have h1 := Rat.num_nonneg.2 (Rat.le_of_lt h)
  have h2 : q.num ≠ 0 := fun e => by
    rw [Rat.num_eq_zero.1 e] at h
    exact absurd h Rat.lt_irrefl
  rw [if_neg h2, if_neg (by omega)]
theorem max_nat {x y : Int} (hx : 0 ≤ x) (hy : 0 ≤ y) : (bif true then if y > x then y else x else if y < x then y else x) = ((max x.toNat y.toNat : Nat) : Int) := by
  simp only [cond_true]
  split <;> omega
theorem g_Profile (far : Rat) (c : Nat) (sp : Rat) (a : Nat) (ac : Rat) (b : Nat) (ticks : Int) (hc : c ≤ 1000000) (ha : a ≤ 1000000) (hb : b ≤ 1000000) (hf : 0 ≤ far) (hs : 0 < sp) (hac : 0 < ac) (ht : 0 ≤ ticks ∧ ticks ≤ 50) (K : AV → Prop)
    (h1 : ∀ m, okM far sp ac ticks m → K (.t [(false, [.s 3 (lR (pfB c a b m) (profR far sp ac m m))]), (false, [.v (.int .i64 0)])]))
    (h2 : NoNeed far sp ac ∨ (∃ n, IsNeed far sp ac n ∧ ticks < n ∧ 0 < ticks) → K (.t [(false, [.v (.slice none 0 0)]), (false, [.v (.int .i64 19)])])) : Holds (goal_Profile far c sp a ac b ticks K) := by
  refine ⟨?_⟩
  rw [goal_Profile_vc]
  simp only [Int.ofNat_eq_natCast, true_and, and_true, Nat.zero_add, Nat.le_refl, true_implies, true_or, or_true]
  have cb : ∀ x, x ≤ 50 → cvB a b x ≤ 64 + 50 * (max a (b + 64) + 1) := fun x hx => by
    unfold cvB
    have : x * (max a (b + 64) + 1) ≤ 50 * (max a (b + 64) + 1) := Nat.mul_le_mul_right _ (by omega)
    omega
  have lm : ∀ {m}, okM far sp ac ticks m → 1 ≤ m ∧ m ≤ 50 := fun ⟨n, h, e, _⟩ => by
    have := h.1; have := h.2.1; omega
  refine ⟨by omega, bif_mk (fun h => absurd (of_decide_eq_true h) (sgn_nn hf)) (fun _ => ⟨by omega, bif_mk (fun h => ?_) (fun _ => ⟨by omega, bif_mk (fun h => ?_) (fun _ => bif_mk (fun h => ?_) (fun _ => bif_mk (fun h => ?_) (fun _ => ⟨by omega, ?_⟩)))⟩)⟩)⟩
  · have := of_decide_eq_true h; rw [sgn_pos hs] at this; omega
  · have := of_decide_eq_true h; rw [sgn_pos hac] at this; omega
  · have := of_decide_eq_true h; omega
  · have := of_decide_eq_true h; omega
  refine share (fun x hx => ?_) (fun n hn => bif_mk (fun h => bif_mk (fun h' => ?_) (fun h' => ?_)) (fun h => ?_)) (fun h => h2 (.inl h))
  rotate_left
  · have h := of_decide_eq_true h
    have h' := of_decide_eq_true h'
    exact h2 (.inr ⟨n, hn, by omega, h⟩)
  · have h' := of_decide_eq_false h'
    exact ⟨n, ⟨hn, fun _ => by omega⟩, rfl⟩
  · have h := of_decide_eq_false h
    exact ⟨n, ⟨hn, fun h' => by omega⟩, rfl⟩
  · obtain ⟨hx, hxt⟩ := hx
    have l1 := hx.1
    have l2 := hx.2.1
    have hok : okM far sp ac ticks (max x ticks.toNat) := ⟨x, hx, rfl, hxt⟩
    have lmx := lm hok
    simp only [max_nat (x := (x : Int)) (y := ticks) (by omega) ht.1, Int.toNat_natCast]
    have hpos := coverR_pos hs hac lmx.1
    have hcv := cb _ lmx.2
    refine ⟨⟨by omega, by omega, by omega, fun _ => ⟨_, hok, rfl, rfl, Nat.le_refl _⟩, fun h => ?_⟩, fun m hm => ⟨⟨(m, 0), ⟨hm, Nat.zero_le _⟩, rfl, by simp, rfl, by simp [profR], rfl, Nat.le_refl _⟩, fun y hy => ?_⟩⟩
    · rw [h] at hpos; exact absurd hpos Rat.lt_irrefl
    · obtain ⟨m, k⟩ := y
      obtain ⟨hm, hk⟩ := hy
      have lmm := lm hm
      have hcv := cb _ lmm.2
      simp only at hk lmm hm hcv ⊢
      refine bif_mk (fun hp => ?_) (fun hp => ?_)
      · have hp : k + 1 ≤ m := by have := of_decide_eq_true hp; omega
        have e1 : IntKind.i64.wrap (IntKind.i64.wrap ((m : Int) + 1) - ((k : Int) + 1)) = ((m - k : Nat) : Int) := by
          rw [w64 (n := (m : Int) + 1) (by omega), w64 (by omega)]; omega
        have e2 : ((k : Int) + 1) = ((k + 1 : Nat) : Int) := by omega
        simp only [e1]
        simp only [e2, min_nat (x := ((k + 1 : Nat) : Int)) (y := ((m - k : Nat) : Int)) (by omega) (by omega), Int.toNat_natCast]
        refine ⟨by omega, by omega, by omega, by omega, by omega, (m, k + 1), ⟨⟨hm, hp⟩, by simp only; omega⟩, rfl, by rw [w64 (by omega)], rfl, .inl ?_, rfl, Nat.le_refl _⟩
        rw [List.take_of_length_le (by simp [profR_len]), profR_succ, List.map_append]
        simp only [List.map_cons, List.map_nil]
        unfold capR pfB
        rw [show m + 1 - (k + 1) = m - k by omega]
        rfl
      · have hp : k = m := by have := of_decide_eq_false hp; omega
        subst hp
        rw [List.drop_zero, List.take_of_length_le (by simp [profR_len])]
        exact h1 k hm
def c_Profile : Ctr := fun as0 => match as0 with
  | [.x true [.r far c], .x true [.r sp a], .x true [.r ac b], .x false [.v (.int .i64 ticks)]] => some fun K => (c ≤ 1000000 ∧ a ≤ 1000000 ∧ b ≤ 1000000) ∧ (0 ≤ far ∧ 0 < sp ∧ 0 < ac) ∧ (0 ≤ ticks ∧ ticks ≤ 50) ∧
      (∀ m, okM far sp ac ticks m → K (.t [(false, [.s 3 (lR (pfB c a b m) (profR far sp ac m m))]), (false, [.v (.int .i64 0)])])) ∧
      (NoNeed far sp ac ∨ (∃ n : Nat, IsNeed far sp ac n ∧ ticks < n ∧ 0 < ticks) → K (.t [(false, [.v (.slice none 0 0)]), (false, [.v (.int .i64 19)])]))
  | _ => none
theorem ok_Profile : CtrOK Tryd.prog tabG debT 21 c_Profile := by
  refine ⟨enters Tryd.func21 (by kernel_rfl), fun l T hT K hK => ?_⟩
  unfold c_Profile at hT
  split at hT
  · cases hT
    obtain ⟨⟨h1, h2, h3⟩, ⟨h4, h5, h6⟩, h7, h8, h9⟩ := hK
    exact spec_ofL T28ok mixed Tryd.func21 (by kernel_rfl) (by kernel_rfl) (by rfl) (g_Profile _ _ _ _ _ _ _ h1 h2 h3 h4 h5 h6 h7 K h8 h9)
  · cases hT
def L29 : List (Nat × Ctr) := (21, c_Profile) :: L28
def T29 : Tabs := mkT L29 M27 X4
theorem L29ok : CtrsOK Tryd.prog tabG debT L29 := .cons ok_Profile L28ok
theorem T29ok : TabsOK Tryd.prog tabG debT T29 := mkTok L29ok M27ok X4ok
end Go.Proofs
/- TimingRests. -/
namespace Go.Proofs
open Go Go.Eng
def vP (far sp ac : Rat) (m k : Nat) : Rat := far / coverR sp ac m * capR sp ac m k
def rsB (m : Nat) : Nat := pfB 63 63 63 m
def rsX (far sp ac : Rat) (m : Nat) : List (List Ch) := lR (rsB m) (profR far sp ac m m) ++ [[.r (mkRat 0 1) 63]]
structure RsX where
  m : Nat
  i : Nat
def inv_rests (far sp ac : Rat) (ticks : Int) : LI := fun _ => .inv ⟨RsX, fun x => ⟨[(11, .x false [.p 11 0]), (12, .x false [.p 12 0]), (13, .x false [.p 13 0]), (14, sR (rsB x.m) (profR far sp ac x.m x.m)), (16, .x false [.p 16 0]), (17, .x false [.p 17 0]), (65, .x false [.w 65 0 (x.m + 1)]), (66, iA .i64 ((x.m + 1 : Nat) : Int)), (67, iA .i64 x.i)],
  [(11, .box 25 [.r far 63]), (12, .box 25 [.r sp 63]), (13, .box 25 [.r ac 63]), (16, .box 25 [.r (sumF (vP far sp ac x.m) x.i) (64 + x.i * (rsB x.m + 1))]), (17, .box 25 [.r (vP far sp ac x.m x.i) (rsB x.m)]), (65, .row 25 3 (rsX far sp ac x.m))]⟩, fun x => okM far sp ac ticks x.m ∧ x.i ≤ x.m + 1, fun x => x.m + 1 - x.i, fun _ => 0⟩
def farI (x : Int) : Rat := mkRat (x % 40) 4
def spI (y : Int) : Rat := mkRat (1 + y % 12) 6
def acI (z : Int) : Rat := mkRat (1 + z % 8) 8
def ot_rests : OT := fun id => bif id.beq 5 then ([0, 1, 2, 3, 4, 5, 6, 7, 8, 9, 10], [[], [], [], [], [3], [0, 1, 2, 4, 3], [5, 0, 1, 2, 4, 3], [6, 5, 0, 1, 2, 4, 3], [6, 5, 0, 1, 2, 4, 3], [7, 6, 5, 0, 1, 2, 4, 3], [8, 6, 5, 0, 1, 2, 4, 3, 9, 7]]) else bif id.beq 12 then ([0, 1, 2, 3, 4, 5, 6, 7, 8, 9, 10, 11, 14, 12, 13, 15, 16, 17], [[], [0], [1, 0], [2, 1, 0], [3, 2, 1, 0], [3, 2, 1, 0], [4, 3, 2, 1, 0, 5], [6, 4, 3, 2, 1, 0, 5], [3, 2, 1, 0, 7, 6, 4, 5], [8, 3, 2, 1, 0, 7, 6, 4, 5], [9, 8, 3, 2, 1, 0, 7, 6, 4, 5], [9, 8, 3, 2, 1, 0, 7, 6, 4, 5], [10, 9, 8, 3, 2, 1, 0, 7, 6, 4, 5, 11], [12, 10, 9, 8, 3, 2, 1, 0, 7, 6, 4, 5, 11], [9, 8, 3, 2, 1, 0, 7, 6, 4, 5], [13, 12, 10, 9, 8, 3, 2, 1, 0, 7, 6, 4, 5, 11, 14], [15, 13, 12, 10, 9, 8, 3, 2, 1, 0, 7, 6, 4, 5, 11, 14], [9, 8, 3, 2, 1, 0, 7, 6, 4, 5, 16, 15, 13, 12, 10, 11, 14]]) else bif id.beq 14 then ([0, 1, 3, 2, 4, 5], [[], [], [0, 1], [], [2, 0, 1], [3, 4, 2, 0, 1]]) else ([], [])
def goal_rests (x y z t : Int) (K : AV → Prop) : Prop := goalL T29 ot_rests (inv_rests (farI x) (spI y) (acI z) (t % 51)) Tryd.f4 [iA .i64 x, iA .i64 y, iA .i64 z, iA .i64 t] K
theorem goal_rests_vc (x : Int) (y : Int) (z : Int) (t : Int) (K : AV → Prop) : goal_rests x y z t K = (
 (((-9223372036854775808 : Int) < (4 : Int) ∧ (4 : Int) < (9223372036854775808 : Int)) ∧
 (0 : Int) < (1 : Int) ∧ (1 : Int) < (9223372036854775808 : Int)) ∧
 (((-9223372036854775808 : Int) < (2 : Int) ∧ (2 : Int) < (9223372036854775808 : Int)) ∧
 (0 : Int) < (1 : Int) ∧ (1 : Int) < (9223372036854775808 : Int)) ∧
 (((-9223372036854775808 : Int) < (1 : Int) ∧ (1 : Int) < (9223372036854775808 : Int)) ∧
 (0 : Int) < (1 : Int) ∧ (1 : Int) < (9223372036854775808 : Int)) ∧
 ((63 : Nat) ≤ (1000000 : Nat) ∧ (63 : Nat) ≤ (1000000 : Nat) ∧ (63 : Nat) ≤ (1000000 : Nat)) ∧
 (OfNat.ofNat (0 : Nat) ≤ mkRat (4 : Int) (1 : Nat) ∧
 OfNat.ofNat (0 : Nat) < mkRat (2 : Int) (1 : Nat) ∧ OfNat.ofNat (0 : Nat) < mkRat (1 : Int) (1 : Nat)) ∧
 ((0 : Int) ≤ (0 : Int) ∧ (0 : Int) ≤ (50 : Int)) ∧
 (∀ (m : Nat),
 okM (mkRat (4 : Int) (1 : Nat)) (mkRat (2 : Int) (1 : Nat)) (mkRat (1 : Int) (1 : Nat)) (0 : Int) m →
 bif
 Int.ofNat
 (List.length
 (lR (pfB (63 : Nat) (63 : Nat) (63 : Nat) m)
 (profR (mkRat (4 : Int) (1 : Nat)) (mkRat (2 : Int) (1 : Nat)) (mkRat (1 : Int) (1 : Nat)) m m))) !=
 (3 : Int) then
 K (AV.x false [Ch.v (Value.bool false)])
 else
 ((0 : Int) < (40 : Int) ∧ (40 : Int) < (9223372036854775808 : Int)) ∧
 (((-9223372036854775808 : Int) < x % (40 : Int) ∧ x % (40 : Int) < (9223372036854775808 : Int)) ∧
 (0 : Int) < (4 : Int) ∧ (4 : Int) < (9223372036854775808 : Int)) ∧
 ((0 : Int) < (12 : Int) ∧ (12 : Int) < (9223372036854775808 : Int)) ∧
 (((-9223372036854775808 : Int) < IntKind.wrap IntKind.i64 ((1 : Int) + y % (12 : Int)) ∧
 IntKind.wrap IntKind.i64 ((1 : Int) + y % (12 : Int)) < (9223372036854775808 : Int)) ∧
 (0 : Int) < (6 : Int) ∧ (6 : Int) < (9223372036854775808 : Int)) ∧
 ((0 : Int) < (8 : Int) ∧ (8 : Int) < (9223372036854775808 : Int)) ∧
 (((-9223372036854775808 : Int) < IntKind.wrap IntKind.i64 ((1 : Int) + z % (8 : Int)) ∧
 IntKind.wrap IntKind.i64 ((1 : Int) + z % (8 : Int)) < (9223372036854775808 : Int)) ∧
 (0 : Int) < (8 : Int) ∧ (8 : Int) < (9223372036854775808 : Int)) ∧
 ((0 : Int) < (51 : Int) ∧ (51 : Int) < (9223372036854775808 : Int)) ∧
 ((63 : Nat) ≤ (1000000 : Nat) ∧ (63 : Nat) ≤ (1000000 : Nat) ∧ (63 : Nat) ≤ (1000000 : Nat)) ∧
 (OfNat.ofNat (0 : Nat) ≤ mkRat (x % (40 : Int)) (4 : Nat) ∧
 OfNat.ofNat (0 : Nat) < mkRat (IntKind.wrap IntKind.i64 ((1 : Int) + y % (12 : Int))) (6 : Nat) ∧
 OfNat.ofNat (0 : Nat) < mkRat (IntKind.wrap IntKind.i64 ((1 : Int) + z % (8 : Int))) (8 : Nat)) ∧
 ((0 : Int) ≤ t % (51 : Int) ∧ t % (51 : Int) ≤ (50 : Int)) ∧
 (∀ (m : Nat),
 okM (mkRat (x % (40 : Int)) (4 : Nat))
 (mkRat (IntKind.wrap IntKind.i64 ((1 : Int) + y % (12 : Int))) (6 : Nat))
 (mkRat (IntKind.wrap IntKind.i64 ((1 : Int) + z % (8 : Int))) (8 : Nat)) (t % (51 : Int))
 m →
 (((-9223372036854775808 : Int) < (0 : Int) ∧ (0 : Int) < (9223372036854775808 : Int)) ∧
 (0 : Int) < (1 : Int) ∧ (1 : Int) < (9223372036854775808 : Int)) ∧
 (((-9223372036854775808 : Int) < (0 : Int) ∧ (0 : Int) < (9223372036854775808 : Int)) ∧
 (0 : Int) < (1 : Int) ∧ (1 : Int) < (9223372036854775808 : Int)) ∧
 ∃ (n : Nat),
 ∃ (qs : List Rat),
 lR (pfB (63 : Nat) (63 : Nat) (63 : Nat) m)
 (profR (mkRat (x % (40 : Int)) (4 : Nat))
 (mkRat (IntKind.wrap IntKind.i64 ((1 : Int) + y % (12 : Int))) (6 : Nat))
 (mkRat (IntKind.wrap IntKind.i64 ((1 : Int) + z % (8 : Int))) (8 : Nat)) m
 m) =
 lR n qs ∧
 qs ≠ [] ∧
 List.length qs ≤ (1000000000 : Nat) ∧
 (((-9223372036854775808 : Int) < (0 : Int) ∧
 (0 : Int) < (9223372036854775808 : Int)) ∧
 (0 : Int) < (1 : Int) ∧ (1 : Int) < (9223372036854775808 : Int)) ∧
 ((List.length qs + (1 : Nat)) * (40 : Nat) ≤ (140737488355328 : Nat) ∧
 List.length qs + (1 : Nat) ≤ (9223372036854775807 : Nat)) ∧
 (∃ (x_1 : RsX),
 (((∃ (n : Nat),
 ((1 : Nat) ≤ n ∧
 n ≤ (50 : Nat) ∧
 farI x ≤ coverR (spI y) (acI z) n ∧
 ∀ (j : Nat),
 (1 : Nat) ≤ j →
 j < n → ¬farI x ≤ coverR (spI y) (acI z) j) ∧
 RsX.m x_1 = max n (Int.toNat (t % (51 : Int))) ∧
 ((0 : Int) < t % (51 : Int) →
 Int.ofNat n ≤ t % (51 : Int))) ∧
 RsX.i x_1 ≤ RsX.m x_1 + (1 : Nat)) ∧
 OfNat.ofNat (0 : Nat) = (0 : Nat)) ∧
 (0 : Nat) = (0 : Nat) ∧
 (0 : Nat) = (0 : Nat) ∧
 (0 : Nat) = (0 : Nat) ∧
 (3 : Nat) = (3 : Nat) ∧
 lR (pfB (63 : Nat) (63 : Nat) (63 : Nat) m)
 (profR (mkRat (x % (40 : Int)) (4 : Nat))
 (mkRat
 (IntKind.wrap IntKind.i64
 ((1 : Int) + y % (12 : Int)))
 (6 : Nat))
 (mkRat
 (IntKind.wrap IntKind.i64
 ((1 : Int) + z % (8 : Int)))
 (8 : Nat))
 m m) =
 lR (rsB (RsX.m x_1))
 (profR (farI x) (spI y) (acI z) (RsX.m x_1)
 (RsX.m x_1)) ∧
 (0 : Nat) = (0 : Nat) ∧
 (0 : Nat) = (0 : Nat) ∧
 (0 : Nat) = (0 : Nat) ∧
 List.length qs + (1 : Nat) = RsX.m x_1 + (1 : Nat) ∧
 Int.ofNat (List.length qs + (1 : Nat)) =
 Int.ofNat (RsX.m x_1 + (1 : Nat)) ∧
 (0 : Int) = Int.ofNat (RsX.i x_1) ∧
 (25 : Nat) = (25 : Nat) ∧
 mkRat (x % (40 : Int)) (4 : Nat) = farI x ∧
 (63 : Nat) ≤ (63 : Nat) ∧
 (25 : Nat) = (25 : Nat) ∧
 mkRat
 (IntKind.wrap IntKind.i64
 ((1 : Int) + y % (12 : Int)))
 (6 : Nat) =
 spI y ∧
 (63 : Nat) ≤ (63 : Nat) ∧
 (25 : Nat) = (25 : Nat) ∧
 mkRat
 (IntKind.wrap IntKind.i64
 ((1 : Int) +
 z % (8 : Int)))
 (8 : Nat) =
 acI z ∧
 (63 : Nat) ≤ (63 : Nat) ∧
 (25 : Nat) = (25 : Nat) ∧
 mkRat (0 : Int) (1 : Nat) =
 sumF
 (vP (farI x) (spI y)
 (acI z) (RsX.m x_1))
 (RsX.i x_1) ∧
 (63 : Nat) ≤
 (64 : Nat) +
 RsX.i x_1 *
 (rsB (RsX.m x_1) +
 (1 : Nat)) ∧
 (25 : Nat) =
 (25 : Nat) ∧
 mkRat (0 : Int)
 (1 : Nat) =
 vP (farI x)
 (spI y) (acI z)
 (RsX.m x_1)
 (RsX.i x_1) ∧
 (63 : Nat) ≤
 rsB
 (RsX.m x_1) ∧
 (25 : Nat) =
 (25 : Nat) ∧
 (3 : Nat) =
 (3 : Nat) ∧
 (List.take
 (List.length
 qs)
 (List.map
 (fun
 (q :
 Rat) =>
 [Ch.r
 q
 n])
 qs) ++
 [[Ch.r
 (mkRat
 (0 :
 Int)
 (1 :
 Nat))
 (63 :
 Nat)]] =
 rsX
 (farI
 x)
 (spI
 y)
 (acI
 z)
 (RsX.m
 x_1) ∨
 RowLE
 (List.take
 (List.length
 qs)
 (List.map
 (fun
 (q :
 Rat) =>
 [Ch.r
 q
 n])
 qs) ++
 [[Ch.r
 (mkRat
 (0 :
 Int)
 (1 :
 Nat))
 (63 :
 Nat)]])
 (rsX
 (farI
 x)
 (spI
 y)
 (acI
 z)
 (RsX.m
 x_1))) ∧
 True) ∧
 ∀ (x_1 : RsX),
 okM (farI x) (spI y) (acI z) (t % (51 : Int)) (RsX.m x_1) ∧
 RsX.i x_1 ≤ RsX.m x_1 + (1 : Nat) →
 OfNat.ofNat (0 : Nat) = (0 : Nat) →
 bif
 decide
 (Int.ofNat (RsX.i x_1) <
 Int.ofNat (RsX.m x_1 + (1 : Nat))) then
 ((0 : Int) ≤ Int.ofNat (RsX.i x_1) ∧
 Int.ofNat (RsX.i x_1) < Int.ofNat (RsX.m x_1 + (1 : Nat))) ∧
 ∃ (q : Rat),
 ∃ (n : Nat),
 ldE (rsX (farI x) (spI y) (acI z) (RsX.m x_1))
 ((0 : Nat) + Int.toNat (Int.ofNat (RsX.i x_1)))
 (0 : Nat) (3 : Nat) =
 some [Ch.r q n] ∧
 n ≤ (4294967296 : Nat) ∧
 bif decide (sgnR q < (0 : Int)) then
 K (AV.x false [Ch.v (Value.bool false)])
 else
 n + (63 : Nat) ≤ (4294967296 : Nat) ∧
 bif decide (cmpR q (spI y) > (0 : Int)) then
 K (AV.x false [Ch.v (Value.bool false)])
 else
 n + rsB (RsX.m x_1) + (1 : Nat) ≤
 (4294967296 : Nat) ∧
 n + rsB (RsX.m x_1) + (1 : Nat) ≤
 (4294967296 : Nat) ∧
 n + rsB (RsX.m x_1) + (1 : Nat) + (63 : Nat) ≤
 (4294967296 : Nat) ∧
 bif
 decide
 (cmpR
 (absR
 (q -
 vP (farI x) (spI y) (acI z)
 (RsX.m x_1) (RsX.i x_1)))
 (acI z) >
 (0 : Int)) then
 K (AV.x false [Ch.v (Value.bool false)])
 else
 (64 : Nat) +
 RsX.i x_1 *
 (rsB (RsX.m x_1) +
 (1 : Nat)) +
 n +
 (1 : Nat) ≤
 (4294967296 : Nat) ∧
 ∃ (x' : RsX),
 (((∃ (n : Nat),
 ((1 : Nat) ≤ n ∧
 n ≤ (50 : Nat) ∧
 farI x ≤
 coverR (spI y)
 (acI z) n ∧
 ∀ (j : Nat),
 (1 : Nat) ≤ j →
 j < n →
 ¬farI x ≤
 coverR
 (spI y)
 (acI z)
 j) ∧
 RsX.m x' =
 max n
 (Int.toNat
 (t % (51 : Int))) ∧
 ((0 : Int) <
 t % (51 : Int) →
 Int.ofNat n ≤
 t % (51 : Int))) ∧
 RsX.i x' ≤
 RsX.m x' + (1 : Nat)) ∧
 OfNat.ofNat (0 : Nat) =
 (0 : Nat) ∧
 RsX.m x' + (1 : Nat) -
 RsX.i x' <
 RsX.m x_1 + (1 : Nat) -
 RsX.i x_1) ∧
 (0 : Nat) = (0 : Nat) ∧
 (0 : Nat) = (0 : Nat) ∧
 (0 : Nat) = (0 : Nat) ∧
 (3 : Nat) = (3 : Nat) ∧
 lR (rsB (RsX.m x_1))
 (profR (farI x)
 (spI y) (acI z)
 (RsX.m x_1)
 (RsX.m x_1)) =
 lR (rsB (RsX.m x'))
 (profR (farI x)
 (spI y) (acI z)
 (RsX.m x')
 (RsX.m x')) ∧
 (0 : Nat) = (0 : Nat) ∧
 (0 : Nat) = (0 : Nat) ∧
 (0 : Nat) =
 (0 : Nat) ∧
 RsX.m x_1 +
 (1 : Nat) =
 RsX.m x' +
 (1 : Nat) ∧
 Int.ofNat
 (RsX.m x_1 +
 (1 :
 Nat)) =
 Int.ofNat
 (RsX.m x' +
 (1 :
 Nat)) ∧
 IntKind.wrap
 IntKind.i64
 (Int.ofNat
 (RsX.i
 x_1) +
 (1 :
 Int)) =
 Int.ofNat
 (RsX.i
 x') ∧
 (25 : Nat) =
 (25 :
 Nat) ∧
 farI x =
 farI x ∧
 (63 :
 Nat) ≤
 (63 :
 Nat) ∧
 (25 :
 Nat) =
 (25 :
 Nat) ∧
 spI
 y =
 spI
 y ∧
 (63 :
 Nat) ≤
 (63 :
 Nat) ∧
 (25 :
 Nat) =
 (25 :
 Nat) ∧
 acI
 z =
 acI
 z ∧
 (63 :
 Nat) ≤
 (63 :
 Nat) ∧
 (25 :
 Nat) =
 (25 :
 Nat) ∧
 sumF
 (vP
 (farI
 x)
 (spI
 y)
 (acI
 z)
 (RsX.m
 x_1))
 (RsX.i
 x_1) +
 q =
 sumF
 (vP
 (farI
 x)
 (spI
 y)
 (acI
 z)
 (RsX.m
 x'))
 (RsX.i
 x') ∧
 (64 :
 Nat) +
 RsX.i
 x_1 *
 (rsB
 (RsX.m
 x_1) +
 (1 :
 Nat)) +
 n +
 (1 :
 Nat) ≤
 (64 :
 Nat) +
 RsX.i
 x' *
 (rsB
 (RsX.m
 x') +
 (1 :
 Nat)) ∧
 (25 :
 Nat) =
 (25 :
 Nat) ∧
 q =
 vP
 (farI
 x)
 (spI
 y)
 (acI
 z)
 (RsX.m
 x')
 (RsX.i
 x') ∧
 n ≤
 rsB
 (RsX.m
 x') ∧
 (25 :
 Nat) =
 (25 :
 Nat) ∧
 (3 :
 Nat) =
 (3 :
 Nat) ∧
 (rsX
 (farI
 x)
 (spI
 y)
 (acI
 z)
 (RsX.m
 x_1) =
 rsX
 (farI
 x)
 (spI
 y)
 (acI
 z)
 (RsX.m
 x') ∨
 RowLE
 (rsX
 (farI
 x)
 (spI
 y)
 (acI
 z)
 (RsX.m
 x_1))
 (rsX
 (farI
 x)
 (spI
 y)
 (acI
 z)
 (RsX.m
 x'))) ∧
 True
 else
 ∃ (n : Nat),
 ∃ (qs : List Rat),
 lR (rsB (RsX.m x_1))
 (profR (farI x) (spI y) (acI z) (RsX.m x_1)
 (RsX.m x_1)) =
 lR n qs ∧
 qs ≠ [] ∧
 List.length qs ≤ (1000000000 : Nat) ∧
 ∃ (b : Nat),
 ∃ (qs_1 : List Rat),
 List.map (fun (q : Rat) => [Ch.r q n]) qs =
 List.map (fun (q : Rat) => [Ch.r q b]) qs_1 ∧
 List.length qs = List.length qs_1 ∧
 List.length qs_1 ≤ (1099511627776 : Nat) ∧
 (64 : Nat) +
 RsX.i x_1 *
 (rsB (RsX.m x_1) + (1 : Nat)) +
 (63 : Nat) ≤
 (4294967296 : Nat) ∧
 bif
 cmpR
 (sumF
 (vP (farI x) (spI y) (acI z)
 (RsX.m x_1))
 (RsX.i x_1))
 (farI x) ==
 (0 : Int) then
 ∃ (a : Nat),
 ∃ (ps : List Rat),
 ∃ (b_1 : Nat),
 ∃ (qs_2 : List Rat),
 List.take (List.length qs)
 (List.drop (0 : Nat)
 (List.map
 (fun (q : Rat) =>
 [Ch.r q b])
 (List.reverse qs_1))) =
 lR a ps ∧
 lR (rsB (RsX.m x_1))
 (profR (farI x) (spI y)
 (acI z) (RsX.m x_1)
 (RsX.m x_1)) =
 lR b_1 qs_2 ∧
 (List.length ps ≤
 (1000000000 : Nat) ∧
 List.length qs_2 ≤
 (1000000000 : Nat)) ∧
 K
 (AV.x false
 [Ch.v
 (Value.bool
 (decide
 (ps = qs_2)))])
 else
 K
 (AV.x false
 [Ch.v (Value.bool false)])) ∧
 (((∀ (j : Nat),
 (1 : Nat) ≤ j →
 j ≤ (50 : Nat) →
 ¬mkRat (x % (40 : Int)) (Int.toNat (4 : Int)) ≤
 coverR
 (mkRat (IntKind.wrap IntKind.i64 ((1 : Int) + y % (12 : Int)))
 (Int.toNat (6 : Int)))
 (mkRat (IntKind.wrap IntKind.i64 ((1 : Int) + z % (8 : Int)))
 (Int.toNat (8 : Int)))
 j) ∨
 ∃ (n : Nat),
 IsNeed (mkRat (x % (40 : Int)) (Int.toNat (4 : Int)))
 (mkRat (IntKind.wrap IntKind.i64 ((1 : Int) + y % (12 : Int))) (Int.toNat (6 : Int)))
 (mkRat (IntKind.wrap IntKind.i64 ((1 : Int) + z % (8 : Int))) (Int.toNat (8 : Int))) n ∧
 t % (51 : Int) < Int.ofNat n ∧ (0 : Int) < t % (51 : Int)) →
 K (AV.x false [Ch.v (Value.bool true)]))) ∧
 (((∀ (j : Nat),
 (1 : Nat) ≤ j →
 j ≤ (50 : Nat) →
 ¬mkRat (4 : Int) (Int.toNat (1 : Int)) ≤
 coverR (mkRat (2 : Int) (Int.toNat (1 : Int))) (mkRat (1 : Int) (Int.toNat (1 : Int))) j) ∨
 ∃ (n : Nat),
 IsNeed (mkRat (4 : Int) (Int.toNat (1 : Int))) (mkRat (2 : Int) (Int.toNat (1 : Int)))
 (mkRat (1 : Int) (Int.toNat (1 : Int))) n ∧
 (0 : Int) < Int.ofNat n ∧ (0 : Int) < (0 : Int)) →
 K (AV.x false [Ch.v (Value.bool false)]))) := by kernel_rfl
theorem mkRat_nn {n : Int} {d : Nat} (h : 0 ≤ n) : 0 ≤ mkRat n d := Rat.num_nonneg.1 (by
  by_cases hd : d = 0
  · subst hd; simp
  · rw [mk_num _ _ hd]; exact Int.tdiv_nonneg h (Int.natCast_nonneg _))
theorem mkRat_pos {n : Int} {d : Nat} (h : 0 < n) (hd : d ≠ 0) : 0 < mkRat n d := by
  refine Rat.lt_iff_le_and_ne.2 ⟨mkRat_nn (by omega), fun e => ?_⟩
  have := (Rat.mkRat_eq_zero hd).1 e.symm
  omega
theorem abs_le {p a : Rat} (h1 : p ≤ a) (h2 : -p ≤ a) : absR p ≤ a := by
  unfold absR; split
  · exact h2
  · exact h1
theorem ok1 {m : Nat} (h : okM (mkRat 4 1) (mkRat 2 1) (mkRat 1 1) 0 m) : m = 3 := by
  obtain ⟨n, ⟨h1, h2, h3, h4⟩, rfl, _⟩ := h
  have e3 : mkRat 4 1 ≤ coverR (mkRat 2 1) (mkRat 1 1) 3 := by decide +kernel
  have e2 : ¬ mkRat 4 1 ≤ coverR (mkRat 2 1) (mkRat 1 1) 2 := by decide +kernel
  have e1 : ¬ mkRat 4 1 ≤ coverR (mkRat 2 1) (mkRat 1 1) 1 := by decide +kernel
  have h5 : ¬ 3 < n := fun h => h4 3 (by omega) h e3
  have : n = 1 ∨ n = 2 ∨ n = 3 := by omega
  rcases this with rfl | rfl | rfl
  · exact absurd h3 e1
  · exact absurd h3 e2
  · rfl
theorem ok_rests {far sp ac : Rat} {ticks : Int} {m : Nat} (hf : 0 ≤ far) (hs : 0 < sp) (ha : 0 < ac) (h : okM far sp ac ticks m) : Rests far sp ac m (vP far sp ac m) := by
  obtain ⟨n, ⟨h1, _, h3, _⟩, rfl, _⟩ := h
  have : n ≤ max n ticks.toNat := Nat.le_max_left _ _
  exact rests hf hs ha (by omega) (Rat.le_trans h3 (coverR_mono hs ha this))
theorem ok_range {far sp ac : Rat} {ticks : Int} {m : Nat} (ht : ticks ≤ 50) (h : okM far sp ac ticks m) : 1 ≤ m ∧ m ≤ 50 := by
  obtain ⟨n, ⟨h1, h2, _⟩, rfl, _⟩ := h
  omega
theorem prof_get {far sp ac : Rat} {m k i : Nat} (h : i < k) : (profR far sp ac m k)[i]? = some (vP far sp ac m (i + 1)) := by
  unfold profR vP
  rw [List.getElem?_map, List.getElem?_range h]; rfl
theorem prof_rev {far sp ac : Rat} {m : Nat} : (profR far sp ac m m).reverse = profR far sp ac m m := by
  apply List.ext_getElem?
  intro i
  by_cases h : i < m
  · rw [List.getElem?_reverse (by rw [profR_len]; exact h), profR_len, prof_get h, prof_get (by omega)]
    unfold vP
    rw [show m - 1 - i + 1 = m + 1 - (i + 1) by omega, capR_sym (by omega)]
  · rw [List.getElem?_eq_none (by rw [List.length_reverse, profR_len]; omega), List.getElem?_eq_none (by rw [profR_len]; omega)]
theorem rsX_ld {far sp ac : Rat} {m i : Nat} (h : i ≤ m) (hl : vP far sp ac m (m + 1) = 0) : ∃ n, n ≤ rsB m ∧ ldE (rsX far sp ac m) i 0 3 = some [.r (vP far sp ac m (i + 1)) n] := by
  have hlen : (lR (rsB m) (profR far sp ac m m)).length = m := by rw [lR_len, profR_len]
  by_cases hi : i < m
  · refine ⟨_, Nat.le_refl _, ?_⟩
    simp only [ldE, rsX]
    rw [List.getElem?_append_left (by omega)]
    simp only [lR, List.getElem?_map, prof_get hi]; rfl
  · have : i = m := by omega
    subst this
    refine ⟨63, ?_, ?_⟩
    · unfold rsB pfB cvB; omega
    · simp only [ldE, rsX]
      rw [List.getElem?_append_right (by omega), hlen, Nat.sub_self, hl]
      rfl
theorem rsX_len {far sp ac : Rat} {m : Nat} : (rsX far sp ac m).length = m + 1 := by simp [rsX, lR_len, profR_len]
theorem rsB_le {m : Nat} (h : m ≤ 50) : rsB m ≤ 10000 := by
  have : m * (max 63 (63 + 64) + 1) ≤ 50 * (max 63 (63 + 64) + 1) := Nat.mul_le_mul_right _ h
  unfold rsB pfB cvB; omega
theorem rsB_ge {m : Nat} : 63 ≤ rsB m := by unfold rsB pfB cvB; omega
theorem g_rests (x y z t : Int) (K : AV → Prop) (hK : K (.x false [.v (.bool true)])) : Holds (goal_rests x y z t K) := by
  refine ⟨?_⟩
  rw [goal_rests_vc]
  simp only [Int.ofNat_eq_natCast, true_and, and_true, Nat.zero_add, Nat.le_refl, true_implies, true_or, or_true]
  have w1 : IntKind.i64.wrap (1 + y % 12) = 1 + y % 12 := w64 (by omega)
  have w2 : IntKind.i64.wrap (1 + z % 8) = 1 + z % 8 := w64 (by omega)
  simp only [w1, w2]
  have hf : 0 ≤ farI x := mkRat_nn (by omega)
  have hs : 0 < spI y := mkRat_pos (by omega) (by decide)
  have ha : 0 < acI z := mkRat_pos (by omega) (by decide)
  refine ⟨by omega, by omega, by omega, by omega, ⟨by decide +kernel, by decide +kernel, by decide +kernel⟩, by omega, fun m hm => bif_mk (fun h => ?_) (fun _ => ⟨by omega, by omega, by omega, by omega, by omega, by omega, by omega, by omega, ⟨hf, hs, ha⟩, by omega, fun m hm => ?_, fun _ => hK⟩), fun h => ?_⟩
  · rw [lR_len, profR_len, ok1 hm] at h; simp at h
  · have hm : okM (farI x) (spI y) (acI z) (t % 51) m := hm
    have hr := ok_range (by omega) hm
    have R := ok_rests hf hs ha hm
    have hpl : (profR (farI x) (spI y) (acI z) m m).length = m := profR_len _ _ _ _ _
    have hne : profR (farI x) (spI y) (acI z) m m ≠ [] := fun e => by rw [e] at hpl; simp at hpl; omega
    refine ⟨by omega, by omega, _, _, rfl, hne, by rw [profR_len]; omega, by omega, by rw [profR_len]; omega, ⟨⟨m, 0⟩, ⟨hm, Nat.zero_le _⟩, rfl, by rw [profR_len], by rw [profR_len], rfl, rfl, rfl, rfl, ?_, by simp only; omega, ?_, rsB_ge, .inl ?_⟩, fun X hX => ?_⟩
    · show _ = (0 : Rat)
      exact (by decide +kernel : mkRat 0 1 = 0)
    · simp only; rw [R.zero]
      exact (by decide +kernel : mkRat 0 1 = 0)
    · rw [List.take_of_length_le (by rw [List.length_map]; exact Nat.le_refl _)]; rfl
    clear hm hr R hpl hne
    obtain ⟨m, i⟩ := X
    obtain ⟨hm, hi⟩ := hX
    simp only at hm hi ⊢
    have hr := ok_range (by omega) hm
    have R := ok_rests hf hs ha hm
    have hpl : (profR (farI x) (spI y) (acI z) m m).length = m := profR_len _ _ _ _ _
    have hne : profR (farI x) (spI y) (acI z) m m ≠ [] := fun e => by rw [e] at hpl; simp at hpl; omega
    have hB := rsB_le hr.2
    have hiB : i * (rsB m + 1) ≤ 51 * 10001 := Nat.mul_le_mul (by omega) (by omega)
    refine bif_mk (fun hp => ?_) (fun hp => ?_)
    · have hp : i ≤ m := by have := of_decide_eq_true hp; omega
      obtain ⟨n, hn, ld⟩ := rsX_ld hp R.last
      have nn := R.nn (i + 1)
      have le := R.le (i + 1)
      refine ⟨by omega, _, _, ld, by omega, bif_mk (fun h => absurd (of_decide_eq_true h) (sgn_nn nn)) (fun _ => ⟨by omega, bif_mk (fun h => ?_) (fun _ => ⟨by omega, by omega, by omega, bif_mk (fun h => ?_) (fun _ => ⟨by omega, ⟨m, i + 1⟩, ⟨⟨hm, by simp only; omega⟩, by simp only; omega⟩, rfl, rfl, rfl, by rw [w64 (by omega)]; simp, rfl, ?_, rfl, hn, .inl rfl⟩)⟩)⟩)⟩
      · have h := of_decide_eq_true h
        have := (cmp_le _ _).2 le
        omega
      · have h := of_decide_eq_true h
        have := (cmp_le _ _).2 (abs_le (R.up i) (by have := R.down i; grind))
        omega
      · simp only
        rw [Nat.add_mul]
        omega
    · have hp : i = m + 1 := by have := of_decide_eq_false hp; omega
      subst hp
      refine ⟨_, _, rfl, hne, by rw [hpl]; omega, _, _, rfl, rfl, by rw [hpl]; omega, by omega, ?_⟩
      have e : sumF (vP (farI x) (spI y) (acI z) m) (m + 1) = farI x := by
        show sumF (vP (farI x) (spI y) (acI z) m) m + _ = _
        rw [R.sum, R.last]; grind
      rw [e, show (cmpR (farI x) (farI x) == 0) = true by unfold cmpR; simp [Rat.lt_irrefl], cond_true]
      refine ⟨rsB m, profR (farI x) (spI y) (acI z) m m, _, _, ?_, rfl, by rw [hpl]; omega, ?_⟩
      · rw [prof_rev, List.drop_zero, List.take_of_length_le (by rw [List.length_map]; exact Nat.le_refl _)]; rfl
      · simpa using hK
  · exfalso
    rcases h with h | ⟨n, _, h1, h2⟩
    · exact h 3 (by decide) (by decide) (by decide +kernel)
    · omega
theorem spec_rests (x y z t : Int) : Eng.Spec Tryd.prog tabG debT 4 [iA .i64 x, iA .i64 y, iA .i64 z, iA .i64 t] (fun av => av = .x false [.v (.bool true)]) :=
  spec_ofL T29ok mixed Tryd.func4 (by kernel_rfl) (by kernel_rfl) (by rfl) (g_rests x y z t _ rfl)
end Go.Proofs
