/- Columns, velocities. -/
import Derived.Test.YtdbkndfkgdbhpaaGreatDoorFC
import Derived.Test.YtdbkndfkgdbhpaaGreatDoorFL
/- Columns, velocities. -/
namespace Go.Proofs
open Go Go.Eng
structure TqX where
  fs : List FrV
  f : FrV
  i : Nat
structure TqI (a : ArmV) (qs : List Rat) (x : TqX) : Prop where
  eq : x.fs ++ [x.f] = framesV (baseV a) a.links qs
  len : x.fs.length = a.links.length
  le : x.i ≤ a.links.length
def ratD (x : Int) : Int := ([1, 2, 3, 4, 5, 8] : List Int).getD (x % 6).toNat 1
def ratV (x : Int) : Rat := mkRat (IntKind.i64.wrap (x.tdiv 6) % (16 * ratD x + 1) - 8 * ratD x) (ratD x).toNat
def L110 : List (Nat × Ctr) := L95
def T110 : Tabs := mkT L110 M79 X4
theorem L110ok : CtrsOK Tryz.prog tabG debT L110 := L95ok
theorem T110ok : TabsOK Tryz.prog tabG debT T110 := mkTok L110ok M79ok X4ok
theorem lR_snoc {n N : Nat} (qs : List Rat) (q : Rat) (h : n ≤ N) : RowLE (lR N qs ++ [[Ch.r q n]]) (lR N (qs ++ [q])) := by
  have e : lR N (qs ++ [q]) = lR N qs ++ [[Ch.r q N]] := by simp [lR]
  rw [e]
  refine row_snoc ?_ ⟨.r h .nil, rfl⟩
  refine ⟨rfl, fun i x y hx hy => ?_⟩
  rw [hx] at hy
  cases hy
  simp only [lR, List.getElem?_map, Option.map_eq_some_iff] at hx
  obtain ⟨q, _, rfl⟩ := hx
  exact ⟨.r (Nat.le_refl _) .nil, rfl⟩
theorem fr_ld {fs : List FrV} {i : Nat} {f : FrV} (h : fs[i]? = some f) : ldE (fs.map frCh) i 0 10 = some [.r f.x 12800000, .r f.y 12800000, .v (.bool f.h), .r f.t 12800000] := by
  simp only [ldE, List.getElem?_map, h]; rfl
theorem snoc_of {fs F : List FrV} {f : FrV} {n : Nat} (h : fs ++ [f] = F) (hl : fs.length = n) : fs = F.take n ∧ f = F.getD n ⟨0, 0, false, 0⟩ := by
  subst hl
  rw [← h]
  simp
theorem snoc_inj {fs gs : List FrV} {f g : FrV} (h : fs ++ [f] = gs ++ [g]) : fs = gs ∧ f = g := by
  have hl : fs.length = gs.length := by have := congrArg List.length h; simpa using this
  obtain ⟨h1, h2⟩ := List.append_inj h hl
  exact ⟨h1, by simpa using h2⟩
def ot_mRatV : OT := fun _ => ([], [])
def goal_mRatV (x : Int) (K : AV → Prop) : Prop := goalL T110 ot_mRatV noL Tryz.f10 [iA .i64 x] K
theorem goal_mRatV_vc (x : Int) (K : AV → Prop) : goal_mRatV x K = ( ((0 : Int) < (6 : Int) ∧ (6 : Int) < (9223372036854775808 : Int)) ∧ ((0 : Int) ≤ x % (6 : Int) ∧ x % (6 : Int) < (6 : Int)) ∧ ∃ (d : Int), ldE [[Ch.v (Value.int IntKind.i64 (1 : Int))], [Ch.v (Value.int IntKind.i64 (2 : Int))], [Ch.v (Value.int IntKind.i64 (3 : Int))], [Ch.v (Value.int IntKind.i64 (4 : Int))], [Ch.v (Value.int IntKind.i64 (5 : Int))], [Ch.v (Value.int IntKind.i64 (8 : Int))]] ((0 : Nat) + Int.toNat (x % (6 : Int))) (0 : Nat) (1 : Nat) = some [Ch.v (Value.int IntKind.i64 d)] ∧ (6 : Int) ≠ (0 : Int) ∧ ((0 : Int) < IntKind.wrap IntKind.i64 (IntKind.wrap IntKind.i64 ((16 : Int) * d) + (1 : Int)) ∧ IntKind.wrap IntKind.i64 (IntKind.wrap IntKind.i64 ((16 : Int) * d) + (1 : Int)) < (9223372036854775808 : Int)) ∧ (((-9223372036854775808 : Int) < IntKind.wrap IntKind.i64 (IntKind.wrap IntKind.i64 (Int.tdiv x (6 : Int)) % IntKind.wrap IntKind.i64 (IntKind.wrap IntKind.i64 ((16 : Int) * d) + (1 : Int)) - IntKind.wrap IntKind.i64 ((8 : Int) * d)) ∧ IntKind.wrap IntKind.i64 (IntKind.wrap IntKind.i64 (Int.tdiv x (6 : Int)) % IntKind.wrap IntKind.i64 (IntKind.wrap IntKind.i64 ((16 : Int) * d) + (1 : Int)) - IntKind.wrap IntKind.i64 ((8 : Int) * d)) < (9223372036854775808 : Int)) ∧ (0 : Int) < d ∧ d < (9223372036854775808 : Int)) ∧ K (AV.x true [Ch.r (mkRat (IntKind.wrap IntKind.i64 (IntKind.wrap IntKind.i64 (Int.tdiv x (6 : Int)) % IntKind.wrap IntKind.i64 (IntKind.wrap IntKind.i64 ((16 : Int) * d) + (1 : Int)) - IntKind.wrap IntKind.i64 ((8 : Int) * d))) (Int.toNat d)) (63 : Nat)])) := by kernel_rfl
theorem g_mRatV (x : Int) (hc : (-9223372036854775808 ≤ x ∧ x < 9223372036854775808)) (K : AV → Prop) (hK : K (rA (ratV x) 63)) : Holds (goal_mRatV x K) := by
  refine ⟨?_⟩
  rw [goal_mRatV_vc]
  try simp only [Int.ofNat_eq_natCast, true_and, and_true, Nat.zero_add, Nat.le_refl, true_implies, true_or, or_true]
  have b1 := Int.emod_nonneg x (show (6 : Int) ≠ 0 by decide)
  have b2 := Int.emod_lt_of_pos x (show (0 : Int) < 6 by decide)
  obtain ⟨d, hd, hdr, hde⟩ : ∃ d, ldE [[Ch.v (Value.int IntKind.i64 1)], [Ch.v (Value.int IntKind.i64 2)], [Ch.v (Value.int IntKind.i64 3)], [Ch.v (Value.int IntKind.i64 4)], [Ch.v (Value.int IntKind.i64 5)], [Ch.v (Value.int IntKind.i64 8)]] (x % 6).toNat 0 1 = some [Ch.v (Value.int IntKind.i64 d)] ∧ (1 ≤ d ∧ d ≤ 8) ∧ ratD x = d := by
    unfold ratD
    generalize x % 6 = r at b1 b2
    have : r = 0 ∨ r = 1 ∨ r = 2 ∨ r = 3 ∨ r = 4 ∨ r = 5 := by omega
    rcases this with rfl | rfl | rfl | rfl | rfl | rfl
    · exact ⟨1, rfl, by omega, rfl⟩
    · exact ⟨2, rfl, by omega, rfl⟩
    · exact ⟨3, rfl, by omega, rfl⟩
    · exact ⟨4, rfl, by omega, rfl⟩
    · exact ⟨5, rfl, by omega, rfl⟩
    · exact ⟨8, rfl, by omega, rfl⟩
  unfold ratV at hK
  rw [hde] at hK
  have e1 : IntKind.i64.wrap (IntKind.i64.wrap (16 * d) + 1) = 16 * d + 1 := by rw [w64 (n := 16 * d) (by omega), w64 (by omega)]
  have e2 : IntKind.i64.wrap (8 * d) = 8 * d := w64 (by omega)
  have b3 := Int.emod_nonneg (IntKind.i64.wrap (x.tdiv 6)) (show 16 * d + 1 ≠ 0 by omega)
  have b4 := Int.emod_lt_of_pos (IntKind.i64.wrap (x.tdiv 6)) (show 0 < 16 * d + 1 by omega)
  refine ⟨by omega, by omega, d, hd, by decide, ?_⟩
  rw [e1, e2, w64 (n := _ - 8 * d) (by omega)]
  exact ⟨by omega, by omega, hK⟩
def c_mRatV : Ctr := fun as0 => match as0 with
  | [.x false [.v (.int .i64 x)]] => some fun K => ((-9223372036854775808 ≤ x ∧ x < 9223372036854775808)) ∧ (K (rA (ratV x) 63))
  | _ => none
theorem ok_mRatV : CtrOK Tryz.prog tabG debT 10 c_mRatV := by
  refine ⟨enters Tryz.func10 (by kernel_rfl), fun l T hT K hK => ?_⟩
  unfold c_mRatV at hT
  split at hT
  · cases hT
    obtain ⟨hc, hK⟩ := hK
    exact spec_ofL T110ok mixed Tryz.func10 (by kernel_rfl) (by kernel_rfl) (by rfl) (g_mRatV _ hc K hK)
  · cases hT
def L111 : List (Nat × Ctr) := (10, c_mRatV) :: L110
theorem L111ok : CtrsOK Tryz.prog tabG debT L111 := .cons ok_mRatV L110ok
def L112 : List (Nat × Ctr) := L111
def T112 : Tabs := mkT L112 M79 X4
theorem L112ok : CtrsOK Tryz.prog tabG debT L112 := L111ok
theorem T112ok : TabsOK Tryz.prog tabG debT T112 := mkTok L112ok M79ok X4ok
def ot_mVec : OT := fun _ => ([], [])
def goal_mVec (l : List Int) (K : AV → Prop) : Prop := goalL T112 ot_mVec noL Tryz.f32 [.x false [.s 1 (ints l)]] K
theorem goal_mVec_vc (l : List Int) (K : AV → Prop) : goal_mVec l K = ( ∃ (l_1 : List Int), ints l = ints l_1 ∧ ((1 : Int) ≤ (1048576 : Int) ∧ (1048576 : Int) < (9223372036854775808 : Int)) ∧ List.length l_1 ≤ (9223372036854775807 : Nat) ∧ ∀ (r : Int) (l' : List Int), (0 : Int) ≤ r ∧ r < (1048576 : Int) → List.length l' ≤ List.length l_1 → ((-9223372036854775808 : Int) ≤ r ∧ r < (9223372036854775808 : Int)) ∧ ∃ (l : List Int), ints l' = ints l ∧ ((1 : Int) ≤ (1048576 : Int) ∧ (1048576 : Int) < (9223372036854775808 : Int)) ∧ List.length l ≤ (9223372036854775807 : Nat) ∧ ∀ (r_1 : Int) (l' : List Int), (0 : Int) ≤ r_1 ∧ r_1 < (1048576 : Int) → List.length l' ≤ List.length l → ((-9223372036854775808 : Int) ≤ r_1 ∧ r_1 < (9223372036854775808 : Int)) ∧ K (AV.x true [Ch.r (ratV r) (63 : Nat), Ch.r (ratV r_1) (63 : Nat)])) := by kernel_rfl
theorem g_mVec (l : List Int) (hc : (l.length ≤ 9223372036854775807)) (K : AV → Prop) (hK : ∀ p : Rat × Rat, K (.x true (vecCh p))) : Holds (goal_mVec l K) := by
  refine ⟨?_⟩
  rw [goal_mVec_vc]
  try simp only [Int.ofNat_eq_natCast, true_and, and_true, Nat.zero_add, Nat.le_refl, true_implies, true_or, or_true]
  exact ⟨l, rfl, by omega, hc, fun r l1 hr h1 => ⟨by omega, l1, rfl, by omega, by omega, fun r2 l2 hr2 h2 => ⟨by omega, hK (ratV r, ratV r2)⟩⟩⟩
def c_mVec : Ctr := fun as0 => match as0 with
  | [.x false [.s 1 xs]] => some fun K => ∃ (l : List Int), xs = ints l ∧ ((l.length ≤ 9223372036854775807)) ∧ (∀ p : Rat × Rat, K (.x true (vecCh p)))
  | _ => none
theorem ok_mVec : CtrOK Tryz.prog tabG debT 32 c_mVec := by
  refine ⟨enters Tryz.func32 (by kernel_rfl), fun l T hT K hK => ?_⟩
  unfold c_mVec at hT
  split at hT
  · cases hT
    obtain ⟨l, rfl, hc, hK⟩ := hK
    exact spec_ofL T112ok mixed Tryz.func32 (by kernel_rfl) (by kernel_rfl) (by rfl) (g_mVec _ hc K hK)
  · cases hT
def L113 : List (Nat × Ctr) := (32, c_mVec) :: L112
theorem L113ok : CtrsOK Tryz.prog tabG debT L113 := .cons ok_mVec L112ok
def L114 : List (Nat × Ctr) := L113
theorem L114ok : CtrsOK Tryz.prog tabG debT L114 := L113ok
def L115 : List (Nat × Ctr) := L114
theorem L115ok : CtrsOK Tryz.prog tabG debT L115 := L114ok
def L116 : List (Nat × Ctr) := L115
theorem L116ok : CtrsOK Tryz.prog tabG debT L116 := L115ok
def L117 : List (Nat × Ctr) := L116
def T117 : Tabs := mkT L117 M79 X4
theorem L117ok : CtrsOK Tryz.prog tabG debT L117 := L116ok
theorem T117ok : TabsOK Tryz.prog tabG debT T117 := mkTok L117ok M79ok X4ok
end Go.Proofs
