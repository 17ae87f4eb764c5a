/- Columns, velocities. -/
import Derived.Test.YtdbkndfkgdbhpaaDoorFC
import Derived.Test.YtdbkndfkgdbhpaaDoorFL
/- Columns, velocities. -/
namespace Go.Proofs
open Go Go.Eng
structure TqX where
  fs : List FrV
  f : FrV
  i : Nat
structure TqI (a : ArmV) (qs : List Rat) (x : TqX) : Prop where
  eq : x.fs ++ [x.f] = framesV (baseV a) a.links qs
  len : x.fs.length = a.links.length
  le : x.i ≤ a.links.length
def rowVv (n : Nat) (l : List (Rat × Rat)) : Blk := .row 27 6 (l.map (vecN n))
def sVv (n : Nat) (l : List (Rat × Rat)) : AV := .x false [.s 6 (l.map (vecN n))]
def inv_cols (a : ArmV) (qs : List Rat) : LI := fun _ => .inv ⟨TqX, fun x => ⟨[(8, .x false [.p 8 0]), (9, .x false [.w 500 0 x.i]), (33, .x false [.s 10 (x.fs.map frCh)]), (34, iA .i64 a.links.length), (35, iA .i64 x.i)],
  [(8, .box 27 [.r x.f.x 120000000, .r x.f.y 120000000]), (500, rowVv 132800001 ((colV x.f x.fs).take x.i))]⟩, TqI a qs, fun x => a.links.length - x.i, fun _ => 0⟩
structure VlX where
  cs : List (Rat × Rat)
  x : Rat
  y : Rat
  i : Nat
structure VlI (a : ArmV) (qs vs : List Rat) (x : VlX) : Prop where
  len : x.cs.length = a.links.length
  cs : ∃ fs f, fs ++ [f] = framesV (baseV a) a.links qs ∧ fs.length = a.links.length ∧ x.cs = colV f fs
  eq : velV (x.cs.drop x.i) (qs.drop x.i) (vs.drop x.i) x.x x.y = velV x.cs qs vs 0 0
  le : x.i ≤ a.links.length
def inv_vel (a : ArmV) (b : Nat) (qs : List Rat) (d : Nat) (vs : List Rat) : LI := fun _ => .inv ⟨VlX, fun x => ⟨[(1, sR b qs), (2, sR d vs), (6, .x false [.p 6 0]), (8, sVv 132800001 x.cs), (10, .x false [.p 10 0]), (35, iA .i64 a.links.length), (36, iA .i64 x.i)],
  [(6, .box 27 (zeroR ++ zeroR)), (10, .box 27 [.r x.x (64 + 132805000 * x.i), .r x.y (64 + 132805000 * x.i)])]⟩, VlI a qs vs, fun x => a.links.length - x.i, fun _ => 0⟩
def ratD (x : Int) : Int := ([1, 2, 3, 4, 5, 8] : List Int).getD (x % 6).toNat 1
def ratV (x : Int) : Rat := mkRat (IntKind.i64.wrap (x.tdiv 6) % (16 * ratD x + 1) - 8 * ratD x) (ratD x).toNat
def L110 : List (Nat × Ctr) := L95
def T110 : Tabs := mkT L110 M79 X4
theorem L110ok : CtrsOK Tryd.prog tabG debT L110 := L95ok
theorem T110ok : TabsOK Tryd.prog tabG debT T110 := mkTok L110ok M79ok X4ok
theorem lR_snoc {n N : Nat} (qs : List Rat) (q : Rat) (h : n ≤ N) : RowLE (lR N qs ++ [[Ch.r q n]]) (lR N (qs ++ [q])) := by
  have e : lR N (qs ++ [q]) = lR N qs ++ [[Ch.r q N]] := by simp [lR]
  rw [e]
  refine row_snoc ?_ ⟨.r h .nil, rfl⟩
  refine ⟨rfl, fun i x y hx hy => ?_⟩
  rw [hx] at hy
  cases hy
  simp only [lR, List.getElem?_map, Option.map_eq_some_iff] at hx
  obtain ⟨q, _, rfl⟩ := hx
  exact ⟨.r (Nat.le_refl _) .nil, rfl⟩
theorem vec_snoc {n m N : Nat} (l : List (Rat × Rat)) (x y : Rat) (h : n ≤ N) (k : m ≤ N) : RowLE (l.map (vecN N) ++ [[Ch.r x n, Ch.r y m]]) ((l ++ [(x, y)]).map (vecN N)) := by
  rw [List.map_append]
  refine row_snoc ?_ ⟨.r h (.r k .nil), rfl⟩
  refine ⟨rfl, fun i x y hx hy => ?_⟩
  rw [hx] at hy
  cases hy
  simp only [List.getElem?_map, Option.map_eq_some_iff] at hx
  obtain ⟨q, _, rfl⟩ := hx
  exact ⟨.r (Nat.le_refl _) (.r (Nat.le_refl _) .nil), rfl⟩
theorem fr_ld {fs : List FrV} {i : Nat} {f : FrV} (h : fs[i]? = some f) : ldE (fs.map frCh) i 0 10 = some [.r f.x 12800000, .r f.y 12800000, .v (.bool f.h), .r f.t 12800000] := by
  simp only [ldE, List.getElem?_map, h]; rfl
theorem snoc_of {fs F : List FrV} {f : FrV} {n : Nat} (h : fs ++ [f] = F) (hl : fs.length = n) : fs = F.take n ∧ f = F.getD n ⟨0, 0, false, 0⟩ := by
  subst hl
  rw [← h]
  simp
theorem snoc_inj {fs gs : List FrV} {f g : FrV} (h : fs ++ [f] = gs ++ [g]) : fs = gs ∧ f = g := by
  have hl : fs.length = gs.length := by have := congrArg List.length h; simpa using this
  obtain ⟨h1, h2⟩ := List.append_inj h hl
  exact ⟨h1, by simpa using h2⟩
theorem cmp_self {p q : Rat} (h : p = q) : cmpR p q = 0 := by subst h; simp [cmpR, Rat.lt_irrefl]
theorem drop_get {α : Type} {l : List α} {i : Nat} {a : α} (h : l[i]? = some a) : l.drop i = a :: l.drop (i + 1) := by
  obtain ⟨hi, e⟩ := List.getElem?_eq_some_iff.1 h
  rw [List.drop_eq_getElem_cons hi, e]
def ot_mRatV : OT := fun _ => ([], [])
def goal_mRatV (x : Int) (K : AV → Prop) : Prop := goalL T110 ot_mRatV noL Tryd.f27 [iA .i64 x] K
theorem goal_mRatV_vc (x : Int) (K : AV → Prop) : goal_mRatV x K = (
 ((0 : Int) < (6 : Int) ∧ (6 : Int) < (9223372036854775808 : Int)) ∧
 ((0 : Int) ≤ x % (6 : Int) ∧ x % (6 : Int) < (6 : Int)) ∧
 ∃ (d : Int),
 ldE
 [[Ch.v (Value.int IntKind.i64 (1 : Int))], [Ch.v (Value.int IntKind.i64 (2 : Int))], [Ch.v (Value.int IntKind.i64 (3 : Int))],
 [Ch.v (Value.int IntKind.i64 (4 : Int))], [Ch.v (Value.int IntKind.i64 (5 : Int))], [Ch.v (Value.int IntKind.i64 (8 : Int))]]
 ((0 : Nat) + Int.toNat (x % (6 : Int))) (0 : Nat) (1 : Nat) =
 some [Ch.v (Value.int IntKind.i64 d)] ∧
 (6 : Int) ≠ (0 : Int) ∧
 ((0 : Int) < IntKind.wrap IntKind.i64 (IntKind.wrap IntKind.i64 ((16 : Int) * d) + (1 : Int)) ∧
 IntKind.wrap IntKind.i64 (IntKind.wrap IntKind.i64 ((16 : Int) * d) + (1 : Int)) < (9223372036854775808 : Int)) ∧
 (((-9223372036854775808 : Int) <
 IntKind.wrap IntKind.i64
 (IntKind.wrap IntKind.i64 (Int.tdiv x (6 : Int)) %
 IntKind.wrap IntKind.i64 (IntKind.wrap IntKind.i64 ((16 : Int) * d) + (1 : Int)) -
 IntKind.wrap IntKind.i64 ((8 : Int) * d)) ∧
 IntKind.wrap IntKind.i64
 (IntKind.wrap IntKind.i64 (Int.tdiv x (6 : Int)) %
 IntKind.wrap IntKind.i64 (IntKind.wrap IntKind.i64 ((16 : Int) * d) + (1 : Int)) -
 IntKind.wrap IntKind.i64 ((8 : Int) * d)) <
 (9223372036854775808 : Int)) ∧
 (0 : Int) < d ∧ d < (9223372036854775808 : Int)) ∧
 K
 (AV.x true
 [Ch.r
 (mkRat
 (IntKind.wrap IntKind.i64
 (IntKind.wrap IntKind.i64 (Int.tdiv x (6 : Int)) %
 IntKind.wrap IntKind.i64 (IntKind.wrap IntKind.i64 ((16 : Int) * d) + (1 : Int)) -
 IntKind.wrap IntKind.i64 ((8 : Int) * d)))
 (Int.toNat d))
 (63 : Nat)])) := by kernel_rfl
theorem g_mRatV (x : Int) (_hc : (-9223372036854775808 ≤ x ∧ x < 9223372036854775808)) (K : AV → Prop) (hK : K (rA (ratV x) 63)) : Holds (goal_mRatV x K) := by
  refine ⟨?_⟩
  rw [goal_mRatV_vc]
  try simp only [Nat.zero_add]
  have b1 := Int.emod_nonneg x (show (6 : Int) ≠ 0 by decide)
  have b2 := Int.emod_lt_of_pos x (show (0 : Int) < 6 by decide)
  obtain ⟨d, hd, hdr, hde⟩ : ∃ d, ldE [[Ch.v (Value.int IntKind.i64 1)], [Ch.v (Value.int IntKind.i64 2)], [Ch.v (Value.int IntKind.i64 3)], [Ch.v (Value.int IntKind.i64 4)], [Ch.v (Value.int IntKind.i64 5)], [Ch.v (Value.int IntKind.i64 8)]] (x % 6).toNat 0 1 = some [Ch.v (Value.int IntKind.i64 d)] ∧ (1 ≤ d ∧ d ≤ 8) ∧ ratD x = d := by
    unfold ratD
    generalize x % 6 = r at b1 b2
    have : r = 0 ∨ r = 1 ∨ r = 2 ∨ r = 3 ∨ r = 4 ∨ r = 5 := by omega
    rcases this with rfl | rfl | rfl | rfl | rfl | rfl
    · exact ⟨1, rfl, by omega, rfl⟩
    · exact ⟨2, rfl, by omega, rfl⟩
    · exact ⟨3, rfl, by omega, rfl⟩
    · exact ⟨4, rfl, by omega, rfl⟩
    · exact ⟨5, rfl, by omega, rfl⟩
    · exact ⟨8, rfl, by omega, rfl⟩
  unfold ratV at hK
  rw [hde] at hK
  have e1 : IntKind.i64.wrap (IntKind.i64.wrap (16 * d) + 1) = 16 * d + 1 := by rw [w64 (n := 16 * d) (by omega), w64 (by omega)]
  have e2 : IntKind.i64.wrap (8 * d) = 8 * d := w64 (by omega)
  have b3 := Int.emod_nonneg (IntKind.i64.wrap (x.tdiv 6)) (show 16 * d + 1 ≠ 0 by omega)
  have b4 := Int.emod_lt_of_pos (IntKind.i64.wrap (x.tdiv 6)) (show 0 < 16 * d + 1 by omega)
  refine ⟨by omega, by omega, d, hd, by decide, ?_⟩
  rw [e1, e2, w64 (n := _ - 8 * d) (by omega)]
  exact ⟨by omega, by omega, hK⟩
def c_mRatV : Ctr := fun as0 => match as0 with
  | [.x false [.v (.int .i64 x)]] => some fun K => ((-9223372036854775808 ≤ x ∧ x < 9223372036854775808)) ∧ (K (rA (ratV x) 63))
  | _ => none
theorem ok_mRatV : CtrOK Tryd.prog tabG debT 27 c_mRatV := by
  refine ⟨enters Tryd.func27 (by kernel_rfl), fun l T hT K hK => ?_⟩
  unfold c_mRatV at hT
  split at hT
  · cases hT
    obtain ⟨hc, hK⟩ := hK
    exact spec_ofL T110ok mixed Tryd.func27 (by kernel_rfl) (by kernel_rfl) (by rfl) (g_mRatV _ hc K hK)
  · cases hT
def L111 : List (Nat × Ctr) := (27, c_mRatV) :: L110
def T111 : Tabs := mkT L111 M79 X4
theorem L111ok : CtrsOK Tryd.prog tabG debT L111 := .cons ok_mRatV L110ok
theorem T111ok : TabsOK Tryd.prog tabG debT T111 := mkTok L111ok M79ok X4ok
def ot_vScale : OT := fun id => bif id.beq 1 then ([0, 1, 2, 4, 5, 6, 3, 7, 8, 9], [[], [0], [], [1, 0, 2], [], [4], [], [5, 4, 6, 3, 1, 0, 2], [3, 1, 0, 2, 7, 5, 4, 6], [8, 3, 1, 0, 2, 7, 5, 4, 6]]) else ([], [])
def goal_vScale (px : Rat) (a : Nat) (py : Rat) (b : Nat) (q : Rat) (c : Nat) (K : AV → Prop) : Prop := goalL T111 ot_vScale noL Tryd.f30 [.x true [.r px a, .r py b], rA q c] K
theorem goal_vScale_vc (px : Rat) (a : Nat) (py : Rat) (b : Nat) (q : Rat) (c : Nat) (K : AV → Prop) : goal_vScale px a py b q c K = (
 a + c ≤ (4294967296 : Nat) ∧ b + c ≤ (4294967296 : Nat) ∧ K (AV.x true [Ch.r (px * q) (a + c), Ch.r (py * q) (b + c)])) := by kernel_rfl
theorem g_vScale (px : Rat) (a : Nat) (py : Rat) (b : Nat) (q : Rat) (c : Nat) (hc : (a + c ≤ 4294967296) ∧ (b + c ≤ 4294967296)) (K : AV → Prop) (hK : K (.x true [.r (px * q) (a + c), .r (py * q) (b + c)])) : Holds (goal_vScale px a py b q c K) := by
  refine ⟨?_⟩
  rw [goal_vScale_vc]
  try simp only [Int.ofNat_eq_natCast, true_and, and_true, Nat.zero_add, Nat.le_refl, true_implies, true_or, or_true]
  exact ⟨by omega, by omega, hK⟩
def c_vScale : Ctr := fun as0 => match as0 with
  | [.x true [.r px a, .r py b], .x true [.r q c]] => some fun K => ((a + c ≤ 4294967296) ∧ (b + c ≤ 4294967296)) ∧ (K (.x true [.r (px * q) (a + c), .r (py * q) (b + c)]))
  | _ => none
theorem ok_vScale : CtrOK Tryd.prog tabG debT 30 c_vScale := by
  refine ⟨enters Tryd.func30 (by kernel_rfl), fun l T hT K hK => ?_⟩
  unfold c_vScale at hT
  split at hT
  · cases hT
    obtain ⟨hc, hK⟩ := hK
    exact spec_ofL T111ok mixed Tryd.func30 (by kernel_rfl) (by kernel_rfl) (by rfl) (g_vScale _ _ _ _ _ _ hc K hK)
  · cases hT
def L112 : List (Nat × Ctr) := (30, c_vScale) :: L111
def T112 : Tabs := mkT L112 M79 X4
theorem L112ok : CtrsOK Tryd.prog tabG debT L112 := .cons ok_vScale L111ok
theorem T112ok : TabsOK Tryd.prog tabG debT T112 := mkTok L112ok M79ok X4ok
def ot_mVec : OT := fun _ => ([], [])
def goal_mVec (l : List Int) (K : AV → Prop) : Prop := goalL T112 ot_mVec noL Tryd.f16 [.x false [.s 1 (ints l)]] K
theorem goal_mVec_vc (l : List Int) (K : AV → Prop) : goal_mVec l K = (
 ∃ (l_1 : List Int),
 ints l = ints l_1 ∧
 ((1 : Int) ≤ (1048576 : Int) ∧ (1048576 : Int) < (9223372036854775808 : Int)) ∧
 List.length l_1 ≤ (9223372036854775807 : Nat) ∧
 ∀ (r : Int) (l' : List Int),
 (0 : Int) ≤ r ∧ r < (1048576 : Int) →
 List.length l' ≤ List.length l_1 →
 ((-9223372036854775808 : Int) ≤ r ∧ r < (9223372036854775808 : Int)) ∧
 ∃ (l : List Int),
 ints l' = ints l ∧
 ((1 : Int) ≤ (1048576 : Int) ∧ (1048576 : Int) < (9223372036854775808 : Int)) ∧
 List.length l ≤ (9223372036854775807 : Nat) ∧
 ∀ (r_1 : Int) (l' : List Int),
 (0 : Int) ≤ r_1 ∧ r_1 < (1048576 : Int) →
 List.length l' ≤ List.length l →
 ((-9223372036854775808 : Int) ≤ r_1 ∧ r_1 < (9223372036854775808 : Int)) ∧
 K (AV.x true [Ch.r (ratV r) (63 : Nat), Ch.r (ratV r_1) (63 : Nat)])) := by kernel_rfl
theorem g_mVec (l : List Int) (hc : (l.length ≤ 9223372036854775807)) (K : AV → Prop) (hK : ∀ p : Rat × Rat, K (.x true (vecCh p))) : Holds (goal_mVec l K) := by
  refine ⟨?_⟩
  rw [goal_mVec_vc]
  try simp only [Int.ofNat_eq_natCast, true_and, and_true, Nat.zero_add, Nat.le_refl, true_implies, true_or, or_true]
  exact ⟨l, rfl, by omega, hc, fun r l1 hr h1 => ⟨by omega, l1, rfl, by omega, by omega, fun r2 l2 hr2 h2 => ⟨by omega, hK (ratV r, ratV r2)⟩⟩⟩
def c_mVec : Ctr := fun as0 => match as0 with
  | [.x false [.s 1 xs]] => some fun K => ∃ (l : List Int), xs = ints l ∧ ((l.length ≤ 9223372036854775807)) ∧ (∀ p : Rat × Rat, K (.x true (vecCh p)))
  | _ => none
theorem ok_mVec : CtrOK Tryd.prog tabG debT 16 c_mVec := by
  refine ⟨enters Tryd.func16 (by kernel_rfl), fun l T hT K hK => ?_⟩
  unfold c_mVec at hT
  split at hT
  · cases hT
    obtain ⟨l, rfl, hc, hK⟩ := hK
    exact spec_ofL T112ok mixed Tryd.func16 (by kernel_rfl) (by kernel_rfl) (by rfl) (g_mVec _ hc K hK)
  · cases hT
def L113 : List (Nat × Ctr) := (16, c_mVec) :: L112
def T113 : Tabs := mkT L113 M79 X4
theorem L113ok : CtrsOK Tryd.prog tabG debT L113 := .cons ok_mVec L112ok
theorem T113ok : TabsOK Tryd.prog tabG debT T113 := mkTok L113ok M79ok X4ok
def ot_sRate : OT := fun id => bif id.beq 1 then ([1, 4, 5, 12, 0, 2, 3, 6, 7, 8, 9, 10, 11, 13, 14], [[], [], [0, 1], [2, 0, 1], [], [], [4, 5, 3, 2, 0, 1], [3, 2, 0, 1, 6, 4, 5], [2, 0, 1, 7, 3, 6, 4, 5], [8, 2, 0, 1, 7, 3, 6, 4, 5], [9, 8, 2, 0, 1, 7, 3, 6, 4, 5], [9, 8, 2, 0, 1, 7, 3, 6, 4, 5], [], [12, 10, 9, 8, 2, 0, 1, 7, 3, 6, 4, 5], [11, 9, 8, 2, 0, 1, 7, 3, 6, 4, 5, 13, 12, 10]]) else ([], [])
def goal_sRate (q : Rat) (a : Nat) (v : Rat) (b : Nat) (K : AV → Prop) : Prop := goalL T113 ot_sRate noL Tryd.f41 [rA q a, rA v b] K
theorem goal_sRate_vc (q : Rat) (a : Nat) (v : Rat) (b : Nat) (K : AV → Prop) : goal_sRate q a v b K = (
 ((-9223372036854775808 : Int) ≤ (2 : Int) ∧ (2 : Int) < (9223372036854775808 : Int)) ∧
 (64 : Nat) + b ≤ (4294967296 : Nat) ∧
 ((-9223372036854775808 : Int) ≤ (1 : Int) ∧ (1 : Int) < (9223372036854775808 : Int)) ∧
 a + a ≤ (4294967296 : Nat) ∧
 (64 : Nat) + (a + a) + (1 : Nat) ≤ (4294967296 : Nat) ∧
 (64 : Nat) + b + ((64 : Nat) + (a + a) + (1 : Nat)) ≤ (4294967296 : Nat) ∧
 ((((1 : Int) : Int) : Rat) + q * q ≠ (OfNat.ofNat (0 : Nat) : Rat) →
 K (AV.x true [Ch.r ((((2 : Int) : Int) : Rat) * v / ((((1 : Int) : Int) : Rat) + q * q)) ((64 : Nat) + b + ((64 : Nat) + (a + a) + (1 : Nat)))])) ∧
 ((((1 : Int) : Int) : Rat) + q * q = (OfNat.ofNat (0 : Nat) : Rat) →
 K
 (AV.x true
 [Ch.v (Value.bool false), Ch.v (Value.string (ByteArray.mk (Array.mk []))),
 Ch.v (Value.string (ByteArray.mk (Array.mk [])))]))) := by kernel_rfl
theorem g_sRate (q : Rat) (a : Nat) (v : Rat) (b : Nat) (hc : (2 * a + b ≤ 4294967000)) (K : AV → Prop) (hK : ∀ n, n ≤ 2 * a + b + 200 → K (rA (rateV q v) n)) : Holds (goal_sRate q a v b K) := by
  refine ⟨?_⟩
  rw [goal_sRate_vc]
  try simp only [Int.ofNat_eq_natCast, true_and, and_true, Nat.zero_add, Nat.le_refl, true_implies, true_or, or_true]
  exact ⟨by omega, by omega, by omega, by omega, by omega, by omega, fun _ => hK _ (by omega), fun h0 => absurd h0 (sq1 q)⟩
def c_sRate : Ctr := fun as0 => match as0 with
  | [.x true [.r q a], .x true [.r v b]] => some fun K => ((2 * a + b ≤ 4294967000)) ∧ (∀ n, n ≤ 2 * a + b + 200 → K (rA (rateV q v) n))
  | _ => none
theorem ok_sRate : CtrOK Tryd.prog tabG debT 41 c_sRate := by
  refine ⟨enters Tryd.func41 (by kernel_rfl), fun l T hT K hK => ?_⟩
  unfold c_sRate at hT
  split at hT
  · cases hT
    obtain ⟨hc, hK⟩ := hK
    exact spec_ofL T113ok mixed Tryd.func41 (by kernel_rfl) (by kernel_rfl) (by rfl) (g_sRate _ _ _ _ hc K hK)
  · cases hT
def L114 : List (Nat × Ctr) := (41, c_sRate) :: L113
def T114 : Tabs := mkT L114 M79 X4
theorem L114ok : CtrsOK Tryd.prog tabG debT L114 := .cons ok_sRate L113ok
theorem T114ok : TabsOK Tryd.prog tabG debT T114 := mkTok L114ok M79ok X4ok
def ot_sCols : OT := fun id => bif id.beq 10 then ([0, 1, 2, 4, 5, 3, 6, 7, 8, 9], [[], [], [1], [2, 1], [], [4], [3, 2, 1, 5, 4], [6, 3, 2, 1, 5, 4], [0, 7, 6, 3, 2, 1, 5, 4], [8, 0, 7, 6, 3, 2, 1, 5, 4]]) else ([], [])
def goal_sCols (a : ArmV) (b : Nat) (qs : List Rat) (K : AV → Prop) : Prop := goalL T114 ot_sCols (inv_cols a qs) Tryd.f73 [armA a, sR b qs] K
theorem goal_sCols_vc (a : ArmV) (b : Nat) (qs : List Rat) (K : AV → Prop) : goal_sCols a b qs K = (
 ∃ (a_1 : ArmV),
 ∃ (b_1 : Nat),
 ∃ (qs_1 : List Rat),
 [Ch.v (Value.string (ArmV.name a)), Ch.r (ArmV.x a) (63 : Nat), Ch.r (ArmV.y a) (63 : Nat), Ch.v (Value.bool (ArmV.half a)),
 Ch.r (ArmV.t a) (63 : Nat), Ch.s (16 : Nat) (List.map linkCh (ArmV.links a))] =
 [Ch.v (Value.string (ArmV.name a_1)), Ch.r (ArmV.x a_1) (63 : Nat), Ch.r (ArmV.y a_1) (63 : Nat),
 Ch.v (Value.bool (ArmV.half a_1)), Ch.r (ArmV.t a_1) (63 : Nat), Ch.s (16 : Nat) (List.map linkCh (ArmV.links a_1))] ∧
 lR b qs = lR b_1 qs_1 ∧
 (GoodArm a_1 ∧ b_1 ≤ (400 : Nat) ∧ List.length qs_1 = List.length (ArmV.links a_1)) ∧
 ∀ (fs : List FrV) (f : FrV),
 fs ++ [f] = framesV (baseV a_1) (ArmV.links a_1) qs_1 →
 List.length fs = List.length (ArmV.links a_1) →
 ((0 : Int) ≤
 IntKind.wrap IntKind.i64
 (Int.ofNat
 (List.length
 (List.map frCh fs ++
 [[Ch.r (FrV.x f) (bnd (List.length (ArmV.links a_1))),
 Ch.r (FrV.y f) (bnd (List.length (ArmV.links a_1))), Ch.v (Value.bool (FrV.h f)),
 Ch.r (FrV.t f) (bnd (List.length (ArmV.links a_1)))]])) -
 (1 : Int)) ∧
 IntKind.wrap IntKind.i64
 (Int.ofNat
 (List.length
 (List.map frCh fs ++
 [[Ch.r (FrV.x f) (bnd (List.length (ArmV.links a_1))),
 Ch.r (FrV.y f) (bnd (List.length (ArmV.links a_1))), Ch.v (Value.bool (FrV.h f)),
 Ch.r (FrV.t f) (bnd (List.length (ArmV.links a_1)))]])) -
 (1 : Int)) <
 Int.ofNat
 (List.length
 (List.map frCh fs ++
 [[Ch.r (FrV.x f) (bnd (List.length (ArmV.links a_1))), Ch.r (FrV.y f) (bnd (List.length (ArmV.links a_1))),
 Ch.v (Value.bool (FrV.h f)), Ch.r (FrV.t f) (bnd (List.length (ArmV.links a_1)))]]))) ∧
 ∃ (q : Rat),
 ∃ (n : Nat),
 ∃ (q_1 : Rat),
 ∃ (n_1 : Nat),
 ldE
 (List.map frCh fs ++
 [[Ch.r (FrV.x f) (bnd (List.length (ArmV.links a_1))),
 Ch.r (FrV.y f) (bnd (List.length (ArmV.links a_1))), Ch.v (Value.bool (FrV.h f)),
 Ch.r (FrV.t f) (bnd (List.length (ArmV.links a_1)))]])
 (Int.toNat
 (IntKind.wrap IntKind.i64
 (Int.ofNat
 (List.length
 (List.map frCh fs ++
 [[Ch.r (FrV.x f) (bnd (List.length (ArmV.links a_1))),
 Ch.r (FrV.y f) (bnd (List.length (ArmV.links a_1))), Ch.v (Value.bool (FrV.h f)),
 Ch.r (FrV.t f) (bnd (List.length (ArmV.links a_1)))]])) -
 (1 : Int))))
 (0 : Nat) (6 : Nat) =
 some [Ch.r q n, Ch.r q_1 n_1] ∧
 ((0 : Int) ≤ (0 : Int) ∧
 (0 : Int) ≤
 IntKind.wrap IntKind.i64
 (Int.ofNat
 (List.length
 (List.map frCh fs ++
 [[Ch.r (FrV.x f) (bnd (List.length (ArmV.links a_1))),
 Ch.r (FrV.y f) (bnd (List.length (ArmV.links a_1))), Ch.v (Value.bool (FrV.h f)),
 Ch.r (FrV.t f) (bnd (List.length (ArmV.links a_1)))]])) -
 (1 : Int)) ∧
 IntKind.wrap IntKind.i64
 (Int.ofNat
 (List.length
 (List.map frCh fs ++
 [[Ch.r (FrV.x f) (bnd (List.length (ArmV.links a_1))),
 Ch.r (FrV.y f) (bnd (List.length (ArmV.links a_1))), Ch.v (Value.bool (FrV.h f)),
 Ch.r (FrV.t f) (bnd (List.length (ArmV.links a_1)))]])) -
 (1 : Int)) ≤
 Int.ofNat
 (List.length
 (List.map frCh fs ++
 [[Ch.r (FrV.x f) (bnd (List.length (ArmV.links a_1))),
 Ch.r (FrV.y f) (bnd (List.length (ArmV.links a_1))), Ch.v (Value.bool (FrV.h f)),
 Ch.r (FrV.t f) (bnd (List.length (ArmV.links a_1)))]]))) ∧
 (∃ (x : TqX),
 (TqI a qs x ∧ OfNat.ofNat (0 : Nat) = (0 : Nat)) ∧
 (0 : Nat) = (0 : Nat) ∧
 Value.slice none (0 : Nat) (0 : Nat) = Value.slice none (0 : Nat) (0 : Nat) ∧
 (0 : Nat) = (0 : Nat) ∧
 TqX.i x = (0 : Nat) ∧
 (10 : Nat) = (10 : Nat) ∧
 List.take
 (Int.toNat
 (IntKind.wrap IntKind.i64
 (Int.ofNat
 (List.length
 (List.map frCh fs ++
 [[Ch.r (FrV.x f) (bnd (List.length (ArmV.links a_1))),
 Ch.r (FrV.y f) (bnd (List.length (ArmV.links a_1))),
 Ch.v (Value.bool (FrV.h f)),
 Ch.r (FrV.t f) (bnd (List.length (ArmV.links a_1)))]])) -
 (1 : Int))) -
 (0 : Nat))
 (List.drop (0 : Nat)
 (List.map frCh fs ++
 [[Ch.r (FrV.x f) (bnd (List.length (ArmV.links a_1))),
 Ch.r (FrV.y f) (bnd (List.length (ArmV.links a_1))),
 Ch.v (Value.bool (FrV.h f)),
 Ch.r (FrV.t f) (bnd (List.length (ArmV.links a_1)))]])) =
 List.map frCh (TqX.fs x) ∧
 Int.ofNat
 (List.length
 (List.take
 (Int.toNat
 (IntKind.wrap IntKind.i64
 (Int.ofNat
 (List.length
 (List.map frCh fs ++
 [[Ch.r (FrV.x f) (bnd (List.length (ArmV.links a_1))),
 Ch.r (FrV.y f) (bnd (List.length (ArmV.links a_1))),
 Ch.v (Value.bool (FrV.h f)),
 Ch.r (FrV.t f) (bnd (List.length (ArmV.links a_1)))]])) -
 (1 : Int))) -
 (0 : Nat))
 (List.drop (0 : Nat)
 (List.map frCh fs ++
 [[Ch.r (FrV.x f) (bnd (List.length (ArmV.links a_1))),
 Ch.r (FrV.y f) (bnd (List.length (ArmV.links a_1))),
 Ch.v (Value.bool (FrV.h f)),
 Ch.r (FrV.t f) (bnd (List.length (ArmV.links a_1)))]])))) =
 Int.ofNat (List.length (ArmV.links a)) ∧
 (0 : Int) = Int.ofNat (TqX.i x) ∧
 (27 : Nat) = (27 : Nat) ∧
 q = FrV.x (TqX.f x) ∧
 n ≤ (120000000 : Nat) ∧
 q_1 = FrV.y (TqX.f x) ∧
 n_1 ≤ (120000000 : Nat) ∧
 List.map (vecN (132800001 : Nat))
 (List.take (TqX.i x) (colV (TqX.f x) (TqX.fs x))) =
 [] ∧
 True) ∧
 ∀ (x : TqX),
 TqI a qs x →
 OfNat.ofNat (0 : Nat) = (0 : Nat) →
 bif decide (Int.ofNat (TqX.i x) < Int.ofNat (List.length (ArmV.links a))) then
 ((0 : Int) ≤ Int.ofNat (TqX.i x) ∧
 Int.ofNat (TqX.i x) < Int.ofNat (List.length (List.map frCh (TqX.fs x)))) ∧
 ∃ (q : Rat),
 ∃ (n : Nat),
 ∃ (q_2 : Rat),
 ∃ (n_2 : Nat),
 ∃ (b : Bool),
 ∃ (q_3 : Rat),
 ∃ (n_3 : Nat),
 ldE (List.map frCh (TqX.fs x)) (Int.toNat (Int.ofNat (TqX.i x))) (0 : Nat)
 (10 : Nat) =
 some [Ch.r q n, Ch.r q_2 n_2, Ch.v (Value.bool b), Ch.r q_3 n_3] ∧
 ((120000000 : Nat) + n ≤ (4294967290 : Nat) ∧
 (120000000 : Nat) + n_2 ≤ (4294967290 : Nat)) ∧
 (120000000 : Nat) + n_2 + (1 : Nat) ≤ (4294967296 : Nat) ∧
 ((TqX.i x + (1 : Nat)) * (80 : Nat) ≤ (140737488355328 : Nat) ∧
 TqX.i x + (1 : Nat) ≤ (9223372036854775807 : Nat)) ∧
 ∃ (x' : TqX),
 (TqI a qs x' ∧
 OfNat.ofNat (0 : Nat) = (0 : Nat) ∧
 List.length (ArmV.links a) - TqX.i x' <
 List.length (ArmV.links a) - TqX.i x) ∧
 (0 : Nat) = (0 : Nat) ∧
 (0 : Nat) = (0 : Nat) ∧
 TqX.i x + (1 : Nat) = TqX.i x' ∧
 (10 : Nat) = (10 : Nat) ∧
 List.map frCh (TqX.fs x) = List.map frCh (TqX.fs x') ∧
 Int.ofNat (List.length (ArmV.links a)) =
 Int.ofNat (List.length (ArmV.links a)) ∧
 IntKind.wrap IntKind.i64
 (Int.ofNat (TqX.i x) + (1 : Int)) =
 Int.ofNat (TqX.i x') ∧
 (27 : Nat) = (27 : Nat) ∧
 FrV.x (TqX.f x) = FrV.x (TqX.f x') ∧
 (120000000 : Nat) ≤ (120000000 : Nat) ∧
 FrV.y (TqX.f x) = FrV.y (TqX.f x') ∧
 (120000000 : Nat) ≤ (120000000 : Nat) ∧
 (27 : Nat) = (27 : Nat) ∧
 (6 : Nat) = (6 : Nat) ∧
 (List.take (TqX.i x)
 (List.map
 (vecN (132800001 : Nat))
 (List.take (TqX.i x)
 (colV (TqX.f x)
 (TqX.fs x)))) ++
 [[Ch.r (-(FrV.y (TqX.f x) - q_2))
 ((120000000 : Nat) + n_2 +
 (1 : Nat)),
 Ch.r (FrV.x (TqX.f x) - q)
 ((120000000 : Nat) + n +
 (1 : Nat))]] =
 List.map (vecN (132800001 : Nat))
 (List.take (TqX.i x')
 (colV (TqX.f x') (TqX.fs x'))) ∨
 RowLE
 (List.take (TqX.i x)
 (List.map
 (vecN (132800001 : Nat))
 (List.take (TqX.i x)
 (colV (TqX.f x)
 (TqX.fs x)))) ++
 [[Ch.r (-(FrV.y (TqX.f x) - q_2))
 ((120000000 : Nat) + n_2 +
 (1 : Nat)),
 Ch.r (FrV.x (TqX.f x) - q)
 ((120000000 : Nat) + n +
 (1 : Nat))]])
 (List.map (vecN (132800001 : Nat))
 (List.take (TqX.i x')
 (colV (TqX.f x')
 (TqX.fs x'))))) ∧
 True
 else
 K
 (AV.t
 [(false,
 [Ch.s (6 : Nat)
 (List.take (TqX.i x)
 (List.drop (0 : Nat)
 (List.map (vecN (132800001 : Nat))
 (List.take (TqX.i x) (colV (TqX.f x) (TqX.fs x))))))]),
 (false, [Ch.v (Value.int IntKind.i64 (0 : Int))])])) := by kernel_rfl
theorem g_sCols (a : ArmV) (b : Nat) (qs : List Rat) (hc : (GoodArm a) ∧ (b ≤ 400 ∧ qs.length = a.links.length)) (K : AV → Prop) (hK : ∀ (fs : List FrV) (f : FrV), fs ++ [f] = framesV (baseV a) a.links qs → fs.length = a.links.length → K (.t [(false, [.s 6 ((colV f fs).map (vecN 132800001))]), (false, [.v (.int .i64 0)])])) : Holds (goal_sCols a b qs K) := by
  refine ⟨?_⟩
  rw [goal_sCols_vc]
  try simp only [Int.ofNat_eq_natCast, true_and, and_true, Nat.le_refl, true_implies]
  obtain ⟨hg, hb, hq⟩ := hc
  have hn := hg.n
  refine ⟨a, b, qs, rfl, rfl, ⟨hg, hb, hq⟩, fun fs f hf hl => ?_⟩
  have hbn : bnd a.links.length ≤ 120000000 := bnd_le hn.2
  simp only [List.length_append, List.length_map, List.length_cons, List.length_nil]
  rw [w64 (by omega)]
  have e : ((((fs.length + (0 + 1) : Nat) : Int) - 1).toNat) = a.links.length := by omega
  rw [e]
  have hg2 : (fs ++ [f])[a.links.length]? = some f := by rw [← hl]; simp
  obtain ⟨m, hm, ld, _⟩ := frs_at hbn hg2
  have e2 : List.take (a.links.length - 0) (List.drop 0 (fs.map frCh ++ [frN (bnd a.links.length) f])) = fs.map frCh := by
    rw [Nat.sub_zero, List.drop_zero, List.take_left' (by simp [hl])]
  have e3 : List.length (List.take (a.links.length - 0) (List.drop 0 (fs.map frCh ++ [frN (bnd a.links.length) f]))) = a.links.length := by
    rw [e2, List.length_map, hl]
  refine ⟨by omega, _, m, _, m, ld, by omega, ⟨⟨fs, f, 0⟩, ⟨hf, hl, by simp⟩, rfl, e2, congrArg Int.ofNat e3, rfl, rfl, hm, rfl, hm, rfl⟩, fun x hx => bif_mk (fun hp => ?_) (fun hp => ?_)⟩
  · have hp : x.i < a.links.length := by have := of_decide_eq_true hp; omega
    have hxl := hx.len
    obtain ⟨g, hgx⟩ : ∃ g, x.fs[x.i]? = some g := ⟨_, List.getElem?_eq_getElem (by omega)⟩

    have ht : (colV x.f x.fs)[x.i]? = some (-(x.f.y - g.y), x.f.x - g.x) := by simp [colV, hgx]
    refine ⟨by omega, _, _, _, _, _, _, _, fr_ld (by simpa using hgx), by omega, by omega, by omega, ⟨x.fs, x.f, x.i + 1⟩, ⟨⟨hx.eq, hxl, hp⟩, by simp only; omega⟩, rfl, rfl, by rw [w64 (by omega)]; simp, rfl, rfl, .inr ?_⟩
    rw [List.take_of_length_le (by rw [List.length_map, List.length_take]; omega), List.take_add_one, ht]
    exact vec_snoc _ _ _ (by omega) (by omega)
  · have hp : x.i = a.links.length := by have := of_decide_eq_false hp; have := hx.le; omega
    have hxl := hx.len
    have := hK x.fs x.f hx.eq hx.len
    rw [List.drop_zero, List.take_of_length_le (by rw [List.length_map, List.length_take]; omega), List.take_of_length_le (by simp [colV]; omega)]
    exact this
def c_sCols : Ctr := fun as0 => match as0 with
  | [.x true xs, .x false [.s 3 ys]] => some fun K => ∃ (a : ArmV) (b : Nat) (qs : List Rat), xs = armCh a ∧ ys = lR b qs ∧ ((GoodArm a) ∧ (b ≤ 400 ∧ qs.length = a.links.length)) ∧ (∀ (fs : List FrV) (f : FrV), fs ++ [f] = framesV (baseV a) a.links qs → fs.length = a.links.length → K (.t [(false, [.s 6 ((colV f fs).map (vecN 132800001))]), (false, [.v (.int .i64 0)])]))
  | _ => none
theorem ok_sCols : CtrOK Tryd.prog tabG debT 73 c_sCols := by
  refine ⟨enters Tryd.func73 (by kernel_rfl), fun l T hT K hK => ?_⟩
  unfold c_sCols at hT
  split at hT
  · cases hT
    obtain ⟨a, b, qs, rfl, rfl, hc, hK⟩ := hK
    exact spec_ofL T114ok mixed Tryd.func73 (by kernel_rfl) (by kernel_rfl) (by rfl) (g_sCols _ _ _ hc K hK)
  · cases hT
def L115 : List (Nat × Ctr) := (73, c_sCols) :: L114
def T115 : Tabs := mkT L115 M79 X4
theorem L115ok : CtrsOK Tryd.prog tabG debT L115 := .cons ok_sCols L114ok
theorem T115ok : TabsOK Tryd.prog tabG debT T115 := mkTok L115ok M79ok X4ok
def ot_sVel : OT := fun id => bif id.beq 10 then ([0, 1, 2, 3, 4, 5, 6, 7, 8, 9, 10, 11, 12, 13, 14, 15, 16], [[], [], [], [1, 2], [3, 1, 2], [], [], [5, 6], [7, 5, 6], [], [], [9, 10], [11, 9, 10], [8, 7, 5, 6, 12, 11, 9, 10], [4, 3, 1, 2, 13, 8, 7, 5, 6, 12, 11, 9, 10], [0, 14, 4, 3, 1, 2, 13, 8, 7, 5, 6, 12, 11, 9, 10], [15, 0, 14, 4, 3, 1, 2, 13, 8, 7, 5, 6, 12, 11, 9, 10]]) else ([], [])
def goal_sVel (a : ArmV) (b : Nat) (qs : List Rat) (d : Nat) (vs : List Rat) (K : AV → Prop) : Prop := goalL T115 ot_sVel (inv_vel a b qs d vs) Tryd.f28 [armA a, sR b qs, sR d vs] K
theorem goal_sVel_vc (a : ArmV) (b : Nat) (qs : List Rat) (d : Nat) (vs : List Rat) (K : AV → Prop) : goal_sVel a b qs d vs K = (
 ∃ (a_1 : ArmV),
 ∃ (b_1 : Nat),
 ∃ (qs_1 : List Rat),
 [Ch.v (Value.string (ArmV.name a)), Ch.r (ArmV.x a) (63 : Nat), Ch.r (ArmV.y a) (63 : Nat), Ch.v (Value.bool (ArmV.half a)),
 Ch.r (ArmV.t a) (63 : Nat), Ch.s (16 : Nat) (List.map linkCh (ArmV.links a))] =
 [Ch.v (Value.string (ArmV.name a_1)), Ch.r (ArmV.x a_1) (63 : Nat), Ch.r (ArmV.y a_1) (63 : Nat),
 Ch.v (Value.bool (ArmV.half a_1)), Ch.r (ArmV.t a_1) (63 : Nat), Ch.s (16 : Nat) (List.map linkCh (ArmV.links a_1))] ∧
 lR b qs = lR b_1 qs_1 ∧
 (GoodArm a_1 ∧ b_1 ≤ (400 : Nat) ∧ List.length qs_1 = List.length (ArmV.links a_1)) ∧
 ∀ (fs : List FrV) (f : FrV),
 fs ++ [f] = framesV (baseV a_1) (ArmV.links a_1) qs_1 →
 List.length fs = List.length (ArmV.links a_1) →
 bif Int.ofNat (List.length (lR d vs)) != Int.ofNat (List.length (lR b qs)) then
 K
 (AV.t
 [(true,
 [Ch.v (Value.bool false), Ch.v (Value.string (ByteArray.mk (Array.mk []))),
 Ch.v (Value.string (ByteArray.mk (Array.mk []))), Ch.v (Value.bool false),
 Ch.v (Value.string (ByteArray.mk (Array.mk []))), Ch.v (Value.string (ByteArray.mk (Array.mk [])))]),
 (false, [Ch.v (Value.int IntKind.i64 (1 : Int))])])
 else
 ((-9223372036854775808 : Int) ≤ (0 : Int) ∧ (0 : Int) < (9223372036854775808 : Int)) ∧
 ((-9223372036854775808 : Int) ≤ (0 : Int) ∧ (0 : Int) < (9223372036854775808 : Int)) ∧
 (∃ (x : VlX),
 (VlI a qs vs x ∧ OfNat.ofNat (0 : Nat) = (0 : Nat)) ∧
 (3 : Nat) = (3 : Nat) ∧
 lR b qs = lR b qs ∧
 (3 : Nat) = (3 : Nat) ∧
 lR d vs = lR d vs ∧
 (0 : Nat) = (0 : Nat) ∧
 (6 : Nat) = (6 : Nat) ∧
 List.map (vecN (132800001 : Nat)) (colV f fs) = List.map (vecN (132800001 : Nat)) (VlX.cs x) ∧
 (0 : Nat) = (0 : Nat) ∧
 Int.ofNat (List.length (List.map (vecN (132800001 : Nat)) (colV f fs))) =
 Int.ofNat (List.length (ArmV.links a)) ∧
 (0 : Int) = Int.ofNat (VlX.i x) ∧
 (27 : Nat) = (27 : Nat) ∧
 false = false ∧
 ByteArray.mk (Array.mk []) = ByteArray.mk (Array.mk []) ∧
 ByteArray.mk (Array.mk []) = ByteArray.mk (Array.mk []) ∧
 false = false ∧
 ByteArray.mk (Array.mk []) = ByteArray.mk (Array.mk []) ∧
 ByteArray.mk (Array.mk []) = ByteArray.mk (Array.mk []) ∧
 (27 : Nat) = (27 : Nat) ∧
 (((0 : Int) : Int) : Rat) = VlX.x x ∧
 (64 : Nat) ≤ (64 : Nat) + (132805000 : Nat) * VlX.i x ∧
 (((0 : Int) : Int) : Rat) = VlX.y x ∧
 (64 : Nat) ≤ (64 : Nat) + (132805000 : Nat) * VlX.i x ∧ True) ∧
 ∀ (x : VlX),
 VlI a qs vs x →
 OfNat.ofNat (0 : Nat) = (0 : Nat) →
 bif decide (Int.ofNat (VlX.i x) < Int.ofNat (List.length (ArmV.links a))) then
 ((0 : Int) ≤ Int.ofNat (VlX.i x) ∧
 Int.ofNat (VlX.i x) < Int.ofNat (List.length (List.map (vecN (132800001 : Nat)) (VlX.cs x)))) ∧
 ∃ (q : Rat),
 ∃ (n : Nat),
 ∃ (q_1 : Rat),
 ∃ (n_1 : Nat),
 ldE (List.map (vecN (132800001 : Nat)) (VlX.cs x)) (Int.toNat (Int.ofNat (VlX.i x))) (0 : Nat)
 (6 : Nat) =
 some [Ch.r q n, Ch.r q_1 n_1] ∧
 ((0 : Int) ≤ Int.ofNat (VlX.i x) ∧ Int.ofNat (VlX.i x) < Int.ofNat (List.length (lR b qs))) ∧
 ∃ (q_2 : Rat),
 ∃ (n_2 : Nat),
 ldE (lR b qs) (Int.toNat (Int.ofNat (VlX.i x))) (0 : Nat) (3 : Nat) =
 some [Ch.r q_2 n_2] ∧
 ((0 : Int) ≤ Int.ofNat (VlX.i x) ∧
 Int.ofNat (VlX.i x) < Int.ofNat (List.length (lR d vs))) ∧
 ∃ (q_3 : Rat),
 ∃ (n_3 : Nat),
 ldE (lR d vs) (Int.toNat (Int.ofNat (VlX.i x))) (0 : Nat) (3 : Nat) =
 some [Ch.r q_3 n_3] ∧
 (2 : Nat) * n_2 + n_3 ≤ (4294967000 : Nat) ∧
 ∀ (n_4 : Nat),
 n_4 ≤ (2 : Nat) * n_2 + n_3 + (200 : Nat) →
 (n + n_4 ≤ (4294967296 : Nat) ∧ n_1 + n_4 ≤ (4294967296 : Nat)) ∧
 ((64 : Nat) + (132805000 : Nat) * VlX.i x + (n + n_4) ≤
 (4294967290 : Nat) ∧
 (64 : Nat) + (132805000 : Nat) * VlX.i x + (n_1 + n_4) ≤
 (4294967290 : Nat)) ∧
 ∃ (x' : VlX),
 (VlI a qs vs x' ∧
 OfNat.ofNat (0 : Nat) = (0 : Nat) ∧
 List.length (ArmV.links a) - VlX.i x' <
 List.length (ArmV.links a) - VlX.i x) ∧
 (3 : Nat) = (3 : Nat) ∧
 lR b qs = lR b qs ∧
 (3 : Nat) = (3 : Nat) ∧
 lR d vs = lR d vs ∧
 (0 : Nat) = (0 : Nat) ∧
 (6 : Nat) = (6 : Nat) ∧
 List.map (vecN (132800001 : Nat)) (VlX.cs x) =
 List.map (vecN (132800001 : Nat)) (VlX.cs x') ∧
 (0 : Nat) = (0 : Nat) ∧
 Int.ofNat (List.length (ArmV.links a)) =
 Int.ofNat (List.length (ArmV.links a)) ∧
 IntKind.wrap IntKind.i64
 (Int.ofNat (VlX.i x) + (1 : Int)) =
 Int.ofNat (VlX.i x') ∧
 (27 : Nat) = (27 : Nat) ∧
 false = false ∧
 ByteArray.mk (Array.mk []) =
 ByteArray.mk (Array.mk []) ∧
 ByteArray.mk (Array.mk []) =
 ByteArray.mk (Array.mk []) ∧
 false = false ∧
 ByteArray.mk (Array.mk []) =
 ByteArray.mk (Array.mk []) ∧
 ByteArray.mk (Array.mk []) =
 ByteArray.mk (Array.mk []) ∧
 (27 : Nat) = (27 : Nat) ∧
 VlX.x x +
 q * rateV q_2 q_3 =
 VlX.x x' ∧
 (64 : Nat) +
 (132805000 :
 Nat) *
 VlX.i x +
 (n + n_4) +
 (1 : Nat) ≤
 (64 : Nat) +
 (132805000 : Nat) *
 VlX.i x' ∧
 VlX.y x +
 q_1 *
 rateV q_2 q_3 =
 VlX.y x' ∧
 (64 : Nat) +
 (132805000 :
 Nat) *
 VlX.i x +
 (n_1 + n_4) +
 (1 : Nat) ≤
 (64 : Nat) +
 (132805000 :
 Nat) *
 VlX.i x' ∧
 True
 else
 K
 (AV.t
 [(true,
 [Ch.r (VlX.x x) ((64 : Nat) + (132805000 : Nat) * VlX.i x),
 Ch.r (VlX.y x) ((64 : Nat) + (132805000 : Nat) * VlX.i x)]),
 (false, [Ch.v (Value.int IntKind.i64 (0 : Int))])])) := by kernel_rfl
theorem g_sVel (a : ArmV) (b : Nat) (qs : List Rat) (d : Nat) (vs : List Rat) (hc : (GoodArm a) ∧ (b ≤ 400 ∧ qs.length = a.links.length) ∧ (d ≤ 1000 ∧ vs.length = a.links.length)) (K : AV → Prop) (hK : ∀ (fs : List FrV) (f : FrV), fs ++ [f] = framesV (baseV a) a.links qs → fs.length = a.links.length → ∀ n m, n ≤ 398415064 → m ≤ 398415064 → K (.t [(true, [.r (velV (colV f fs) qs vs 0 0).1 n, .r (velV (colV f fs) qs vs 0 0).2 m]), (false, [.v (.int .i64 0)])])) : Holds (goal_sVel a b qs d vs K) := by
  refine ⟨?_⟩
  rw [goal_sVel_vc]
  try simp only [Int.ofNat_eq_natCast, true_and, and_true, true_implies]
  obtain ⟨hg, ⟨hb, hq⟩, hd, hv⟩ := hc
  have hn := hg.n
  have hcl : ∀ (fs : List FrV) f, (colV f fs).length = fs.length := fun _ _ => by simp [colV]
  refine ⟨a, b, qs, rfl, rfl, ⟨hg, hb, hq⟩, fun fs f hf hl => ?_⟩
  simp only [lR_len, List.length_map, hcl]
  refine bif_mk (fun h => by simp [hq, hv] at h) (fun _ => ⟨by omega, by omega, ⟨⟨colV f fs, 0, 0, 0⟩, ⟨by rw [hcl, hl], ⟨fs, f, hf, hl, rfl⟩, rfl, by simp⟩, rfl, by omega, rfl, rfl, by simp, rfl, by simp⟩, fun x hx => bif_mk (fun hp => ?_) (fun hp => ?_)⟩)
  · have hp : x.i < a.links.length := by have := of_decide_eq_true hp; omega
    have hxl := hx.len
    obtain ⟨c, hcx⟩ : ∃ c, x.cs[x.i]? = some c := ⟨_, List.getElem?_eq_getElem (by omega)⟩
    obtain ⟨q, hqx⟩ : ∃ q, qs[x.i]? = some q := ⟨_, List.getElem?_eq_getElem (by omega)⟩
    obtain ⟨w, hwx⟩ : ∃ w, vs[x.i]? = some w := ⟨_, List.getElem?_eq_getElem (by omega)⟩
    have he := hx.eq
    rw [drop_get hcx, drop_get hqx, drop_get hwx, velV] at he
    exact ⟨by omega, _, _, _, _, vec_ld (by simpa using hcx), by omega, _, _, lR_ld (by simpa using hqx), by omega, _, _, lR_ld (by simpa using hwx), by omega, fun n hn' => ⟨by omega, by omega, ⟨x.cs, _, _, x.i + 1⟩, ⟨⟨hxl, hx.cs, he, hp⟩, by simp only; omega⟩, rfl, by rw [w64 (by omega)]; simp, rfl, by simp only; omega, rfl, by simp only; omega⟩⟩
  · have hp : x.i = a.links.length := by have := of_decide_eq_false hp; have := hx.le; omega
    obtain ⟨fs', f', h1, h2, h3⟩ := hx.cs
    have hxl := hx.len
    have he := hx.eq
    rw [List.drop_of_length_le (by omega : x.cs.length ≤ x.i), velV] at he
    have := hK fs' f' h1 h2 (64 + 132805000 * x.i) (64 + 132805000 * x.i) (by omega) (by omega)
    rw [← h3, ← he] at this
    exact this
    all_goals intros; contradiction
def c_sVel : Ctr := fun as0 => match as0 with
  | [.x true xs, .x false [.s 3 ys], .x false [.s 3 zs]] => some fun K => ∃ (a : ArmV) (b : Nat) (qs : List Rat) (d : Nat) (vs : List Rat), xs = armCh a ∧ ys = lR b qs ∧ zs = lR d vs ∧ ((GoodArm a) ∧ (b ≤ 400 ∧ qs.length = a.links.length) ∧ (d ≤ 1000 ∧ vs.length = a.links.length)) ∧ (∀ (fs : List FrV) (f : FrV), fs ++ [f] = framesV (baseV a) a.links qs → fs.length = a.links.length → ∀ n m, n ≤ 398415064 → m ≤ 398415064 → K (.t [(true, [.r (velV (colV f fs) qs vs 0 0).1 n, .r (velV (colV f fs) qs vs 0 0).2 m]), (false, [.v (.int .i64 0)])]))
  | _ => none
theorem ok_sVel : CtrOK Tryd.prog tabG debT 28 c_sVel := by
  refine ⟨enters Tryd.func28 (by kernel_rfl), fun l T hT K hK => ?_⟩
  unfold c_sVel at hT
  split at hT
  · cases hT
    obtain ⟨a, b, qs, d, vs, rfl, rfl, rfl, hc, hK⟩ := hK
    exact spec_ofL T115ok mixed Tryd.func28 (by kernel_rfl) (by kernel_rfl) (by rfl) (g_sVel _ _ _ _ _ hc K hK)
  · cases hT
def L116 : List (Nat × Ctr) := (28, c_sVel) :: L115
def T116 : Tabs := mkT L116 M79 X4
theorem L116ok : CtrsOK Tryd.prog tabG debT L116 := .cons ok_sVel L115ok
theorem T116ok : TabsOK Tryd.prog tabG debT T116 := mkTok L116ok M79ok X4ok
def ot_kMoves : OT := fun id => bif id.beq 2 then ([0, 1, 2, 3, 4, 5, 6, 7], [[], [0], [1, 0], [2, 1, 0], [2, 1, 0], [3, 2, 1, 0, 4], [2, 1, 0, 5, 3, 4], [6, 2, 1, 0, 5, 3, 4]]) else ([], [])
def goal_kMoves  (K : AV → Prop) : Prop := goalL T116 ot_kMoves noL Tryd.f25 [] K
theorem goal_kMoves_vc (K : AV → Prop) : goal_kMoves K = (
 ∃ (ns : List Int),
 [[Ch.v (Value.int IntKind.i64 (3 : Int))], [Ch.v (Value.int IntKind.i64 (2 : Int))]] = ints ns ∧
 (List.length ns ≤ (3 : Nat) ∧ ∀ (n : Int), n ∈ ns → (1 : Int) ≤ n ∧ n ≤ (1000 : Int)) ∧
 (((-9223372036854775808 : Int) < (0 : Int) ∧ (0 : Int) < (9223372036854775808 : Int)) ∧
 (0 : Int) < (1 : Int) ∧ (1 : Int) < (9223372036854775808 : Int)) ∧
 (((-9223372036854775808 : Int) < (0 : Int) ∧ (0 : Int) < (9223372036854775808 : Int)) ∧
 (0 : Int) < (1 : Int) ∧ (1 : Int) < (9223372036854775808 : Int)) ∧
 (((-9223372036854775808 : Int) < (1 : Int) ∧ (1 : Int) < (9223372036854775808 : Int)) ∧
 (0 : Int) < (1 : Int) ∧ (1 : Int) < (9223372036854775808 : Int)) ∧
 (((-9223372036854775808 : Int) < (0 : Int) ∧ (0 : Int) < (9223372036854775808 : Int)) ∧
 (0 : Int) < (1 : Int) ∧ (1 : Int) < (9223372036854775808 : Int)) ∧
 ∃ (a : ArmV),
 ∃ (b : Nat),
 ∃ (qs : List Rat),
 ∃ (d : Nat),
 ∃ (vs : List Rat),
 [Ch.v (Value.string (ArmV.name (sampleV ns))), Ch.r (ArmV.x (sampleV ns)) (63 : Nat),
 Ch.r (ArmV.y (sampleV ns)) (63 : Nat), Ch.v (Value.bool false), Ch.r (ArmV.t (sampleV ns)) (63 : Nat),
 Ch.s (16 : Nat) (List.map linkCh (ArmV.links (sampleV ns)))] =
 [Ch.v (Value.string (ArmV.name a)), Ch.r (ArmV.x a) (63 : Nat), Ch.r (ArmV.y a) (63 : Nat),
 Ch.v (Value.bool (ArmV.half a)), Ch.r (ArmV.t a) (63 : Nat),
 Ch.s (16 : Nat) (List.map linkCh (ArmV.links a))] ∧
 [[Ch.r (mkRat (0 : Int) (1 : Nat)) (63 : Nat)], [Ch.r (mkRat (0 : Int) (1 : Nat)) (63 : Nat)]] = lR b qs ∧
 [[Ch.r (mkRat (1 : Int) (1 : Nat)) (63 : Nat)], [Ch.r (mkRat (0 : Int) (1 : Nat)) (63 : Nat)]] = lR d vs ∧
 (GoodArm a ∧
 (b ≤ (400 : Nat) ∧ List.length qs = List.length (ArmV.links a)) ∧
 d ≤ (1000 : Nat) ∧ List.length vs = List.length (ArmV.links a)) ∧
 ∀ (fs : List FrV) (f : FrV),
 fs ++ [f] = framesV (baseV a) (ArmV.links a) qs →
 List.length fs = List.length (ArmV.links a) →
 ∀ (n m : Nat),
 n ≤ (398415064 : Nat) →
 m ≤ (398415064 : Nat) →
 (((-9223372036854775808 : Int) < (0 : Int) ∧ (0 : Int) < (9223372036854775808 : Int)) ∧
 (-9223372036854775808 : Int) < (10 : Int) ∧ (10 : Int) < (9223372036854775808 : Int)) ∧
 K
 (AV.x false
 [Ch.v
 (Value.bool
 (decide
 (Prod.fst (velV (colV f fs) qs vs (0 : Rat) (0 : Rat)) =
 Prod.fst (pt1 (0 : Int) (10 : Int))) &&
 (decide
 (Prod.snd (velV (colV f fs) qs vs (0 : Rat) (0 : Rat)) =
 Prod.snd (pt1 (0 : Int) (10 : Int))) &&
 true)))])) := by kernel_rfl
theorem g_kMoves  (_hc : True) (K : AV → Prop) (hK : K (.x false [.v (.bool true)])) : Holds (goal_kMoves  K) := by
  refine ⟨?_⟩
  rw [goal_kMoves_vc]
  try simp only [Int.ofNat_eq_natCast, true_and, and_true, Nat.zero_add, Nat.le_refl, true_implies, true_or, or_true]
  have key : velV (colV ((framesV (baseV (sampleV [3, 2])) (sampleV [3, 2]).links [mkRat 0 1, mkRat 0 1]).getD 2 ⟨0, 0, false, 0⟩) ((framesV (baseV (sampleV [3, 2])) (sampleV [3, 2]).links [mkRat 0 1, mkRat 0 1]).take 2)) [mkRat 0 1, mkRat 0 1] [mkRat 1 1, mkRat 0 1] 0 0 = pt1 0 10 := by decide +kernel
  refine ⟨[3, 2], rfl, ⟨by simp, by simp⟩, by omega, by omega, by omega, by omega, sampleV [3, 2], 63, [mkRat 0 1, mkRat 0 1], 63, [mkRat 1 1, mkRat 0 1], rfl, rfl, rfl, ⟨sample_good (by simp) (by simp), ⟨by omega, rfl⟩, by omega, rfl⟩, fun fs f hf hl n m _ _ => ⟨by omega, ?_⟩⟩
  obtain ⟨e1, e2⟩ := snoc_of hf (show fs.length = 2 from hl)
  rw [← e1, ← e2] at key
  rw [key]
  simpa using hK
def c_kMoves : Ctr := fun as0 => match as0 with
  | [] => some fun K => (True) ∧ (K (.x false [.v (.bool true)]))
  | _ => none
theorem ok_kMoves : CtrOK Tryd.prog tabG debT 25 c_kMoves := by
  refine ⟨enters Tryd.func25 (by kernel_rfl), fun l T hT K hK => ?_⟩
  unfold c_kMoves at hT
  split at hT
  · cases hT
    obtain ⟨hc, hK⟩ := hK
    exact spec_ofL T116ok mixed Tryd.func25 (by kernel_rfl) (by kernel_rfl) (by rfl) (g_kMoves  hc K hK)
  · cases hT
def L117 : List (Nat × Ctr) := (25, c_kMoves) :: L116
def T117 : Tabs := mkT L117 M79 X4
theorem L117ok : CtrsOK Tryd.prog tabG debT L117 := .cons ok_kMoves L116ok
theorem T117ok : TabsOK Tryd.prog tabG debT T117 := mkTok L117ok M79ok X4ok
-- the newest table: L117 M79 X4 T117
end Go.Proofs
