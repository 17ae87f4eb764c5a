/- Box, Boxes, within; ForeContains, ForeNarrow. -/
import Derived.Test.YtdbkndfkgdbhpaaGreatDoorPC
/- Box, Boxes, within; ForeContains, ForeNarrow. -/
namespace Go.Proofs
open Go Go.Eng
def bxL (n : Nat) (l : LoV) : List Ch := [.r l.x.lo n, .r l.y.lo n, .r l.x.hi n, .r l.y.hi n]
structure BxX where
  ls : List LoV
  l : LoV
  i : Nat
structure BxI (a : ArmV) (ts : List Sp) (x : BxX) : Prop where
  eq : x.ls ++ [x.l] = spreadV (loBase a) a.links ts
  len : x.ls.length = a.links.length
  le : x.i ≤ a.links.length + 1
def losR (a : ArmV) (ls : List LoV) (l : LoV) : List (List Ch) := ls.map (loN 240000) ++ [loN (lb a.links.length) l]
def inv_boxes (a : ArmV) (ts : List Sp) : LI := fun _ => .inv ⟨BxX, fun x => ⟨[(7, iA .i64 0), (8, .x false [.w 500 0 x.i]), (17, .x false [.s 24 (losR a x.ls x.l)]), (18, iA .i64 (a.links.length + 1 : Nat)), (19, iA .i64 x.i)],
  [(500, .row 69 12 (((x.ls ++ [x.l]).take x.i).map (bxL 240000)))]⟩, BxI a ts, fun x => a.links.length + 1 - x.i, fun _ => 0⟩
structure FcX where
  a : ArmV
  qs : List Rat
  ts : List Sp
  ls : List LoV
  l : LoV
  fs : List FrV
  f : FrV
  i : Nat
structure FcI (x : FcX) : Prop where
  good : GoodArm x.a
  e1 : x.ls ++ [x.l] = spreadV (loBase x.a) x.a.links x.ts
  l1 : x.ls.length = x.a.links.length
  e2 : x.fs ++ [x.f] = framesV (baseV x.a) x.a.links x.qs
  l2 : x.fs.length = x.a.links.length
  hq : HasQ x.ts x.qs
  le : x.i ≤ x.a.links.length + 1
def inv_fcon : LI := fun _ => .inv ⟨FcX, fun x => ⟨[(14, .x false [.s 10 (x.fs.map frCh ++ [frN (bnd x.a.links.length) x.f])]), (59, .x false [.s 24 (losR x.a x.ls x.l)]), (60, iA .i64 (x.a.links.length + 1 : Nat)), (61, iA .i64 x.i)], []⟩, FcI, fun x => x.a.links.length + 1 - x.i, fun _ => 0⟩
def inv_eqB (us vs : List LoV) : LI := fun _ => .inv ⟨Nat, fun i => ⟨[(1, .x false [.s 12 (vs.map (bxL 240000))]), (2, .x false [.v (.func (.func 30) #[] #[])]), (15, .x false [.s 12 (us.map (bxL 240000))]), (16, iA .i64 us.length), (17, iA .i64 i)], []⟩, fun i => i ≤ us.length, fun i => us.length - i, fun _ => 0⟩
theorem losR_len (a : ArmV) (ls : List LoV) (l : LoV) : (losR a ls l).length = ls.length + 1 := by simp [losR]
theorem los_ld {a : ArmV} {ls : List LoV} {l y : LoV} {i : Nat} (ha : a.links.length ≤ 3) (h : (ls ++ [l])[i]? = some y) : ∃ m, m ≤ 240000 ∧ ldE (losR a ls l) i 0 24 = some (loN m y) := by
  have key : ∃ m, m ≤ 240000 ∧ (losR a ls l)[i]? = some (loN m y) := by
    unfold losR
    by_cases hi : i < ls.length
    · rw [List.getElem?_append_left hi] at h
      exact ⟨240000, Nat.le_refl _, by rw [List.getElem?_append_left (by simpa using hi), List.getElem?_map, h]; rfl⟩
    · rw [List.getElem?_append_right (by omega)] at h
      have : i - ls.length = 0 := by
        have := (List.getElem?_eq_some_iff.1 h).1
        simp at this; omega
      rw [this] at h
      cases h
      exact ⟨lb a.links.length, lb_le3 ha, by rw [List.getElem?_append_right (by simp; omega), List.length_map, this]; rfl⟩
  obtain ⟨m, hm, hk⟩ := key
  exact ⟨m, hm, by simp only [ldE, hk]; rfl⟩
theorem fr_full {fs : List FrV} {f g : FrV} {m i : Nat} (hm : m ≤ 120000000) (h : (fs ++ [f])[i]? = some g) : ∃ n, n ≤ 120000000 ∧ ldE (fs.map frCh ++ [frN m f]) i 0 10 = some (frN n g) := by
  obtain ⟨n, hn, h⟩ := frs_ld hm h
  exact ⟨n, hn, by simp only [ldE, h]; rfl⟩
theorem bx_ld {n : Nat} {us : List LoV} {i : Nat} {u : LoV} (h : us[i]? = some u) : ldE (us.map (bxL n)) i 0 12 = some (bxL n u) := by
  simp only [ldE, List.getElem?_map, h]; rfl
theorem bx_snoc {m N : Nat} (ls : List LoV) (l : LoV) (h : m ≤ N) : RowLE (ls.map (bxL N) ++ [bxL m l]) ((ls ++ [l]).map (bxL N)) := by
  rw [List.map_append]
  refine row_snoc ?_ ⟨.r h (.r h (.r h (.r h .nil))), rfl⟩
  refine ⟨rfl, fun i x y hx hy => ?_⟩
  rw [hx] at hy
  cases hy
  simp only [List.getElem?_map, Option.map_eq_some_iff] at hx
  obtain ⟨q, _, rfl⟩ := hx
  have r := Nat.le_refl N
  exact ⟨.r r (.r r (.r r (.r r .nil))), rfl⟩
theorem spans_hasL {ps qs : List Rat} (h : ps.length = qs.length) : HasQ (spansV ps qs) ps := by
  refine ⟨spans_len h, fun i t p ht hp => ?_⟩
  have hi := (List.getElem?_eq_some_iff.1 hp).1
  obtain ⟨q, hq⟩ : ∃ q, qs[i]? = some q := ⟨_, List.getElem?_eq_getElem (by omega)⟩
  rw [spans_get hp hq] at ht
  cases ht
  exact ⟨minR_le_l _ _, le_maxR_l _ _⟩
theorem spans_sub {ts : List Sp} {vs ws : List Rat} (h1 : HasQ ts vs) (h2 : HasQ ts ws) (i : Nat) (t t' : Sp) (ht : (spansV vs ws)[i]? = some t) (ht' : ts[i]? = some t') : t.sub t' := by
  have hi := (List.getElem?_eq_some_iff.1 ht').1
  have l1 := h1.1
  have l2 := h2.1
  obtain ⟨v, hv⟩ : ∃ v, vs[i]? = some v := ⟨_, List.getElem?_eq_getElem (by omega)⟩
  obtain ⟨w, hw⟩ : ∃ w, ws[i]? = some w := ⟨_, List.getElem?_eq_getElem (by omega)⟩
  rw [spans_get hv hw] at ht
  cases ht
  have a := h1.2 i t' v ht' hv
  have b := h2.2 i t' w ht' hw
  exact ⟨le_minR a.1 b.1, maxR_le a.2 b.2⟩
theorem lo_refl (l : LoV) : l.sub l := ⟨⟨Rat.le_refl, Rat.le_refl⟩, ⟨Rat.le_refl, Rat.le_refl⟩, ⟨Rat.le_refl, Rat.le_refl⟩, ⟨Rat.le_refl, Rat.le_refl⟩⟩
def ot_fBox : OT := fun _ => ([], [])
def goal_fBox (l : LoV) (n : Nat) (K : AV → Prop) : Prop := goalL T152 ot_fBox noL Tryz.f80 [.x true (loN n l)] K
theorem goal_fBox_vc (l : LoV) (n : Nat) (K : AV → Prop) : goal_fBox l n K = (
 K (AV.x true [Ch.r (Sp.lo (LoV.x l)) n, Ch.r (Sp.lo (LoV.y l)) n, Ch.r (Sp.hi (LoV.x l)) n, Ch.r (Sp.hi (LoV.y l)) n])) := by kernel_rfl
theorem g_fBox (l : LoV) (n : Nat) (hc : True) (K : AV → Prop) (hK : K (.x true (bxL n l))) : Holds (goal_fBox l n K) := by
  refine ⟨?_⟩
  rw [goal_fBox_vc]
  try simp only [Int.ofNat_eq_natCast, true_and, and_true, Nat.zero_add, Nat.le_refl, true_implies, true_or, or_true]
  exact hK
def c_fBox : Ctr := fun as0 => match as0 with
  | [.x true xs] => some fun K => ∃ (l : LoV) (n : Nat), xs = loN n l ∧ (True) ∧ (K (.x true (bxL n l)))
  | _ => none
theorem ok_fBox : CtrOK Tryz.prog tabG debT 80 c_fBox := by
  refine ⟨enters Tryz.func80 (by kernel_rfl), fun l T hT K hK => ?_⟩
  unfold c_fBox at hT
  split at hT
  · cases hT
    obtain ⟨l, n, rfl, hc, hK⟩ := hK
    exact spec_ofL T152ok mixed Tryz.func80 (by kernel_rfl) (by kernel_rfl) (by rfl) (g_fBox _ _ hc K hK)
  · cases hT
def L153 : List (Nat × Ctr) := (80, c_fBox) :: L152
def T153 : Tabs := mkT L153 M79 X4
theorem L153ok : CtrsOK Tryz.prog tabG debT L153 := .cons ok_fBox L152ok
theorem T153ok : TabsOK Tryz.prog tabG debT T153 := mkTok L153ok M79ok X4ok
def ot_fBoxes : OT := fun _ => ([], [])
def goal_fBoxes (a : ArmV) (B : Nat) (ts : List Sp) (qs : List Rat) (K : AV → Prop) : Prop := goalL T153 ot_fBoxes (inv_boxes a ts) Tryz.f28 [armA a, .x false [.s 6 (ts.map (spN B))]] K
theorem goal_fBoxes_vc (a : ArmV) (B : Nat) (ts : List Sp) (qs : List Rat) (K : AV → Prop) : goal_fBoxes a B ts qs K = (
 ∃ (a_1 : ArmV),
 ∃ (B_1 : Nat),
 ∃ (ts_1 : List Sp),
 ∃ (qs : List Rat),
 [Ch.v (Value.string (ArmV.name a)), Ch.r (ArmV.x a) (63 : Nat), Ch.r (ArmV.y a) (63 : Nat), Ch.v (Value.bool (ArmV.half a)),
 Ch.r (ArmV.t a) (63 : Nat), Ch.s (16 : Nat) (List.map linkCh (ArmV.links a))] =
 [Ch.v (Value.string (ArmV.name a_1)), Ch.r (ArmV.x a_1) (63 : Nat), Ch.r (ArmV.y a_1) (63 : Nat),
 Ch.v (Value.bool (ArmV.half a_1)), Ch.r (ArmV.t a_1) (63 : Nat), Ch.s (16 : Nat) (List.map linkCh (ArmV.links a_1))] ∧
 List.map (spN B) ts = List.map (spN B_1) ts_1 ∧
 (GoodArm a_1 ∧
 (B_1 ≤ (400 : Nat) ∧ List.length ts_1 = List.length (ArmV.links a_1)) ∧
 List.length ts_1 = List.length qs ∧
 ∀ (i : Nat) (t : Sp) (q : Rat), ts_1[i]? = some t → qs[i]? = some q → Sp.lo t ≤ q ∧ q ≤ Sp.hi t) ∧
 ∀ (ls : List LoV) (l : LoV),
 ls ++ [l] = spreadV (loBase a_1) (ArmV.links a_1) ts_1 →
 List.length ls = List.length (ArmV.links a_1) →
 (∃ (x : BxX),
 (BxI a ts x ∧ OfNat.ofNat (0 : Nat) = (0 : Nat)) ∧
 (0 : Int) = (0 : Int) ∧
 Value.slice none (0 : Nat) (0 : Nat) = Value.slice none (0 : Nat) (0 : Nat) ∧
 (0 : Nat) = (0 : Nat) ∧
 BxX.i x = (0 : Nat) ∧
 (24 : Nat) = (24 : Nat) ∧
 List.map (loN (240000 : Nat)) ls ++
 [[Ch.r (Sp.lo (LoV.x l)) (lb (List.length (ArmV.links a_1))),
 Ch.r (Sp.hi (LoV.x l)) (lb (List.length (ArmV.links a_1))),
 Ch.r (Sp.lo (LoV.y l)) (lb (List.length (ArmV.links a_1))),
 Ch.r (Sp.hi (LoV.y l)) (lb (List.length (ArmV.links a_1))),
 Ch.r (Sp.lo (LoV.c l)) (lb (List.length (ArmV.links a_1))),
 Ch.r (Sp.hi (LoV.c l)) (lb (List.length (ArmV.links a_1))),
 Ch.r (Sp.lo (LoV.s l)) (lb (List.length (ArmV.links a_1))),
 Ch.r (Sp.hi (LoV.s l)) (lb (List.length (ArmV.links a_1)))]] =
 losR a (BxX.ls x) (BxX.l x) ∧
 Int.ofNat
 (List.length
 (List.map (loN (240000 : Nat)) ls ++
 [[Ch.r (Sp.lo (LoV.x l)) (lb (List.length (ArmV.links a_1))),
 Ch.r (Sp.hi (LoV.x l)) (lb (List.length (ArmV.links a_1))),
 Ch.r (Sp.lo (LoV.y l)) (lb (List.length (ArmV.links a_1))),
 Ch.r (Sp.hi (LoV.y l)) (lb (List.length (ArmV.links a_1))),
 Ch.r (Sp.lo (LoV.c l)) (lb (List.length (ArmV.links a_1))),
 Ch.r (Sp.hi (LoV.c l)) (lb (List.length (ArmV.links a_1))),
 Ch.r (Sp.lo (LoV.s l)) (lb (List.length (ArmV.links a_1))),
 Ch.r (Sp.hi (LoV.s l)) (lb (List.length (ArmV.links a_1)))]])) =
 Int.ofNat (List.length (ArmV.links a) + (1 : Nat)) ∧
 (0 : Int) = Int.ofNat (BxX.i x) ∧
 List.map (bxL (240000 : Nat)) (List.take (BxX.i x) (BxX.ls x ++ [BxX.l x])) = [] ∧ True) ∧
 ∀ (x : BxX),
 BxI a ts x →
 OfNat.ofNat (0 : Nat) = (0 : Nat) →
 bif decide (Int.ofNat (BxX.i x) < Int.ofNat (List.length (ArmV.links a) + (1 : Nat))) then
 ((0 : Int) ≤ Int.ofNat (BxX.i x) ∧
 Int.ofNat (BxX.i x) < Int.ofNat (List.length (losR a (BxX.ls x) (BxX.l x)))) ∧
 ∃ (q : Rat),
 ∃ (n : Nat),
 ∃ (q_1 : Rat),
 ∃ (n_1 : Nat),
 ∃ (q_2 : Rat),
 ∃ (n_2 : Nat),
 ∃ (q_3 : Rat),
 ∃ (n_3 : Nat),
 ∃ (q_4 : Rat),
 ∃ (n_4 : Nat),
 ∃ (q_5 : Rat),
 ∃ (n_5 : Nat),
 ∃ (q_6 : Rat),
 ∃ (n_6 : Nat),
 ∃ (q_7 : Rat),
 ∃ (n_7 : Nat),
 ldE (losR a (BxX.ls x) (BxX.l x)) (Int.toNat (Int.ofNat (BxX.i x)))
 (0 : Nat) (24 : Nat) =
 some
 [Ch.r q n, Ch.r q_1 n_1, Ch.r q_2 n_2, Ch.r q_3 n_3, Ch.r q_4 n_4,
 Ch.r q_5 n_5, Ch.r q_6 n_6, Ch.r q_7 n_7] ∧
 ∃ (l : LoV),
 ∃ (n_8 : Nat),
 [Ch.r q n, Ch.r q_1 n_1, Ch.r q_2 n_2, Ch.r q_3 n_3, Ch.r q_4 n_4,
 Ch.r q_5 n_5, Ch.r q_6 n_6, Ch.r q_7 n_7] =
 [Ch.r (Sp.lo (LoV.x l)) n_8, Ch.r (Sp.hi (LoV.x l)) n_8,
 Ch.r (Sp.lo (LoV.y l)) n_8, Ch.r (Sp.hi (LoV.y l)) n_8,
 Ch.r (Sp.lo (LoV.c l)) n_8, Ch.r (Sp.hi (LoV.c l)) n_8,
 Ch.r (Sp.lo (LoV.s l)) n_8, Ch.r (Sp.hi (LoV.s l)) n_8] ∧
 True ∧
 ((BxX.i x + (1 : Nat)) * (160 : Nat) ≤ (140737488355328 : Nat) ∧
 BxX.i x + (1 : Nat) ≤ (9223372036854775807 : Nat)) ∧
 ∃ (x' : BxX),
 (BxI a ts x' ∧
 OfNat.ofNat (0 : Nat) = (0 : Nat) ∧
 List.length (ArmV.links a) + (1 : Nat) - BxX.i x' <
 List.length (ArmV.links a) + (1 : Nat) - BxX.i x) ∧
 (0 : Int) = (0 : Int) ∧
 (0 : Nat) = (0 : Nat) ∧
 BxX.i x + (1 : Nat) = BxX.i x' ∧
 (24 : Nat) = (24 : Nat) ∧
 losR a (BxX.ls x) (BxX.l x) =
 losR a (BxX.ls x') (BxX.l x') ∧
 Int.ofNat
 (List.length (ArmV.links a) + (1 : Nat)) =
 Int.ofNat
 (List.length (ArmV.links a) + (1 : Nat)) ∧
 IntKind.wrap IntKind.i64
 (Int.ofNat (BxX.i x) + (1 : Int)) =
 Int.ofNat (BxX.i x') ∧
 (69 : Nat) = (69 : Nat) ∧
 (12 : Nat) = (12 : Nat) ∧
 (List.take (BxX.i x)
 (List.map (bxL (240000 : Nat))
 (List.take (BxX.i x)
 (BxX.ls x ++ [BxX.l x]))) ++
 [[Ch.r (Sp.lo (LoV.x l)) n_8,
 Ch.r (Sp.lo (LoV.y l)) n_8,
 Ch.r (Sp.hi (LoV.x l)) n_8,
 Ch.r (Sp.hi (LoV.y l)) n_8]] =
 List.map (bxL (240000 : Nat))
 (List.take (BxX.i x')
 (BxX.ls x' ++ [BxX.l x'])) ∨
 RowLE
 (List.take (BxX.i x)
 (List.map (bxL (240000 : Nat))
 (List.take (BxX.i x)
 (BxX.ls x ++ [BxX.l x]))) ++
 [[Ch.r (Sp.lo (LoV.x l)) n_8,
 Ch.r (Sp.lo (LoV.y l)) n_8,
 Ch.r (Sp.hi (LoV.x l)) n_8,
 Ch.r (Sp.hi (LoV.y l)) n_8]])
 (List.map (bxL (240000 : Nat))
 (List.take (BxX.i x')
 (BxX.ls x' ++ [BxX.l x'])))) ∧
 True
 else
 K
 (AV.t
 [(false,
 [Ch.s (12 : Nat)
 (List.take (BxX.i x)
 (List.drop (0 : Nat)
 (List.map (bxL (240000 : Nat)) (List.take (BxX.i x) (BxX.ls x ++ [BxX.l x])))))]),
 (false, [Ch.v (Value.int IntKind.i64 (0 : Int))])])) := by kernel_rfl
theorem g_fBoxes (a : ArmV) (B : Nat) (ts : List Sp) (qs : List Rat) (hc : (GoodArm a) ∧ (B ≤ 400 ∧ ts.length = a.links.length) ∧ (HasQ ts qs)) (K : AV → Prop) (hK : K (.t [(false, [.s 12 ((spreadV (loBase a) a.links ts).map (bxL 240000))]), (false, [.v (.int .i64 0)])])) : Holds (goal_fBoxes a B ts qs K) := by
  refine ⟨?_⟩
  rw [goal_fBoxes_vc]
  try simp only [Int.ofNat_eq_natCast, true_and, and_true, Nat.zero_add, Nat.le_refl, true_implies, true_or, or_true]
  obtain ⟨hg, ⟨hB, hts⟩, hq⟩ := hc
  have hn := hg.n
  refine ⟨a, B, ts, qs, rfl, rfl, ⟨hg, ⟨hB, hts⟩, hq⟩, fun ls l he hl => ⟨⟨⟨ls, l, 0⟩, ⟨he, hl, by simp⟩, rfl, rfl, by simp [hl], rfl, rfl⟩, fun x hx => bif_mk (fun hp => ?_) (fun hp => ?_)⟩⟩
  · have hp : x.i < a.links.length + 1 := by have := of_decide_eq_true hp; omega
    have hxl := hx.len
    obtain ⟨y, hy⟩ : ∃ y, (x.ls ++ [x.l])[x.i]? = some y := ⟨_, List.getElem?_eq_getElem (by simp; omega)⟩
    obtain ⟨m, hm, ld⟩ := los_ld hn.2 hy
    refine ⟨by rw [losR_len]; omega, _, _, _, _, _, _, _, _, _, _, _, _, _, _, _, _, by rw [Int.toNat_natCast]; exact ld, y, m, rfl, by omega, ⟨x.ls, x.l, x.i + 1⟩, ⟨⟨hx.eq, hx.len, hp⟩, by simp only; omega⟩, rfl, rfl, by rw [w64 (by omega)]; simp, .inr ?_⟩
    rw [List.take_of_length_le (by rw [List.length_map, List.length_take]; omega), List.take_add_one, hy]
    exact bx_snoc _ y hm
  · have hp : x.i = a.links.length + 1 := by have := of_decide_eq_false hp; have := hx.le; omega
    have hxl := hx.len
    rw [List.drop_zero, List.take_of_length_le (by rw [List.length_map, List.length_take]; omega), List.take_of_length_le (by simp; omega), hx.eq]
    exact hK
def c_fBoxes : Ctr := fun as0 => match as0 with
  | [.x true xs, .x false [.s 6 ys]] => some fun K => ∃ (a : ArmV) (B : Nat) (ts : List Sp) (qs : List Rat), xs = armCh a ∧ ys = ts.map (spN B) ∧ ((GoodArm a) ∧ (B ≤ 400 ∧ ts.length = a.links.length) ∧ (HasQ ts qs)) ∧ (K (.t [(false, [.s 12 ((spreadV (loBase a) a.links ts).map (bxL 240000))]), (false, [.v (.int .i64 0)])]))
  | _ => none
theorem ok_fBoxes : CtrOK Tryz.prog tabG debT 28 c_fBoxes := by
  refine ⟨enters Tryz.func28 (by kernel_rfl), fun l T hT K hK => ?_⟩
  unfold c_fBoxes at hT
  split at hT
  · cases hT
    obtain ⟨a, B, ts, qs, rfl, rfl, hc, hK⟩ := hK
    exact spec_ofL T153ok mixed Tryz.func28 (by kernel_rfl) (by kernel_rfl) (by rfl) (g_fBoxes _ _ _ _ hc K hK)
  · cases hT
def L154 : List (Nat × Ctr) := (28, c_fBoxes) :: L153
def T154 : Tabs := mkT L154 M79 X4
theorem L154ok : CtrsOK Tryz.prog tabG debT L154 := .cons ok_fBoxes L153ok
theorem T154ok : TabsOK Tryz.prog tabG debT T154 := mkTok L154ok M79ok X4ok
def ot_kWithin : OT := fun _ => ([], [])
def goal_kWithin (l : Rat) (a : Nat) (m : Rat) (b : Nat) (h : Rat) (c : Nat) (k : Rat) (d : Nat) (l' : Rat) (a' : Nat) (m' : Rat) (b' : Nat) (h' : Rat) (c' : Nat) (k' : Rat) (d' : Nat) (K : AV → Prop) : Prop := goalL T154 ot_kWithin noL Tryz.f30 [.x true [.r l a, .r m b, .r h c, .r k d], .x true [.r l' a', .r m' b', .r h' c', .r k' d']] K
theorem goal_kWithin_vc (l : Rat) (a : Nat) (m : Rat) (b : Nat) (h : Rat) (c : Nat) (k : Rat) (d : Nat) (l' : Rat) (a' : Nat) (m' : Rat) (b' : Nat) (h' : Rat) (c' : Nat) (k' : Rat) (d' : Nat) (K : AV → Prop) : goal_kWithin l a m b h c k d l' a' m' b' h' c' k' d' K = (
 a + a' ≤ (4294967296 : Nat) ∧
 bif decide (cmpR l l' ≤ (0 : Int)) then
 b + b' ≤ (4294967296 : Nat) ∧
 bif decide (cmpR m m' ≤ (0 : Int)) then
 c' + c ≤ (4294967296 : Nat) ∧
 bif decide (cmpR h' h ≤ (0 : Int)) then
 d' + d ≤ (4294967296 : Nat) ∧ K (AV.x false [Ch.v (Value.bool (decide (cmpR k' k ≤ (0 : Int))))])
 else K (AV.x false [Ch.v (Value.bool false)])
 else K (AV.x false [Ch.v (Value.bool false)])
 else K (AV.x false [Ch.v (Value.bool false)])) := by kernel_rfl
theorem g_kWithin (l : Rat) (a : Nat) (m : Rat) (b : Nat) (h : Rat) (c : Nat) (k : Rat) (d : Nat) (l' : Rat) (a' : Nat) (m' : Rat) (b' : Nat) (h' : Rat) (c' : Nat) (k' : Rat) (d' : Nat) (hc : (a + a' ≤ 4294967296 ∧ b + b' ≤ 4294967296 ∧ c + c' ≤ 4294967296 ∧ d + d' ≤ 4294967296) ∧ ((l ≤ l' ∧ m ≤ m') ∧ h' ≤ h ∧ k' ≤ k)) (K : AV → Prop) (hK : K (.x false [.v (.bool true)])) : Holds (goal_kWithin l a m b h c k d l' a' m' b' h' c' k' d' K) := by
  refine ⟨?_⟩
  rw [goal_kWithin_vc]
  try simp only [Int.ofNat_eq_natCast, true_and, and_true, Nat.zero_add, Nat.le_refl, true_implies, true_or, or_true]
  obtain ⟨⟨b1, b2, b3, b4⟩, ⟨h1, h2⟩, h3, h4⟩ := hc
  refine ⟨by omega, bif_mk (fun _ => ⟨by omega, bif_mk (fun _ => ⟨by omega, bif_mk (fun _ => ⟨by omega, ?_⟩) (fun h => absurd ((cmp_le _ _).2 h3) (of_decide_eq_false h))⟩) (fun h => absurd ((cmp_le _ _).2 h2) (of_decide_eq_false h))⟩) (fun h => absurd ((cmp_le _ _).2 h1) (of_decide_eq_false h))⟩
  rw [decide_eq_true ((cmp_le _ _).2 h4)]
  exact hK
def c_kWithin : Ctr := fun as0 => match as0 with
  | [.x true [.r l a, .r m b, .r h c, .r k d], .x true [.r l' a', .r m' b', .r h' c', .r k' d']] => some fun K => ((a + a' ≤ 4294967296 ∧ b + b' ≤ 4294967296 ∧ c + c' ≤ 4294967296 ∧ d + d' ≤ 4294967296) ∧ ((l ≤ l' ∧ m ≤ m') ∧ h' ≤ h ∧ k' ≤ k)) ∧ (K (.x false [.v (.bool true)]))
  | _ => none
theorem ok_kWithin : CtrOK Tryz.prog tabG debT 30 c_kWithin := by
  refine ⟨enters Tryz.func30 (by kernel_rfl), fun l T hT K hK => ?_⟩
  unfold c_kWithin at hT
  split at hT
  · cases hT
    obtain ⟨hc, hK⟩ := hK
    exact spec_ofL T154ok mixed Tryz.func30 (by kernel_rfl) (by kernel_rfl) (by rfl) (g_kWithin _ _ _ _ _ _ _ _ _ _ _ _ _ _ _ _ hc K hK)
  · cases hT
def L155 : List (Nat × Ctr) := (30, c_kWithin) :: L154
def T155 : Tabs := mkT L155 M79 X4
theorem L155ok : CtrsOK Tryz.prog tabG debT L155 := .cons ok_kWithin L154ok
theorem T155ok : TabsOK Tryz.prog tabG debT T155 := mkTok L155ok M79ok X4ok
def ot_eqfB : OT := fun _ => ([], [])
def goal_eqfB (us : List LoV) (vs : List LoV) (K : AV → Prop) : Prop := goalL T155 ot_eqfB (inv_eqB us vs) Tryz.f29 [.x false [.s 12 (us.map (bxL 240000))], .x false [.s 12 (vs.map (bxL 240000))], .x false [.v (.func (.func 30) #[] #[])]] K
theorem goal_eqfB_vc (us : List LoV) (vs : List LoV) (K : AV → Prop) : goal_eqfB us vs K = (
 bif Int.ofNat (List.length (List.map (bxL (240000 : Nat)) us)) != Int.ofNat (List.length (List.map (bxL (240000 : Nat)) vs)) then
 K (AV.x false [Ch.v (Value.bool false)])
 else
 (∃ (x : Nat),
 (x ≤ List.length us ∧ OfNat.ofNat (0 : Nat) = (0 : Nat)) ∧
 (12 : Nat) = (12 : Nat) ∧
 List.map (bxL (240000 : Nat)) vs = List.map (bxL (240000 : Nat)) vs ∧
 Value.func (Fn.func (30 : Nat)) (Array.mk []) (Array.mk []) = Value.func (Fn.func (30 : Nat)) (Array.mk []) (Array.mk []) ∧
 (12 : Nat) = (12 : Nat) ∧
 List.map (bxL (240000 : Nat)) us = List.map (bxL (240000 : Nat)) us ∧
 Int.ofNat (List.length (List.map (bxL (240000 : Nat)) us)) = Int.ofNat (List.length us) ∧
 (0 : Int) = Int.ofNat x ∧ True) ∧
 ∀ (x : Nat),
 x ≤ List.length us →
 OfNat.ofNat (0 : Nat) = (0 : Nat) →
 bif decide (Int.ofNat x < Int.ofNat (List.length us)) then
 ((0 : Int) ≤ Int.ofNat x ∧ Int.ofNat x < Int.ofNat (List.length (List.map (bxL (240000 : Nat)) us))) ∧
 ∃ (q : Rat),
 ∃ (n : Nat),
 ∃ (q_1 : Rat),
 ∃ (n_1 : Nat),
 ∃ (q_2 : Rat),
 ∃ (n_2 : Nat),
 ∃ (q_3 : Rat),
 ∃ (n_3 : Nat),
 ldE (List.map (bxL (240000 : Nat)) us) (Int.toNat (Int.ofNat x)) (0 : Nat) (12 : Nat) =
 some [Ch.r q n, Ch.r q_1 n_1, Ch.r q_2 n_2, Ch.r q_3 n_3] ∧
 ((0 : Int) ≤ Int.ofNat x ∧ Int.ofNat x < Int.ofNat (List.length (List.map (bxL (240000 : Nat)) vs))) ∧
 ∃ (q_4 : Rat),
 ∃ (n_4 : Nat),
 ∃ (q_5 : Rat),
 ∃ (n_5 : Nat),
 ∃ (q_6 : Rat),
 ∃ (n_6 : Nat),
 ∃ (q_7 : Rat),
 ∃ (n_7 : Nat),
 ldE (List.map (bxL (240000 : Nat)) vs) (Int.toNat (Int.ofNat x)) (0 : Nat) (12 : Nat) =
 some [Ch.r q_4 n_4, Ch.r q_5 n_5, Ch.r q_6 n_6, Ch.r q_7 n_7] ∧
 ((n + n_4 ≤ (4294967296 : Nat) ∧
 n_1 + n_5 ≤ (4294967296 : Nat) ∧
 n_2 + n_6 ≤ (4294967296 : Nat) ∧ n_3 + n_7 ≤ (4294967296 : Nat)) ∧
 (q ≤ q_4 ∧ q_1 ≤ q_5) ∧ q_6 ≤ q_2 ∧ q_7 ≤ q_3) ∧
 ∃ (x' : Nat),
 (x' ≤ List.length us ∧
 OfNat.ofNat (0 : Nat) = (0 : Nat) ∧ List.length us - x' < List.length us - x) ∧
 (12 : Nat) = (12 : Nat) ∧
 List.map (bxL (240000 : Nat)) vs = List.map (bxL (240000 : Nat)) vs ∧
 Value.func (Fn.func (30 : Nat)) (Array.mk []) (Array.mk []) =
 Value.func (Fn.func (30 : Nat)) (Array.mk []) (Array.mk []) ∧
 (12 : Nat) = (12 : Nat) ∧
 List.map (bxL (240000 : Nat)) us = List.map (bxL (240000 : Nat)) us ∧
 Int.ofNat (List.length us) = Int.ofNat (List.length us) ∧
 IntKind.wrap IntKind.i64 (Int.ofNat x + (1 : Int)) = Int.ofNat x' ∧
 True
 else K (AV.x false [Ch.v (Value.bool true)])) := by kernel_rfl
theorem g_eqfB (us : List LoV) (vs : List LoV) (hc : (us.length = vs.length ∧ us.length ≤ 1000) ∧ (∀ (i : Nat) u v, us[i]? = some u → vs[i]? = some v → v.sub u)) (K : AV → Prop) (hK : K (.x false [.v (.bool true)])) : Holds (goal_eqfB us vs K) := by
  refine ⟨?_⟩
  rw [goal_eqfB_vc]
  try simp only [Int.ofNat_eq_natCast, true_and, and_true, Nat.zero_add, Nat.le_refl, true_implies, true_or, or_true]
  obtain ⟨⟨hl, hl2⟩, hs⟩ := hc
  simp only [List.length_map]
  refine bif_mk (fun h => by simp [hl] at h) (fun _ => ⟨⟨0, by omega, trivial, rfl⟩, fun x hx => bif_mk (fun hp => ?_) (fun _ => hK)⟩)
  have hp : x < us.length := by have := of_decide_eq_true hp; omega
  obtain ⟨u, hu⟩ : ∃ u, us[x]? = some u := ⟨_, List.getElem?_eq_getElem hp⟩
  obtain ⟨v, hv⟩ : ∃ v, vs[x]? = some v := ⟨_, List.getElem?_eq_getElem (by omega)⟩
  have h := hs x u v hu hv
  exact ⟨by omega, _, _, _, _, _, _, _, _, bx_ld (by simpa using hu), by omega, _, _, _, _, _, _, _, _, bx_ld (by simpa using hv), ⟨⟨by omega, by omega, by omega, by omega⟩, ⟨h.x.1, h.y.1⟩, h.x.2, h.y.2⟩, x + 1, ⟨by omega, by omega⟩, by rw [w64 (by omega)]; simp⟩
def c_eqfB : Ctr := fun as0 => match as0 with
  | [.x false [.s 12 xs], .x false [.s 12 ys], .x false [.v (.func (.func fid) ⟨[]⟩ ⟨[]⟩)]] => some fun K => ∃ (us : List LoV) (vs : List LoV), xs = us.map (bxL 240000) ∧ ys = vs.map (bxL 240000) ∧ fid = 30 ∧ ((us.length = vs.length ∧ us.length ≤ 1000) ∧ (∀ (i : Nat) u v, us[i]? = some u → vs[i]? = some v → v.sub u)) ∧ (K (.x false [.v (.bool true)]))
  | _ => none
theorem ok_eqfB : CtrOK Tryz.prog tabG debT 29 c_eqfB := by
  refine ⟨enters Tryz.func29 (by kernel_rfl), fun l T hT K hK => ?_⟩
  unfold c_eqfB at hT
  split at hT
  · cases hT
    obtain ⟨us, vs, rfl, rfl, rfl, hc, hK⟩ := hK
    exact spec_ofL T155ok mixed Tryz.func29 (by kernel_rfl) (by kernel_rfl) (by rfl) (g_eqfB _ _ hc K hK)
  · cases hT
def L156 : List (Nat × Ctr) := (29, c_eqfB) :: L155
def T156 : Tabs := mkT L156 M79 X4
theorem L156ok : CtrsOK Tryz.prog tabG debT L156 := .cons ok_eqfB L155ok
theorem T156ok : TabsOK Tryz.prog tabG debT T156 := mkTok L156ok M79ok X4ok
-- the newest table: L156 M79 X4 T156
def ot_fcon : OT := fun id => bif id.beq 4 then ([0, 1, 3, 4, 2, 5, 6, 7], [[], [], [0, 1], [], [], [3, 4, 2, 0, 1], [2, 0, 1, 5, 3, 4], [5, 3, 4, 2, 0, 1, 6]]) else bif id.beq 5 then ([0, 1, 2, 3, 4, 5, 6, 7, 8, 9], [[], [], [], [1, 2], [0, 3, 1, 2], [4, 0, 3, 1, 2], [5, 4, 0, 3, 1, 2], [5, 4, 0, 3, 1, 2], [6, 5, 4, 0, 3, 1, 2], [7, 5, 4, 0, 3, 1, 2, 8, 6]]) else bif id.beq 6 then ([0, 1, 2, 3, 4, 5, 6, 7, 8, 9, 10], [[], [], [], [], [1, 2, 3], [0, 4, 1, 2, 3], [5, 0, 4, 1, 2, 3], [6, 5, 0, 4, 1, 2, 3], [6, 5, 0, 4, 1, 2, 3], [7, 6, 5, 0, 4, 1, 2, 3], [8, 6, 5, 0, 4, 1, 2, 3, 9, 7]]) else bif id.beq 13 then ([0, 1, 2, 3, 4, 5, 6, 7, 8, 9, 10, 11, 12, 13, 14, 15, 16, 17, 18, 19, 20, 21, 22, 23, 24, 25, 26, 27, 28, 29, 30, 31, 32, 33], [[], [0], [], [2], [3, 2], [1, 0, 4, 3, 2], [5, 1, 0, 4, 3, 2], [6, 5, 1, 0, 4, 3, 2], [7, 6, 5, 1, 0, 4, 3, 2], [8, 7, 6, 5, 1, 0, 4, 3, 2], [7, 6, 5, 1, 0, 4, 3, 2], [10, 7, 6, 5, 1, 0, 4, 3, 2], [11, 10, 7, 6, 5, 1, 0, 4, 3, 2], [9, 8, 7, 6, 5, 1, 0, 4, 3, 2, 12, 11, 10], [13, 9, 8, 7, 6, 5, 1, 0, 4, 3, 2, 12, 11, 10], [7, 6, 5, 1, 0, 4, 3, 2, 14, 13, 9, 8, 12, 11, 10], [15, 7, 6, 5, 1, 0, 4, 3, 2, 14, 13, 9, 8, 12, 11, 10], [16, 15, 7, 6, 5, 1, 0, 4, 3, 2, 14, 13, 9, 8, 12, 11, 10], [17, 16, 15, 7, 6, 5, 1, 0, 4, 3, 2, 14, 13, 9, 8, 12, 11, 10], [16, 15, 7, 6, 5, 1, 0, 4, 3, 2, 14, 13, 9, 8, 12, 11, 10], [19, 16, 15, 7, 6, 5, 1, 0, 4, 3, 2, 14, 13, 9, 8, 12, 11, 10], [20, 19, 16, 15, 7, 6, 5, 1, 0, 4, 3, 2, 14, 13, 9, 8, 12, 11, 10], [18, 17, 16, 15, 7, 6, 5, 1, 0, 4, 3, 2, 14, 13, 9, 8, 12, 11, 10, 21, 20, 19], [22, 18, 17, 16, 15, 7, 6, 5, 1, 0, 4, 3, 2, 14, 13, 9, 8, 12, 11, 10, 21, 20, 19], [16, 15, 7, 6, 5, 1, 0, 4, 3, 2, 14, 13, 9, 8, 12, 11, 10, 23, 22, 18, 17, 21, 20, 19], [24, 16, 15, 7, 6, 5, 1, 0, 4, 3, 2, 14, 13, 9, 8, 12, 11, 10, 23, 22, 18, 17, 21, 20, 19], [25, 24, 16, 15, 7, 6, 5, 1, 0, 4, 3, 2, 14, 13, 9, 8, 12, 11, 10, 23, 22, 18, 17, 21, 20, 19], [26, 25, 24, 16, 15, 7, 6, 5, 1, 0, 4, 3, 2, 14, 13, 9, 8, 12, 11, 10, 23, 22, 18, 17, 21, 20, 19], [25, 24, 16, 15, 7, 6, 5, 1, 0, 4, 3, 2, 14, 13, 9, 8, 12, 11, 10, 23, 22, 18, 17, 21, 20, 19], [28, 25, 24, 16, 15, 7, 6, 5, 1, 0, 4, 3, 2, 14, 13, 9, 8, 12, 11, 10, 23, 22, 18, 17, 21, 20, 19], [29, 28, 25, 24, 16, 15, 7, 6, 5, 1, 0, 4, 3, 2, 14, 13, 9, 8, 12, 11, 10, 23, 22, 18, 17, 21, 20, 19], [27, 26, 25, 24, 16, 15, 7, 6, 5, 1, 0, 4, 3, 2, 14, 13, 9, 8, 12, 11, 10, 23, 22, 18, 17, 21, 20, 19, 30, 29, 28], [31, 27, 26, 25, 24, 16, 15, 7, 6, 5, 1, 0, 4, 3, 2, 14, 13, 9, 8, 12, 11, 10, 23, 22, 18, 17, 21, 20, 19, 30, 29, 28], [25, 24, 16, 15, 7, 6, 5, 1, 0, 4, 3, 2, 14, 13, 9, 8, 12, 11, 10, 23, 22, 18, 17, 21, 20, 19, 32, 31, 27, 26, 30, 29, 28]]) else ([], [])
def goal_fcon (l m k n : List Int) (K : AV → Prop) : Prop := goalL T156 ot_fcon inv_fcon Tryz.f4 [.x false [.s 1 (ints l)], .x false [.s 1 (ints m)], .x false [.s 1 (ints k)], .x false [.s 1 (ints n)]] K
theorem goal_fcon_vc (l : List Int) (m : List Int) (k : List Int) (n : List Int) (K : AV → Prop) : goal_fcon l m k n K = (
 True ∧
 ∃ (l_1 : List Int),
 ints l = ints l_1 ∧
 List.length l_1 ≤ (9223372036854775807 : Nat) ∧
 ∀ (a : ArmV),
 Made a ∧ (1 : Nat) ≤ List.length (ArmV.links a) →
 ∃ (a_2 : ArmV),
 ∃ (l : List Int),
 [Ch.v (Value.string (ArmV.name a)), Ch.r (ArmV.x a) (63 : Nat), Ch.r (ArmV.y a) (63 : Nat), Ch.v (Value.bool (ArmV.half a)),
 Ch.r (ArmV.t a) (63 : Nat), Ch.s (16 : Nat) (List.map linkCh (ArmV.links a))] =
 [Ch.v (Value.string (ArmV.name a_2)), Ch.r (ArmV.x a_2) (63 : Nat), Ch.r (ArmV.y a_2) (63 : Nat),
 Ch.v (Value.bool (ArmV.half a_2)), Ch.r (ArmV.t a_2) (63 : Nat), Ch.s (16 : Nat) (List.map linkCh (ArmV.links a_2))] ∧
 ints m = ints l ∧
 (GoodArm a_2 ∧ List.length l ≤ (9223372036854775807 : Nat)) ∧
 ∀ (qs : List Rat),
 (∀ (i : Nat) (L : LinkV) (q : Rat),
 (ArmV.links a_2)[i]? = some L → qs[i]? = some q → LinkV.lo L ≤ q ∧ q ≤ LinkV.hi L) →
 List.length qs = List.length (ArmV.links a_2) →
 ∃ (a_5 : ArmV),
 ∃ (l : List Int),
 [Ch.v (Value.string (ArmV.name a)), Ch.r (ArmV.x a) (63 : Nat), Ch.r (ArmV.y a) (63 : Nat),
 Ch.v (Value.bool (ArmV.half a)), Ch.r (ArmV.t a) (63 : Nat),
 Ch.s (16 : Nat) (List.map linkCh (ArmV.links a))] =
 [Ch.v (Value.string (ArmV.name a_5)), Ch.r (ArmV.x a_5) (63 : Nat), Ch.r (ArmV.y a_5) (63 : Nat),
 Ch.v (Value.bool (ArmV.half a_5)), Ch.r (ArmV.t a_5) (63 : Nat),
 Ch.s (16 : Nat) (List.map linkCh (ArmV.links a_5))] ∧
 ints k = ints l ∧
 (GoodArm a_5 ∧ List.length l ≤ (9223372036854775807 : Nat)) ∧
 ∀ (qs_1 : List Rat),
 (∀ (i : Nat) (L : LinkV) (q : Rat),
 (ArmV.links a_5)[i]? = some L → qs_1[i]? = some q → LinkV.lo L ≤ q ∧ q ≤ LinkV.hi L) →
 List.length qs_1 = List.length (ArmV.links a_5) →
 ∃ (ps : List Rat),
 ∃ (a_8 : Nat),
 ∃ (qs_2 : List Rat),
 ∃ (b : Nat),
 lR (63 : Nat) qs = lR a_8 ps ∧
 lR (63 : Nat) qs_1 = lR b qs_2 ∧
 ((List.length ps = List.length qs_2 ∧ List.length ps ≤ (100 : Nat)) ∧
 a_8 + b ≤ (1000000 : Nat)) ∧
 ∃ (a_9 : ArmV),
 ∃ (B : Nat),
 ∃ (ts : List Sp),
 ∃ (qs_3 : List Rat),
 [Ch.v (Value.string (ArmV.name a)), Ch.r (ArmV.x a) (63 : Nat),
 Ch.r (ArmV.y a) (63 : Nat), Ch.v (Value.bool (ArmV.half a)),
 Ch.r (ArmV.t a) (63 : Nat),
 Ch.s (16 : Nat) (List.map linkCh (ArmV.links a))] =
 [Ch.v (Value.string (ArmV.name a_9)), Ch.r (ArmV.x a_9) (63 : Nat),
 Ch.r (ArmV.y a_9) (63 : Nat), Ch.v (Value.bool (ArmV.half a_9)),
 Ch.r (ArmV.t a_9) (63 : Nat),
 Ch.s (16 : Nat) (List.map linkCh (ArmV.links a_9))] ∧
 List.map (spN (max a_8 b)) (spansV ps qs_2) = List.map (spN B) ts ∧
 (GoodArm a_9 ∧
 (B ≤ (400 : Nat) ∧
 List.length ts = List.length (ArmV.links a_9)) ∧
 List.length ts = List.length qs_3 ∧
 ∀ (i : Nat) (t : Sp) (q : Rat),
 ts[i]? = some t →
 qs_3[i]? = some q → Sp.lo t ≤ q ∧ q ≤ Sp.hi t) ∧
 ∀ (ls : List LoV) (l : LoV),
 ls ++ [l] = spreadV (loBase a_9) (ArmV.links a_9) ts →
 List.length ls = List.length (ArmV.links a_9) →
 ∃ (ps : List Rat),
 ∃ (a_12 : Nat),
 ∃ (qs_4 : List Rat),
 ∃ (b : Nat),
 ∃ (l_2 : List Int),
 lR (63 : Nat) qs = lR a_12 ps ∧
 lR (63 : Nat) qs_1 = lR b qs_4 ∧
 ints n = ints l_2 ∧
 ((List.length ps = List.length qs_4 ∧
 List.length ps ≤ (100 : Nat)) ∧
 a_12 + b ≤ (1000000 : Nat) ∧
 List.length l_2 ≤
 (9223372036854775807 : Nat)) ∧
 ∀ (vs : List Rat),
 (List.length (spansV ps qs_4) =
 List.length vs ∧
 ∀ (i : Nat) (t : Sp) (q : Rat),
 (spansV ps qs_4)[i]? = some t →
 vs[i]? = some q →
 Sp.lo t ≤ q ∧ q ≤ Sp.hi t) →
 ∃ (a_14 : ArmV),
 ∃ (b_1 : Nat),
 ∃ (qs : List Rat),
 [Ch.v
 (Value.string
 (ArmV.name a)),
 Ch.r (ArmV.x a) (63 : Nat),
 Ch.r (ArmV.y a) (63 : Nat),
 Ch.v
 (Value.bool
 (ArmV.half a)),
 Ch.r (ArmV.t a) (63 : Nat),
 Ch.s (16 : Nat)
 (List.map linkCh
 (ArmV.links a))] =
 [Ch.v
 (Value.string
 (ArmV.name a_14)),
 Ch.r (ArmV.x a_14)
 (63 : Nat),
 Ch.r (ArmV.y a_14)
 (63 : Nat),
 Ch.v
 (Value.bool
 (ArmV.half a_14)),
 Ch.r (ArmV.t a_14)
 (63 : Nat),
 Ch.s (16 : Nat)
 (List.map linkCh
 (ArmV.links a_14))] ∧
 lR
 ((2 : Nat) * a_12 + b +
 (65 : Nat))
 vs =
 lR b_1 qs ∧
 (GoodArm a_14 ∧
 b_1 ≤ (400 : Nat) ∧
 List.length qs =
 List.length
 (ArmV.links a_14)) ∧
 ∀ (fs : List FrV) (f : FrV),
 fs ++ [f] =
 framesV (baseV a_14)
 (ArmV.links a_14)
 qs →
 List.length fs =
 List.length
 (ArmV.links
 a_14) →
 bif
 Int.ofNat
 (List.length
 (List.map
 (loN
 (240000 :
 Nat))
 ls ++
 [[Ch.r
 (Sp.lo
 (LoV.x
 l))
 (lb
 (List.length
 (ArmV.links
 a_9))),
 Ch.r
 (Sp.hi
 (LoV.x
 l))
 (lb
 (List.length
 (ArmV.links
 a_9))),
 Ch.r
 (Sp.lo
 (LoV.y
 l))
 (lb
 (List.length
 (ArmV.links
 a_9))),
 Ch.r
 (Sp.hi
 (LoV.y
 l))
 (lb
 (List.length
 (ArmV.links
 a_9))),
 Ch.r
 (Sp.lo
 (LoV.c
 l))
 (lb
 (List.length
 (ArmV.links
 a_9))),
 Ch.r
 (Sp.hi
 (LoV.c
 l))
 (lb
 (List.length
 (ArmV.links
 a_9))),
 Ch.r
 (Sp.lo
 (LoV.s
 l))
 (lb
 (List.length
 (ArmV.links
 a_9))),
 Ch.r
 (Sp.hi
 (LoV.s
 l))
 (lb
 (List.length
 (ArmV.links
 a_9)))]])) !=
 Int.ofNat
 (List.length
 (List.map
 frCh
 fs ++
 [[Ch.r
 (FrV.x
 f)
 (bnd
 (List.length
 (ArmV.links
 a_14))),
 Ch.r
 (FrV.y
 f)
 (bnd
 (List.length
 (ArmV.links
 a_14))),
 Ch.v
 (Value.bool
 (FrV.h
 f)),
 Ch.r
 (FrV.t
 f)
 (bnd
 (List.length
 (ArmV.links
 a_14)))]])) then
 K
 (AV.x false
 [Ch.v
 (Value.bool
 false)])
 else
 (∃ (x : FcX),
 (FcI x ∧
 OfNat.ofNat
 (0 :
 Nat) =
 (0 :
 Nat)) ∧
 (10 : Nat) =
 (10 :
 Nat) ∧
 List.map
 frCh
 fs ++
 [[Ch.r
 (FrV.x
 f)
 (bnd
 (List.length
 (ArmV.links
 a_14))),
 Ch.r
 (FrV.y
 f)
 (bnd
 (List.length
 (ArmV.links
 a_14))),
 Ch.v
 (Value.bool
 (FrV.h
 f)),
 Ch.r
 (FrV.t
 f)
 (bnd
 (List.length
 (ArmV.links
 a_14)))]] =
 List.map
 frCh
 (FcX.fs
 x) ++
 [[Ch.r
 (FrV.x
 (FcX.f
 x))
 (bnd
 (List.length
 (ArmV.links
 (FcX.a
 x)))),
 Ch.r
 (FrV.y
 (FcX.f
 x))
 (bnd
 (List.length
 (ArmV.links
 (FcX.a
 x)))),
 Ch.v
 (Value.bool
 (FrV.h
 (FcX.f
 x))),
 Ch.r
 (FrV.t
 (FcX.f
 x))
 (bnd
 (List.length
 (ArmV.links
 (FcX.a
 x))))]] ∧
 (24 :
 Nat) =
 (24 :
 Nat) ∧
 List.map
 (loN
 (240000 :
 Nat))
 ls ++
 [[Ch.r
 (Sp.lo
 (LoV.x
 l))
 (lb
 (List.length
 (ArmV.links
 a_9))),
 Ch.r
 (Sp.hi
 (LoV.x
 l))
 (lb
 (List.length
 (ArmV.links
 a_9))),
 Ch.r
 (Sp.lo
 (LoV.y
 l))
 (lb
 (List.length
 (ArmV.links
 a_9))),
 Ch.r
 (Sp.hi
 (LoV.y
 l))
 (lb
 (List.length
 (ArmV.links
 a_9))),
 Ch.r
 (Sp.lo
 (LoV.c
 l))
 (lb
 (List.length
 (ArmV.links
 a_9))),
 Ch.r
 (Sp.hi
 (LoV.c
 l))
 (lb
 (List.length
 (ArmV.links
 a_9))),
 Ch.r
 (Sp.lo
 (LoV.s
 l))
 (lb
 (List.length
 (ArmV.links
 a_9))),
 Ch.r
 (Sp.hi
 (LoV.s
 l))
 (lb
 (List.length
 (ArmV.links
 a_9)))]] =
 losR
 (FcX.a
 x)
 (FcX.ls
 x)
 (FcX.l
 x) ∧
 Int.ofNat
 (List.length
 (List.map
 (loN
 (240000 :
 Nat))
 ls ++
 [[Ch.r
 (Sp.lo
 (LoV.x
 l))
 (lb
 (List.length
 (ArmV.links
 a_9))),
 Ch.r
 (Sp.hi
 (LoV.x
 l))
 (lb
 (List.length
 (ArmV.links
 a_9))),
 Ch.r
 (Sp.lo
 (LoV.y
 l))
 (lb
 (List.length
 (ArmV.links
 a_9))),
 Ch.r
 (Sp.hi
 (LoV.y
 l))
 (lb
 (List.length
 (ArmV.links
 a_9))),
 Ch.r
 (Sp.lo
 (LoV.c
 l))
 (lb
 (List.length
 (ArmV.links
 a_9))),
 Ch.r
 (Sp.hi
 (LoV.c
 l))
 (lb
 (List.length
 (ArmV.links
 a_9))),
 Ch.r
 (Sp.lo
 (LoV.s
 l))
 (lb
 (List.length
 (ArmV.links
 a_9))),
 Ch.r
 (Sp.hi
 (LoV.s
 l))
 (lb
 (List.length
 (ArmV.links
 a_9)))]])) =
 Int.ofNat
 (List.length
 (ArmV.links
 (FcX.a
 x)) +
 (1 :
 Nat)) ∧
 (0 :
 Int) =
 Int.ofNat
 (FcX.i
 x) ∧
 True) ∧
 ∀ (x : FcX),
 FcI x →
 OfNat.ofNat
 (0 :
 Nat) =
 (0 :
 Nat) →
 bif
 decide
 (Int.ofNat
 (FcX.i
 x) <
 Int.ofNat
 (List.length
 (ArmV.links
 (FcX.a
 x)) +
 (1 :
 Nat))) then
 ((0 :
 Int) ≤
 Int.ofNat
 (FcX.i
 x) ∧
 Int.ofNat
 (FcX.i
 x) <
 Int.ofNat
 (List.length
 (losR
 (FcX.a
 x)
 (FcX.ls
 x)
 (FcX.l
 x)))) ∧
 ∃ (q :
 Rat),
 ∃ (n :
 Nat),
 ∃
 (q_1
 :
 Rat),
 ∃
 (n_1
 :
 Nat),
 ∃
 (q_2
 :
 Rat),
 ∃
 (n_2
 :
 Nat),
 ∃
 (q_3
 :
 Rat),
 ∃
 (n_3
 :
 Nat),
 ∃
 (q_4
 :
 Rat),
 ∃
 (n_4
 :
 Nat),
 ∃
 (q_5
 :
 Rat),
 ∃
 (n_5
 :
 Nat),
 ∃
 (q_6
 :
 Rat),
 ∃
 (n_6
 :
 Nat),
 ∃
 (q_7
 :
 Rat),
 ∃
 (n_7
 :
 Nat),
 ldE
 (losR
 (FcX.a
 x)
 (FcX.ls
 x)
 (FcX.l
 x))
 (Int.toNat
 (Int.ofNat
 (FcX.i
 x)))
 (0 :
 Nat)
 (24 :
 Nat) =
 some
 [Ch.r
 q
 n,
 Ch.r
 q_1
 n_1,
 Ch.r
 q_2
 n_2,
 Ch.r
 q_3
 n_3,
 Ch.r
 q_4
 n_4,
 Ch.r
 q_5
 n_5,
 Ch.r
 q_6
 n_6,
 Ch.r
 q_7
 n_7] ∧
 ((0 :
 Int) ≤
 Int.ofNat
 (FcX.i
 x) ∧
 Int.ofNat
 (FcX.i
 x) <
 Int.ofNat
 (List.length
 (List.map
 frCh
 (FcX.fs
 x) ++
 [[Ch.r
 (FrV.x
 (FcX.f
 x))
 (bnd
 (List.length
 (ArmV.links
 (FcX.a
 x)))),
 Ch.r
 (FrV.y
 (FcX.f
 x))
 (bnd
 (List.length
 (ArmV.links
 (FcX.a
 x)))),
 Ch.v
 (Value.bool
 (FrV.h
 (FcX.f
 x))),
 Ch.r
 (FrV.t
 (FcX.f
 x))
 (bnd
 (List.length
 (ArmV.links
 (FcX.a
 x))))]]))) ∧
 ∃
 (q_8
 :
 Rat),
 ∃
 (n_8
 :
 Nat),
 ∃
 (q_9
 :
 Rat),
 ∃
 (n_9
 :
 Nat),
 ∃
 (b
 :
 Bool),
 ∃
 (q_10
 :
 Rat),
 ∃
 (n_10
 :
 Nat),
 ldE
 (List.map
 frCh
 (FcX.fs
 x) ++
 [[Ch.r
 (FrV.x
 (FcX.f
 x))
 (bnd
 (List.length
 (ArmV.links
 (FcX.a
 x)))),
 Ch.r
 (FrV.y
 (FcX.f
 x))
 (bnd
 (List.length
 (ArmV.links
 (FcX.a
 x)))),
 Ch.v
 (Value.bool
 (FrV.h
 (FcX.f
 x))),
 Ch.r
 (FrV.t
 (FcX.f
 x))
 (bnd
 (List.length
 (ArmV.links
 (FcX.a
 x))))]])
 (Int.toNat
 (Int.ofNat
 (FcX.i
 x)))
 (0 :
 Nat)
 (10 :
 Nat) =
 some
 [Ch.r
 q_8
 n_8,
 Ch.r
 q_9
 n_9,
 Ch.v
 (Value.bool
 b),
 Ch.r
 q_10
 n_10] ∧
 (n +
 n_1 +
 n_8 ≤
 (4294967290 :
 Nat) ∧
 q ≤
 q_1) ∧
 bif
 !spHas
 (Sp.mk
 q
 q_1)
 q_8 then
 K
 (AV.x
 false
 [Ch.v
 (Value.bool
 false)])
 else
 (n_2 +
 n_3 +
 n_9 ≤
 (4294967290 :
 Nat) ∧
 q_2 ≤
 q_3) ∧
 bif
 !spHas
 (Sp.mk
 q_2
 q_3)
 q_9 then
 K
 (AV.x
 false
 [Ch.v
 (Value.bool
 false)])
 else
 n_10 ≤
 (500000000 :
 Nat) ∧
 ∀
 (n :
 Nat),
 n ≤
 (4 :
 Nat) *
 n_10 +
 (400 :
 Nat) →
 (n_4 +
 n_5 +
 n ≤
 (4294967290 :
 Nat) ∧
 q_4 ≤
 q_5) ∧
 bif
 !spHas
 (Sp.mk
 q_4
 q_5)
 (cosT
 b
 q_10) then
 K
 (AV.x
 false
 [Ch.v
 (Value.bool
 false)])
 else
 n_10 ≤
 (500000000 :
 Nat) ∧
 ∀
 (n :
 Nat),
 n ≤
 (4 :
 Nat) *
 n_10 +
 (400 :
 Nat) →
 (n_6 +
 n_7 +
 n ≤
 (4294967290 :
 Nat) ∧
 q_6 ≤
 q_7) ∧
 bif
 !spHas
 (Sp.mk
 q_6
 q_7)
 (sinT
 b
 q_10) then
 K
 (AV.x
 false
 [Ch.v
 (Value.bool
 false)])
 else
 ∃
 (x'
 :
 FcX),
 (FcI
 x' ∧
 OfNat.ofNat
 (0 :
 Nat) =
 (0 :
 Nat) ∧
 List.length
 (ArmV.links
 (FcX.a
 x')) +
 (1 :
 Nat) -
 FcX.i
 x' <
 List.length
 (ArmV.links
 (FcX.a
 x)) +
 (1 :
 Nat) -
 FcX.i
 x) ∧
 (10 :
 Nat) =
 (10 :
 Nat) ∧
 List.map
 frCh
 (FcX.fs
 x) ++
 [[Ch.r
 (FrV.x
 (FcX.f
 x))
 (bnd
 (List.length
 (ArmV.links
 (FcX.a
 x)))),
 Ch.r
 (FrV.y
 (FcX.f
 x))
 (bnd
 (List.length
 (ArmV.links
 (FcX.a
 x)))),
 Ch.v
 (Value.bool
 (FrV.h
 (FcX.f
 x))),
 Ch.r
 (FrV.t
 (FcX.f
 x))
 (bnd
 (List.length
 (ArmV.links
 (FcX.a
 x))))]] =
 List.map
 frCh
 (FcX.fs
 x') ++
 [[Ch.r
 (FrV.x
 (FcX.f
 x'))
 (bnd
 (List.length
 (ArmV.links
 (FcX.a
 x')))),
 Ch.r
 (FrV.y
 (FcX.f
 x'))
 (bnd
 (List.length
 (ArmV.links
 (FcX.a
 x')))),
 Ch.v
 (Value.bool
 (FrV.h
 (FcX.f
 x'))),
 Ch.r
 (FrV.t
 (FcX.f
 x'))
 (bnd
 (List.length
 (ArmV.links
 (FcX.a
 x'))))]] ∧
 (24 :
 Nat) =
 (24 :
 Nat) ∧
 losR
 (FcX.a
 x)
 (FcX.ls
 x)
 (FcX.l
 x) =
 losR
 (FcX.a
 x')
 (FcX.ls
 x')
 (FcX.l
 x') ∧
 Int.ofNat
 (List.length
 (ArmV.links
 (FcX.a
 x)) +
 (1 :
 Nat)) =
 Int.ofNat
 (List.length
 (ArmV.links
 (FcX.a
 x')) +
 (1 :
 Nat)) ∧
 IntKind.wrap
 IntKind.i64
 (Int.ofNat
 (FcX.i
 x) +
 (1 :
 Int)) =
 Int.ofNat
 (FcX.i
 x') ∧
 True
 else
 K
 (AV.x
 false
 [Ch.v
 (Value.bool
 true)])) := by kernel_rfl
def ot_fnar : OT := fun id => bif id.beq 4 then ([0, 1, 3, 4, 2, 5, 6, 7], [[], [], [0, 1], [], [], [3, 4, 2, 0, 1], [2, 0, 1, 5, 3, 4], [5, 3, 4, 2, 0, 1, 6]]) else bif id.beq 5 then ([0, 1, 2, 3, 4, 5, 6, 7, 8, 9], [[], [], [], [1, 2], [0, 3, 1, 2], [4, 0, 3, 1, 2], [5, 4, 0, 3, 1, 2], [5, 4, 0, 3, 1, 2], [6, 5, 4, 0, 3, 1, 2], [7, 5, 4, 0, 3, 1, 2, 8, 6]]) else bif id.beq 6 then ([0, 1, 2, 3, 5, 6, 7, 4, 8, 9, 10, 11, 12, 13, 14, 15], [[], [], [], [], [1, 2, 3], [], [], [], [5, 6, 7, 4, 1, 2, 3], [4, 1, 2, 3, 8, 5, 6, 7], [0, 9, 4, 1, 2, 3, 8, 5, 6, 7], [10, 0, 9, 4, 1, 2, 3, 8, 5, 6, 7], [11, 10, 0, 9, 4, 1, 2, 3, 8, 5, 6, 7], [11, 10, 0, 9, 4, 1, 2, 3, 8, 5, 6, 7], [12, 11, 10, 0, 9, 4, 1, 2, 3, 8, 5, 6, 7], [13, 11, 10, 0, 9, 4, 1, 2, 3, 8, 5, 6, 7, 14, 12]]) else ([], [])
def goal_fnar (l m k n o : List Int) (K : AV → Prop) : Prop := goalL T156 ot_fnar noL Tryz.f5 [.x false [.s 1 (ints l)], .x false [.s 1 (ints m)], .x false [.s 1 (ints k)], .x false [.s 1 (ints n)], .x false [.s 1 (ints o)]] K
theorem goal_fnar_vc (l : List Int) (m : List Int) (k : List Int) (n : List Int) (o : List Int) (K : AV → Prop) : goal_fnar l m k n o K = (
 True ∧
 ∃ (l_1 : List Int),
 ints l = ints l_1 ∧
 List.length l_1 ≤ (9223372036854775807 : Nat) ∧
 ∀ (a : ArmV),
 Made a ∧ (1 : Nat) ≤ List.length (ArmV.links a) →
 ∃ (a_2 : ArmV),
 ∃ (l : List Int),
 [Ch.v (Value.string (ArmV.name a)), Ch.r (ArmV.x a) (63 : Nat), Ch.r (ArmV.y a) (63 : Nat), Ch.v (Value.bool (ArmV.half a)),
 Ch.r (ArmV.t a) (63 : Nat), Ch.s (16 : Nat) (List.map linkCh (ArmV.links a))] =
 [Ch.v (Value.string (ArmV.name a_2)), Ch.r (ArmV.x a_2) (63 : Nat), Ch.r (ArmV.y a_2) (63 : Nat),
 Ch.v (Value.bool (ArmV.half a_2)), Ch.r (ArmV.t a_2) (63 : Nat), Ch.s (16 : Nat) (List.map linkCh (ArmV.links a_2))] ∧
 ints m = ints l ∧
 (GoodArm a_2 ∧ List.length l ≤ (9223372036854775807 : Nat)) ∧
 ∀ (qs : List Rat),
 (∀ (i : Nat) (L : LinkV) (q : Rat),
 (ArmV.links a_2)[i]? = some L → qs[i]? = some q → LinkV.lo L ≤ q ∧ q ≤ LinkV.hi L) →
 List.length qs = List.length (ArmV.links a_2) →
 ∃ (a_5 : ArmV),
 ∃ (l : List Int),
 [Ch.v (Value.string (ArmV.name a)), Ch.r (ArmV.x a) (63 : Nat), Ch.r (ArmV.y a) (63 : Nat),
 Ch.v (Value.bool (ArmV.half a)), Ch.r (ArmV.t a) (63 : Nat),
 Ch.s (16 : Nat) (List.map linkCh (ArmV.links a))] =
 [Ch.v (Value.string (ArmV.name a_5)), Ch.r (ArmV.x a_5) (63 : Nat), Ch.r (ArmV.y a_5) (63 : Nat),
 Ch.v (Value.bool (ArmV.half a_5)), Ch.r (ArmV.t a_5) (63 : Nat),
 Ch.s (16 : Nat) (List.map linkCh (ArmV.links a_5))] ∧
 ints k = ints l ∧
 (GoodArm a_5 ∧ List.length l ≤ (9223372036854775807 : Nat)) ∧
 ∀ (qs_1 : List Rat),
 (∀ (i : Nat) (L : LinkV) (q : Rat),
 (ArmV.links a_5)[i]? = some L → qs_1[i]? = some q → LinkV.lo L ≤ q ∧ q ≤ LinkV.hi L) →
 List.length qs_1 = List.length (ArmV.links a_5) →
 ∃ (ps : List Rat),
 ∃ (a_8 : Nat),
 ∃ (qs_2 : List Rat),
 ∃ (b : Nat),
 lR (63 : Nat) qs = lR a_8 ps ∧
 lR (63 : Nat) qs_1 = lR b qs_2 ∧
 ((List.length ps = List.length qs_2 ∧ List.length ps ≤ (100 : Nat)) ∧
 a_8 + b ≤ (1000000 : Nat)) ∧
 ∃ (a_9 : ArmV),
 ∃ (B : Nat),
 ∃ (ts : List Sp),
 ∃ (qs_3 : List Rat),
 [Ch.v (Value.string (ArmV.name a)), Ch.r (ArmV.x a) (63 : Nat),
 Ch.r (ArmV.y a) (63 : Nat), Ch.v (Value.bool (ArmV.half a)),
 Ch.r (ArmV.t a) (63 : Nat),
 Ch.s (16 : Nat) (List.map linkCh (ArmV.links a))] =
 [Ch.v (Value.string (ArmV.name a_9)), Ch.r (ArmV.x a_9) (63 : Nat),
 Ch.r (ArmV.y a_9) (63 : Nat), Ch.v (Value.bool (ArmV.half a_9)),
 Ch.r (ArmV.t a_9) (63 : Nat),
 Ch.s (16 : Nat) (List.map linkCh (ArmV.links a_9))] ∧
 List.map (spN (max a_8 b)) (spansV ps qs_2) = List.map (spN B) ts ∧
 (GoodArm a_9 ∧
 (B ≤ (400 : Nat) ∧
 List.length ts = List.length (ArmV.links a_9)) ∧
 List.length ts = List.length qs_3 ∧
 ∀ (i : Nat) (t : Sp) (q : Rat),
 ts[i]? = some t →
 qs_3[i]? = some q → Sp.lo t ≤ q ∧ q ≤ Sp.hi t) ∧
 ∃ (ps : List Rat),
 ∃ (a_10 : Nat),
 ∃ (qs_4 : List Rat),
 ∃ (b : Nat),
 ∃ (l : List Int),
 lR (63 : Nat) qs = lR a_10 ps ∧
 lR (63 : Nat) qs_1 = lR b qs_4 ∧
 ints n = ints l ∧
 ((List.length ps = List.length qs_4 ∧
 List.length ps ≤ (100 : Nat)) ∧
 a_10 + b ≤ (1000000 : Nat) ∧
 List.length l ≤ (9223372036854775807 : Nat)) ∧
 ∀ (vs : List Rat),
 (List.length (spansV ps qs_4) = List.length vs ∧
 ∀ (i : Nat) (t : Sp) (q : Rat),
 (spansV ps qs_4)[i]? = some t →
 vs[i]? = some q →
 Sp.lo t ≤ q ∧ q ≤ Sp.hi t) →
 ∃ (ps : List Rat),
 ∃ (a_12 : Nat),
 ∃ (qs_5 : List Rat),
 ∃ (b_1 : Nat),
 ∃ (l : List Int),
 lR (63 : Nat) qs = lR a_12 ps ∧
 lR (63 : Nat) qs_1 = lR b_1 qs_5 ∧
 ints o = ints l ∧
 ((List.length ps =
 List.length qs_5 ∧
 List.length ps ≤
 (100 : Nat)) ∧
 a_12 + b_1 ≤
 (1000000 : Nat) ∧
 List.length l ≤
 (9223372036854775807 :
 Nat)) ∧
 ∀ (vs_1 : List Rat),
 (List.length
 (spansV ps qs_5) =
 List.length vs_1 ∧
 ∀ (i : Nat) (t : Sp)
 (q : Rat),
 (spansV ps
 qs_5)[i]? =
 some t →
 vs_1[i]? =
 some q →
 Sp.lo t ≤ q ∧
 q ≤ Sp.hi t) →
 ∃ (ps : List Rat),
 ∃ (a_14 : Nat),
 ∃ (qs : List Rat),
 ∃ (b_2 : Nat),
 lR
 ((2 :
 Nat) *
 a_10 +
 b +
 (65 :
 Nat))
 vs =
 lR a_14 ps ∧
 lR
 ((2 :
 Nat) *
 a_12 +
 b_1 +
 (65 :
 Nat))
 vs_1 =
 lR b_2
 qs ∧
 ((List.length
 ps =
 List.length
 qs ∧
 List.length
 ps ≤
 (100 :
 Nat)) ∧
 a_14 +
 b_2 ≤
 (1000000 :
 Nat)) ∧
 ∃ (a_15 :
 ArmV),
 ∃ (B :
 Nat),
 ∃
 (ts_1
 :
 List
 Sp),
 ∃
 (qs_6
 :
 List
 Rat),
 [Ch.v
 (Value.string
 (ArmV.name
 a)),
 Ch.r
 (ArmV.x
 a)
 (63 :
 Nat),
 Ch.r
 (ArmV.y
 a)
 (63 :
 Nat),
 Ch.v
 (Value.bool
 (ArmV.half
 a)),
 Ch.r
 (ArmV.t
 a)
 (63 :
 Nat),
 Ch.s
 (16 :
 Nat)
 (List.map
 linkCh
 (ArmV.links
 a))] =
 [Ch.v
 (Value.string
 (ArmV.name
 a_15)),
 Ch.r
 (ArmV.x
 a_15)
 (63 :
 Nat),
 Ch.r
 (ArmV.y
 a_15)
 (63 :
 Nat),
 Ch.v
 (Value.bool
 (ArmV.half
 a_15)),
 Ch.r
 (ArmV.t
 a_15)
 (63 :
 Nat),
 Ch.s
 (16 :
 Nat)
 (List.map
 linkCh
 (ArmV.links
 a_15))] ∧
 List.map
 (spN
 (max
 a_14
 b_2))
 (spansV
 ps
 qs) =
 List.map
 (spN
 B)
 ts_1 ∧
 (GoodArm
 a_15 ∧
 (B ≤
 (400 :
 Nat) ∧
 List.length
 ts_1 =
 List.length
 (ArmV.links
 a_15)) ∧
 List.length
 ts_1 =
 List.length
 qs_6 ∧
 ∀
 (i :
 Nat)
 (t :
 Sp)
 (q :
 Rat),
 ts_1[i]? =
 some
 t →
 qs_6[i]? =
 some
 q →
 Sp.lo
 t ≤
 q ∧
 q ≤
 Sp.hi
 t) ∧
 ∃
 (us
 :
 List
 LoV),
 ∃
 (vs
 :
 List
 LoV),
 List.map
 (bxL
 (240000 :
 Nat))
 (spreadV
 (loBase
 a_9)
 (ArmV.links
 a_9)
 ts) =
 List.map
 (bxL
 (240000 :
 Nat))
 us ∧
 List.map
 (bxL
 (240000 :
 Nat))
 (spreadV
 (loBase
 a_15)
 (ArmV.links
 a_15)
 ts_1) =
 List.map
 (bxL
 (240000 :
 Nat))
 vs ∧
 (30 :
 Nat) =
 (30 :
 Nat) ∧
 ((List.length
 us =
 List.length
 vs ∧
 List.length
 us ≤
 (1000 :
 Nat)) ∧
 ∀
 (i :
 Nat)
 (u
 v :
 LoV),
 us[i]? =
 some
 u →
 vs[i]? =
 some
 v →
 LoV.sub
 v
 u) ∧
 K
 (AV.x
 false
 [Ch.v
 (Value.bool
 true)])) := by kernel_rfl
theorem g_fcon (l m k n : List Int) (hl : l.length ≤ 9223372036854775807) (hm : m.length ≤ 9223372036854775807) (hk : k.length ≤ 9223372036854775807) (hn : n.length ≤ 9223372036854775807) (K : AV → Prop) (hK : K (.x false [.v (.bool true)])) : Holds (goal_fcon l m k n K) := by
  refine ⟨?_⟩
  rw [goal_fcon_vc]
  simp only [Int.ofNat_eq_natCast, true_and, and_true, Nat.zero_add, Nat.le_refl, true_implies, true_or, or_true]
  refine ⟨l, rfl, hl, fun a ha => ⟨a, m, rfl, rfl, ⟨MadeA.good ha, hm⟩, fun ps _ hp => ⟨a, k, rfl, rfl, ⟨MadeA.good ha, hk⟩, fun qs _ hq => ?_⟩⟩⟩
  have hg := MadeA.good ha
  have hnn := hg.n
  have hpq : ps.length = qs.length := by omega
  have sl := spans_len hpq
  refine ⟨ps, 63, qs, 63, rfl, rfl, ⟨⟨hpq, by omega⟩, by omega⟩, a, 63, spansV ps qs, ps, rfl, rfl, ⟨hg, ⟨by omega, by omega⟩, spans_hasL hpq⟩, fun ls l2 he hls => ⟨ps, 63, qs, 63, n, rfl, rfl, rfl, ⟨⟨hpq, by omega⟩, by omega, hn⟩, fun vs hv => ⟨a, 254, vs, rfl, rfl, ⟨hg, by omega, by have := hv.1; omega⟩, fun fs f hf hfl => bif_mk (fun h => by simp [hls, hfl] at h) (fun _ => ⟨⟨⟨a, vs, spansV ps qs, ls, l2, fs, f, 0⟩, ⟨hg, he, hls, hf, hfl, hv, by simp⟩, rfl, rfl, by simp [hls], rfl⟩, fun x hx => bif_mk (fun hp => ?_) (fun _ => hK)⟩)⟩⟩⟩
  have hp : x.i < x.a.links.length + 1 := by have := of_decide_eq_true hp; omega
  have l1 := hx.l1
  have l2' := hx.l2
  have hxn := hx.good.n
  obtain ⟨y, hy⟩ : ∃ y, (x.ls ++ [x.l])[x.i]? = some y := ⟨_, List.getElem?_eq_getElem (by simp; omega)⟩
  obtain ⟨g, hgx⟩ : ∃ g, (x.fs ++ [x.f])[x.i]? = some g := ⟨_, List.getElem?_eq_getElem (by simp; omega)⟩
  obtain ⟨m1, hm1, ld1⟩ := los_ld hxn.2 hy
  obtain ⟨m2, hm2, ld2⟩ := fr_full (bnd_le hxn.2) hgx
  rw [hx.e1] at hy
  rw [hx.e2] at hgx
  have hh := spread_has x.a.links x.ts x.qs (loBase x.a) (baseV x.a) (base_has x.a) hx.hq x.i y g hy hgx
  have no : ∀ {s : Sp} {q : Rat}, s.has q → (!spHas ⟨s.lo, s.hi⟩ q) = true → False := fun {s} {q} h k => by
    rw [show spHas ⟨s.lo, s.hi⟩ q = true from spHas_iff.2 h] at k; cases k
  refine ⟨by rw [losR_len]; omega, _, _, _, _, _, _, _, _, _, _, _, _, _, _, _, _, by rw [Int.toNat_natCast]; exact ld1, by simp; omega, _, _, _, _, _, _, _, by rw [Int.toNat_natCast]; exact ld2, ⟨by omega, hh.x.ok⟩, bif_mk (fun h => (no hh.x h).elim) (fun _ => ⟨⟨by omega, hh.y.ok⟩, bif_mk (fun h => (no hh.y h).elim) (fun _ => ⟨by omega, fun n1 hn1 => ⟨⟨by omega, hh.c.ok⟩, bif_mk (fun h => (no hh.c h).elim) (fun _ => ⟨by omega, fun n2 hn2 => ⟨⟨by omega, hh.s.ok⟩, bif_mk (fun h => (no hh.s h).elim) (fun _ => ⟨⟨x.a, x.qs, x.ts, x.ls, x.l, x.fs, x.f, x.i + 1⟩, ⟨⟨hx.good, hx.e1, hx.l1, hx.e2, hx.l2, hx.hq, hp⟩, by simp only; omega⟩, rfl, rfl, rfl, by rw [w64 (by omega)]; simp⟩)⟩⟩)⟩⟩)⟩)⟩
theorem spec_fcon (l m k n : List Int) (hl : l.length ≤ 9223372036854775807) (hm : m.length ≤ 9223372036854775807) (hk : k.length ≤ 9223372036854775807) (hn : n.length ≤ 9223372036854775807) : Eng.Spec Tryz.prog tabG debT 4 [.x false [.s 1 (ints l)], .x false [.s 1 (ints m)], .x false [.s 1 (ints k)], .x false [.s 1 (ints n)]] (fun av => av = .x false [.v (.bool true)]) :=
  spec_ofL T156ok mixed Tryz.func4 (by kernel_rfl) (by kernel_rfl) (by rfl) (g_fcon l m k n hl hm hk hn _ rfl)
theorem g_fnar (l m k n o : List Int) (hl : l.length ≤ 9223372036854775807) (hm : m.length ≤ 9223372036854775807) (hk : k.length ≤ 9223372036854775807) (hn : n.length ≤ 9223372036854775807) (ho : o.length ≤ 9223372036854775807) (K : AV → Prop) (hK : K (.x false [.v (.bool true)])) : Holds (goal_fnar l m k n o K) := by
  refine ⟨?_⟩
  rw [goal_fnar_vc]
  simp only [Int.ofNat_eq_natCast, true_and, and_true, Nat.zero_add, Nat.le_refl, true_implies, true_or, or_true]
  refine ⟨l, rfl, hl, fun a ha => ⟨a, m, rfl, rfl, ⟨MadeA.good ha, hm⟩, fun ps _ hp => ⟨a, k, rfl, rfl, ⟨MadeA.good ha, hk⟩, fun qs _ hq => ?_⟩⟩⟩
  have hg := MadeA.good ha
  have hnn := hg.n
  have hpq : ps.length = qs.length := by omega
  have sl := spans_len hpq
  refine ⟨ps, 63, qs, 63, rfl, rfl, ⟨⟨hpq, by omega⟩, by omega⟩, a, 63, spansV ps qs, ps, rfl, rfl, ⟨hg, ⟨by omega, by omega⟩, spans_hasL hpq⟩, ps, 63, qs, 63, n, rfl, rfl, rfl, ⟨⟨hpq, by omega⟩, by omega, hn⟩, fun vs hv => ⟨ps, 63, qs, 63, o, rfl, rfl, rfl, ⟨⟨hpq, by omega⟩, by omega, ho⟩, fun ws hw => ?_⟩⟩
  have hv1 := hv.1
  have hw1 := hw.1
  have hvw : vs.length = ws.length := by omega
  have sl2 := spans_len hvw
  have e1 := spread_len a.links (spansV ps qs) (loBase a) (by omega)
  have e2 := spread_len a.links (spansV vs ws) (loBase a) (by omega)
  refine ⟨vs, 254, ws, 254, rfl, rfl, ⟨⟨hvw, by omega⟩, by omega⟩, a, 254, spansV vs ws, vs, rfl, rfl, ⟨hg, ⟨by omega, by omega⟩, spans_hasL hvw⟩, spreadV (loBase a) a.links (spansV ps qs), spreadV (loBase a) a.links (spansV vs ws), rfl, rfl, ⟨⟨by omega, by omega⟩, fun i u v hu hv' => ?_⟩, hK⟩
  exact spread_sub a.links (spansV vs ws) (spansV ps qs) vs (loBase a) (loBase a) (baseV a) (base_has a) (spans_hasL hvw) (lo_refl _) (by omega) (spans_sub hv hw) i v u hv' hu
theorem spec_fnar (l m k n o : List Int) (hl : l.length ≤ 9223372036854775807) (hm : m.length ≤ 9223372036854775807) (hk : k.length ≤ 9223372036854775807) (hn : n.length ≤ 9223372036854775807) (ho : o.length ≤ 9223372036854775807) : Eng.Spec Tryz.prog tabG debT 5 [.x false [.s 1 (ints l)], .x false [.s 1 (ints m)], .x false [.s 1 (ints k)], .x false [.s 1 (ints n)], .x false [.s 1 (ints o)]] (fun av => av = .x false [.v (.bool true)]) :=
  spec_ofL T156ok mixed Tryz.func5 (by kernel_rfl) (by kernel_rfl) (by rfl) (g_fnar l m k n o hl hm hk hn ho _ rfl)
end Go.Proofs
