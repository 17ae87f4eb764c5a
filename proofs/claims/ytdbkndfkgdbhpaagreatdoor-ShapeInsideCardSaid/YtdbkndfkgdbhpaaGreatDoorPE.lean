/- Outer boxes of shapes: ShapeInside. -/
import Derived.Test.YtdbkndfkgdbhpaaGreatDoorPD
import Derived.Test.YtdbkndfkgdbhpaaGreatDoorSE
/- Outer boxes of shapes: ShapeInside. -/
namespace Go.Proofs
open Go Go.Eng
def atX (l : LoV) (p : Rat × Rat) : Sp := spAdd l.x (spSub (spMul (spOf p.1) l.c) (spMul (spOf p.2) l.s))
def atY (l : LoV) (p : Rat × Rat) : Sp := spAdd l.y (spAdd (spMul (spOf p.1) l.s) (spMul (spOf p.2) l.c))
def hX (l : LoV) : List (Rat × Rat) → Sp → Sp
  | [], x => x
  | v :: vs, x => hX l vs (spJoin x (atX l v))
def hY (l : LoV) : List (Rat × Rat) → Sp → Sp
  | [], y => y
  | v :: vs, y => hY l vs (spJoin y (atY l v))
def hullV (l : LoV) (L : LinkV) : Sp × Sp := (hX l L.shape.tail (atX l (L.shape.headD (0, 0))), hY l L.shape.tail (atY l (L.shape.headD (0, 0))))
def boxesV (los : List LoV) (ls : List LinkV) : List (Sp × Sp) := List.zipWith hullV los ls
def bx4 (n : Nat) (b : Sp × Sp) : List Ch := [.r b.1.lo n, .r b.2.lo n, .r b.1.hi n, .r b.2.hi n]
structure HbX where
  ls : List LoV
  l : LoV
  x : Sp
  y : Sp
  i : Nat
  j : Nat
structure HbI (a : ArmV) (ts : List Sp) (x : HbX) : Prop where
  eq : x.ls ++ [x.l] = spreadV (loBase a) a.links ts
  len : x.ls.length = a.links.length
def zLk : LinkV := ⟨0, 0, 0, 0, 0, []⟩
def zLo : LoV := ⟨spOf 0, spOf 0, spOf 0, spOf 0⟩
def inv_hbox (a : ArmV) (ts : List Sp) : LI := fun id => bif id.beq 6 then .inv ⟨HbX, fun x => ⟨[(2, .x false [.p 2 0]), (6, .x false [.s 24 (losR a x.ls x.l)]), (8, .x false [.w 500 0 x.i]), (27, .x false [.s 16 (a.links.map linkCh)]), (28, iA .i64 a.links.length), (29, iA .i64 x.i)],
    [(2, .box 44 (armCh a)), (500, .row 69 12 (((boxesV x.ls a.links).take x.i).map (bx4 800000)))]⟩, fun x => HbI a ts x ∧ x.i ≤ a.links.length, fun x => a.links.length - x.i, fun _ => 0⟩
  else .inv ⟨HbX, fun x => ⟨[(2, .x false [.p 2 0]), (6, .x false [.s 24 (losR a x.ls x.l)]), (8, .x false [.w 500 0 x.i]), (9, iA .i64 x.i), (10, .x false [.p 10 0]), (11, .x false [.p 11 0]), (12, .x false [.p 12 0]), (27, .x false [.s 16 (a.links.map linkCh)]), (28, iA .i64 a.links.length), (29, iA .i64 x.i), (48, .x false [.s 6 ((a.links.getD x.i zLk).shape.tail.map vecCh)]), (49, iA .i64 (a.links.getD x.i zLk).shape.tail.length), (50, iA .i64 x.j)],
    [(2, .box 44 (armCh a)), (10, .box 117 (linkCh (a.links.getD x.i zLk))), (11, .box 58 (spN 800000 x.x)), (12, .box 58 (spN 800000 x.y)), (500, .row 69 12 (((boxesV x.ls a.links).take x.i).map (bx4 800000)))]⟩,
    fun x => (HbI a ts x ∧ x.i < a.links.length ∧ x.j ≤ (a.links.getD x.i zLk).shape.tail.length) ∧ (x.x.lo ≤ x.x.hi ∧ x.y.lo ≤ x.y.hi) ∧ hX (x.ls.getD x.i zLo) ((a.links.getD x.i zLk).shape.tail.drop x.j) x.x = (hullV (x.ls.getD x.i zLo) (a.links.getD x.i zLk)).1 ∧ hY (x.ls.getD x.i zLo) ((a.links.getD x.i zLk).shape.tail.drop x.j) x.y = (hullV (x.ls.getD x.i zLo) (a.links.getD x.i zLk)).2, fun x => (a.links.getD x.i zLk).shape.tail.length - x.j, fun x => a.links.length - x.i⟩
def L156s : List (Nat × Ctr) := (43, c_hPlace) :: (38, c_hAround) :: L156
def T156s : Tabs := mkT L156s M79 X4
theorem L156sok : CtrsOK Tryz.prog tabG debT L156s := .cons ok_hPlace (.cons ok_hAround L156ok)
theorem T156sok : TabsOK Tryz.prog tabG debT T156s := mkTok L156sok M79ok X4ok
theorem atX_has {l : LoV} {f : FrV} (h : l.has f) (p : Rat × Rat) : (atX l p).has (putX f p.1 p.2) := spAdd_has h.x (spSub_has (spMul_has (spOf_has p.1) h.c) (spMul_has (spOf_has p.2) h.s))
theorem atY_has {l : LoV} {f : FrV} (h : l.has f) (p : Rat × Rat) : (atY l p).has (putY f p.1 p.2) := spAdd_has h.y (spAdd_has (spMul_has (spOf_has p.1) h.s) (spMul_has (spOf_has p.2) h.c))
theorem join_ok {s t : Sp} (h : s.lo ≤ s.hi) : (spJoin s t).lo ≤ (spJoin s t).hi := Rat.le_trans (minR_le_l _ _) (Rat.le_trans h (le_maxR_l _ _))
theorem hX_acc (l : LoV) : ∀ (vs : List (Rat × Rat)) (x : Sp) (q : Rat), x.has q → (hX l vs x).has q := by
  intro vs
  induction vs with
  | nil => intro x q h; exact h
  | cons v vs ih => intro x q h; exact ih _ q (spJoin_l h)
theorem hY_acc (l : LoV) : ∀ (vs : List (Rat × Rat)) (x : Sp) (q : Rat), x.has q → (hY l vs x).has q := by
  intro vs
  induction vs with
  | nil => intro x q h; exact h
  | cons v vs ih => intro x q h; exact ih _ q (spJoin_l h)
theorem hX_mem {l : LoV} {f : FrV} (h : l.has f) : ∀ (vs : List (Rat × Rat)) (x : Sp) (p : Rat × Rat), p ∈ vs → (hX l vs x).has (putX f p.1 p.2) := by
  intro vs
  induction vs with
  | nil => intro x p hp; cases hp
  | cons v vs ih =>
    intro x p hp
    rcases List.mem_cons.1 hp with rfl | hp
    · exact hX_acc l vs _ _ (spJoin_r (atX_has h p))
    · exact ih _ p hp
theorem hY_mem {l : LoV} {f : FrV} (h : l.has f) : ∀ (vs : List (Rat × Rat)) (x : Sp) (p : Rat × Rat), p ∈ vs → (hY l vs x).has (putY f p.1 p.2) := by
  intro vs
  induction vs with
  | nil => intro x p hp; cases hp
  | cons v vs ih =>
    intro x p hp
    rcases List.mem_cons.1 hp with rfl | hp
    · exact hY_acc l vs _ _ (spJoin_r (atY_has h p))
    · exact ih _ p hp
theorem hull_has {l : LoV} {f : FrV} {L : LinkV} (h : l.has f) {p : Rat × Rat} (hp : p ∈ L.shape) : (hullV l L).1.has (putX f p.1 p.2) ∧ (hullV l L).2.has (putY f p.1 p.2) := by
  unfold hullV
  cases hs : L.shape with
  | nil => rw [hs] at hp; cases hp
  | cons v vs =>
    rw [hs] at hp
    rcases List.mem_cons.1 hp with rfl | hp
    · exact ⟨hX_acc l vs _ _ (atX_has h p), hY_acc l vs _ _ (atY_has h p)⟩
    · exact ⟨hX_mem h vs _ p hp, hY_mem h vs _ p hp⟩
theorem boxes_get {los : List LoV} {ls : List LinkV} {i : Nat} {l : LoV} {L : LinkV} (h : los[i]? = some l) (k : ls[i]? = some L) : (boxesV los ls)[i]? = some (hullV l L) := by
  simp [boxesV, List.getElem?_zipWith, h, k]
theorem boxes_len {los : List LoV} {ls : List LinkV} (h : los.length = ls.length) : (boxesV los ls).length = ls.length := by simp [boxesV, h]
theorem bx4_ld {n : Nat} {us : List (Sp × Sp)} {i : Nat} {u : Sp × Sp} (h : us[i]? = some u) : ldE (us.map (bx4 n)) i 0 12 = some (bx4 n u) := by
  simp only [ldE, List.getElem?_map, h]; rfl
theorem head_of {s : List (Rat × Rat)} {p : Rat × Rat} (h : s[0]? = some p) : s.headD (0, 0) = p := by
  cases s with
  | nil => cases h
  | cons v vs => cases h; rfl
def ot_hAt : OT := fun id => bif id.beq 1 then ([0, 1, 3, 4, 6, 7, 2, 5, 8, 9], [[], [0], [1, 0], [], [3], [4, 3, 2, 1, 0], [], [], [6, 2, 1, 0, 5, 4, 3, 7], [7, 5, 4, 3, 2, 1, 0, 8, 6]]) else bif id.beq 2 then ([0, 1, 2, 3, 4, 6, 7, 8, 12, 13, 14, 15, 16, 18, 19, 20, 5, 9, 10, 11, 17, 21, 22, 23, 24, 25], [[], [0], [], [], [3], [2, 4, 3], [], [], [7], [6, 8, 7, 5, 2, 4, 3], [5, 2, 4, 3, 9, 6, 8, 7], [1, 0, 10, 5, 2, 4, 3, 9, 6, 8, 7], [], [12], [], [], [15], [14, 16, 15, 11, 1, 0, 10, 5, 2, 4, 3, 9, 6, 8, 7], [], [], [19], [18, 20, 19, 17, 14, 16, 15, 11, 1, 0, 10, 5, 2, 4, 3, 9, 6, 8, 7], [17, 14, 16, 15, 11, 1, 0, 10, 5, 2, 4, 3, 9, 6, 8, 7, 21, 18, 20, 19], [13, 12, 22, 17, 14, 16, 15, 11, 1, 0, 10, 5, 2, 4, 3, 9, 6, 8, 7, 21, 18, 20, 19], [11, 1, 0, 10, 5, 2, 4, 3, 9, 6, 8, 7, 23, 13, 12, 22, 17, 14, 16, 15, 21, 18, 20, 19], [23, 13, 12, 22, 17, 14, 16, 15, 11, 1, 0, 10, 5, 2, 4, 3, 9, 6, 8, 7, 21, 18, 20, 19, 24]]) else ([], [])
def goal_hAt (l : LoV) (n : Nat) (p : Rat × Rat) (f : FrV) (K : AV → Prop) : Prop := goalL T156s ot_hAt noL Tryz.f84 [.x true (loN n l), .x true (vecCh p)] K
theorem goal_hAt_vc (l : LoV) (n : Nat) (p : Rat × Rat) (f : FrV) (K : AV → Prop) : goal_hAt l n p f K = ( (63 : Nat) ≤ (2000000000 : Nat) ∧ (63 : Nat) ≤ (2000000000 : Nat) ∧ ((126 : Nat) + n + n ≤ (2000000000 : Nat) ∧ Prod.fst p ≤ Prod.fst p ∧ Sp.lo (LoV.c l) ≤ Sp.hi (LoV.c l)) ∧ ∀ (s : Sp) (n_1 : Nat), s = spMul (Sp.mk (Prod.fst p) (Prod.fst p)) (Sp.mk (Sp.lo (LoV.c l)) (Sp.hi (LoV.c l))) → n_1 ≤ (63 : Nat) + max n n → ((126 : Nat) + n + n ≤ (2000000000 : Nat) ∧ Prod.snd p ≤ Prod.snd p ∧ Sp.lo (LoV.s l) ≤ Sp.hi (LoV.s l)) ∧ ∀ (s_1 : Sp) (n_2 : Nat), s_1 = spMul (Sp.mk (Prod.snd p) (Prod.snd p)) (Sp.mk (Sp.lo (LoV.s l)) (Sp.hi (LoV.s l))) → n_2 ≤ (63 : Nat) + max n n → (n_1 + n_1 + n_2 + n_2 ≤ (4294967290 : Nat) ∧ Sp.lo s ≤ Sp.hi s ∧ Sp.lo s_1 ≤ Sp.hi s_1) ∧ (n + n + (n_1 + n_2 + (1 : Nat)) + (n_1 + n_2 + (1 : Nat)) ≤ (4294967290 : Nat) ∧ Sp.lo (LoV.x l) ≤ Sp.hi (LoV.x l) ∧ Sp.lo s - Sp.hi s_1 ≤ Sp.hi s - Sp.lo s_1) ∧ ((126 : Nat) + n + n ≤ (2000000000 : Nat) ∧ Prod.fst p ≤ Prod.fst p ∧ Sp.lo (LoV.s l) ≤ Sp.hi (LoV.s l)) ∧ ∀ (s_2 : Sp) (n_3 : Nat), s_2 = spMul (Sp.mk (Prod.fst p) (Prod.fst p)) (Sp.mk (Sp.lo (LoV.s l)) (Sp.hi (LoV.s l))) → n_3 ≤ (63 : Nat) + max n n → ((126 : Nat) + n + n ≤ (2000000000 : Nat) ∧ Prod.snd p ≤ Prod.snd p ∧ Sp.lo (LoV.c l) ≤ Sp.hi (LoV.c l)) ∧ ∀ (s_3 : Sp) (n_4 : Nat), s_3 = spMul (Sp.mk (Prod.snd p) (Prod.snd p)) (Sp.mk (Sp.lo (LoV.c l)) (Sp.hi (LoV.c l))) → n_4 ≤ (63 : Nat) + max n n → (n_3 + n_3 + n_4 + n_4 ≤ (4294967290 : Nat) ∧ Sp.lo s_2 ≤ Sp.hi s_2 ∧ Sp.lo s_3 ≤ Sp.hi s_3) ∧ (n + n + (n_3 + n_4 + (1 : Nat)) + (n_3 + n_4 + (1 : Nat)) ≤ (4294967290 : Nat) ∧ Sp.lo (LoV.y l) ≤ Sp.hi (LoV.y l) ∧ Sp.lo s_2 + Sp.lo s_3 ≤ Sp.hi s_2 + Sp.hi s_3) ∧ K (AV.t [(true, [Ch.r (Sp.lo (LoV.x l) + (Sp.lo s - Sp.hi s_1)) (n + (n_1 + n_2 + (1 : Nat)) + (1 : Nat)), Ch.r (Sp.hi (LoV.x l) + (Sp.hi s - Sp.lo s_1)) (n + (n_1 + n_2 + (1 : Nat)) + (1 : Nat))]), (true, [Ch.r (Sp.lo (LoV.y l) + (Sp.lo s_2 + Sp.lo s_3)) (n + (n_3 + n_4 + (1 : Nat)) + (1 : Nat)), Ch.r (Sp.hi (LoV.y l) + (Sp.hi s_2 + Sp.hi s_3)) (n + (n_3 + n_4 + (1 : Nat)) + (1 : Nat))])])) := by kernel_rfl
theorem g_hAt (l : LoV) (n : Nat) (p : Rat × Rat) (f : FrV) (hc : (n ≤ 1000000) ∧ (l.has f)) (K : AV → Prop) (hK : ∀ a b, a ≤ 3 * n + 300 → b ≤ 3 * n + 300 → K (.t [(true, spN a (atX l p)), (true, spN b (atY l p))])) : Holds (goal_hAt l n p f K) := by
  refine ⟨?_⟩
  rw [goal_hAt_vc]
  try simp only [Int.ofNat_eq_natCast, true_and, and_true, Nat.zero_add, Nat.le_refl, true_implies, true_or, or_true]
  obtain ⟨hn, hf⟩ := hc
  have m1 := spMul_has (spOf_has p.1) hf.c
  have m2 := spMul_has (spOf_has p.2) hf.s
  have m3 := spMul_has (spOf_has p.1) hf.s
  have m4 := spMul_has (spOf_has p.2) hf.c
  refine ⟨by omega, by omega, ⟨by omega, Rat.le_refl, hf.c.ok⟩, fun s1 n1 e1 h1 => ?_⟩
  subst e1
  refine ⟨⟨by omega, Rat.le_refl, hf.s.ok⟩, fun s2 n2 e2 h2 => ?_⟩
  subst e2
  refine ⟨⟨by omega, m1.ok, m2.ok⟩, ⟨by omega, hf.x.ok, (spSub_has m1 m2).ok⟩, ⟨by omega, Rat.le_refl, hf.s.ok⟩, fun s3 n3 e3 h3 => ?_⟩
  subst e3
  refine ⟨⟨by omega, Rat.le_refl, hf.c.ok⟩, fun s4 n4 e4 h4 => ?_⟩
  subst e4
  exact ⟨⟨by omega, m3.ok, m4.ok⟩, ⟨by omega, hf.y.ok, (spAdd_has m3 m4).ok⟩, hK _ _ (by omega) (by omega)⟩
def c_hAt : Ctr := fun as0 => match as0 with
  | [.x true xs, .x true ys] => some fun K => ∃ (l : LoV) (n : Nat) (p : Rat × Rat) (f : FrV), xs = loN n l ∧ ys = vecCh p ∧ ((n ≤ 1000000) ∧ (l.has f)) ∧ (∀ a b, a ≤ 3 * n + 300 → b ≤ 3 * n + 300 → K (.t [(true, spN a (atX l p)), (true, spN b (atY l p))]))
  | _ => none
theorem ok_hAt : CtrOK Tryz.prog tabG debT 84 c_hAt := by
  refine ⟨enters Tryz.func84 (by kernel_rfl), fun l T hT K hK => ?_⟩
  unfold c_hAt at hT
  split at hT
  · cases hT
    obtain ⟨l, n, p, f, rfl, rfl, hc, hK⟩ := hK
    exact spec_ofL T156sok mixed Tryz.func84 (by kernel_rfl) (by kernel_rfl) (by rfl) (g_hAt _ _ _ _ hc K hK)
  · cases hT
def L157 : List (Nat × Ctr) := (84, c_hAt) :: L156s
def T157 : Tabs := mkT L157 M79 X4
theorem L157ok : CtrsOK Tryz.prog tabG debT L157 := .cons ok_hAt L156sok
theorem T157ok : TabsOK Tryz.prog tabG debT T157 := mkTok L157ok M79ok X4ok
def ot_fBoxW : OT := fun _ => ([], [])
def goal_fBoxW (xl : Rat) (a : Nat) (xh : Rat) (b : Nat) (yl : Rat) (c : Nat) (yh : Rat) (d : Nat) (K : AV → Prop) : Prop := goalL T157 ot_fBoxW noL Tryz.f80 [.x true ([.r xl a, .r xh b, .r yl c, .r yh d] ++ zeroR ++ zeroR ++ zeroR ++ zeroR)] K
theorem goal_fBoxW_vc (xl : Rat) (a : Nat) (xh : Rat) (b : Nat) (yl : Rat) (c : Nat) (yh : Rat) (d : Nat) (K : AV → Prop) : goal_fBoxW xl a xh b yl c yh d K = ( K (AV.x true [Ch.r xl a, Ch.r yl c, Ch.r xh b, Ch.r yh d])) := by kernel_rfl
theorem g_fBoxW (xl : Rat) (a : Nat) (xh : Rat) (b : Nat) (yl : Rat) (c : Nat) (yh : Rat) (d : Nat) (hc : True) (K : AV → Prop) (hK : K (.x true [.r xl a, .r yl c, .r xh b, .r yh d])) : Holds (goal_fBoxW xl a xh b yl c yh d K) := by
  refine ⟨?_⟩
  rw [goal_fBoxW_vc]
  try simp only [Int.ofNat_eq_natCast, true_and, and_true, Nat.zero_add, Nat.le_refl, true_implies, true_or, or_true]
  exact hK
def c_fBoxW : Ctr := fun as0 => match as0 with
  | [.x true [.r xl a, .r xh b, .r yl c, .r yh d, .v (.bool false), .v (.string ⟨⟨[]⟩⟩), .v (.string ⟨⟨[]⟩⟩), .v (.bool false), .v (.string ⟨⟨[]⟩⟩), .v (.string ⟨⟨[]⟩⟩), .v (.bool false), .v (.string ⟨⟨[]⟩⟩), .v (.string ⟨⟨[]⟩⟩), .v (.bool false), .v (.string ⟨⟨[]⟩⟩), .v (.string ⟨⟨[]⟩⟩)]] => some fun K => (True) ∧ (K (.x true [.r xl a, .r yl c, .r xh b, .r yh d]))
  | _ => none
theorem ok_fBoxW : CtrOK Tryz.prog tabG debT 80 c_fBoxW := by
  refine ⟨enters Tryz.func80 (by kernel_rfl), fun l T hT K hK => ?_⟩
  unfold c_fBoxW at hT
  split at hT
  · cases hT
    obtain ⟨hc, hK⟩ := hK
    exact spec_ofL T157ok mixed Tryz.func80 (by kernel_rfl) (by kernel_rfl) (by rfl) (g_fBoxW _ _ _ _ _ _ _ _ hc K hK)
  · cases hT
def L158 : List (Nat × Ctr) := (80, c_fBoxW) :: L157
def T158 : Tabs := mkT L158 M79 X4
theorem L158ok : CtrsOK Tryz.prog tabG debT L158 := .cons ok_fBoxW L157ok
theorem T158ok : TabsOK Tryz.prog tabG debT T158 := mkTok L158ok M79ok X4ok
def ot_hBoxes : OT := fun id => bif id.beq 8 then ([0, 1, 2, 3, 4, 5, 6, 7, 12, 13, 8, 9, 10, 11, 14, 15], [[], [], [0, 1], [2, 0, 1], [], [4], [5, 4], [6, 5, 4], [3, 2, 0, 1, 7, 6, 5, 4], [8, 3, 2, 0, 1, 7, 6, 5, 4], [9, 8, 3, 2, 0, 1, 7, 6, 5, 4], [9, 8, 3, 2, 0, 1, 7, 6, 5, 4], [], [], [12, 10, 9, 8, 3, 2, 0, 1, 7, 6, 5, 4, 13], [13, 11, 9, 8, 3, 2, 0, 1, 7, 6, 5, 4, 14, 12, 10]]) else bif id.beq 12 then ([0, 1, 2, 3, 4, 9, 10, 5, 6, 7, 8, 11, 12], [[], [], [0, 1], [2, 0, 1], [], [3, 2, 0, 1, 4], [5, 3, 2, 0, 1, 4], [6, 5, 3, 2, 0, 1, 4], [6, 5, 3, 2, 0, 1, 4], [], [], [9, 7, 6, 5, 3, 2, 0, 1, 4, 10], [10, 8, 6, 5, 3, 2, 0, 1, 4, 11, 9, 7]]) else bif id.beq 13 then ([0, 1, 3, 4, 2, 5, 6, 7], [[], [], [0, 1], [], [], [3, 4, 2, 0, 1], [2, 0, 1, 5, 3, 4], [5, 3, 4, 2, 0, 1, 6]]) else ([], [])
def goal_hBoxes (a : ArmV) (B : Nat) (ts : List Sp) (qs : List Rat) (K : AV → Prop) : Prop := goalL T158 ot_hBoxes (inv_hbox a ts) Tryz.f42 [armA a, .x false [.s 6 (ts.map (spN B))]] K
theorem goal_hBoxes_vc (a : ArmV) (B : Nat) (ts : List Sp) (qs : List Rat) (K : AV → Prop) : goal_hBoxes a B ts qs K = ( ∃ (a_1 : ArmV), ∃ (B_1 : Nat), ∃ (ts_1 : List Sp), ∃ (qs : List Rat), [Ch.v (Value.string (ArmV.name a)), Ch.r (ArmV.x a) (63 : Nat), Ch.r (ArmV.y a) (63 : Nat), Ch.v (Value.bool (ArmV.half a)), Ch.r (ArmV.t a) (63 : Nat), Ch.s (16 : Nat) (List.map linkCh (ArmV.links a))] = [Ch.v (Value.string (ArmV.name a_1)), Ch.r (ArmV.x a_1) (63 : Nat), Ch.r (ArmV.y a_1) (63 : Nat), Ch.v (Value.bool (ArmV.half a_1)), Ch.r (ArmV.t a_1) (63 : Nat), Ch.s (16 : Nat) (List.map linkCh (ArmV.links a_1))] ∧ List.map (spN B) ts = List.map (spN B_1) ts_1 ∧ (GoodArm a_1 ∧ (B_1 ≤ (400 : Nat) ∧ List.length ts_1 = List.length (ArmV.links a_1)) ∧ List.length ts_1 = List.length qs ∧ ∀ (i : Nat) (t : Sp) (q : Rat), ts_1[i]? = some t → qs[i]? = some q → Sp.lo t ≤ q ∧ q ≤ Sp.hi t) ∧ ∀ (ls : List LoV) (l : LoV), ls ++ [l] = spreadV (loBase a_1) (ArmV.links a_1) ts_1 → List.length ls = List.length (ArmV.links a_1) → (∃ (x : HbX), ((HbI a ts x ∧ HbX.i x ≤ List.length (ArmV.links a)) ∧ OfNat.ofNat (0 : Nat) = (0 : Nat)) ∧ (0 : Nat) = (0 : Nat) ∧ (24 : Nat) = (24 : Nat) ∧ List.map (loN (240000 : Nat)) ls ++ [[Ch.r (Sp.lo (LoV.x l)) (lb (List.length (ArmV.links a_1))), Ch.r (Sp.hi (LoV.x l)) (lb (List.length (ArmV.links a_1))), Ch.r (Sp.lo (LoV.y l)) (lb (List.length (ArmV.links a_1))), Ch.r (Sp.hi (LoV.y l)) (lb (List.length (ArmV.links a_1))), Ch.r (Sp.lo (LoV.c l)) (lb (List.length (ArmV.links a_1))), Ch.r (Sp.hi (LoV.c l)) (lb (List.length (ArmV.links a_1))), Ch.r (Sp.lo (LoV.s l)) (lb (List.length (ArmV.links a_1))), Ch.r (Sp.hi (LoV.s l)) (lb (List.length (ArmV.links a_1)))]] = losR a (HbX.ls x) (HbX.l x) ∧ Value.slice none (0 : Nat) (0 : Nat) = Value.slice none (0 : Nat) (0 : Nat) ∧ (0 : Nat) = (0 : Nat) ∧ HbX.i x = (0 : Nat) ∧ (16 : Nat) = (16 : Nat) ∧ List.map linkCh (ArmV.links a) = List.map linkCh (ArmV.links a) ∧ Int.ofNat (List.length (List.map linkCh (ArmV.links a))) = Int.ofNat (List.length (ArmV.links a)) ∧ (0 : Int) = Int.ofNat (HbX.i x) ∧ (44 : Nat) = (44 : Nat) ∧ ArmV.name a = ArmV.name a ∧ ArmV.x a = ArmV.x a ∧ (63 : Nat) ≤ (63 : Nat) ∧ ArmV.y a = ArmV.y a ∧ (63 : Nat) ≤ (63 : Nat) ∧ ArmV.half a = ArmV.half a ∧ ArmV.t a = ArmV.t a ∧ (63 : Nat) ≤ (63 : Nat) ∧ (16 : Nat) = (16 : Nat) ∧ List.map linkCh (ArmV.links a) = List.map linkCh (ArmV.links a) ∧ List.map (bx4 (800000 : Nat)) (List.take (HbX.i x) (boxesV (HbX.ls x) (ArmV.links a))) = [] ∧ True) ∧ ∀ (x : HbX), HbI a ts x ∧ HbX.i x ≤ List.length (ArmV.links a) → OfNat.ofNat (0 : Nat) = (0 : Nat) → bif decide (Int.ofNat (HbX.i x) < Int.ofNat (List.length (ArmV.links a))) then ((0 : Int) ≤ Int.ofNat (HbX.i x) ∧ Int.ofNat (HbX.i x) < Int.ofNat (List.length (List.map linkCh (ArmV.links a)))) ∧ ∃ (q : Rat), ∃ (n : Nat), ∃ (q_1 : Rat), ∃ (n_1 : Nat), ∃ (q_2 : Rat), ∃ (n_2 : Nat), ∃ (q_3 : Rat), ∃ (n_3 : Nat), ∃ (q_4 : Rat), ∃ (n_4 : Nat), ∃ (ys : List (List Ch)), ldE (List.map linkCh (ArmV.links a)) (Int.toNat (Int.ofNat (HbX.i x))) (0 : Nat) (16 : Nat) = some [Ch.r q n, Ch.r q_1 n_1, Ch.r q_2 n_2, Ch.r q_3 n_3, Ch.r q_4 n_4, Ch.s (6 : Nat) ys] ∧ ((0 : Int) ≤ Int.ofNat (HbX.i x) ∧ Int.ofNat (HbX.i x) < Int.ofNat (List.length (losR a (HbX.ls x) (HbX.l x)))) ∧ ∃ (q_5 : Rat), ∃ (n_5 : Nat), ∃ (q_6 : Rat), ∃ (n_6 : Nat), ∃ (q_7 : Rat), ∃ (n_7 : Nat), ∃ (q_8 : Rat), ∃ (n_8 : Nat), ∃ (q_9 : Rat), ∃ (n_9 : Nat), ∃ (q_10 : Rat), ∃ (n_10 : Nat), ∃ (q_11 : Rat), ∃ (n_11 : Nat), ∃ (q_12 : Rat), ∃ (n_12 : Nat), ldE (losR a (HbX.ls x) (HbX.l x)) (Int.toNat (Int.ofNat (HbX.i x))) (0 : Nat) (24 : Nat) = some [Ch.r q_5 n_5, Ch.r q_6 n_6, Ch.r q_7 n_7, Ch.r q_8 n_8, Ch.r q_9 n_9, Ch.r q_10 n_10, Ch.r q_11 n_11, Ch.r q_12 n_12] ∧ ((0 : Int) ≤ (0 : Int) ∧ (0 : Int) < Int.ofNat (List.length ys)) ∧ ∃ (q_13 : Rat), ∃ (n_13 : Nat), ∃ (q_14 : Rat), ∃ (n_14 : Nat), ldE ys (0 : Nat) (0 : Nat) (6 : Nat) = some [Ch.r q_13 n_13, Ch.r q_14 n_14] ∧ ∃ (l : LoV), ∃ (n_15 : Nat), ∃ (p : Rat × Rat), ∃ (f : FrV), [Ch.r q_5 n_5, Ch.r q_6 n_6, Ch.r q_7 n_7, Ch.r q_8 n_8, Ch.r q_9 n_9, Ch.r q_10 n_10, Ch.r q_11 n_11, Ch.r q_12 n_12] = [Ch.r (Sp.lo (LoV.x l)) n_15, Ch.r (Sp.hi (LoV.x l)) n_15, Ch.r (Sp.lo (LoV.y l)) n_15, Ch.r (Sp.hi (LoV.y l)) n_15, Ch.r (Sp.lo (LoV.c l)) n_15, Ch.r (Sp.hi (LoV.c l)) n_15, Ch.r (Sp.lo (LoV.s l)) n_15, Ch.r (Sp.hi (LoV.s l)) n_15] ∧ [Ch.r q_13 n_13, Ch.r q_14 n_14] = [Ch.r (Prod.fst p) (63 : Nat), Ch.r (Prod.snd p) (63 : Nat)] ∧ (n_15 ≤ (1000000 : Nat) ∧ LoV.has l f) ∧ ∀ (a_6 b : Nat), a_6 ≤ (3 : Nat) * n_15 + (300 : Nat) → b ≤ (3 : Nat) * n_15 + (300 : Nat) → ((0 : Int) ≤ (1 : Int) ∧ (1 : Int) ≤ Int.ofNat (List.length ys) ∧ Int.ofNat (List.length ys) ≤ Int.ofNat (List.length ys)) ∧ (∃ (x_1 : HbX), (((HbI a ts x_1 ∧ HbX.i x_1 < List.length (ArmV.links a) ∧ HbX.j x_1 ≤ List.length (List.tail (LinkV.shape (List.getD (ArmV.links a) (HbX.i x_1) zLk)))) ∧ (Sp.lo (HbX.x x_1) ≤ Sp.hi (HbX.x x_1) ∧ Sp.lo (HbX.y x_1) ≤ Sp.hi (HbX.y x_1)) ∧ hX (List.getD (HbX.ls x_1) (HbX.i x_1) zLo) (List.drop (HbX.j x_1) (List.tail (LinkV.shape (List.getD (ArmV.links a) (HbX.i x_1) zLk)))) (HbX.x x_1) = Prod.fst (hX (List.getD (HbX.ls x_1) (HbX.i x_1) zLo) (List.tail (LinkV.shape (List.getD (ArmV.links a) (HbX.i x_1) zLk))) (atX (List.getD (HbX.ls x_1) (HbX.i x_1) zLo) (List.headD (LinkV.shape (List.getD (ArmV.links a) (HbX.i x_1) zLk)) (OfNat.ofNat (0 : Nat), OfNat.ofNat (0 : Nat)))), hY (List.getD (HbX.ls x_1) (HbX.i x_1) zLo) (List.tail (LinkV.shape (List.getD (ArmV.links a) (HbX.i x_1) zLk))) (atY (List.getD (HbX.ls x_1) (HbX.i x_1) zLo) (List.headD (LinkV.shape (List.getD (ArmV.links a) (HbX.i x_1) zLk)) (OfNat.ofNat (0 : Nat), OfNat.ofNat (0 : Nat))))) ∧ hY (List.getD (HbX.ls x_1) (HbX.i x_1) zLo) (List.drop (HbX.j x_1) (List.tail (LinkV.shape (List.getD (ArmV.links a) (HbX.i x_1) zLk)))) (HbX.y x_1) = Prod.snd (hX (List.getD (HbX.ls x_1) (HbX.i x_1) zLo) (List.tail (LinkV.shape (List.getD (ArmV.links a) (HbX.i x_1) zLk))) (atX (List.getD (HbX.ls x_1) (HbX.i x_1) zLo) (List.headD (LinkV.shape (List.getD (ArmV.links a) (HbX.i x_1) zLk)) (OfNat.ofNat (0 : Nat), OfNat.ofNat (0 : Nat)))), hY (List.getD (HbX.ls x_1) (HbX.i x_1) zLo) (List.tail (LinkV.shape (List.getD (ArmV.links a) (HbX.i x_1) zLk))) (atY (List.getD (HbX.ls x_1) (HbX.i x_1) zLo) (List.headD (LinkV.shape (List.getD (ArmV.links a) (HbX.i x_1) zLk)) (OfNat.ofNat (0 : Nat), OfNat.ofNat (0 : Nat)))))) ∧ List.length (ArmV.links a) - HbX.i x_1 = List.length (ArmV.links a) - HbX.i x) ∧ (0 : Nat) = (0 : Nat) ∧ (24 : Nat) = (24 : Nat) ∧ losR a (HbX.ls x) (HbX.l x) = losR a (HbX.ls x_1) (HbX.l x_1) ∧ (0 : Nat) = (0 : Nat) ∧ HbX.i x = HbX.i x_1 ∧ Int.ofNat (HbX.i x) = Int.ofNat (HbX.i x_1) ∧ (0 : Nat) = (0 : Nat) ∧ (0 : Nat) = (0 : Nat) ∧ (0 : Nat) = (0 : Nat) ∧ (16 : Nat) = (16 : Nat) ∧ List.map linkCh (ArmV.links a) = List.map linkCh (ArmV.links a) ∧ Int.ofNat (List.length (ArmV.links a)) = Int.ofNat (List.length (ArmV.links a)) ∧ Int.ofNat (HbX.i x) = Int.ofNat (HbX.i x_1) ∧ (6 : Nat) = (6 : Nat) ∧ List.take (Int.toNat (Int.ofNat (List.length ys)) - (1 : Nat)) (List.drop (1 : Nat) ys) = List.map vecCh (List.tail (LinkV.shape (List.getD (ArmV.links a) (HbX.i x_1) zLk))) ∧ Int.ofNat (List.length (List.take (Int.toNat (Int.ofNat (List.length ys)) - (1 : Nat)) (List.drop (1 : Nat) ys))) = Int.ofNat (List.length (List.tail (LinkV.shape (List.getD (ArmV.links a) (HbX.i x_1) zLk)))) ∧ (0 : Int) = Int.ofNat (HbX.j x_1) ∧ (44 : Nat) = (44 : Nat) ∧ ArmV.name a = ArmV.name a ∧ ArmV.x a = ArmV.x a ∧ (63 : Nat) ≤ (63 : Nat) ∧ ArmV.y a = ArmV.y a ∧ (63 : Nat) ≤ (63 : Nat) ∧ ArmV.half a = ArmV.half a ∧ ArmV.t a = ArmV.t a ∧ (63 : Nat) ≤ (63 : Nat) ∧ (16 : Nat) = (16 : Nat) ∧ List.map linkCh (ArmV.links a) = List.map linkCh (ArmV.links a) ∧ (117 : Nat) = (117 : Nat) ∧ q = LinkV.len (List.getD (ArmV.links a) (HbX.i x_1) zLk) ∧ n ≤ (63 : Nat) ∧ q_1 = LinkV.lo (List.getD (ArmV.links a) (HbX.i x_1) zLk) ∧ n_1 ≤ (63 : Nat) ∧ q_2 = LinkV.hi (List.getD (ArmV.links a) (HbX.i x_1) zLk) ∧ n_2 ≤ (63 : Nat) ∧ q_3 = LinkV.sp (List.getD (ArmV.links a) (HbX.i x_1) zLk) ∧ n_3 ≤ (63 : Nat) ∧ q_4 = LinkV.br (List.getD (ArmV.links a) (HbX.i x_1) zLk) ∧ n_4 ≤ (63 : Nat) ∧ (6 : Nat) = (6 : Nat) ∧ ys = List.map vecCh (LinkV.shape (List.getD (ArmV.links a) (HbX.i x_1) zLk)) ∧ (58 : Nat) = (58 : Nat) ∧ Sp.lo (atX l p) = Sp.lo (HbX.x x_1) ∧ a_6 ≤ (800000 : Nat) ∧ Sp.hi (atX l p) = Sp.hi (HbX.x x_1) ∧ a_6 ≤ (800000 : Nat) ∧ (58 : Nat) = (58 : Nat) ∧ Sp.lo (atY l p) = Sp.lo (HbX.y x_1) ∧ b ≤ (800000 : Nat) ∧ Sp.hi (atY l p) = Sp.hi (HbX.y x_1) ∧ b ≤ (800000 : Nat) ∧ (69 : Nat) = (69 : Nat) ∧ (12 : Nat) = (12 : Nat) ∧ (List.map (bx4 (800000 : Nat)) (List.take (HbX.i x) (boxesV (HbX.ls x) (ArmV.links a))) = List.map (bx4 (800000 : Nat)) (List.take (HbX.i x_1) (boxesV (HbX.ls x_1) (ArmV.links a))) ∨ RowLE (List.map (bx4 (800000 : Nat)) (List.take (HbX.i x) (boxesV (HbX.ls x) (ArmV.links a)))) (List.map (bx4 (800000 : Nat)) (List.take (HbX.i x_1) (boxesV (HbX.ls x_1) (ArmV.links a))))) ∧ True) ∧ ∀ (x_1 : HbX), (HbI a ts x_1 ∧ HbX.i x_1 < List.length (ArmV.links a) ∧ HbX.j x_1 ≤ List.length (List.tail (LinkV.shape (List.getD (ArmV.links a) (HbX.i x_1) zLk)))) ∧ (Sp.lo (HbX.x x_1) ≤ Sp.hi (HbX.x x_1) ∧ Sp.lo (HbX.y x_1) ≤ Sp.hi (HbX.y x_1)) ∧ hX (List.getD (HbX.ls x_1) (HbX.i x_1) zLo) (List.drop (HbX.j x_1) (List.tail (LinkV.shape (List.getD (ArmV.links a) (HbX.i x_1) zLk)))) (HbX.x x_1) = Prod.fst (hX (List.getD (HbX.ls x_1) (HbX.i x_1) zLo) (List.tail (LinkV.shape (List.getD (ArmV.links a) (HbX.i x_1) zLk))) (atX (List.getD (HbX.ls x_1) (HbX.i x_1) zLo) (List.headD (LinkV.shape (List.getD (ArmV.links a) (HbX.i x_1) zLk)) (OfNat.ofNat (0 : Nat), OfNat.ofNat (0 : Nat)))), hY (List.getD (HbX.ls x_1) (HbX.i x_1) zLo) (List.tail (LinkV.shape (List.getD (ArmV.links a) (HbX.i x_1) zLk))) (atY (List.getD (HbX.ls x_1) (HbX.i x_1) zLo) (List.headD (LinkV.shape (List.getD (ArmV.links a) (HbX.i x_1) zLk)) (OfNat.ofNat (0 : Nat), OfNat.ofNat (0 : Nat))))) ∧ hY (List.getD (HbX.ls x_1) (HbX.i x_1) zLo) (List.drop (HbX.j x_1) (List.tail (LinkV.shape (List.getD (ArmV.links a) (HbX.i x_1) zLk)))) (HbX.y x_1) = Prod.snd (hX (List.getD (HbX.ls x_1) (HbX.i x_1) zLo) (List.tail (LinkV.shape (List.getD (ArmV.links a) (HbX.i x_1) zLk))) (atX (List.getD (HbX.ls x_1) (HbX.i x_1) zLo) (List.headD (LinkV.shape (List.getD (ArmV.links a) (HbX.i x_1) zLk)) (OfNat.ofNat (0 : Nat), OfNat.ofNat (0 : Nat)))), hY (List.getD (HbX.ls x_1) (HbX.i x_1) zLo) (List.tail (LinkV.shape (List.getD (ArmV.links a) (HbX.i x_1) zLk))) (atY (List.getD (HbX.ls x_1) (HbX.i x_1) zLo) (List.headD (LinkV.shape (List.getD (ArmV.links a) (HbX.i x_1) zLk)) (OfNat.ofNat (0 : Nat), OfNat.ofNat (0 : Nat))))) → List.length (ArmV.links a) - HbX.i x_1 = List.length (ArmV.links a) - HbX.i x → bif decide (Int.ofNat (HbX.j x_1) < Int.ofNat (List.length (List.tail (LinkV.shape (List.getD (ArmV.links a) (HbX.i x_1) zLk))))) then ((0 : Int) ≤ Int.ofNat (HbX.j x_1) ∧ Int.ofNat (HbX.j x_1) < Int.ofNat (List.length (List.map vecCh (List.tail (LinkV.shape (List.getD (ArmV.links a) (HbX.i x_1) zLk)))))) ∧ ∃ (q : Rat), ∃ (n : Nat), ∃ (q_15 : Rat), ∃ (n_16 : Nat), ldE (List.map vecCh (List.tail (LinkV.shape (List.getD (ArmV.links a) (HbX.i x_1) zLk)))) (Int.toNat (Int.ofNat (HbX.j x_1))) (0 : Nat) (6 : Nat) = some [Ch.r q n, Ch.r q_15 n_16] ∧ ((0 : Int) ≤ Int.ofNat (HbX.i x_1) ∧ Int.ofNat (HbX.i x_1) < Int.ofNat (List.length (losR a (HbX.ls x_1) (HbX.l x_1)))) ∧ ∃ (q_16 : Rat), ∃ (n_17 : Nat), ∃ (q_17 : Rat), ∃ (n_18 : Nat), ∃ (q_18 : Rat), ∃ (n_19 : Nat), ∃ (q_19 : Rat), ∃ (n_20 : Nat), ∃ (q_20 : Rat), ∃ (n_21 : Nat), ∃ (q_21 : Rat), ∃ (n_22 : Nat), ∃ (q_22 : Rat), ∃ (n_23 : Nat), ∃ (q_23 : Rat), ∃ (n_24 : Nat), ldE (losR a (HbX.ls x_1) (HbX.l x_1)) (Int.toNat (Int.ofNat (HbX.i x_1))) (0 : Nat) (24 : Nat) = some [Ch.r q_16 n_17, Ch.r q_17 n_18, Ch.r q_18 n_19, Ch.r q_19 n_20, Ch.r q_20 n_21, Ch.r q_21 n_22, Ch.r q_22 n_23, Ch.r q_23 n_24] ∧ ∃ (l : LoV), ∃ (n_25 : Nat), ∃ (p : Rat × Rat), ∃ (f : FrV), [Ch.r q_16 n_17, Ch.r q_17 n_18, Ch.r q_18 n_19, Ch.r q_19 n_20, Ch.r q_20 n_21, Ch.r q_21 n_22, Ch.r q_22 n_23, Ch.r q_23 n_24] = [Ch.r (Sp.lo (LoV.x l)) n_25, Ch.r (Sp.hi (LoV.x l)) n_25, Ch.r (Sp.lo (LoV.y l)) n_25, Ch.r (Sp.hi (LoV.y l)) n_25, Ch.r (Sp.lo (LoV.c l)) n_25, Ch.r (Sp.hi (LoV.c l)) n_25, Ch.r (Sp.lo (LoV.s l)) n_25, Ch.r (Sp.hi (LoV.s l)) n_25] ∧ [Ch.r q n, Ch.r q_15 n_16] = [Ch.r (Prod.fst p) (63 : Nat), Ch.r (Prod.snd p) (63 : Nat)] ∧ (n_25 ≤ (1000000 : Nat) ∧ LoV.has l f) ∧ ∀ (a_11 b : Nat), a_11 ≤ (3 : Nat) * n_25 + (300 : Nat) → b ≤ (3 : Nat) * n_25 + (300 : Nat) → ((1600000 : Nat) + a_11 + a_11 ≤ (4294967290 : Nat) ∧ Sp.lo (HbX.x x_1) ≤ Sp.hi (HbX.x x_1) ∧ Sp.lo (atX l p) ≤ Sp.hi (atX l p)) ∧ ((1600000 : Nat) + b + b ≤ (4294967290 : Nat) ∧ Sp.lo (HbX.y x_1) ≤ Sp.hi (HbX.y x_1) ∧ Sp.lo (atY l p) ≤ Sp.hi (atY l p)) ∧ ∃ (x' : HbX), (((HbI a ts x' ∧ HbX.i x' < List.length (ArmV.links a) ∧ HbX.j x' ≤ List.length (List.tail (LinkV.shape (List.getD (ArmV.links a) (HbX.i x') zLk)))) ∧ (Sp.lo (HbX.x x') ≤ Sp.hi (HbX.x x') ∧ Sp.lo (HbX.y x') ≤ Sp.hi (HbX.y x')) ∧ hX (List.getD (HbX.ls x') (HbX.i x') zLo) (List.drop (HbX.j x') (List.tail (LinkV.shape (List.getD (ArmV.links a) (HbX.i x') zLk)))) (HbX.x x') = Prod.fst (hX (List.getD (HbX.ls x') (HbX.i x') zLo) (List.tail (LinkV.shape (List.getD (ArmV.links a) (HbX.i x') zLk))) (atX (List.getD (HbX.ls x') (HbX.i x') zLo) (List.headD (LinkV.shape (List.getD (ArmV.links a) (HbX.i x') zLk)) (OfNat.ofNat (0 : Nat), OfNat.ofNat (0 : Nat)))), hY (List.getD (HbX.ls x') (HbX.i x') zLo) (List.tail (LinkV.shape (List.getD (ArmV.links a) (HbX.i x') zLk))) (atY (List.getD (HbX.ls x') (HbX.i x') zLo) (List.headD (LinkV.shape (List.getD (ArmV.links a) (HbX.i x') zLk)) (OfNat.ofNat (0 : Nat), OfNat.ofNat (0 : Nat))))) ∧ hY (List.getD (HbX.ls x') (HbX.i x') zLo) (List.drop (HbX.j x') (List.tail (LinkV.shape (List.getD (ArmV.links a) (HbX.i x') zLk)))) (HbX.y x') = Prod.snd (hX (List.getD (HbX.ls x') (HbX.i x') zLo) (List.tail (LinkV.shape (List.getD (ArmV.links a) (HbX.i x') zLk))) (atX (List.getD (HbX.ls x') (HbX.i x') zLo) (List.headD (LinkV.shape (List.getD (ArmV.links a) (HbX.i x') zLk)) (OfNat.ofNat (0 : Nat), OfNat.ofNat (0 : Nat)))), hY (List.getD (HbX.ls x') (HbX.i x') zLo) (List.tail (LinkV.shape (List.getD (ArmV.links a) (HbX.i x') zLk))) (atY (List.getD (HbX.ls x') (HbX.i x') zLo) (List.headD (LinkV.shape (List.getD (ArmV.links a) (HbX.i x') zLk)) (OfNat.ofNat (0 : Nat), OfNat.ofNat (0 : Nat)))))) ∧ List.length (ArmV.links a) - HbX.i x' = List.length (ArmV.links a) - HbX.i x ∧ List.length (List.tail (LinkV.shape (List.getD (ArmV.links a) (HbX.i x') zLk))) - HbX.j x' < List.length (List.tail (LinkV.shape (List.getD (ArmV.links a) (HbX.i x_1) zLk))) - HbX.j x_1) ∧ (0 : Nat) = (0 : Nat) ∧ (24 : Nat) = (24 : Nat) ∧ losR a (HbX.ls x_1) (HbX.l x_1) = losR a (HbX.ls x') (HbX.l x') ∧ (0 : Nat) = (0 : Nat) ∧ HbX.i x_1 = HbX.i x' ∧ Int.ofNat (HbX.i x_1) = Int.ofNat (HbX.i x') ∧ (0 : Nat) = (0 : Nat) ∧ (0 : Nat) = (0 : Nat) ∧ (0 : Nat) = (0 : Nat) ∧ (16 : Nat) = (16 : Nat) ∧ List.map linkCh (ArmV.links a) = List.map linkCh (ArmV.links a) ∧ Int.ofNat (List.length (ArmV.links a)) = Int.ofNat (List.length (ArmV.links a)) ∧ Int.ofNat (HbX.i x_1) = Int.ofNat (HbX.i x') ∧ (6 : Nat) = (6 : Nat) ∧ List.map vecCh (List.tail (LinkV.shape (List.getD (ArmV.links a) (HbX.i x_1) zLk))) = List.map vecCh (List.tail (LinkV.shape (List.getD (ArmV.links a) (HbX.i x') zLk))) ∧ Int.ofNat (List.length (List.tail (LinkV.shape (List.getD (ArmV.links a) (HbX.i x_1) zLk)))) = Int.ofNat (List.length (List.tail (LinkV.shape (List.getD (ArmV.links a) (HbX.i x') zLk)))) ∧ IntKind.wrap IntKind.i64 (Int.ofNat (HbX.j x_1) + (1 : Int)) = Int.ofNat (HbX.j x') ∧ (44 : Nat) = (44 : Nat) ∧ ArmV.name a = ArmV.name a ∧ ArmV.x a = ArmV.x a ∧ (63 : Nat) ≤ (63 : Nat) ∧ ArmV.y a = ArmV.y a ∧ (63 : Nat) ≤ (63 : Nat) ∧ ArmV.half a = ArmV.half a ∧ ArmV.t a = ArmV.t a ∧ (63 : Nat) ≤ (63 : Nat) ∧ (16 : Nat) = (16 : Nat) ∧ List.map linkCh (ArmV.links a) = List.map linkCh (ArmV.links a) ∧ (117 : Nat) = (117 : Nat) ∧ LinkV.len (List.getD (ArmV.links a) (HbX.i x_1) zLk) = LinkV.len (List.getD (ArmV.links a) (HbX.i x') zLk) ∧ (63 : Nat) ≤ (63 : Nat) ∧ LinkV.lo (List.getD (ArmV.links a) (HbX.i x_1) zLk) = LinkV.lo (List.getD (ArmV.links a) (HbX.i x') zLk) ∧ (63 : Nat) ≤ (63 : Nat) ∧ LinkV.hi (List.getD (ArmV.links a) (HbX.i x_1) zLk) = LinkV.hi (List.getD (ArmV.links a) (HbX.i x') zLk) ∧ (63 : Nat) ≤ (63 : Nat) ∧ LinkV.sp (List.getD (ArmV.links a) (HbX.i x_1) zLk) = LinkV.sp (List.getD (ArmV.links a) (HbX.i x') zLk) ∧ (63 : Nat) ≤ (63 : Nat) ∧ LinkV.br (List.getD (ArmV.links a) (HbX.i x_1) zLk) = LinkV.br (List.getD (ArmV.links a) (HbX.i x') zLk) ∧ (63 : Nat) ≤ (63 : Nat) ∧ (6 : Nat) = (6 : Nat) ∧ List.map vecCh (LinkV.shape (List.getD (ArmV.links a) (HbX.i x_1) zLk)) = List.map vecCh (LinkV.shape (List.getD (ArmV.links a) (HbX.i x') zLk)) ∧ (58 : Nat) = (58 : Nat) ∧ minR (Sp.lo (HbX.x x_1)) (Sp.lo (atX l p)) = Sp.lo (HbX.x x') ∧ max (800000 : Nat) a_11 ≤ (800000 : Nat) ∧ maxR (Sp.hi (HbX.x x_1)) (Sp.hi (atX l p)) = Sp.hi (HbX.x x') ∧ max (800000 : Nat) a_11 ≤ (800000 : Nat) ∧ (58 : Nat) = (58 : Nat) ∧ minR (Sp.lo (HbX.y x_1)) (Sp.lo (atY l p)) = Sp.lo (HbX.y x') ∧ max (800000 : Nat) b ≤ (800000 : Nat) ∧ maxR (Sp.hi (HbX.y x_1)) (Sp.hi (atY l p)) = Sp.hi (HbX.y x') ∧ max (800000 : Nat) b ≤ (800000 : Nat) ∧ (69 : Nat) = (69 : Nat) ∧ (12 : Nat) = (12 : Nat) ∧ (List.map (bx4 (800000 : Nat)) (List.take (HbX.i x_1) (boxesV (HbX.ls x_1) (ArmV.links a))) = List.map (bx4 (800000 : Nat)) (List.take (HbX.i x') (boxesV (HbX.ls x') (ArmV.links a))) ∨ RowLE (List.map (bx4 (800000 : Nat)) (List.take (HbX.i x_1) (boxesV (HbX.ls x_1) (ArmV.links a)))) (List.map (bx4 (800000 : Nat)) (List.take (HbX.i x') (boxesV (HbX.ls x') (ArmV.links a))))) ∧ True else True ∧ ((HbX.i x_1 + (1 : Nat)) * (160 : Nat) ≤ (140737488355328 : Nat) ∧ HbX.i x_1 + (1 : Nat) ≤ (9223372036854775807 : Nat)) ∧ ∃ (x' : HbX), ((HbI a ts x' ∧ HbX.i x' ≤ List.length (ArmV.links a)) ∧ OfNat.ofNat (0 : Nat) = (0 : Nat) ∧ List.length (ArmV.links a) - HbX.i x' < List.length (ArmV.links a) - HbX.i x) ∧ (0 : Nat) = (0 : Nat) ∧ (24 : Nat) = (24 : Nat) ∧ losR a (HbX.ls x_1) (HbX.l x_1) = losR a (HbX.ls x') (HbX.l x') ∧ (0 : Nat) = (0 : Nat) ∧ HbX.i x_1 + (1 : Nat) = HbX.i x' ∧ (16 : Nat) = (16 : Nat) ∧ List.map linkCh (ArmV.links a) = List.map linkCh (ArmV.links a) ∧ Int.ofNat (List.length (ArmV.links a)) = Int.ofNat (List.length (ArmV.links a)) ∧ IntKind.wrap IntKind.i64 (Int.ofNat (HbX.i x_1) + (1 : Int)) = Int.ofNat (HbX.i x') ∧ (44 : Nat) = (44 : Nat) ∧ ArmV.name a = ArmV.name a ∧ ArmV.x a = ArmV.x a ∧ (63 : Nat) ≤ (63 : Nat) ∧ ArmV.y a = ArmV.y a ∧ (63 : Nat) ≤ (63 : Nat) ∧ ArmV.half a = ArmV.half a ∧ ArmV.t a = ArmV.t a ∧ (63 : Nat) ≤ (63 : Nat) ∧ (16 : Nat) = (16 : Nat) ∧ List.map linkCh (ArmV.links a) = List.map linkCh (ArmV.links a) ∧ (69 : Nat) = (69 : Nat) ∧ (12 : Nat) = (12 : Nat) ∧ (List.take (HbX.i x_1) (List.map (bx4 (800000 : Nat)) (List.take (HbX.i x_1) (boxesV (HbX.ls x_1) (ArmV.links a)))) ++ [[Ch.r (Sp.lo (HbX.x x_1)) (800000 : Nat), Ch.r (Sp.lo (HbX.y x_1)) (800000 : Nat), Ch.r (Sp.hi (HbX.x x_1)) (800000 : Nat), Ch.r (Sp.hi (HbX.y x_1)) (800000 : Nat)]] = List.map (bx4 (800000 : Nat)) (List.take (HbX.i x') (boxesV (HbX.ls x') (ArmV.links a))) ∨ RowLE (List.take (HbX.i x_1) (List.map (bx4 (800000 : Nat)) (List.take (HbX.i x_1) (boxesV (HbX.ls x_1) (ArmV.links a)))) ++ [[Ch.r (Sp.lo (HbX.x x_1)) (800000 : Nat), Ch.r (Sp.lo (HbX.y x_1)) (800000 : Nat), Ch.r (Sp.hi (HbX.x x_1)) (800000 : Nat), Ch.r (Sp.hi (HbX.y x_1)) (800000 : Nat)]]) (List.map (bx4 (800000 : Nat)) (List.take (HbX.i x') (boxesV (HbX.ls x') (ArmV.links a))))) ∧ True else K (AV.t [(false, [Ch.s (12 : Nat) (List.take (HbX.i x) (List.drop (0 : Nat) (List.map (bx4 (800000 : Nat)) (List.take (HbX.i x) (boxesV (HbX.ls x) (ArmV.links a))))))]), (false, [Ch.v (Value.int IntKind.i64 (0 : Int))])])) := by kernel_rfl
theorem g_hBoxes (a : ArmV) (B : Nat) (ts : List Sp) (qs : List Rat) (hc : (GoodArm a) ∧ (B ≤ 400 ∧ ts.length = a.links.length) ∧ (HasQ ts qs)) (K : AV → Prop) (hK : ∀ (ls : List LoV) (l : LoV), ls ++ [l] = spreadV (loBase a) a.links ts → ls.length = a.links.length → K (.t [(false, [.s 12 ((boxesV ls a.links).map (bx4 800000))]), (false, [.v (.int .i64 0)])])) : Holds (goal_hBoxes a B ts qs K) := by
  refine ⟨?_⟩
  rw [goal_hBoxes_vc]
  try simp only [Int.ofNat_eq_natCast, true_and, and_true, Nat.zero_add, Nat.le_refl, true_implies, true_or, or_true]
  obtain ⟨hg, ⟨hB, hts⟩, hq⟩ := hc
  have hn := hg.n
  have hqs := hq.1
  have fl := frames_len a.links qs (baseV a) (by omega)
  refine ⟨a, B, ts, qs, rfl, rfl, ⟨hg, ⟨hB, hts⟩, hq⟩, fun ls l he hl => ⟨⟨⟨ls, l, spOf 0, spOf 0, 0, 0⟩, ⟨⟨he, hl⟩, by simp⟩, rfl, rfl, by simp, rfl, rfl⟩, fun x hx => bif_mk (fun hp => ?_) (fun hp => ?_)⟩⟩
  · have hp : x.i < a.links.length := by have := of_decide_eq_true hp; omega
    have hxl := hx.1.len
    obtain ⟨L, hL⟩ : ∃ L, a.links[x.i]? = some L := ⟨_, List.getElem?_eq_getElem hp⟩
    obtain ⟨y, hy⟩ : ∃ y, x.ls[x.i]? = some y := ⟨_, List.getElem?_eq_getElem (by omega)⟩
    obtain ⟨g, hgx⟩ : ∃ g, (framesV (baseV a) a.links qs)[x.i]? = some g := ⟨_, List.getElem?_eq_getElem (by omega)⟩
    have hy2 : (x.ls ++ [x.l])[x.i]? = some y := by rw [List.getElem?_append_left (by omega)]; exact hy
    obtain ⟨m, hm, ld⟩ := los_ld hn.2 hy2
    rw [hx.1.eq] at hy2
    have hh := spread_has a.links ts qs (loBase a) (baseV a) (base_has a) hq x.i y g hy2 hgx
    have gL : a.links.getD x.i zLk = L := gD_of hL
    have gS : x.ls.getD x.i zLo = y := gD_of hy
    have hpo := (hg.links L (List.mem_of_getElem? hL)).poly
    have p1 := hpo.lo
    have p2 := hpo.hi
    obtain ⟨p0, hp0⟩ : ∃ p, L.shape[0]? = some p := ⟨_, List.getElem?_eq_getElem (by omega)⟩
    have tl : L.shape.tail.length = L.shape.length - 1 := List.length_tail
    have et : List.take (((L.shape.map vecCh).length : Int).toNat - 1) (List.drop 1 (L.shape.map vecCh)) = L.shape.tail.map vecCh := by
      rw [Int.toNat_natCast, List.length_map, List.drop_one, ← List.map_tail, List.take_of_length_le (by simp)]
    refine ⟨by rw [List.length_map]; omega, _, _, _, _, _, _, _, _, _, _, _, link_ld (by simpa using hL), by rw [losR_len]; omega, _, _, _, _, _, _, _, _, _, _, _, _, _, _, _, _, by rw [Int.toNat_natCast]; exact ld, by rw [List.length_map]; omega, _, _, _, _, vec_ld (i := 0) hp0, y, m, p0, g, rfl, rfl, ⟨by omega, hh⟩, fun b1 b2 h1 h2 => ⟨by rw [List.length_map]; omega, ⟨⟨x.ls, x.l, atX y p0, atY y p0, x.i, 0⟩, ⟨⟨⟨⟨hx.1.eq, hxl⟩, hp, by simp⟩, ⟨(atX_has hh p0).ok, (atY_has hh p0).ok⟩, ?_, ?_⟩, rfl⟩, rfl, rfl, rfl, rfl, by rw [gL]; exact et, by rw [et, gL, List.length_map], rfl, by rw [gL], Nat.le_refl _, by rw [gL], Nat.le_refl _, by rw [gL], Nat.le_refl _, by rw [gL], Nat.le_refl _, by rw [gL], Nat.le_refl _, by rw [gL], rfl, by omega, rfl, by omega, rfl, by omega, rfl, by omega, .inl rfl⟩, fun z hz hzt => bif_mk (fun hk => ?_) (fun hk => ?_)⟩⟩
    · show hX (x.ls.getD x.i zLo) ((a.links.getD x.i zLk).shape.tail.drop 0) (atX y p0) = (hullV (x.ls.getD x.i zLo) (a.links.getD x.i zLk)).1
      rw [gL, gS, List.drop_zero]
      unfold hullV
      rw [head_of hp0]
    · show hY (x.ls.getD x.i zLo) ((a.links.getD x.i zLk).shape.tail.drop 0) (atY y p0) = (hullV (x.ls.getD x.i zLo) (a.links.getD x.i zLk)).2
      rw [gL, gS, List.drop_zero]
      unfold hullV
      rw [head_of hp0]
    · have hk : z.j < (a.links.getD z.i zLk).shape.tail.length := by have := of_decide_eq_true hk; omega
      obtain ⟨⟨hzI, hzi, hzj⟩, ⟨ox, oy⟩, ex, ey⟩ := hz
      have hzl := hzI.len
      obtain ⟨M, hM⟩ : ∃ M, a.links[z.i]? = some M := ⟨_, List.getElem?_eq_getElem hzi⟩
      obtain ⟨w, hw⟩ : ∃ w, z.ls[z.i]? = some w := ⟨_, List.getElem?_eq_getElem (by omega)⟩
      obtain ⟨e, hex⟩ : ∃ g, (framesV (baseV a) a.links qs)[z.i]? = some g := ⟨_, List.getElem?_eq_getElem (by omega)⟩
      have hw2 : (z.ls ++ [z.l])[z.i]? = some w := by rw [List.getElem?_append_left (by omega)]; exact hw
      obtain ⟨m', hm', ld'⟩ := los_ld hn.2 hw2
      rw [hzI.eq] at hw2
      have hh' := spread_has a.links ts qs (loBase a) (baseV a) (base_has a) hq z.i w e hw2 hex
      have gM : a.links.getD z.i zLk = M := gD_of hM
      have gW : z.ls.getD z.i zLo = w := gD_of hw
      have q2 := ((hg.links M (List.mem_of_getElem? hM)).poly).hi
      have tM : M.shape.tail.length = M.shape.length - 1 := List.length_tail
      have hk2 : z.j < M.shape.tail.length := by rw [gM] at hk; exact hk
      obtain ⟨v, hv⟩ : ∃ v, M.shape.tail[z.j]? = some v := ⟨_, List.getElem?_eq_getElem hk2⟩
      have hv2 : (a.links.getD z.i zLk).shape.tail[z.j]? = some v := by rw [gM]; exact hv
      rw [drop_get' hv2, gW] at ex ey
      refine ⟨by rw [List.length_map]; omega, _, _, _, _, vec_ld (by simpa using hv2), by rw [losR_len]; omega, _, _, _, _, _, _, _, _, _, _, _, _, _, _, _, _, by rw [Int.toNat_natCast]; exact ld', w, m', v, e, rfl, rfl, ⟨by omega, hh'⟩, fun c1 c2 k1 k2 => ⟨⟨by omega, ox, (atX_has hh' v).ok⟩, ⟨by omega, oy, (atY_has hh' v).ok⟩, ⟨z.ls, z.l, spJoin z.x (atX w v), spJoin z.y (atY w v), z.i, z.j + 1⟩, ⟨⟨⟨⟨hzI.eq, hzl⟩, hzi, hk⟩, ⟨join_ok ox, join_ok oy⟩, ?_, ?_⟩, hzt, by simp only; omega⟩, rfl, rfl, rfl, rfl, rfl, rfl, by rw [w64 (by omega)]; simp, rfl, rfl, rfl, rfl, rfl, rfl, rfl, by omega, rfl, by omega, rfl, by omega, rfl, by omega, .inl rfl⟩⟩
      · rw [← gW] at ex ⊢; exact ex
      · rw [← gW] at ey ⊢; exact ey
    · obtain ⟨⟨hzI, hzi, hzj⟩, ⟨ox, oy⟩, ex, ey⟩ := hz
      have hk : z.j = (a.links.getD z.i zLk).shape.tail.length := by have := of_decide_eq_false hk; omega
      have hzl := hzI.len
      obtain ⟨M, hM⟩ : ∃ M, a.links[z.i]? = some M := ⟨_, List.getElem?_eq_getElem hzi⟩
      obtain ⟨w, hw⟩ : ∃ w, z.ls[z.i]? = some w := ⟨_, List.getElem?_eq_getElem (by omega)⟩
      have gM : a.links.getD z.i zLk = M := gD_of hM
      have gW : z.ls.getD z.i zLo = w := gD_of hw
      rw [hk, List.drop_length, gW, gM] at ex ey
      have ex : z.x = (hullV w M).1 := ex
      have ey : z.y = (hullV w M).2 := ey
      have hbl := boxes_len hzl
      refine ⟨by omega, ⟨z.ls, z.l, z.x, z.y, z.i + 1, 0⟩, ⟨⟨⟨hzI.eq, hzl⟩, hzi⟩, by simp only; omega⟩, rfl, rfl, by rw [w64 (by omega)]; simp, .inl ?_⟩
      rw [List.take_of_length_le (by rw [List.length_map, List.length_take]; omega), List.take_add_one, boxes_get hw hM, List.map_append, ex, ey]
      rfl
  · have hp : x.i = a.links.length := by have := of_decide_eq_false hp; have := hx.2; omega
    have hbl := boxes_len hx.1.len
    have := hK x.ls x.l hx.1.eq hx.1.len
    rw [List.drop_zero, List.take_of_length_le (by rw [List.length_map, List.length_take]; omega), List.take_of_length_le (by omega)]
    exact this
def c_hBoxes : Ctr := fun as0 => match as0 with
  | [.x true xs, .x false [.s 6 ys]] => some fun K => ∃ (a : ArmV) (B : Nat) (ts : List Sp) (qs : List Rat), xs = armCh a ∧ ys = ts.map (spN B) ∧ ((GoodArm a) ∧ (B ≤ 400 ∧ ts.length = a.links.length) ∧ (HasQ ts qs)) ∧ (∀ (ls : List LoV) (l : LoV), ls ++ [l] = spreadV (loBase a) a.links ts → ls.length = a.links.length → K (.t [(false, [.s 12 ((boxesV ls a.links).map (bx4 800000))]), (false, [.v (.int .i64 0)])]))
  | _ => none
theorem ok_hBoxes : CtrOK Tryz.prog tabG debT 42 c_hBoxes := by
  refine ⟨enters Tryz.func42 (by kernel_rfl), fun l T hT K hK => ?_⟩
  unfold c_hBoxes at hT
  split at hT
  · cases hT
    obtain ⟨a, B, ts, qs, rfl, rfl, hc, hK⟩ := hK
    exact spec_ofL T158ok mixed Tryz.func42 (by kernel_rfl) (by kernel_rfl) (by rfl) (g_hBoxes _ _ _ _ hc K hK)
  · cases hT
def L159 : List (Nat × Ctr) := (42, c_hBoxes) :: L158
def T159 : Tabs := mkT L159 M79 X4
theorem L159ok : CtrsOK Tryz.prog tabG debT L159 := .cons ok_hBoxes L158ok
theorem T159ok : TabsOK Tryz.prog tabG debT T159 := mkTok L159ok M79ok X4ok
def ot_kInBox : OT := fun _ => ([], [])
def goal_kInBox (xl : Rat) (a : Nat) (yl : Rat) (b : Nat) (xh : Rat) (c : Nat) (yh : Rat) (d : Nat) (u : Rat) (e : Nat) (v : Rat) (g : Nat) (K : AV → Prop) : Prop := goalL T159 ot_kInBox noL Tryz.f44 [.x true [.r xl a, .r yl b, .r xh c, .r yh d], .x true [.r u e, .r v g]] K
theorem goal_kInBox_vc (xl : Rat) (a : Nat) (yl : Rat) (b : Nat) (xh : Rat) (c : Nat) (yh : Rat) (d : Nat) (u : Rat) (e : Nat) (v : Rat) (g : Nat) (K : AV → Prop) : goal_kInBox xl a yl b xh c yh d u e v g K = ( ((a + e ≤ (4294967296 : Nat) ∧ b + g ≤ (4294967296 : Nat) ∧ c + e ≤ (4294967296 : Nat) ∧ d + g ≤ (4294967296 : Nat)) ∧ (xl ≤ u ∧ yl ≤ v) ∧ u ≤ xh ∧ v ≤ yh) ∧ K (AV.x false [Ch.v (Value.bool true)])) := by kernel_rfl
theorem g_kInBox (xl : Rat) (a : Nat) (yl : Rat) (b : Nat) (xh : Rat) (c : Nat) (yh : Rat) (d : Nat) (u : Rat) (e : Nat) (v : Rat) (g : Nat) (hc : (a + b + c + d + e + g ≤ 4294967296) ∧ ((xl ≤ u ∧ yl ≤ v) ∧ u ≤ xh ∧ v ≤ yh)) (K : AV → Prop) (hK : K (.x false [.v (.bool true)])) : Holds (goal_kInBox xl a yl b xh c yh d u e v g K) := by
  refine ⟨?_⟩
  rw [goal_kInBox_vc]
  try simp only [Int.ofNat_eq_natCast, true_and, and_true, Nat.zero_add, Nat.le_refl, true_implies, true_or, or_true]
  exact ⟨⟨⟨by omega, by omega, by omega, by omega⟩, hc.2⟩, hK⟩
def c_kInBox : Ctr := fun as0 => match as0 with
  | [.x true [.r xl a, .r yl b, .r xh c, .r yh d], .x true [.r u e, .r v g]] => some fun K => ((a + b + c + d + e + g ≤ 4294967296) ∧ ((xl ≤ u ∧ yl ≤ v) ∧ u ≤ xh ∧ v ≤ yh)) ∧ (K (.x false [.v (.bool true)]))
  | _ => none
theorem ok_kInBox : CtrOK Tryz.prog tabG debT 44 c_kInBox := by
  refine ⟨enters Tryz.func44 (by kernel_rfl), fun l T hT K hK => ?_⟩
  unfold c_kInBox at hT
  split at hT
  · cases hT
    obtain ⟨hc, hK⟩ := hK
    exact spec_ofL T159ok mixed Tryz.func44 (by kernel_rfl) (by kernel_rfl) (by rfl) (g_kInBox _ _ _ _ _ _ _ _ _ _ _ _ hc K hK)
  · cases hT
def L160 : List (Nat × Ctr) := (44, c_kInBox) :: L159
def T160 : Tabs := mkT L160 M79 X4
theorem L160ok : CtrsOK Tryz.prog tabG debT L160 := .cons ok_kInBox L159ok
theorem T160ok : TabsOK Tryz.prog tabG debT T160 := mkTok L160ok M79ok X4ok
end Go.Proofs
