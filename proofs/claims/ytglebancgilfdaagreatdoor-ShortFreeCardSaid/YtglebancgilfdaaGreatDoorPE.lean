/- Outer boxes of shapes: ShapeInside. -/
import Derived.Test.YtglebancgilfdaaGreatDoorPD
import Derived.Test.YtglebancgilfdaaGreatDoorSE
open Int renaming ofNat → Za, ofNat_eq_natCast → Zj, toNat_natCast → Zk
open List renaming map → Zb, getElem?_eq_getElem → Zc, take → Ze, length_map → Zf, take_of_length_le → Zg, drop → Zi, drop_zero → Zl
open Go.Eng.Ch renaming r → Zd
open Nat renaming le_refl → Zh
/- Outer boxes of shapes: ShapeInside. -/
namespace Go.Proofs
open Go Go.Eng
def atX (l : LoV) (p : Rat × Rat) : Sp := spAdd l.x (spSub (spMul (spOf p.1) l.c) (spMul (spOf p.2) l.s))
def atY (l : LoV) (p : Rat × Rat) : Sp := spAdd l.y (spAdd (spMul (spOf p.1) l.s) (spMul (spOf p.2) l.c))
def hX (l : LoV) : List (Rat × Rat) → Sp → Sp
 | [], x => x
 | v :: vs, x => hX l vs (spJoin x (atX l v))
def hY (l : LoV) : List (Rat × Rat) → Sp → Sp
 | [], y => y
 | v :: vs, y => hY l vs (spJoin y (atY l v))
def hullV (l : LoV) (L : LinkV) : Sp × Sp := (hX l L.shape.tail (atX l (L.shape.headD (0, 0))), hY l L.shape.tail (atY l (L.shape.headD (0, 0))))
def boxesV (los : List LoV) (ls : List LinkV) : List (Sp × Sp) := List.zipWith hullV los ls
def bx4 (n : Nat) (b : Sp × Sp) : List Ch := [.r b.1.lo n, .r b.2.lo n, .r b.1.hi n, .r b.2.hi n]
structure HbX where
 ls : List LoV
 l : LoV
 x : Sp
 y : Sp
 i : Nat
 j : Nat
structure HbI (a : ArmV) (ts : List Sp) (x : HbX) : Prop where
 eq : x.ls ++ [x.l] = spreadV (loBase a) a.links ts
 len : x.ls.length = a.links.length
def zLk : LinkV := ⟨0, 0, 0, 0, 0, []⟩
def zLo : LoV := ⟨spOf 0, spOf 0, spOf 0, spOf 0⟩
def inv_hbox (a : ArmV) (ts : List Sp) : LI := fun id => bif id.beq 6 then .inv ⟨HbX, fun x => ⟨[(2, .x false [.p 2 0]), (6, .x false [.s 24 (losR a x.ls x.l)]), (8, .x false [.w 500 0 x.i]), (27, .x false [.s 16 (a.links.map linkCh)]), (28, iA .i64 a.links.length), (29, iA .i64 x.i)],
  [(2, .box 34 (armCh a)), (500, .row 77 12 (((boxesV x.ls a.links).take x.i).map (bx4 800000)))]⟩, fun x => HbI a ts x ∧ x.i ≤ a.links.length, fun x => a.links.length - x.i, fun _ => 0⟩
 else .inv ⟨HbX, fun x => ⟨[(2, .x false [.p 2 0]), (6, .x false [.s 24 (losR a x.ls x.l)]), (8, .x false [.w 500 0 x.i]), (9, iA .i64 x.i), (10, .x false [.p 10 0]), (11, .x false [.p 11 0]), (12, .x false [.p 12 0]), (27, .x false [.s 16 (a.links.map linkCh)]), (28, iA .i64 a.links.length), (29, iA .i64 x.i), (48, .x false [.s 6 ((a.links.getD x.i zLk).shape.tail.map vecCh)]), (49, iA .i64 (a.links.getD x.i zLk).shape.tail.length), (50, iA .i64 x.j)],
  [(2, .box 34 (armCh a)), (10, .box 70 (linkCh (a.links.getD x.i zLk))), (11, .box 61 (spN 800000 x.x)), (12, .box 61 (spN 800000 x.y)), (500, .row 77 12 (((boxesV x.ls a.links).take x.i).map (bx4 800000)))]⟩,
  fun x => (HbI a ts x ∧ x.i < a.links.length ∧ x.j ≤ (a.links.getD x.i zLk).shape.tail.length) ∧ (x.x.lo ≤ x.x.hi ∧ x.y.lo ≤ x.y.hi) ∧ hX (x.ls.getD x.i zLo) ((a.links.getD x.i zLk).shape.tail.drop x.j) x.x = (hullV (x.ls.getD x.i zLo) (a.links.getD x.i zLk)).1 ∧ hY (x.ls.getD x.i zLo) ((a.links.getD x.i zLk).shape.tail.drop x.j) x.y = (hullV (x.ls.getD x.i zLo) (a.links.getD x.i zLk)).2, fun x => (a.links.getD x.i zLk).shape.tail.length - x.j, fun x => a.links.length - x.i⟩
def L156s : List (Nat × Ctr) := (86, c_hPlace) :: L156
def T156s : Tabs := mkT L156s M79 X4
theorem L156sok : CtrsOK Tryz.prog tabG debT L156s := .cons ok_hPlace L156ok
theorem T156sok : TabsOK Tryz.prog tabG debT T156s := mkTok L156sok M79ok X4ok
theorem atX_has {l : LoV} {f : FrV} (h : l.has f) (p : Rat × Rat) : (atX l p).has (putX f p.1 p.2) := spAdd_has h.x (spSub_has (spMul_has (spOf_has p.1) h.c) (spMul_has (spOf_has p.2) h.s))
theorem atY_has {l : LoV} {f : FrV} (h : l.has f) (p : Rat × Rat) : (atY l p).has (putY f p.1 p.2) := spAdd_has h.y (spAdd_has (spMul_has (spOf_has p.1) h.s) (spMul_has (spOf_has p.2) h.c))
theorem join_ok {s t : Sp} (h : s.lo ≤ s.hi) : (spJoin s t).lo ≤ (spJoin s t).hi := Rat.le_trans (minR_le_l _ _) (Rat.le_trans h (le_maxR_l _ _))
theorem hX_acc (l : LoV) : ∀ (vs : List (Rat × Rat)) (x : Sp) (q : Rat), x.has q → (hX l vs x).has q := by
 intro vs
 induction vs with
 | nil => intro x q h; exact h
 | cons v vs ih => intro x q h; exact ih _ q (spJoin_l h)
theorem hY_acc (l : LoV) : ∀ (vs : List (Rat × Rat)) (x : Sp) (q : Rat), x.has q → (hY l vs x).has q := by
 intro vs
 induction vs with
 | nil => intro x q h; exact h
 | cons v vs ih => intro x q h; exact ih _ q (spJoin_l h)
theorem hX_mem {l : LoV} {f : FrV} (h : l.has f) : ∀ (vs : List (Rat × Rat)) (x : Sp) (p : Rat × Rat), p ∈ vs → (hX l vs x).has (putX f p.1 p.2) := by
 intro vs
 induction vs with
 | nil => intro x p hp; cases hp
 | cons v vs ih =>
  intro x p hp
  rcases List.mem_cons.1 hp with rfl | hp
  ·exact hX_acc l vs _ _ (spJoin_r (atX_has h p))
  ·exact ih _ p hp
theorem hY_mem {l : LoV} {f : FrV} (h : l.has f) : ∀ (vs : List (Rat × Rat)) (x : Sp) (p : Rat × Rat), p ∈ vs → (hY l vs x).has (putY f p.1 p.2) := by
 intro vs
 induction vs with
 | nil => intro x p hp; cases hp
 | cons v vs ih =>
  intro x p hp
  rcases List.mem_cons.1 hp with rfl | hp
  ·exact hY_acc l vs _ _ (spJoin_r (atY_has h p))
  ·exact ih _ p hp
theorem hull_has {l : LoV} {f : FrV} {L : LinkV} (h : l.has f) {p : Rat × Rat} (hp : p ∈ L.shape) : (hullV l L).1.has (putX f p.1 p.2) ∧ (hullV l L).2.has (putY f p.1 p.2) := by
 unfold hullV
 cases hs : L.shape with
 | nil => rw [hs] at hp; cases hp
 | cons v vs =>
  rw [hs] at hp
  rcases List.mem_cons.1 hp with rfl | hp
  ·exact ⟨hX_acc l vs _ _ (atX_has h p), hY_acc l vs _ _ (atY_has h p)⟩
  ·exact ⟨hX_mem h vs _ p hp, hY_mem h vs _ p hp⟩
theorem boxes_get {los : List LoV} {ls : List LinkV} {i : Nat} {l : LoV} {L : LinkV} (h : los[i]? = some l) (k : ls[i]? = some L) : (boxesV los ls)[i]? = some (hullV l L) := by
 simp [boxesV, List.getElem?_zipWith, h, k]
theorem boxes_len {los : List LoV} {ls : List LinkV} (h : los.length = ls.length) : (boxesV los ls).length = ls.length := by simp [boxesV, h]
theorem bx4_ld {n : Nat} {us : List (Sp × Sp)} {i : Nat} {u : Sp × Sp} (h : us[i]? = some u) : ldE (us.map (bx4 n)) i 0 12 = some (bx4 n u) := by
 simp only [ldE, List.getElem?_map, h]; rfl
theorem head_of {s : List (Rat × Rat)} {p : Rat × Rat} (h : s[0]? = some p) : s.headD (0, 0) = p := by
 cases s with
 | nil => cases h
 | cons v vs => cases h; rfl
def ot_hAt : OT := fun id => bif id.beq 1 then ([0, 1, 3, 4, 6, 7, 2, 5, 8, 9], [[], [0], [1, 0], [], [3], [4, 3, 2, 1, 0], [], [], [6, 2, 1, 0, 5, 4, 3, 7], [7, 5, 4, 3, 2, 1, 0, 8, 6]]) else bif id.beq 2 then ([0, 1, 2, 3, 4, 6, 7, 8, 12, 13, 14, 15, 16, 18, 19, 20, 5, 9, 10, 11, 17, 21, 22, 23, 24, 25], [[], [0], [], [], [3], [2, 4, 3], [], [], [7], [6, 8, 7, 5, 2, 4, 3], [5, 2, 4, 3, 9, 6, 8, 7], [1, 0, 10, 5, 2, 4, 3, 9, 6, 8, 7], [], [12], [], [], [15], [14, 16, 15, 11, 1, 0, 10, 5, 2, 4, 3, 9, 6, 8, 7], [], [], [19], [18, 20, 19, 17, 14, 16, 15, 11, 1, 0, 10, 5, 2, 4, 3, 9, 6, 8, 7], [17, 14, 16, 15, 11, 1, 0, 10, 5, 2, 4, 3, 9, 6, 8, 7, 21, 18, 20, 19], [13, 12, 22, 17, 14, 16, 15, 11, 1, 0, 10, 5, 2, 4, 3, 9, 6, 8, 7, 21, 18, 20, 19], [11, 1, 0, 10, 5, 2, 4, 3, 9, 6, 8, 7, 23, 13, 12, 22, 17, 14, 16, 15, 21, 18, 20, 19], [23, 13, 12, 22, 17, 14, 16, 15, 11, 1, 0, 10, 5, 2, 4, 3, 9, 6, 8, 7, 21, 18, 20, 19, 24]]) else ([], [])
def goal_hAt (l : LoV) (n : Nat) (p : Rat × Rat) (f : FrV) (K : AV → Prop) : Prop := goalL T156s ot_hAt noL Tryz.f152 [.x true (loN n l), .x true (vecCh p)] K
theorem goal_hAt_vc (l : LoV) (n : Nat) (p : Rat × Rat) (f : FrV) (K : AV → Prop) : goal_hAt l n p f K = (63≤2000000000∧63≤2000000000∧(126+n+n≤2000000000∧p.fst≤p.fst∧l.c.lo≤l.c.hi)∧∀(s:Sp) (n_1:Nat),s=spMul (Sp.mk p.fst p.fst) (Sp.mk l.c.lo l.c.hi)→n_1≤63+max n n→(126+n+n≤2000000000∧p.snd≤p.snd∧l.s.lo≤l.s.hi)∧∀(s_1:Sp) (n_2:Nat),s_1=spMul (Sp.mk p.snd p.snd) (Sp.mk l.s.lo l.s.hi)→n_2≤63+max n n→(n_1+n_1+n_2+n_2≤4294967290∧s.lo≤s.hi∧s_1.lo≤s_1.hi)∧(n+n+(n_1+n_2+1)+(n_1+n_2+1)≤4294967290∧l.x.lo≤l.x.hi∧s.lo-s_1.hi≤s.hi-s_1.lo)∧(126+n+n≤2000000000∧p.fst≤p.fst∧l.s.lo≤l.s.hi)∧∀(s_2:Sp) (n_3:Nat),s_2=spMul (Sp.mk p.fst p.fst) (Sp.mk l.s.lo l.s.hi)→n_3≤63+max n n→(126+n+n≤2000000000∧p.snd≤p.snd∧l.c.lo≤l.c.hi)∧∀(s_3:Sp) (n_4:Nat),s_3=spMul (Sp.mk p.snd p.snd) (Sp.mk l.c.lo l.c.hi)→n_4≤63+max n n→(n_3+n_3+n_4+n_4≤4294967290∧s_2.lo≤s_2.hi∧s_3.lo≤s_3.hi)∧(n+n+(n_3+n_4+1)+(n_3+n_4+1)≤4294967290∧l.y.lo≤l.y.hi∧s_2.lo+s_3.lo≤s_2.hi+s_3.hi)∧K (AV.t [(true,[Zd (l.x.lo+(s.lo-s_1.hi)) (n+(n_1+n_2+1)+1),Zd (l.x.hi+(s.hi-s_1.lo)) (n+(n_1+n_2+1)+1)]),(true,[Zd (l.y.lo+(s_2.lo+s_3.lo)) (n+(n_3+n_4+1)+1),Zd (l.y.hi+(s_2.hi+s_3.hi)) (n+(n_3+n_4+1)+1)])])) := by kernel_rfl
theorem g_hAt (l : LoV) (n : Nat) (p : Rat × Rat) (f : FrV) (hc : (n ≤ 1000000) ∧ (l.has f)) (K : AV → Prop) (hK : ∀ a b, a ≤ 3 * n + 300 → b ≤ 3 * n + 300 → K (.t [(true, spN a (atX l p)), (true, spN b (atY l p))])) : Holds (goal_hAt l n p f K) := by
 refine ⟨?_⟩
 rw [goal_hAt_vc]
 try simp only [Zj, true_and, and_true, Nat.zero_add, Zh, true_implies, true_or, or_true]
 obtain ⟨hn, hf⟩ := hc
 have m1 := spMul_has (spOf_has p.1) hf.c
 have m2 := spMul_has (spOf_has p.2) hf.s
 have m3 := spMul_has (spOf_has p.1) hf.s
 have m4 := spMul_has (spOf_has p.2) hf.c
 refine ⟨by omega, by omega, ⟨by omega, Rat.le_refl, hf.c.ok⟩, fun s1 n1 e1 h1 => ?_⟩
 subst e1
 refine ⟨⟨by omega, Rat.le_refl, hf.s.ok⟩, fun s2 n2 e2 h2 => ?_⟩
 subst e2
 refine ⟨⟨by omega, m1.ok, m2.ok⟩, ⟨by omega, hf.x.ok, (spSub_has m1 m2).ok⟩, ⟨by omega, Rat.le_refl, hf.s.ok⟩, fun s3 n3 e3 h3 => ?_⟩
 subst e3
 refine ⟨⟨by omega, Rat.le_refl, hf.c.ok⟩, fun s4 n4 e4 h4 => ?_⟩
 subst e4
 exact ⟨⟨by omega, m3.ok, m4.ok⟩, ⟨by omega, hf.y.ok, (spAdd_has m3 m4).ok⟩, hK _ _ (by omega) (by omega)⟩
def c_hAt : Ctr := fun as0 => match as0 with
 | [.x true xs, .x true ys] => some fun K => ∃ (l : LoV) (n : Nat) (p : Rat × Rat) (f : FrV), xs = loN n l ∧ ys = vecCh p ∧ ((n ≤ 1000000) ∧ (l.has f)) ∧ (∀ a b, a ≤ 3 * n + 300 → b ≤ 3 * n + 300 → K (.t [(true, spN a (atX l p)), (true, spN b (atY l p))]))
 | _ => none
theorem ok_hAt : CtrOK Tryz.prog tabG debT 152 c_hAt := by
 refine ⟨enters Tryz.func152 (by kernel_rfl), fun l T hT K hK => ?_⟩
 unfold c_hAt at hT
 split at hT
 ·cases hT
  obtain ⟨l, n, p, f, rfl, rfl, hc, hK⟩ := hK
  exact spec_ofL T156sok mixed Tryz.func152 (by kernel_rfl) (by kernel_rfl) (by rfl) (g_hAt _ _ _ _ hc K hK)
 ·cases hT
def L157 : List (Nat × Ctr) := (152, c_hAt) :: L156s
def T157 : Tabs := mkT L157 M79 X4
theorem L157ok : CtrsOK Tryz.prog tabG debT L157 := .cons ok_hAt L156sok
theorem T157ok : TabsOK Tryz.prog tabG debT T157 := mkTok L157ok M79ok X4ok
def ot_fBoxW : OT := fun _ => ([], [])
def goal_fBoxW (xl : Rat) (a : Nat) (xh : Rat) (b : Nat) (yl : Rat) (c : Nat) (yh : Rat) (d : Nat) (K : AV → Prop) : Prop := goalL T157 ot_fBoxW noL Tryz.f77 [.x true ([.r xl a, .r xh b, .r yl c, .r yh d] ++ zeroR ++ zeroR ++ zeroR ++ zeroR)] K
theorem goal_fBoxW_vc (xl : Rat) (a : Nat) (xh : Rat) (b : Nat) (yl : Rat) (c : Nat) (yh : Rat) (d : Nat) (K : AV → Prop) : goal_fBoxW xl a xh b yl c yh d K = (K (AV.x true [Zd xl a,Zd yl c,Zd xh b,Zd yh d])) := by kernel_rfl
theorem g_fBoxW (xl : Rat) (a : Nat) (xh : Rat) (b : Nat) (yl : Rat) (c : Nat) (yh : Rat) (d : Nat) (_hc : True) (K : AV → Prop) (hK : K (.x true [.r xl a, .r yl c, .r xh b, .r yh d])) : Holds (goal_fBoxW xl a xh b yl c yh d K) := by
 refine ⟨?_⟩
 rw [goal_fBoxW_vc]
 try simp only [Zj, true_and, and_true, Nat.zero_add, Zh, true_implies, true_or, or_true]
 exact hK
def c_fBoxW : Ctr := fun as0 => match as0 with
 | [.x true [.r xl a, .r xh b, .r yl c, .r yh d, .v (.bool false), .v (.string ⟨⟨[]⟩⟩), .v (.string ⟨⟨[]⟩⟩), .v (.bool false), .v (.string ⟨⟨[]⟩⟩), .v (.string ⟨⟨[]⟩⟩), .v (.bool false), .v (.string ⟨⟨[]⟩⟩), .v (.string ⟨⟨[]⟩⟩), .v (.bool false), .v (.string ⟨⟨[]⟩⟩), .v (.string ⟨⟨[]⟩⟩)]] => some fun K => (True) ∧ (K (.x true [.r xl a, .r yl c, .r xh b, .r yh d]))
 | _ => none
theorem ok_fBoxW : CtrOK Tryz.prog tabG debT 77 c_fBoxW := by
 refine ⟨enters Tryz.func77 (by kernel_rfl), fun l T hT K hK => ?_⟩
 unfold c_fBoxW at hT
 split at hT
 ·cases hT
  obtain ⟨hc, hK⟩ := hK
  exact spec_ofL T157ok mixed Tryz.func77 (by kernel_rfl) (by kernel_rfl) (by rfl) (g_fBoxW _ _ _ _ _ _ _ _ hc K hK)
 ·cases hT
def L158 : List (Nat × Ctr) := (77, c_fBoxW) :: L157
def T158 : Tabs := mkT L158 M79 X4
theorem L158ok : CtrsOK Tryz.prog tabG debT L158 := .cons ok_fBoxW L157ok
theorem T158ok : TabsOK Tryz.prog tabG debT T158 := mkTok L158ok M79ok X4ok
def ot_hBoxes : OT := fun id => bif id.beq 8 then ([0, 1, 2, 3, 4, 5, 6, 7, 12, 13, 8, 9, 10, 11, 14, 15], [[], [], [0, 1], [2, 0, 1], [], [4], [5, 4], [6, 5, 4], [3, 2, 0, 1, 7, 6, 5, 4], [8, 3, 2, 0, 1, 7, 6, 5, 4], [9, 8, 3, 2, 0, 1, 7, 6, 5, 4], [9, 8, 3, 2, 0, 1, 7, 6, 5, 4], [], [], [12, 10, 9, 8, 3, 2, 0, 1, 7, 6, 5, 4, 13], [13, 11, 9, 8, 3, 2, 0, 1, 7, 6, 5, 4, 14, 12, 10]]) else bif id.beq 12 then ([0, 1, 2, 3, 4, 9, 10, 5, 6, 7, 8, 11, 12], [[], [], [0, 1], [2, 0, 1], [], [3, 2, 0, 1, 4], [5, 3, 2, 0, 1, 4], [6, 5, 3, 2, 0, 1, 4], [6, 5, 3, 2, 0, 1, 4], [], [], [9, 7, 6, 5, 3, 2, 0, 1, 4, 10], [10, 8, 6, 5, 3, 2, 0, 1, 4, 11, 9, 7]]) else bif id.beq 13 then ([0, 1, 3, 4, 2, 5, 6, 7], [[], [], [0, 1], [], [], [3, 4, 2, 0, 1], [2, 0, 1, 5, 3, 4], [5, 3, 4, 2, 0, 1, 6]]) else ([], [])
def goal_hBoxes (a : ArmV) (B : Nat) (ts : List Sp) (qs : List Rat) (K : AV → Prop) : Prop := goalL T158 ot_hBoxes (inv_hbox a ts) Tryz.f92 [armA a, .x false [.s 6 (ts.map (spN B))]] K
theorem goal_hBoxes_vc (a : ArmV) (B : Nat) (ts : List Sp) (qs : List Rat) (K : AV → Prop) : goal_hBoxes a B ts qs K = (∃(a_1:ArmV),∃(B_1:Nat),∃(ts_1:List Sp),∃(qs:List Rat),[Ch.v (Value.string a.name),Zd a.x 63,Zd a.y 63,Ch.v (Value.bool a.half),Zd a.t 63,Ch.s 16 (Zb linkCh a.links)]=[Ch.v (Value.string a_1.name),Zd a_1.x 63,Zd a_1.y 63,Ch.v (Value.bool a_1.half),Zd a_1.t 63,Ch.s 16 (Zb linkCh a_1.links)]∧Zb (spN B) ts=Zb (spN B_1) ts_1∧(GoodArm a_1∧(B_1≤400∧ts_1.length=a_1.links.length)∧ts_1.length=qs.length∧∀(i:Nat) (t:Sp) (q:Rat),ts_1[i]?=some t→qs[i]?=some q→t.lo≤q∧q≤t.hi)∧∀(ls:List LoV) (l:LoV),ls++[l]=spreadV (loBase a_1) a_1.links ts_1→ls.length=a_1.links.length→(∃(x:HbX),((HbI a ts x∧x.i≤a.links.length)∧OfNat.ofNat 0=0)∧0=0∧24=24∧Zb (loN 240000) ls++[[Zd l.x.lo (lb a_1.links.length),Zd l.x.hi (lb a_1.links.length),Zd l.y.lo (lb a_1.links.length),Zd l.y.hi (lb a_1.links.length),Zd l.c.lo (lb a_1.links.length),Zd l.c.hi (lb a_1.links.length),Zd l.s.lo (lb a_1.links.length),Zd l.s.hi (lb a_1.links.length)]]=losR a x.ls x.l∧Value.slice none 0 0=Value.slice none 0 0∧0=0∧x.i=0∧16=16∧Zb linkCh a.links=Zb linkCh a.links∧Za (Zb linkCh a.links).length=Za a.links.length∧0=Za x.i∧34=34∧a.name=a.name∧a.x=a.x∧63≤63∧a.y=a.y∧63≤63∧a.half=a.half∧a.t=a.t∧63≤63∧16=16∧Zb linkCh a.links=Zb linkCh a.links∧Zb (bx4 800000) (Ze x.i (boxesV x.ls a.links))=[]∧True)∧∀(x:HbX),HbI a ts x∧x.i≤a.links.length→OfNat.ofNat 0=0→bif decide (Za x.i<Za a.links.length) then (0≤Za x.i∧Za x.i<Za (Zb linkCh a.links).length)∧∃(q:Rat),∃(n:Nat),∃(q_1:Rat),∃(n_1:Nat),∃(q_2:Rat),∃(n_2:Nat),∃(q_3:Rat),∃(n_3:Nat),∃(q_4:Rat),∃(n_4:Nat),∃(ys:List (List Ch)),ldE (Zb linkCh a.links) (Za x.i).toNat 0 16=some [Zd q n,Zd q_1 n_1,Zd q_2 n_2,Zd q_3 n_3,Zd q_4 n_4,Ch.s 6 ys]∧(0≤Za x.i∧Za x.i<Za (losR a x.ls x.l).length)∧∃(q_5:Rat),∃(n_5:Nat),∃(q_6:Rat),∃(n_6:Nat),∃(q_7:Rat),∃(n_7:Nat),∃(q_8:Rat),∃(n_8:Nat),∃(q_9:Rat),∃(n_9:Nat),∃(q_10:Rat),∃(n_10:Nat),∃(q_11:Rat),∃(n_11:Nat),∃(q_12:Rat),∃(n_12:Nat),ldE (losR a x.ls x.l) (Za x.i).toNat 0 24=some [Zd q_5 n_5,Zd q_6 n_6,Zd q_7 n_7,Zd q_8 n_8,Zd q_9 n_9,Zd q_10 n_10,Zd q_11 n_11,Zd q_12 n_12]∧((0:Int)≤0∧0<Za ys.length)∧∃(q_13:Rat),∃(n_13:Nat),∃(q_14:Rat),∃(n_14:Nat),ldE ys 0 0 6=some [Zd q_13 n_13,Zd q_14 n_14]∧∃(l:LoV),∃(n_15:Nat),∃(p:Rat × Rat),∃(f:FrV),[Zd q_5 n_5,Zd q_6 n_6,Zd q_7 n_7,Zd q_8 n_8,Zd q_9 n_9,Zd q_10 n_10,Zd q_11 n_11,Zd q_12 n_12]=[Zd l.x.lo n_15,Zd l.x.hi n_15,Zd l.y.lo n_15,Zd l.y.hi n_15,Zd l.c.lo n_15,Zd l.c.hi n_15,Zd l.s.lo n_15,Zd l.s.hi n_15]∧[Zd q_13 n_13,Zd q_14 n_14]=[Zd p.fst 63,Zd p.snd 63]∧(n_15≤1000000∧l.has f)∧∀(a_6 b:Nat),a_6≤3*n_15+300→b≤3*n_15+300→((0:Int)≤1∧1≤Za ys.length∧Za ys.length≤Za ys.length)∧(∃(x_1:HbX),(((HbI a ts x_1∧x_1.i<a.links.length∧x_1.j≤(a.links.getD x_1.i zLk).shape.tail.length)∧(x_1.x.lo≤x_1.x.hi∧x_1.y.lo≤x_1.y.hi)∧hX (x_1.ls.getD x_1.i zLo) (Zi x_1.j (a.links.getD x_1.i zLk).shape.tail) x_1.x=(hX (x_1.ls.getD x_1.i zLo) (a.links.getD x_1.i zLk).shape.tail (atX (x_1.ls.getD x_1.i zLo) ((a.links.getD x_1.i zLk).shape.headD (OfNat.ofNat 0,OfNat.ofNat 0))),hY (x_1.ls.getD x_1.i zLo) (a.links.getD x_1.i zLk).shape.tail (atY (x_1.ls.getD x_1.i zLo) ((a.links.getD x_1.i zLk).shape.headD (OfNat.ofNat 0,OfNat.ofNat 0)))).fst∧hY (x_1.ls.getD x_1.i zLo) (Zi x_1.j (a.links.getD x_1.i zLk).shape.tail) x_1.y=(hX (x_1.ls.getD x_1.i zLo) (a.links.getD x_1.i zLk).shape.tail (atX (x_1.ls.getD x_1.i zLo) ((a.links.getD x_1.i zLk).shape.headD (OfNat.ofNat 0,OfNat.ofNat 0))),hY (x_1.ls.getD x_1.i zLo) (a.links.getD x_1.i zLk).shape.tail (atY (x_1.ls.getD x_1.i zLo) ((a.links.getD x_1.i zLk).shape.headD (OfNat.ofNat 0,OfNat.ofNat 0)))).snd)∧a.links.length-x_1.i=a.links.length-x.i)∧0=0∧24=24∧losR a x.ls x.l=losR a x_1.ls x_1.l∧0=0∧x.i=x_1.i∧Za x.i=Za x_1.i∧0=0∧0=0∧0=0∧16=16∧Zb linkCh a.links=Zb linkCh a.links∧Za a.links.length=Za a.links.length∧Za x.i=Za x_1.i∧6=6∧Ze ((Za ys.length).toNat-1) (Zi 1 ys)=Zb vecCh (a.links.getD x_1.i zLk).shape.tail∧Za (Ze ((Za ys.length).toNat-1) (Zi 1 ys)).length=Za (a.links.getD x_1.i zLk).shape.tail.length∧0=Za x_1.j∧34=34∧a.name=a.name∧a.x=a.x∧63≤63∧a.y=a.y∧63≤63∧a.half=a.half∧a.t=a.t∧63≤63∧16=16∧Zb linkCh a.links=Zb linkCh a.links∧70=70∧q=(a.links.getD x_1.i zLk).len∧n≤63∧q_1=(a.links.getD x_1.i zLk).lo∧n_1≤63∧q_2=(a.links.getD x_1.i zLk).hi∧n_2≤63∧q_3=(a.links.getD x_1.i zLk).sp∧n_3≤63∧q_4=(a.links.getD x_1.i zLk).br∧n_4≤63∧6=6∧ys=Zb vecCh (a.links.getD x_1.i zLk).shape∧61=61∧(atX l p).lo=x_1.x.lo∧a_6≤800000∧(atX l p).hi=x_1.x.hi∧a_6≤800000∧61=61∧(atY l p).lo=x_1.y.lo∧b≤800000∧(atY l p).hi=x_1.y.hi∧b≤800000∧77=77∧12=12∧(Zb (bx4 800000) (Ze x.i (boxesV x.ls a.links))=Zb (bx4 800000) (Ze x_1.i (boxesV x_1.ls a.links))∨RowLE (Zb (bx4 800000) (Ze x.i (boxesV x.ls a.links))) (Zb (bx4 800000) (Ze x_1.i (boxesV x_1.ls a.links))))∧True)∧∀(x_1:HbX),(HbI a ts x_1∧x_1.i<a.links.length∧x_1.j≤(a.links.getD x_1.i zLk).shape.tail.length)∧(x_1.x.lo≤x_1.x.hi∧x_1.y.lo≤x_1.y.hi)∧hX (x_1.ls.getD x_1.i zLo) (Zi x_1.j (a.links.getD x_1.i zLk).shape.tail) x_1.x=(hX (x_1.ls.getD x_1.i zLo) (a.links.getD x_1.i zLk).shape.tail (atX (x_1.ls.getD x_1.i zLo) ((a.links.getD x_1.i zLk).shape.headD (OfNat.ofNat 0,OfNat.ofNat 0))),hY (x_1.ls.getD x_1.i zLo) (a.links.getD x_1.i zLk).shape.tail (atY (x_1.ls.getD x_1.i zLo) ((a.links.getD x_1.i zLk).shape.headD (OfNat.ofNat 0,OfNat.ofNat 0)))).fst∧hY (x_1.ls.getD x_1.i zLo) (Zi x_1.j (a.links.getD x_1.i zLk).shape.tail) x_1.y=(hX (x_1.ls.getD x_1.i zLo) (a.links.getD x_1.i zLk).shape.tail (atX (x_1.ls.getD x_1.i zLo) ((a.links.getD x_1.i zLk).shape.headD (OfNat.ofNat 0,OfNat.ofNat 0))),hY (x_1.ls.getD x_1.i zLo) (a.links.getD x_1.i zLk).shape.tail (atY (x_1.ls.getD x_1.i zLo) ((a.links.getD x_1.i zLk).shape.headD (OfNat.ofNat 0,OfNat.ofNat 0)))).snd→a.links.length-x_1.i=a.links.length-x.i→bif decide (Za x_1.j<Za (a.links.getD x_1.i zLk).shape.tail.length) then (0≤Za x_1.j∧Za x_1.j<Za (Zb vecCh (a.links.getD x_1.i zLk).shape.tail).length)∧∃(q:Rat),∃(n:Nat),∃(q_15:Rat),∃(n_16:Nat),ldE (Zb vecCh (a.links.getD x_1.i zLk).shape.tail) (Za x_1.j).toNat 0 6=some [Zd q n,Zd q_15 n_16]∧(0≤Za x_1.i∧Za x_1.i<Za (losR a x_1.ls x_1.l).length)∧∃(q_16:Rat),∃(n_17:Nat),∃(q_17:Rat),∃(n_18:Nat),∃(q_18:Rat),∃(n_19:Nat),∃(q_19:Rat),∃(n_20:Nat),∃(q_20:Rat),∃(n_21:Nat),∃(q_21:Rat),∃(n_22:Nat),∃(q_22:Rat),∃(n_23:Nat),∃(q_23:Rat),∃(n_24:Nat),ldE (losR a x_1.ls x_1.l) (Za x_1.i).toNat 0 24=some [Zd q_16 n_17,Zd q_17 n_18,Zd q_18 n_19,Zd q_19 n_20,Zd q_20 n_21,Zd q_21 n_22,Zd q_22 n_23,Zd q_23 n_24]∧∃(l:LoV),∃(n_25:Nat),∃(p:Rat × Rat),∃(f:FrV),[Zd q_16 n_17,Zd q_17 n_18,Zd q_18 n_19,Zd q_19 n_20,Zd q_20 n_21,Zd q_21 n_22,Zd q_22 n_23,Zd q_23 n_24]=[Zd l.x.lo n_25,Zd l.x.hi n_25,Zd l.y.lo n_25,Zd l.y.hi n_25,Zd l.c.lo n_25,Zd l.c.hi n_25,Zd l.s.lo n_25,Zd l.s.hi n_25]∧[Zd q n,Zd q_15 n_16]=[Zd p.fst 63,Zd p.snd 63]∧(n_25≤1000000∧l.has f)∧∀(a_11 b:Nat),a_11≤3*n_25+300→b≤3*n_25+300→(1600000+a_11+a_11≤4294967290∧x_1.x.lo≤x_1.x.hi∧(atX l p).lo≤(atX l p).hi)∧(1600000+b+b≤4294967290∧x_1.y.lo≤x_1.y.hi∧(atY l p).lo≤(atY l p).hi)∧∃(x':HbX),(((HbI a ts x'∧x'.i<a.links.length∧x'.j≤(a.links.getD x'.i zLk).shape.tail.length)∧(x'.x.lo≤x'.x.hi∧x'.y.lo≤x'.y.hi)∧hX (x'.ls.getD x'.i zLo) (Zi x'.j (a.links.getD x'.i zLk).shape.tail) x'.x=(hX (x'.ls.getD x'.i zLo) (a.links.getD x'.i zLk).shape.tail (atX (x'.ls.getD x'.i zLo) ((a.links.getD x'.i zLk).shape.headD (OfNat.ofNat 0,OfNat.ofNat 0))),hY (x'.ls.getD x'.i zLo) (a.links.getD x'.i zLk).shape.tail (atY (x'.ls.getD x'.i zLo) ((a.links.getD x'.i zLk).shape.headD (OfNat.ofNat 0,OfNat.ofNat 0)))).fst∧hY (x'.ls.getD x'.i zLo) (Zi x'.j (a.links.getD x'.i zLk).shape.tail) x'.y=(hX (x'.ls.getD x'.i zLo) (a.links.getD x'.i zLk).shape.tail (atX (x'.ls.getD x'.i zLo) ((a.links.getD x'.i zLk).shape.headD (OfNat.ofNat 0,OfNat.ofNat 0))),hY (x'.ls.getD x'.i zLo) (a.links.getD x'.i zLk).shape.tail (atY (x'.ls.getD x'.i zLo) ((a.links.getD x'.i zLk).shape.headD (OfNat.ofNat 0,OfNat.ofNat 0)))).snd)∧a.links.length-x'.i=a.links.length-x.i∧(a.links.getD x'.i zLk).shape.tail.length-x'.j<(a.links.getD x_1.i zLk).shape.tail.length-x_1.j)∧0=0∧24=24∧losR a x_1.ls x_1.l=losR a x'.ls x'.l∧0=0∧x_1.i=x'.i∧Za x_1.i=Za x'.i∧0=0∧0=0∧0=0∧16=16∧Zb linkCh a.links=Zb linkCh a.links∧Za a.links.length=Za a.links.length∧Za x_1.i=Za x'.i∧6=6∧Zb vecCh (a.links.getD x_1.i zLk).shape.tail=Zb vecCh (a.links.getD x'.i zLk).shape.tail∧Za (a.links.getD x_1.i zLk).shape.tail.length=Za (a.links.getD x'.i zLk).shape.tail.length∧IntKind.i64.wrap (Za x_1.j+1)=Za x'.j∧34=34∧a.name=a.name∧a.x=a.x∧63≤63∧a.y=a.y∧63≤63∧a.half=a.half∧a.t=a.t∧63≤63∧16=16∧Zb linkCh a.links=Zb linkCh a.links∧70=70∧(a.links.getD x_1.i zLk).len=(a.links.getD x'.i zLk).len∧63≤63∧(a.links.getD x_1.i zLk).lo=(a.links.getD x'.i zLk).lo∧63≤63∧(a.links.getD x_1.i zLk).hi=(a.links.getD x'.i zLk).hi∧63≤63∧(a.links.getD x_1.i zLk).sp=(a.links.getD x'.i zLk).sp∧63≤63∧(a.links.getD x_1.i zLk).br=(a.links.getD x'.i zLk).br∧63≤63∧6=6∧Zb vecCh (a.links.getD x_1.i zLk).shape=Zb vecCh (a.links.getD x'.i zLk).shape∧61=61∧minR x_1.x.lo (atX l p).lo=x'.x.lo∧max 800000 a_11≤800000∧maxR x_1.x.hi (atX l p).hi=x'.x.hi∧max 800000 a_11≤800000∧61=61∧minR x_1.y.lo (atY l p).lo=x'.y.lo∧max 800000 b≤800000∧maxR x_1.y.hi (atY l p).hi=x'.y.hi∧max 800000 b≤800000∧77=77∧12=12∧(Zb (bx4 800000) (Ze x_1.i (boxesV x_1.ls a.links))=Zb (bx4 800000) (Ze x'.i (boxesV x'.ls a.links))∨RowLE (Zb (bx4 800000) (Ze x_1.i (boxesV x_1.ls a.links))) (Zb (bx4 800000) (Ze x'.i (boxesV x'.ls a.links))))∧True else True∧((x_1.i+1)*160≤140737488355328∧x_1.i+1≤9223372036854775807)∧∃(x':HbX),((HbI a ts x'∧x'.i≤a.links.length)∧OfNat.ofNat 0=0∧a.links.length-x'.i<a.links.length-x.i)∧0=0∧24=24∧losR a x_1.ls x_1.l=losR a x'.ls x'.l∧0=0∧x_1.i+1=x'.i∧16=16∧Zb linkCh a.links=Zb linkCh a.links∧Za a.links.length=Za a.links.length∧IntKind.i64.wrap (Za x_1.i+1)=Za x'.i∧34=34∧a.name=a.name∧a.x=a.x∧63≤63∧a.y=a.y∧63≤63∧a.half=a.half∧a.t=a.t∧63≤63∧16=16∧Zb linkCh a.links=Zb linkCh a.links∧77=77∧12=12∧(Ze x_1.i (Zb (bx4 800000) (Ze x_1.i (boxesV x_1.ls a.links)))++[[Zd x_1.x.lo 800000,Zd x_1.y.lo 800000,Zd x_1.x.hi 800000,Zd x_1.y.hi 800000]]=Zb (bx4 800000) (Ze x'.i (boxesV x'.ls a.links))∨RowLE (Ze x_1.i (Zb (bx4 800000) (Ze x_1.i (boxesV x_1.ls a.links)))++[[Zd x_1.x.lo 800000,Zd x_1.y.lo 800000,Zd x_1.x.hi 800000,Zd x_1.y.hi 800000]]) (Zb (bx4 800000) (Ze x'.i (boxesV x'.ls a.links))))∧True else K (AV.t [(false,[Ch.s 12 (Ze x.i (Zi 0 (Zb (bx4 800000) (Ze x.i (boxesV x.ls a.links)))))]),(false,[Ch.v (Value.int IntKind.i64 0)])])) := by kernel_rfl
theorem g_hBoxes (a : ArmV) (B : Nat) (ts : List Sp) (qs : List Rat) (hc : (GoodArm a) ∧ (B ≤ 400 ∧ ts.length = a.links.length) ∧ (HasQ ts qs)) (K : AV → Prop) (hK : ∀ (ls : List LoV) (l : LoV), ls ++ [l] = spreadV (loBase a) a.links ts → ls.length = a.links.length → K (.t [(false, [.s 12 ((boxesV ls a.links).map (bx4 800000))]), (false, [.v (.int .i64 0)])])) : Holds (goal_hBoxes a B ts qs K) := by
 refine ⟨?_⟩
 rw [goal_hBoxes_vc]
 try simp only [Zj, true_and, and_true, Zh, true_implies]
 obtain ⟨hg, ⟨hB, hts⟩, hq⟩ := hc
 have hn := hg.n
 have hqs := hq.1
 have fl := frames_len a.links qs (baseV a) (by omega)
 refine ⟨a, B, ts, qs, rfl, rfl, ⟨hg, ⟨hB, hts⟩, hq⟩, fun ls l he hl => ⟨⟨⟨ls, l, spOf 0, spOf 0, 0, 0⟩, ⟨⟨he, hl⟩, by simp⟩, rfl, rfl, by simp, rfl, rfl⟩, fun x hx => bif_mk (fun hp => ?_) (fun hp => ?_)⟩⟩
 ·have hp : x.i < a.links.length := by have := of_decide_eq_true hp; omega
  have hxl := hx.1.len
  obtain ⟨L, hL⟩ : ∃ L, a.links[x.i]? = some L := ⟨_, Zc hp⟩
  obtain ⟨y, hy⟩ : ∃ y, x.ls[x.i]? = some y := ⟨_, Zc (by omega)⟩
  obtain ⟨g, hgx⟩ : ∃ g, (framesV (baseV a) a.links qs)[x.i]? = some g := ⟨_, Zc (by omega)⟩
  have hy2 : (x.ls ++ [x.l])[x.i]? = some y := by rw [List.getElem?_append_left (by omega)]; exact hy
  obtain ⟨m, hm, ld⟩ := los_ld hn.2 hy2
  rw [hx.1.eq] at hy2
  have hh := spread_has a.links ts qs (loBase a) (baseV a) (base_has a) hq x.i y g hy2 hgx
  have gL : a.links.getD x.i zLk = L := gD_of hL
  have gS : x.ls.getD x.i zLo = y := gD_of hy
  have hpo := (hg.links L (List.mem_of_getElem? hL)).poly
  have p1 := hpo.lo
  have p2 := hpo.hi
  obtain ⟨p0, hp0⟩ : ∃ p, L.shape[0]? = some p := ⟨_, Zc (by omega)⟩
  have tl : L.shape.tail.length = L.shape.length - 1 := List.length_tail
  have et : Ze (((L.shape.map vecCh).length : Int).toNat - 1) (Zi 1 (L.shape.map vecCh)) = L.shape.tail.map vecCh := by
   rw [Zk, Zf, List.drop_one, ← List.map_tail, Zg (by simp)]
  refine ⟨by rw [Zf]; omega, _, _, _, _, _, _, _, _, _, _, _, link_ld (by simpa using hL), by rw [losR_len]; omega, _, _, _, _, _, _, _, _, _, _, _, _, _, _, _, _, by rw [Zk]; exact ld, by rw [Zf]; omega, _, _, _, _, vec_ld (i := 0) hp0, y, m, p0, g, rfl, rfl, ⟨by omega, hh⟩, fun b1 b2 h1 h2 => ⟨by rw [Zf]; omega, ⟨⟨x.ls, x.l, atX y p0, atY y p0, x.i, 0⟩, ⟨⟨⟨⟨hx.1.eq, hxl⟩, hp, by simp⟩, ⟨(atX_has hh p0).ok, (atY_has hh p0).ok⟩, ?_, ?_⟩, rfl⟩, rfl, rfl, rfl, rfl, by rw [gL]; exact et, by rw [et, gL, Zf], rfl, by rw [gL], Zh _, by rw [gL], Zh _, by rw [gL], Zh _, by rw [gL], Zh _, by rw [gL], Zh _, by rw [gL], rfl, by omega, rfl, by omega, rfl, by omega, rfl, by omega, .inl rfl⟩, fun z hz hzt => bif_mk (fun hk => ?_) (fun hk => ?_)⟩⟩
  ·show hX (x.ls.getD x.i zLo) ((a.links.getD x.i zLk).shape.tail.drop 0) (atX y p0) = (hullV (x.ls.getD x.i zLo) (a.links.getD x.i zLk)).1
   rw [gL, gS, Zl]
   unfold hullV
   rw [head_of hp0]
  ·show hY (x.ls.getD x.i zLo) ((a.links.getD x.i zLk).shape.tail.drop 0) (atY y p0) = (hullV (x.ls.getD x.i zLo) (a.links.getD x.i zLk)).2
   rw [gL, gS, Zl]
   unfold hullV
   rw [head_of hp0]
  ·have hk : z.j < (a.links.getD z.i zLk).shape.tail.length := by have := of_decide_eq_true hk; omega
   obtain ⟨⟨hzI, hzi, hzj⟩, ⟨ox, oy⟩, ex, ey⟩ := hz
   have hzl := hzI.len
   obtain ⟨M, hM⟩ : ∃ M, a.links[z.i]? = some M := ⟨_, Zc hzi⟩
   obtain ⟨w, hw⟩ : ∃ w, z.ls[z.i]? = some w := ⟨_, Zc (by omega)⟩
   obtain ⟨e, hex⟩ : ∃ g, (framesV (baseV a) a.links qs)[z.i]? = some g := ⟨_, Zc (by omega)⟩
   have hw2 : (z.ls ++ [z.l])[z.i]? = some w := by rw [List.getElem?_append_left (by omega)]; exact hw
   obtain ⟨m', hm', ld'⟩ := los_ld hn.2 hw2
   rw [hzI.eq] at hw2
   have hh' := spread_has a.links ts qs (loBase a) (baseV a) (base_has a) hq z.i w e hw2 hex
   have gM : a.links.getD z.i zLk = M := gD_of hM
   have gW : z.ls.getD z.i zLo = w := gD_of hw
   have q2 := ((hg.links M (List.mem_of_getElem? hM)).poly).hi
   have tM : M.shape.tail.length = M.shape.length - 1 := List.length_tail
   have hk2 : z.j < M.shape.tail.length := by rw [gM] at hk; exact hk
   obtain ⟨v, hv⟩ : ∃ v, M.shape.tail[z.j]? = some v := ⟨_, Zc hk2⟩
   have hv2 : (a.links.getD z.i zLk).shape.tail[z.j]? = some v := by rw [gM]; exact hv
   rw [drop_get' hv2, gW] at ex ey
   refine ⟨by rw [Zf]; omega, _, _, _, _, vec_ld (by simpa using hv2), by rw [losR_len]; omega, _, _, _, _, _, _, _, _, _, _, _, _, _, _, _, _, by rw [Zk]; exact ld', w, m', v, e, rfl, rfl, ⟨by omega, hh'⟩, fun c1 c2 k1 k2 => ⟨⟨by omega, ox, (atX_has hh' v).ok⟩, ⟨by omega, oy, (atY_has hh' v).ok⟩, ⟨z.ls, z.l, spJoin z.x (atX w v), spJoin z.y (atY w v), z.i, z.j + 1⟩, ⟨⟨⟨⟨hzI.eq, hzl⟩, hzi, hk⟩, ⟨join_ok ox, join_ok oy⟩, ?_, ?_⟩, hzt, by simp only; omega⟩, rfl, rfl, rfl, rfl, rfl, rfl, by rw [w64 (by omega)]; simp, rfl, rfl, rfl, rfl, rfl, rfl, rfl, by omega, rfl, by omega, rfl, by omega, rfl, by omega, .inl rfl⟩⟩
   ·rw [← gW] at ex ⊢; exact ex
   ·rw [← gW] at ey ⊢; exact ey
  ·obtain ⟨⟨hzI, hzi, hzj⟩, ⟨ox, oy⟩, ex, ey⟩ := hz
   have hk : z.j = (a.links.getD z.i zLk).shape.tail.length := by have := of_decide_eq_false hk; omega
   have hzl := hzI.len
   obtain ⟨M, hM⟩ : ∃ M, a.links[z.i]? = some M := ⟨_, Zc hzi⟩
   obtain ⟨w, hw⟩ : ∃ w, z.ls[z.i]? = some w := ⟨_, Zc (by omega)⟩
   have gM : a.links.getD z.i zLk = M := gD_of hM
   have gW : z.ls.getD z.i zLo = w := gD_of hw
   rw [hk, List.drop_length, gW, gM] at ex ey
   have ex : z.x = (hullV w M).1 := ex
   have ey : z.y = (hullV w M).2 := ey
   have hbl := boxes_len hzl
   refine ⟨by omega, ⟨z.ls, z.l, z.x, z.y, z.i + 1, 0⟩, ⟨⟨⟨hzI.eq, hzl⟩, hzi⟩, by simp only; omega⟩, rfl, rfl, by rw [w64 (by omega)]; simp, .inl ?_⟩
   rw [Zg (by rw [Zf, List.length_take]; omega), List.take_add_one, boxes_get hw hM, List.map_append, ex, ey]
   rfl
 ·have hp : x.i = a.links.length := by have := of_decide_eq_false hp; have := hx.2; omega
  have hbl := boxes_len hx.1.len
  have := hK x.ls x.l hx.1.eq hx.1.len
  rw [Zl, Zg (by rw [Zf, List.length_take]; omega), Zg (by omega)]
  exact this
def c_hBoxes : Ctr := fun as0 => match as0 with
 | [.x true xs, .x false [.s 6 ys]] => some fun K => ∃ (a : ArmV) (B : Nat) (ts : List Sp) (qs : List Rat), xs = armCh a ∧ ys = ts.map (spN B) ∧ ((GoodArm a) ∧ (B ≤ 400 ∧ ts.length = a.links.length) ∧ (HasQ ts qs)) ∧ (∀ (ls : List LoV) (l : LoV), ls ++ [l] = spreadV (loBase a) a.links ts → ls.length = a.links.length → K (.t [(false, [.s 12 ((boxesV ls a.links).map (bx4 800000))]), (false, [.v (.int .i64 0)])]))
 | _ => none
theorem ok_hBoxes : CtrOK Tryz.prog tabG debT 92 c_hBoxes := by
 refine ⟨enters Tryz.func92 (by kernel_rfl), fun l T hT K hK => ?_⟩
 unfold c_hBoxes at hT
 split at hT
 ·cases hT
  obtain ⟨a, B, ts, qs, rfl, rfl, hc, hK⟩ := hK
  exact spec_ofL T158ok mixed Tryz.func92 (by kernel_rfl) (by kernel_rfl) (by rfl) (g_hBoxes _ _ _ _ hc K hK)
 ·cases hT
def L159 : List (Nat × Ctr) := (92, c_hBoxes) :: L158
theorem L159ok : CtrsOK Tryz.prog tabG debT L159 := .cons ok_hBoxes L158ok
def L160 : List (Nat × Ctr) := L159
def T160 : Tabs := mkT L160 M79 X4
theorem L160ok : CtrsOK Tryz.prog tabG debT L160 := L159ok
theorem T160ok : TabsOK Tryz.prog tabG debT T160 := mkTok L160ok M79ok X4ok
end Go.Proofs
