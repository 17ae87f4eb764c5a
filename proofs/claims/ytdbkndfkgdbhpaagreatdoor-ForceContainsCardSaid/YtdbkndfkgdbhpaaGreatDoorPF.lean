/- Bounds of torques, Holds; ForceContains. -/
import Derived.Test.YtdbkndfkgdbhpaaGreatDoorPD
import Derived.Test.YtdbkndfkgdbhpaaGreatDoorFT
/- Bounds of torques, Holds; ForceContains. -/
namespace Go.Proofs
open Go Go.Eng
def armB (u v : Rat) (l : LoV) : Sp := spSub (spMul l.c (spOf v)) (spMul l.s (spOf u))
def bndV (u v : Rat) : List LoV → List LinkV → List Sp
  | l :: los, L :: ls => spAdd ((bndV u v los ls).headD (spOf 0)) (spMul (spOf L.len) (armB u v l)) :: bndV u v los ls
  | _, _ => []
def bndA (a : ArmV) (ts : List Sp) (u v : Rat) : List Sp := bndV u v (spreadV (loBase a) a.links ts) a.links
def zS : List Ch := zeroR ++ zeroR
def rowS (n : Nat) (bs : List Sp) (k : Nat) : List (List Ch) := List.replicate k zS ++ (bs.drop k).map (spN n)
structure BdX where
  ls : List LoV
  l : LoV
  k : Nat
structure BdI (a : ArmV) (ts : List Sp) (x : BdX) : Prop where
  eq : x.ls ++ [x.l] = spreadV (loBase a) a.links ts
  len : x.ls.length = a.links.length
  le : x.k ≤ a.links.length
def inv_bnd (a : ArmV) (ts : List Sp) (u : Rat) (c : Nat) (v : Rat) (d : Nat) : LI := fun _ => .inv ⟨BdX, fun x => ⟨[(3, .x false [.p 3 0]), (8, .x false [.s 24 (losR a x.ls x.l)]), (10, .x false [.p 10 0]), (11, .x false [.p 11 0]), (12, .x false [.p 12 0]), (13, .x false [.w 500 0 a.links.length]), (14, iA .i64 ((x.k : Int) - 1))],
    [(3, .box 44 (armCh a)), (10, .box 58 (spN c (spOf u))), (11, .box 58 (spN d (spOf v))), (12, .box 58 (spN (64 + 490000 * (a.links.length - x.k)) (((bndA a ts u v).drop x.k).headD (spOf 0)))), (500, .row 58 6 (rowS 2000000 (bndA a ts u v) x.k))]⟩, BdI a ts, fun x => x.k, fun _ => 0⟩
def inv_holds (a : ArmV) (ts : List Sp) (u v : Rat) (N : Nat) (lim : List Rat) : LI := fun _ => .inv ⟨Nat, fun i => ⟨[(3, sR N lim), (33, .x false [.s 6 ((bndA a ts u v).map (spN 2000000))]), (34, iA .i64 a.links.length), (35, iA .i64 i)], []⟩, fun i => i ≤ a.links.length, fun i => a.links.length - i, fun _ => 0⟩
def L156f : List (Nat × Ctr) := (34, c_oTorq) :: (31, c_kLoads) :: (32, c_mVec) :: L152
def T156f : Tabs := mkT L156f M79 X4
theorem L156fok : CtrsOK Tryz.prog tabG debT L156f := .cons ok_oTorq (.cons ok_kLoads (.cons ok_mVec L152ok))
theorem T156fok : TabsOK Tryz.prog tabG debT T156f := mkTok L156fok M79ok X4ok
theorem bnd_drop (u v : Rat) : ∀ (los : List LoV) (ls : List LinkV) (i : Nat), bndV u v (los.drop i) (ls.drop i) = (bndV u v los ls).drop i := by
  intro los
  induction los with
  | nil => intro ls i; simp [bndV]
  | cons l los ih =>
    intro ls i
    cases ls with
    | nil => simp [bndV]
    | cons L ls =>
      cases i with
      | zero => rfl
      | succ i => rw [List.drop_succ_cons, List.drop_succ_cons, bndV, List.drop_succ_cons]; exact ih ls i
theorem bnd_len (u v : Rat) : ∀ (los : List LoV) (ls : List LinkV), ls.length ≤ los.length → (bndV u v los ls).length = ls.length := by
  intro los
  induction los with
  | nil => intro ls h; cases ls with
    | nil => rfl
    | cons L ls => simp at h
  | cons l los ih =>
    intro ls h
    cases ls with
    | nil => rfl
    | cons L ls => simp only [bndV, List.length_cons]; rw [ih ls (by simpa using h)]
theorem bnd_at (u v : Rat) {los : List LoV} {ls : List LinkV} {i : Nat} {l : LoV} {L : LinkV} (h : los[i]? = some l) (k : ls[i]? = some L) :
    (bndV u v los ls).drop i = spAdd (((bndV u v los ls).drop (i + 1)).headD (spOf 0)) (spMul (spOf L.len) (armB u v l)) :: (bndV u v los ls).drop (i + 1) := by
  rw [← bnd_drop, ← bnd_drop, drop_get' h, drop_get' k, bndV]
theorem armB_has {l : LoV} {f : FrV} (h : l.has f) (u v : Rat) : (armB u v l).has (cosT f.h f.t * v - sinT f.h f.t * u) := spSub_has (spMul_has h.c (spOf_has v)) (spMul_has h.s (spOf_has u))
theorem bnd_has (u v : Rat) : ∀ (ls : List LinkV) (ts : List Sp) (qs : List Rat) (l : LoV) (b : FrV) (fs : List FrV) (f : FrV), l.has b → HasQ ts qs → qs.length = ls.length → framesV b ls qs = fs ++ [f] →
    ((bndV u v (spreadV l ls ts) ls).headD (spOf 0)).has ((f.x - b.x) * v - (f.y - b.y) * u) ∧ HasQ (bndV u v (spreadV l ls ts) ls) (torqV f u v fs) := by
  intro ls
  induction ls with
  | nil =>
    intro ts qs l b fs f h hq hl he
    have e2 : framesV b [] qs = [b] := by cases qs <;> rfl
    rw [e2] at he
    obtain ⟨e3, e4⟩ := snoc_inj (show [] ++ [b] = fs ++ [f] from he)
    subst e3; subst e4
    have e1 : spreadV l [] ts = [l] := by cases ts <;> rfl
    rw [e1]
    refine ⟨?_, rfl, fun i t q h1 h2 => by simp [bndV] at h1⟩
    have e : (b.x - b.x) * v - (b.y - b.y) * u = 0 := by grind
    rw [e]
    exact spOf_has 0
  | cons L ls ih =>
    intro ts qs l b fs f h hq hl he
    match ts, qs, hq, hl with
    | [], [], _, hl => simp at hl
    | [], q :: qs, hq, _ => exact absurd hq.1 (by simp)
    | t :: ts, [], hq, _ => exact absurd hq.1 (by simp)
    | t :: ts, q :: qs, hq, hl =>
      obtain ⟨h1, h2⟩ := hq.tail
      have hn := loNext_has h h1
      obtain ⟨x1, x2⟩ := head_xy b q
      rw [framesV] at he
      match fs, he with
      | [], he =>
        have := congrArg List.length he
        rw [List.length_cons, frames_len ls qs _ (by simpa using hl)] at this
        simp at this
      | g :: fs, he =>
        rw [List.cons_append] at he
        obtain ⟨eg, he⟩ := List.cons.inj he
        obtain ⟨i1, i2⟩ := ih ts qs _ _ fs f (loEnd_has hn L.len) h2 (by simpa using hl) he
        have px : (frThen (frThen b ⟨0, 0, false, q⟩) ⟨L.len, 0, false, 0⟩).x = b.x + L.len * cosT (frThen b ⟨0, 0, false, q⟩).h (frThen b ⟨0, 0, false, q⟩).t := by
          rw [← x1]; show putX _ L.len 0 = _; unfold putX; grind
        have py : (frThen (frThen b ⟨0, 0, false, q⟩) ⟨L.len, 0, false, 0⟩).y = b.y + L.len * sinT (frThen b ⟨0, 0, false, q⟩).h (frThen b ⟨0, 0, false, q⟩).t := by
          rw [← x2]; show putY _ L.len 0 = _; unfold putY; grind
        rw [px, py] at i1
        have key := spAdd_has i1 (spMul_has (spOf_has L.len) (armB_has hn u v))
        have hd : ((bndV u v (spreadV l (L :: ls) (t :: ts)) (L :: ls)).headD (spOf 0)).has ((f.x - b.x) * v - (f.y - b.y) * u) := by
          rw [spreadV, bndV, List.headD_cons]
          refine cast (congrArg _ ?_) key
          grind
        refine ⟨hd, ?_, fun i s w hs hw => ?_⟩
        · have := i2.1
          simp only [spreadV, bndV, torqV, List.map_cons, List.length_cons] at this ⊢
          rw [this]
        · cases i with
          | zero =>
            have e1 : ((bndV u v (spreadV l (L :: ls) (t :: ts)) (L :: ls)).headD (spOf 0)) = s := by
              rw [spreadV, bndV] at hs ⊢; cases hs; rfl
            have e2 : w = (f.x - b.x) * v - (f.y - b.y) * u := by
              simp only [torqV, List.map_cons, List.getElem?_cons_zero, Option.some.injEq] at hw
              rw [← hw, ← eg, x1, x2]
            rw [e1] at hd; rw [e2]; exact hd
          | succ i =>
            rw [spreadV, bndV, List.getElem?_cons_succ] at hs
            exact i2.2 i s w hs (by simpa [torqV] using hw)
theorem rowS_len {n k : Nat} {bs : List Sp} (h : k ≤ bs.length) : (rowS n bs k).length = bs.length := by simp [rowS]; omega
theorem rowS_set {N m1 m2 k : Nat} {bs : List Sp} {s : Sp} (h : bs[k]? = some s) (h1 : m1 ≤ N) (h2 : m2 ≤ N) : RowLE ((rowS N bs (k + 1)).set k [.r s.lo m1, .r s.hi m2]) (rowS N bs k) := by
  have hk := (List.getElem?_eq_some_iff.1 h).1
  have e1 : rowS N bs k = List.replicate k zS ++ spN N s :: (bs.drop (k + 1)).map (spN N) := by
    unfold rowS; rw [drop_get' h, List.map_cons]
  have e2 : (rowS N bs (k + 1)).set k [.r s.lo m1, .r s.hi m2] = List.replicate k zS ++ [.r s.lo m1, .r s.hi m2] :: (bs.drop (k + 1)).map (spN N) := by
    unfold rowS
    rw [← List.replicate_append_replicate, List.append_assoc, List.set_append_right _ _ (by simp), List.length_replicate, Nat.sub_self]
    rfl
  rw [e1, e2]
  refine ⟨by simp, fun i c d hc hd => ?_⟩
  by_cases hi : i < k
  · rw [List.getElem?_append_left (by simpa using hi), List.getElem?_replicate, if_pos hi] at hc hd
    cases hc; cases hd
    exact ⟨.v (.v (.v (.v (.v (.v .nil))))), rfl⟩
  · rw [List.getElem?_append_right (by simp; omega), List.length_replicate] at hc hd
    cases hj : i - k with
    | zero =>
      rw [hj] at hc hd
      cases hc; cases hd
      exact ⟨.r h1 (.r h2 .nil), rfl⟩
    | succ j =>
      rw [hj, List.getElem?_cons_succ, List.getElem?_map] at hc hd
      cases hg : (bs.drop (k + 1))[j]? with
      | none => rw [hg] at hc; cases hc
      | some w => rw [hg] at hc hd; cases hc; cases hd; exact ⟨.r (Nat.le_refl _) (.r (Nat.le_refl _) .nil), rfl⟩
theorem rowS_zero (n : Nat) (bs : List Sp) : rowS n bs 0 = bs.map (spN n) := by simp [rowS]
theorem rowS_full {n : Nat} {bs : List Sp} {k : Nat} (h : bs.length = k) : rowS n bs k = List.replicate k zS := by
  unfold rowS; rw [List.drop_of_length_le (by omega)]; simp
theorem los_el {a : ArmV} {ls : List LoV} {l y : LoV} {i : Nat} (ha : a.links.length ≤ 3) (h : (ls ++ [l])[i]? = some y) : ∃ m, m ≤ 240000 ∧ ldE (losR a ls l) i 12 6 = some (spN m y.c) ∧ ldE (losR a ls l) i 18 6 = some (spN m y.s) := by
  have key : ∃ m, m ≤ 240000 ∧ (losR a ls l)[i]? = some (loN m y) := by
    unfold losR
    by_cases hi : i < ls.length
    · rw [List.getElem?_append_left hi] at h
      exact ⟨240000, Nat.le_refl _, by rw [List.getElem?_append_left (by simpa using hi), List.getElem?_map, h]; rfl⟩
    · rw [List.getElem?_append_right (by omega)] at h
      have : i - ls.length = 0 := by
        have := (List.getElem?_eq_some_iff.1 h).1
        simp at this; omega
      rw [this] at h
      cases h
      exact ⟨lb a.links.length, lb_le3 ha, by rw [List.getElem?_append_right (by simp; omega), List.length_map, this]; rfl⟩
  obtain ⟨m, hm, hk⟩ := key
  exact ⟨m, hm, by simp only [ldE, hk]; rfl, by simp only [ldE, hk]; rfl⟩
theorem link_l3 {l : List LinkV} {i : Nat} {L : LinkV} (h : l[i]? = some L) : ldE (l.map linkCh) i 0 3 = some [.r L.len 63] := by
  simp only [ldE, List.getElem?_map, h]; rfl
theorem head_ok {bs : List Sp} (h : ∀ (i : Nat) s, bs[i]? = some s → s.lo ≤ s.hi) (k : Nat) : ((bs.drop k).headD (spOf 0)).lo ≤ ((bs.drop k).headD (spOf 0)).hi := by
  cases hd : bs.drop k with
  | nil => exact Rat.le_refl
  | cons s r =>
    refine h k s ?_
    have : (bs.drop k)[0]? = some s := by rw [hd]; rfl
    simpa using this
theorem bndA_has {a : ArmV} {ts : List Sp} {qs : List Rat} (u v : Rat) (hq : HasQ ts qs) (hl : qs.length = a.links.length) {fs : List FrV} {f : FrV} (he : fs ++ [f] = framesV (baseV a) a.links qs) : HasQ (bndA a ts u v) (torqV f u v fs) :=
  (bnd_has u v a.links ts qs (loBase a) (baseV a) fs f (base_has a) hq hl he.symm).2
theorem bndA_ok {a : ArmV} {ts : List Sp} {qs : List Rat} (u v : Rat) (hq : HasQ ts qs) (hl : qs.length = a.links.length) (i : Nat) (s : Sp) (hs : (bndA a ts u v)[i]? = some s) : s.lo ≤ s.hi := by
  have fl := frames_len a.links qs (baseV a) hl
  have hne : framesV (baseV a) a.links qs ≠ [] := fun h => by rw [h] at fl; simp at fl
  have hh := bndA_has u v hq hl (List.dropLast_concat_getLast hne)
  have h1 := (List.getElem?_eq_some_iff.1 hs).1
  obtain ⟨q, hqq⟩ : ∃ q, (torqV ((framesV (baseV a) a.links qs).getLast hne) u v (framesV (baseV a) a.links qs).dropLast)[i]? = some q := ⟨_, List.getElem?_eq_getElem (by rw [← hh.1]; exact h1)⟩
  exact (hh.2 i s q hs hqq).ok
theorem spn_ld {n : Nat} {us : List Sp} {i : Nat} {u : Sp} (h : us[i]? = some u) : ldE (us.map (spN n)) i 0 6 = some (spN n u) := by
  simp only [ldE, List.getElem?_map, h]; rfl
def ot_oBnd : OT := fun id => bif id.beq 4 then ([0, 1, 3, 4, 6, 7, 2, 5, 8, 9], [[], [0], [1, 0], [], [3], [4, 3, 2, 1, 0], [], [], [6, 2, 1, 0, 5, 4, 3, 7], [7, 5, 4, 3, 2, 1, 0, 8, 6]]) else bif id.beq 10 then ([0, 1, 2, 3, 4, 5, 7, 8, 9, 10, 11, 12, 15, 6, 13, 14, 16], [[], [], [0, 1], [2, 0, 1], [3, 2, 0, 1], [], [4, 3, 2, 0, 1, 5], [], [], [7, 8], [9, 7, 8], [10, 9, 7, 8], [], [11, 10, 9, 7, 8, 12, 6, 4, 3, 2, 0, 1, 5], [6, 4, 3, 2, 0, 1, 5, 13, 11, 10, 9, 7, 8, 12], [], [15, 14, 6, 4, 3, 2, 0, 1, 5, 13, 11, 10, 9, 7, 8, 12]]) else bif id.beq 11 then ([0, 1, 2, 3, 4, 5, 6, 8, 7, 9, 10, 11], [[], [], [1], [], [2, 1, 3], [4, 2, 1, 3], [5, 4, 2, 1, 3], [6, 5, 4, 2, 1, 3], [], [7, 6, 5, 4, 2, 1, 3, 8], [0, 9, 7, 6, 5, 4, 2, 1, 3, 8], [10, 0, 9, 7, 6, 5, 4, 2, 1, 3, 8]]) else ([], [])
def goal_oBnd (a : ArmV) (B : Nat) (ts : List Sp) (qs : List Rat) (u : Rat) (c : Nat) (v : Rat) (d : Nat) (K : AV → Prop) : Prop := goalL T156f ot_oBnd (inv_bnd a ts u c v d) Tryz.f33 [armA a, .x false [.s 6 (ts.map (spN B))], .x true [.r u c, .r v d]] K
theorem goal_oBnd_vc (a : ArmV) (B : Nat) (ts : List Sp) (qs : List Rat) (u : Rat) (c : Nat) (v : Rat) (d : Nat) (K : AV → Prop) : goal_oBnd a B ts qs u c v d K = ( ∃ (a_1 : ArmV), ∃ (B_1 : Nat), ∃ (ts_1 : List Sp), ∃ (qs : List Rat), [Ch.v (Value.string (ArmV.name a)), Ch.r (ArmV.x a) (63 : Nat), Ch.r (ArmV.y a) (63 : Nat), Ch.v (Value.bool (ArmV.half a)), Ch.r (ArmV.t a) (63 : Nat), Ch.s (16 : Nat) (List.map linkCh (ArmV.links a))] = [Ch.v (Value.string (ArmV.name a_1)), Ch.r (ArmV.x a_1) (63 : Nat), Ch.r (ArmV.y a_1) (63 : Nat), Ch.v (Value.bool (ArmV.half a_1)), Ch.r (ArmV.t a_1) (63 : Nat), Ch.s (16 : Nat) (List.map linkCh (ArmV.links a_1))] ∧ List.map (spN B) ts = List.map (spN B_1) ts_1 ∧ (GoodArm a_1 ∧ (B_1 ≤ (400 : Nat) ∧ List.length ts_1 = List.length (ArmV.links a_1)) ∧ List.length ts_1 = List.length qs ∧ ∀ (i : Nat) (t : Sp) (q : Rat), ts_1[i]? = some t → qs[i]? = some q → Sp.lo t ≤ q ∧ q ≤ Sp.hi t) ∧ ∀ (ls : List LoV) (l : LoV), ls ++ [l] = spreadV (loBase a_1) (ArmV.links a_1) ts_1 → List.length ls = List.length (ArmV.links a_1) → c ≤ (2000000000 : Nat) ∧ d ≤ (2000000000 : Nat) ∧ ((-9223372036854775808 : Int) ≤ (0 : Int) ∧ (0 : Int) < (9223372036854775808 : Int)) ∧ (64 : Nat) ≤ (2000000000 : Nat) ∧ ((0 : Int) ≤ Int.ofNat (List.length (List.map linkCh (ArmV.links a))) ∧ Int.ofNat (List.length (List.map linkCh (ArmV.links a))) ≤ Int.ofNat (List.length (List.map linkCh (ArmV.links a))) ∧ (80 : Int) * Int.ofNat (List.length (List.map linkCh (ArmV.links a))) ≤ (281474976710656 : Int) ∧ Int.ofNat (List.length (List.map linkCh (ArmV.links a))) ≤ (9223372036854775807 : Int)) ∧ (∃ (x : BdX), (BdI a ts x ∧ OfNat.ofNat (0 : Nat) = (0 : Nat)) ∧ (0 : Nat) = (0 : Nat) ∧ (24 : Nat) = (24 : Nat) ∧ List.map (loN (240000 : Nat)) ls ++ [[Ch.r (Sp.lo (LoV.x l)) (lb (List.length (ArmV.links a_1))), Ch.r (Sp.hi (LoV.x l)) (lb (List.length (ArmV.links a_1))), Ch.r (Sp.lo (LoV.y l)) (lb (List.length (ArmV.links a_1))), Ch.r (Sp.hi (LoV.y l)) (lb (List.length (ArmV.links a_1))), Ch.r (Sp.lo (LoV.c l)) (lb (List.length (ArmV.links a_1))), Ch.r (Sp.hi (LoV.c l)) (lb (List.length (ArmV.links a_1))), Ch.r (Sp.lo (LoV.s l)) (lb (List.length (ArmV.links a_1))), Ch.r (Sp.hi (LoV.s l)) (lb (List.length (ArmV.links a_1)))]] = losR a (BdX.ls x) (BdX.l x) ∧ (0 : Nat) = (0 : Nat) ∧ (0 : Nat) = (0 : Nat) ∧ (0 : Nat) = (0 : Nat) ∧ (0 : Nat) = (0 : Nat) ∧ Int.toNat (Int.ofNat (List.length (List.map linkCh (ArmV.links a)))) = List.length (ArmV.links a) ∧ IntKind.wrap IntKind.i64 (Int.ofNat (List.length (List.map linkCh (ArmV.links a))) - (1 : Int)) = Int.ofNat (BdX.k x) - (1 : Int) ∧ (44 : Nat) = (44 : Nat) ∧ ArmV.name a = ArmV.name a ∧ ArmV.x a = ArmV.x a ∧ (63 : Nat) ≤ (63 : Nat) ∧ ArmV.y a = ArmV.y a ∧ (63 : Nat) ≤ (63 : Nat) ∧ ArmV.half a = ArmV.half a ∧ ArmV.t a = ArmV.t a ∧ (63 : Nat) ≤ (63 : Nat) ∧ (16 : Nat) = (16 : Nat) ∧ List.map linkCh (ArmV.links a) = List.map linkCh (ArmV.links a) ∧ (58 : Nat) = (58 : Nat) ∧ u = Sp.lo (spOf u) ∧ c ≤ c ∧ u = Sp.hi (spOf u) ∧ c ≤ c ∧ (58 : Nat) = (58 : Nat) ∧ v = Sp.lo (spOf v) ∧ d ≤ d ∧ v = Sp.hi (spOf v) ∧ d ≤ d ∧ (58 : Nat) = (58 : Nat) ∧ (((0 : Int) : Int) : Rat) = Sp.lo (List.headD (List.drop (BdX.k x) (bndA a ts u v)) (spOf (OfNat.ofNat (0 : Nat)))) ∧ (64 : Nat) ≤ (64 : Nat) + (490000 : Nat) * (List.length (ArmV.links a) - BdX.k x) ∧ (((0 : Int) : Int) : Rat) = Sp.hi (List.headD (List.drop (BdX.k x) (bndA a ts u v)) (spOf (OfNat.ofNat (0 : Nat)))) ∧ (64 : Nat) ≤ (64 : Nat) + (490000 : Nat) * (List.length (ArmV.links a) - BdX.k x) ∧ (58 : Nat) = (58 : Nat) ∧ (6 : Nat) = (6 : Nat) ∧ (List.replicate (Int.toNat (Int.ofNat (List.length (List.map linkCh (ArmV.links a))))) [Ch.v (Value.bool false), Ch.v (Value.string (ByteArray.mk (Array.mk []))), Ch.v (Value.string (ByteArray.mk (Array.mk []))), Ch.v (Value.bool false), Ch.v (Value.string (ByteArray.mk (Array.mk []))), Ch.v (Value.string (ByteArray.mk (Array.mk [])))] = rowS (2000000 : Nat) (bndA a ts u v) (BdX.k x) ∨ RowLE (List.replicate (Int.toNat (Int.ofNat (List.length (List.map linkCh (ArmV.links a))))) [Ch.v (Value.bool false), Ch.v (Value.string (ByteArray.mk (Array.mk []))), Ch.v (Value.string (ByteArray.mk (Array.mk []))), Ch.v (Value.bool false), Ch.v (Value.string (ByteArray.mk (Array.mk []))), Ch.v (Value.string (ByteArray.mk (Array.mk [])))]) (rowS (2000000 : Nat) (bndA a ts u v) (BdX.k x))) ∧ True) ∧ ∀ (x : BdX), BdI a ts x → OfNat.ofNat (0 : Nat) = (0 : Nat) → bif decide (Int.ofNat (BdX.k x) - (1 : Int) ≥ (0 : Int)) then ((0 : Int) ≤ Int.ofNat (BdX.k x) - (1 : Int) ∧ Int.ofNat (BdX.k x) - (1 : Int) < Int.ofNat (List.length (losR a (BdX.ls x) (BdX.l x)))) ∧ ∃ (q : Rat), ∃ (n : Nat), ∃ (q_1 : Rat), ∃ (n_1 : Nat), ldE (losR a (BdX.ls x) (BdX.l x)) (Int.toNat (Int.ofNat (BdX.k x) - (1 : Int))) (12 : Nat) (6 : Nat) = some [Ch.r q n, Ch.r q_1 n_1] ∧ ((0 : Int) ≤ Int.ofNat (BdX.k x) - (1 : Int) ∧ Int.ofNat (BdX.k x) - (1 : Int) < Int.ofNat (List.length (losR a (BdX.ls x) (BdX.l x)))) ∧ ∃ (q_2 : Rat), ∃ (n_2 : Nat), ∃ (q_3 : Rat), ∃ (n_3 : Nat), ldE (losR a (BdX.ls x) (BdX.l x)) (Int.toNat (Int.ofNat (BdX.k x) - (1 : Int))) (18 : Nat) (6 : Nat) = some [Ch.r q_2 n_2, Ch.r q_3 n_3] ∧ (n + n_1 + d + d ≤ (2000000000 : Nat) ∧ q ≤ q_1 ∧ Sp.lo (spOf v) ≤ Sp.hi (spOf v)) ∧ ∀ (s : Sp) (n_4 : Nat), s = spMul (Sp.mk q q_1) (Sp.mk (Sp.lo (spOf v)) (Sp.hi (spOf v))) → n_4 ≤ max n n_1 + max d d → (n_2 + n_3 + c + c ≤ (2000000000 : Nat) ∧ q_2 ≤ q_3 ∧ Sp.lo (spOf u) ≤ Sp.hi (spOf u)) ∧ ∀ (s_1 : Sp) (n : Nat), s_1 = spMul (Sp.mk q_2 q_3) (Sp.mk (Sp.lo (spOf u)) (Sp.hi (spOf u))) → n ≤ max n_2 n_3 + max c c → (n_4 + n_4 + n + n ≤ (4294967290 : Nat) ∧ Sp.lo s ≤ Sp.hi s ∧ Sp.lo s_1 ≤ Sp.hi s_1) ∧ ((0 : Int) ≤ Int.ofNat (BdX.k x) - (1 : Int) ∧ Int.ofNat (BdX.k x) - (1 : Int) < Int.ofNat (List.length (List.map linkCh (ArmV.links a)))) ∧ ∃ (q : Rat), ∃ (n_5 : Nat), ldE (List.map linkCh (ArmV.links a)) (Int.toNat (Int.ofNat (BdX.k x) - (1 : Int))) (0 : Nat) (3 : Nat) = some [Ch.r q n_5] ∧ n_5 ≤ (2000000000 : Nat) ∧ (n_5 + n_5 + (n_4 + n + (1 : Nat)) + (n_4 + n + (1 : Nat)) ≤ (2000000000 : Nat) ∧ q ≤ q ∧ Sp.lo s - Sp.hi s_1 ≤ Sp.hi s - Sp.lo s_1) ∧ ∀ (s_2 : Sp) (n_6 : Nat), s_2 = spMul (Sp.mk q q) (Sp.mk (Sp.lo s - Sp.hi s_1) (Sp.hi s - Sp.lo s_1)) → n_6 ≤ max n_5 n_5 + max (n_4 + n + (1 : Nat)) (n_4 + n + (1 : Nat)) → ((64 : Nat) + (490000 : Nat) * (List.length (ArmV.links a) - BdX.k x) + ((64 : Nat) + (490000 : Nat) * (List.length (ArmV.links a) - BdX.k x)) + n_6 + n_6 ≤ (4294967290 : Nat) ∧ Sp.lo (List.headD (List.drop (BdX.k x) (bndA a ts u v)) (spOf (OfNat.ofNat (0 : Nat)))) ≤ Sp.hi (List.headD (List.drop (BdX.k x) (bndA a ts u v)) (spOf (OfNat.ofNat (0 : Nat)))) ∧ Sp.lo s_2 ≤ Sp.hi s_2) ∧ ((0 : Int) ≤ Int.ofNat (BdX.k x) - (1 : Int) ∧ Int.ofNat (BdX.k x) - (1 : Int) < Int.ofNat (List.length (ArmV.links a))) ∧ (0 : Nat) + Int.toNat (Int.ofNat (BdX.k x) - (1 : Int)) < List.length (rowS (2000000 : Nat) (bndA a ts u v) (BdX.k x)) ∧ ∃ (x' : BdX), (BdI a ts x' ∧ OfNat.ofNat (0 : Nat) = (0 : Nat) ∧ BdX.k x' < BdX.k x) ∧ (0 : Nat) = (0 : Nat) ∧ (24 : Nat) = (24 : Nat) ∧ losR a (BdX.ls x) (BdX.l x) = losR a (BdX.ls x') (BdX.l x') ∧ (0 : Nat) = (0 : Nat) ∧ (0 : Nat) = (0 : Nat) ∧ (0 : Nat) = (0 : Nat) ∧ (0 : Nat) = (0 : Nat) ∧ List.length (ArmV.links a) = List.length (ArmV.links a) ∧ IntKind.wrap IntKind.i64 (Int.ofNat (BdX.k x) - (1 : Int) - (1 : Int)) = Int.ofNat (BdX.k x') - (1 : Int) ∧ (44 : Nat) = (44 : Nat) ∧ ArmV.name a = ArmV.name a ∧ ArmV.x a = ArmV.x a ∧ (63 : Nat) ≤ (63 : Nat) ∧ ArmV.y a = ArmV.y a ∧ (63 : Nat) ≤ (63 : Nat) ∧ ArmV.half a = ArmV.half a ∧ ArmV.t a = ArmV.t a ∧ (63 : Nat) ≤ (63 : Nat) ∧ (16 : Nat) = (16 : Nat) ∧ List.map linkCh (ArmV.links a) = List.map linkCh (ArmV.links a) ∧ (58 : Nat) = (58 : Nat) ∧ Sp.lo (spOf u) = Sp.lo (spOf u) ∧ c ≤ c ∧ Sp.hi (spOf u) = Sp.hi (spOf u) ∧ c ≤ c ∧ (58 : Nat) = (58 : Nat) ∧ Sp.lo (spOf v) = Sp.lo (spOf v) ∧ d ≤ d ∧ Sp.hi (spOf v) = Sp.hi (spOf v) ∧ d ≤ d ∧ (58 : Nat) = (58 : Nat) ∧ Sp.lo (List.headD (List.drop (BdX.k x) (bndA a ts u v)) (spOf (OfNat.ofNat (0 : Nat)))) + Sp.lo s_2 = Sp.lo (List.headD (List.drop (BdX.k x') (bndA a ts u v)) (spOf (OfNat.ofNat (0 : Nat)))) ∧ (64 : Nat) + (490000 : Nat) * (List.length (ArmV.links a) - BdX.k x) + n_6 + (1 : Nat) ≤ (64 : Nat) + (490000 : Nat) * (List.length (ArmV.links a) - BdX.k x') ∧ Sp.hi (List.headD (List.drop (BdX.k x) (bndA a ts u v)) (spOf (OfNat.ofNat (0 : Nat)))) + Sp.hi s_2 = Sp.hi (List.headD (List.drop (BdX.k x') (bndA a ts u v)) (spOf (OfNat.ofNat (0 : Nat)))) ∧ (64 : Nat) + (490000 : Nat) * (List.length (ArmV.links a) - BdX.k x) + n_6 + (1 : Nat) ≤ (64 : Nat) + (490000 : Nat) * (List.length (ArmV.links a) - BdX.k x') ∧ (58 : Nat) = (58 : Nat) ∧ (6 : Nat) = (6 : Nat) ∧ (List.set (rowS (2000000 : Nat) (bndA a ts u v) (BdX.k x)) ((0 : Nat) + Int.toNat (Int.ofNat (BdX.k x) - (1 : Int))) [Ch.r (Sp.lo (List.headD (List.drop (BdX.k x) (bndA a ts u v)) (spOf (OfNat.ofNat (0 : Nat)))) + Sp.lo s_2) ((64 : Nat) + (490000 : Nat) * (List.length (ArmV.links a) - BdX.k x) + n_6 + (1 : Nat)), Ch.r (Sp.hi (List.headD (List.drop (BdX.k x) (bndA a ts u v)) (spOf (OfNat.ofNat (0 : Nat)))) + Sp.hi s_2) ((64 : Nat) + (490000 : Nat) * (List.length (ArmV.links a) - BdX.k x) + n_6 + (1 : Nat))] = rowS (2000000 : Nat) (bndA a ts u v) (BdX.k x') ∨ RowLE (List.set (rowS (2000000 : Nat) (bndA a ts u v) (BdX.k x)) ((0 : Nat) + Int.toNat (Int.ofNat (BdX.k x) - (1 : Int))) [Ch.r (Sp.lo (List.headD (List.drop (BdX.k x) (bndA a ts u v)) (spOf (OfNat.ofNat (0 : Nat)))) + Sp.lo s_2) ((64 : Nat) + (490000 : Nat) * (List.length (ArmV.links a) - BdX.k x) + n_6 + (1 : Nat)), Ch.r (Sp.hi (List.headD (List.drop (BdX.k x) (bndA a ts u v)) (spOf (OfNat.ofNat (0 : Nat)))) + Sp.hi s_2) ((64 : Nat) + (490000 : Nat) * (List.length (ArmV.links a) - BdX.k x) + n_6 + (1 : Nat))]) (rowS (2000000 : Nat) (bndA a ts u v) (BdX.k x'))) ∧ True else K (AV.t [(false, [Ch.s (6 : Nat) (List.take (List.length (ArmV.links a)) (List.drop (0 : Nat) (rowS (2000000 : Nat) (bndA a ts u v) (BdX.k x))))]), (false, [Ch.v (Value.int IntKind.i64 (0 : Int))])])) := by kernel_rfl
theorem g_oBnd (a : ArmV) (B : Nat) (ts : List Sp) (qs : List Rat) (u : Rat) (c : Nat) (v : Rat) (d : Nat) (hc : (GoodArm a) ∧ (B ≤ 400 ∧ ts.length = a.links.length) ∧ (HasQ ts qs) ∧ (c ≤ 1000 ∧ d ≤ 1000)) (K : AV → Prop) (hK : K (.t [(false, [.s 6 ((bndA a ts u v).map (spN 2000000))]), (false, [.v (.int .i64 0)])])) : Holds (goal_oBnd a B ts qs u c v d K) := by
  refine ⟨?_⟩
  rw [goal_oBnd_vc]
  try simp only [Int.ofNat_eq_natCast, true_and, and_true, Nat.zero_add, Nat.le_refl, true_implies, true_or, or_true]
  obtain ⟨hg, ⟨hB, hts⟩, hq, hcc, hdd⟩ := hc
  have hn := hg.n
  have hqs := hq.1
  have sl := spread_len a.links ts (loBase a) hts
  have bl : (bndA a ts u v).length = a.links.length := bnd_len u v _ _ (by omega)
  have fl := frames_len a.links qs (baseV a) (by omega)
  refine ⟨a, B, ts, qs, rfl, rfl, ⟨hg, ⟨hB, hts⟩, hq⟩, fun ls l he hl => ?_⟩
  simp only [List.length_map, Int.toNat_natCast]
  refine ⟨by omega, by omega, ⟨by omega, by omega⟩, by omega, ⟨by omega, by omega, by omega, by omega⟩, ⟨⟨ls, l, a.links.length⟩, ⟨he, hl, Nat.le_refl _⟩, rfl, trivial, by rw [w64 (by omega)], rfl, rfl, rfl, rfl, ?_, by omega, ?_, by omega, .inl (rowS_full bl).symm⟩, fun x hx => bif_mk (fun hp => ?_) (fun hp => ?_)⟩
  · rw [List.drop_of_length_le (by simp only; omega)]; rfl
  · rw [List.drop_of_length_le (by simp only; omega)]; rfl
  · obtain ⟨i, hi⟩ : ∃ i, x.k = i + 1 := ⟨x.k - 1, by have := of_decide_eq_true hp; omega⟩
    have hxl := hx.len
    have hxk := hx.le
    rw [hi] at hxk
    have ek : (((i + 1 : Nat) : Int)) - 1 = (i : Int) := by omega
    simp only [hi, ek, Int.toNat_natCast]
    obtain ⟨L, hL⟩ : ∃ L, a.links[i]? = some L := ⟨_, List.getElem?_eq_getElem (by omega)⟩
    obtain ⟨y, hy⟩ : ∃ y, (x.ls ++ [x.l])[i]? = some y := ⟨_, List.getElem?_eq_getElem (by simp; omega)⟩
    obtain ⟨g, hgx⟩ : ∃ g, (framesV (baseV a) a.links qs)[i]? = some g := ⟨_, List.getElem?_eq_getElem (by omega)⟩
    obtain ⟨m, hm, ld1, ld2⟩ := los_el hn.2 hy
    rw [hx.eq] at hy
    have hh := spread_has a.links ts qs (loBase a) (baseV a) (base_has a) hq i y g hy hgx
    have hb : (bndA a ts u v).drop i = spAdd (((bndA a ts u v).drop (i + 1)).headD (spOf 0)) (spMul (spOf L.len) (armB u v y)) :: (bndA a ts u v).drop (i + 1) := bnd_at u v hy hL
    have hS := head_ok (bndA_ok (a := a) u v hq (by omega)) (i + 1)
    have m1 := spMul_has hh.c (spOf_has v)
    have m2 := spMul_has hh.s (spOf_has u)
    have m3 := spMul_has (spOf_has L.len) (armB_has hh u v)
    have hb0 : (bndA a ts u v)[i]? = some (spAdd (((bndA a ts u v).drop (i + 1)).headD (spOf 0)) (spMul (spOf L.len) (armB u v y))) := by
      have := congrArg (fun l => l[0]?) hb
      simpa using this
    refine ⟨by rw [losR_len]; omega, _, _, _, _, ld1, by rw [losR_len]; omega, _, _, _, _, ld2, ⟨by omega, hh.c.ok, Rat.le_refl⟩, fun s1 n1 e1 h1 => ⟨⟨by omega, hh.s.ok, Rat.le_refl⟩, fun s2 n2 e2 h2 => ?_⟩⟩
    subst e1
    subst e2
    refine ⟨⟨by omega, m1.ok, m2.ok⟩, by omega, _, _, link_l3 hL, by omega, ⟨by omega, Rat.le_refl, (spSub_has m1 m2).ok⟩, fun s3 n3 e3 h3 => ?_⟩
    subst e3
    refine ⟨⟨by omega, hS, m3.ok⟩, by omega, by rw [rowS_len (by omega)]; omega, ⟨x.ls, x.l, i⟩, ⟨⟨hx.eq, hxl, by simp only; omega⟩, by simp only; omega⟩, rfl, by rw [w64 (by omega)], ?_, by simp only; omega, ?_, by simp only; omega, .inr ?_⟩
    · rw [hb]; rfl
    · rw [hb]; rfl
    · exact rowS_set hb0 (by omega) (by omega)
  · have hp : x.k = 0 := by have := of_decide_eq_false hp; omega
    rw [hp, List.drop_zero, rowS_zero, List.take_of_length_le (by simp; omega)]
    exact hK
def c_oBnd : Ctr := fun as0 => match as0 with
  | [.x true xs, .x false [.s 6 ys], .x true [.r u c, .r v d]] => some fun K => ∃ (a : ArmV) (B : Nat) (ts : List Sp) (qs : List Rat), xs = armCh a ∧ ys = ts.map (spN B) ∧ ((GoodArm a) ∧ (B ≤ 400 ∧ ts.length = a.links.length) ∧ (HasQ ts qs) ∧ (c ≤ 1000 ∧ d ≤ 1000)) ∧ (K (.t [(false, [.s 6 ((bndA a ts u v).map (spN 2000000))]), (false, [.v (.int .i64 0)])]))
  | _ => none
theorem ok_oBnd : CtrOK Tryz.prog tabG debT 33 c_oBnd := by
  refine ⟨enters Tryz.func33 (by kernel_rfl), fun l T hT K hK => ?_⟩
  unfold c_oBnd at hT
  split at hT
  · cases hT
    obtain ⟨a, B, ts, qs, rfl, rfl, hc, hK⟩ := hK
    exact spec_ofL T156fok mixed Tryz.func33 (by kernel_rfl) (by kernel_rfl) (by rfl) (g_oBnd _ _ _ _ _ _ _ _ hc K hK)
  · cases hT
def L157 : List (Nat × Ctr) := (33, c_oBnd) :: L156f
def T157 : Tabs := mkT L157 M79 X4
theorem L157ok : CtrsOK Tryz.prog tabG debT L157 := .cons ok_oBnd L156fok
theorem T157ok : TabsOK Tryz.prog tabG debT T157 := mkTok L157ok M79ok X4ok
def ot_oHolds : OT := fun id => bif id.beq 9 then ([0, 1, 2, 3, 4, 5, 6, 7, 8, 9, 10, 12, 13, 14, 15, 11, 16, 17, 18], [[], [0], [], [], [2, 3], [4, 2, 3], [1, 0, 5, 4, 2, 3], [6, 1, 0, 5, 4, 2, 3], [7, 6, 1, 0, 5, 4, 2, 3], [8, 7, 6, 1, 0, 5, 4, 2, 3], [9, 8, 7, 6, 1, 0, 5, 4, 2, 3], [10, 9, 8, 7, 6, 1, 0, 5, 4, 2, 3], [8, 7, 6, 1, 0, 5, 4, 2, 3], [8, 7, 6, 1, 0, 5, 4, 2, 3], [12, 8, 7, 6, 1, 0, 5, 4, 2, 3, 13], [14, 12, 8, 7, 6, 1, 0, 5, 4, 2, 3, 13], [11, 10, 9, 8, 7, 6, 1, 0, 5, 4, 2, 3, 15, 14, 12, 13], [16, 11, 10, 9, 8, 7, 6, 1, 0, 5, 4, 2, 3, 15, 14, 12, 13], [8, 7, 6, 1, 0, 5, 4, 2, 3, 17, 16, 11, 10, 9, 15, 14, 12, 13]]) else ([], [])
def goal_oHolds (a : ArmV) (B : Nat) (ts : List Sp) (qs : List Rat) (u : Rat) (c : Nat) (v : Rat) (d : Nat) (N : Nat) (lim : List Rat) (K : AV → Prop) : Prop := goalL T157 ot_oHolds (inv_holds a ts u v N lim) Tryz.f36 [armA a, .x false [.s 6 (ts.map (spN B))], .x true [.r u c, .r v d], sR N lim] K
theorem goal_oHolds_vc (a : ArmV) (B : Nat) (ts : List Sp) (qs : List Rat) (u : Rat) (c : Nat) (v : Rat) (d : Nat) (N : Nat) (lim : List Rat) (K : AV → Prop) : goal_oHolds a B ts qs u c v d N lim K = ( ∃ (a_1 : ArmV), ∃ (B_1 : Nat), ∃ (ts_1 : List Sp), ∃ (qs : List Rat), [Ch.v (Value.string (ArmV.name a)), Ch.r (ArmV.x a) (63 : Nat), Ch.r (ArmV.y a) (63 : Nat), Ch.v (Value.bool (ArmV.half a)), Ch.r (ArmV.t a) (63 : Nat), Ch.s (16 : Nat) (List.map linkCh (ArmV.links a))] = [Ch.v (Value.string (ArmV.name a_1)), Ch.r (ArmV.x a_1) (63 : Nat), Ch.r (ArmV.y a_1) (63 : Nat), Ch.v (Value.bool (ArmV.half a_1)), Ch.r (ArmV.t a_1) (63 : Nat), Ch.s (16 : Nat) (List.map linkCh (ArmV.links a_1))] ∧ List.map (spN B) ts = List.map (spN B_1) ts_1 ∧ (GoodArm a_1 ∧ (B_1 ≤ (400 : Nat) ∧ List.length ts_1 = List.length (ArmV.links a_1)) ∧ (List.length ts_1 = List.length qs ∧ ∀ (i : Nat) (t : Sp) (q : Rat), ts_1[i]? = some t → qs[i]? = some q → Sp.lo t ≤ q ∧ q ≤ Sp.hi t) ∧ c ≤ (1000 : Nat) ∧ d ≤ (1000 : Nat)) ∧ bif Int.ofNat (List.length (lR N lim)) != Int.ofNat (List.length (List.map (spN (2000000 : Nat)) (bndA a_1 ts_1 u v))) then K (AV.t [(false, [Ch.v (Value.bool false)]), (false, [Ch.v (Value.int IntKind.i64 (1 : Int))])]) else (∃ (x : Nat), (x ≤ List.length (ArmV.links a) ∧ OfNat.ofNat (0 : Nat) = (0 : Nat)) ∧ (3 : Nat) = (3 : Nat) ∧ lR N lim = lR N lim ∧ (6 : Nat) = (6 : Nat) ∧ List.map (spN (2000000 : Nat)) (bndA a_1 ts_1 u v) = List.map (spN (2000000 : Nat)) (bndA a ts u v) ∧ Int.ofNat (List.length (List.map (spN (2000000 : Nat)) (bndA a_1 ts_1 u v))) = Int.ofNat (List.length (ArmV.links a)) ∧ (0 : Int) = Int.ofNat x ∧ True) ∧ ∀ (x : Nat), x ≤ List.length (ArmV.links a) → OfNat.ofNat (0 : Nat) = (0 : Nat) → bif decide (Int.ofNat x < Int.ofNat (List.length (ArmV.links a))) then ((0 : Int) ≤ Int.ofNat x ∧ Int.ofNat x < Int.ofNat (List.length (List.map (spN (2000000 : Nat)) (bndA a ts u v)))) ∧ ∃ (q : Rat), ∃ (n : Nat), ∃ (q_1 : Rat), ∃ (n_1 : Nat), ldE (List.map (spN (2000000 : Nat)) (bndA a ts u v)) (Int.toNat (Int.ofNat x)) (0 : Nat) (6 : Nat) = some [Ch.r q n, Ch.r q_1 n_1] ∧ ((0 : Int) ≤ Int.ofNat x ∧ Int.ofNat x < Int.ofNat (List.length (lR N lim))) ∧ ∃ (q_2 : Rat), ∃ (n_2 : Nat), ldE (lR N lim) (Int.toNat (Int.ofNat x)) (0 : Nat) (3 : Nat) = some [Ch.r q_2 n_2] ∧ n_1 + n_2 ≤ (4294967296 : Nat) ∧ bif decide (cmpR q_1 q_2 > (0 : Int)) then K (AV.t [(false, [Ch.v (Value.bool false)]), (false, [Ch.v (Value.int IntKind.i64 (0 : Int))])]) else ((0 : Int) ≤ Int.ofNat x ∧ Int.ofNat x < Int.ofNat (List.length (lR N lim))) ∧ ∃ (q_3 : Rat), ∃ (n_3 : Nat), ldE (lR N lim) (Int.toNat (Int.ofNat x)) (0 : Nat) (3 : Nat) = some [Ch.r q_3 n_3] ∧ n ≤ (4294967296 : Nat) ∧ n + n_3 ≤ (4294967296 : Nat) ∧ bif decide (cmpR (-q) q_3 > (0 : Int)) then K (AV.t [(false, [Ch.v (Value.bool false)]), (false, [Ch.v (Value.int IntKind.i64 (0 : Int))])]) else ∃ (x' : Nat), (x' ≤ List.length (ArmV.links a) ∧ OfNat.ofNat (0 : Nat) = (0 : Nat) ∧ List.length (ArmV.links a) - x' < List.length (ArmV.links a) - x) ∧ (3 : Nat) = (3 : Nat) ∧ lR N lim = lR N lim ∧ (6 : Nat) = (6 : Nat) ∧ List.map (spN (2000000 : Nat)) (bndA a ts u v) = List.map (spN (2000000 : Nat)) (bndA a ts u v) ∧ Int.ofNat (List.length (ArmV.links a)) = Int.ofNat (List.length (ArmV.links a)) ∧ IntKind.wrap IntKind.i64 (Int.ofNat x + (1 : Int)) = Int.ofNat x' ∧ True else K (AV.t [(false, [Ch.v (Value.bool true)]), (false, [Ch.v (Value.int IntKind.i64 (0 : Int))])])) := by kernel_rfl
theorem g_oHolds (a : ArmV) (B : Nat) (ts : List Sp) (qs : List Rat) (u : Rat) (c : Nat) (v : Rat) (d : Nat) (N : Nat) (lim : List Rat) (hc : (GoodArm a) ∧ (B ≤ 400 ∧ ts.length = a.links.length) ∧ (HasQ ts qs) ∧ (c ≤ 1000 ∧ d ≤ 1000) ∧ (N ≤ 1000000000 ∧ lim.length = a.links.length)) (K : AV → Prop) (hK : ∀ b : Bool, ((∀ (i : Nat) s m, (bndA a ts u v)[i]? = some s → lim[i]? = some m → s.hi ≤ m ∧ -s.lo ≤ m) → b = true) → K (.t [(false, [.v (.bool b)]), (false, [.v (.int .i64 0)])])) : Holds (goal_oHolds a B ts qs u c v d N lim K) := by
  refine ⟨?_⟩
  rw [goal_oHolds_vc]
  try simp only [Int.ofNat_eq_natCast, true_and, and_true, Nat.zero_add, Nat.le_refl, true_implies, true_or, or_true]
  obtain ⟨hg, ⟨hB, hts⟩, hq, ⟨hcc, hdd⟩, hN, hlim⟩ := hc
  have hn := hg.n
  have hqs := hq.1
  have sl := spread_len a.links ts (loBase a) hts
  have bl : (bndA a ts u v).length = a.links.length := bnd_len u v _ _ (by omega)
  refine ⟨a, B, ts, qs, rfl, rfl, ⟨hg, ⟨hB, hts⟩, hq, by omega⟩, ?_⟩
  simp only [lR_len, List.length_map, bl, hlim]
  refine bif_mk (fun h => by simp at h) (fun _ => ⟨⟨0, by omega, trivial, trivial, rfl⟩, fun x hx => bif_mk (fun hp => ?_) (fun _ => hK true fun _ => rfl)⟩)
  have hp : x < a.links.length := by have := of_decide_eq_true hp; omega
  obtain ⟨s, hs⟩ : ∃ s, (bndA a ts u v)[x]? = some s := ⟨_, List.getElem?_eq_getElem (by omega)⟩
  obtain ⟨m, hm⟩ : ∃ m, lim[x]? = some m := ⟨_, List.getElem?_eq_getElem (by omega)⟩
  refine ⟨by omega, _, _, _, _, spn_ld (by simpa using hs), by omega, _, _, lR_ld (by simpa using hm), by omega, bif_mk (fun h => hK false fun hall => ?_) (fun _ => ⟨by omega, _, _, lR_ld (by simpa using hm), by omega, by omega, bif_mk (fun h => hK false fun hall => ?_) (fun _ => ⟨x + 1, ⟨by omega, by omega⟩, by rw [w64 (by omega)]; simp⟩)⟩)⟩
  · exact absurd (of_decide_eq_true h) (by have := (cmp_le _ _).2 (hall x s m hs hm).1; omega)
  · exact absurd (of_decide_eq_true h) (by have := (cmp_le _ _).2 (hall x s m hs hm).2; omega)
def c_oHolds : Ctr := fun as0 => match as0 with
  | [.x true xs, .x false [.s 6 ys], .x true [.r u c, .r v d], .x false [.s 3 zs]] => some fun K => ∃ (a : ArmV) (B : Nat) (ts : List Sp) (qs : List Rat) (N : Nat) (lim : List Rat), xs = armCh a ∧ ys = ts.map (spN B) ∧ zs = lR N lim ∧ ((GoodArm a) ∧ (B ≤ 400 ∧ ts.length = a.links.length) ∧ (HasQ ts qs) ∧ (c ≤ 1000 ∧ d ≤ 1000) ∧ (N ≤ 1000000000 ∧ lim.length = a.links.length)) ∧ (∀ b : Bool, ((∀ (i : Nat) s m, (bndA a ts u v)[i]? = some s → lim[i]? = some m → s.hi ≤ m ∧ -s.lo ≤ m) → b = true) → K (.t [(false, [.v (.bool b)]), (false, [.v (.int .i64 0)])]))
  | _ => none
theorem ok_oHolds : CtrOK Tryz.prog tabG debT 36 c_oHolds := by
  refine ⟨enters Tryz.func36 (by kernel_rfl), fun l T hT K hK => ?_⟩
  unfold c_oHolds at hT
  split at hT
  · cases hT
    obtain ⟨a, B, ts, qs, N, lim, rfl, rfl, rfl, hc, hK⟩ := hK
    exact spec_ofL T157ok mixed Tryz.func36 (by kernel_rfl) (by kernel_rfl) (by rfl) (g_oHolds _ _ _ _ _ _ _ _ _ _ hc K hK)
  · cases hT
def L158 : List (Nat × Ctr) := (36, c_oHolds) :: L157
def T158 : Tabs := mkT L158 M79 X4
theorem L158ok : CtrsOK Tryz.prog tabG debT L158 := .cons ok_oHolds L157ok
theorem T158ok : TabsOK Tryz.prog tabG debT T158 := mkTok L158ok M79ok X4ok
end Go.Proofs
/- ForceContains. -/
namespace Go.Proofs
open Go Go.Eng
structure FbX where
  a : ArmV
  ps : List Rat
  qs : List Rat
  vs : List Rat
  fs : List FrV
  f : FrV
  u : Rat
  v : Rat
  i : Nat
  b : Bool
structure FbI (x : FbX) : Prop where
  good : GoodArm x.a
  ps : x.ps.length = x.a.links.length
  qs : x.qs.length = x.a.links.length
  hv : HasQ (spansV x.ps x.qs) x.vs
  e2 : x.fs ++ [x.f] = framesV (baseV x.a) x.a.links x.vs
  l2 : x.fs.length = x.a.links.length
  le : x.i ≤ x.a.links.length
def bX (x : FbX) : List Sp := bndA x.a (spansV x.ps x.qs) x.u x.v
def tX (x : FbX) : List Rat := torqV x.f x.u x.v x.fs
def mxL (bs : List Sp) (ts : List Rat) (j : Nat) : List Rat := (bs.take j).map (fun s => maxR (absR s.lo) (absR s.hi)) ++ (ts.drop j).map absR
def inv_fb : LI := fun id => bif id.beq 11 then .inv ⟨FbX, fun x => ⟨[(11, .x false [.p 11 0]), (12, sR 63 x.ps), (13, sR 63 x.qs), (14, .x false [.p 14 0]), (15, .x false [.s 6 ((bX x).map (spN 2000000))]), (17, sR 265600136 (tX x)), (19, .x false [.w 500 0 x.i]), (70, sR 265600136 (tX x)), (71, iA .i64 x.a.links.length), (72, iA .i64 x.i)],
    [(11, .box 44 (armCh x.a)), (14, .box 32 (vecCh (x.u, x.v))), (500, rowR 265600136 (((tX x).take x.i).map absR))]⟩, FbI, fun x => x.a.links.length - x.i, fun _ => 0⟩
  else .inv ⟨FbX, fun x => ⟨[(11, .x false [.p 11 0]), (12, sR 63 x.ps), (13, sR 63 x.qs), (14, .x false [.p 14 0]), (15, .x false [.s 6 ((bX x).map (spN 2000000))]), (19, .x false [.w 500 0 x.a.links.length]), (21, .x false [.v (.bool x.b)]), (22, iA .i64 0), (104, .x false [.s 6 ((bX x).map (spN 2000000))]), (105, iA .i64 x.a.links.length), (106, iA .i64 x.i)],
    [(11, .box 44 (armCh x.a)), (14, .box 32 (vecCh (x.u, x.v))), (500, rowR 265600136 (mxL (bX x) (tX x) x.i))]⟩, FbI, fun x => x.a.links.length - x.i, fun _ => 0⟩
def ot_fb : OT := fun id => bif id.beq 4 then ([0, 1, 3, 4, 6, 8, 2, 5, 7, 9, 10, 11], [[], [], [0, 1], [], [], [3, 4, 2, 0, 1], [], [6, 5, 3, 4, 2, 0, 1], [], [2, 0, 1, 7, 6, 5, 3, 4, 8], [5, 3, 4, 2, 0, 1, 9, 7, 6, 8], [8, 7, 6, 5, 3, 4, 2, 0, 1, 10, 9]]) else bif id.beq 5 then ([0, 1, 2, 4, 3, 5, 6, 7, 8, 9, 10], [[], [], [], [1, 2], [], [0, 3, 1, 2, 4], [5, 0, 3, 1, 2, 4], [6, 5, 0, 3, 1, 2, 4], [6, 5, 0, 3, 1, 2, 4], [7, 6, 5, 0, 3, 1, 2, 4], [8, 6, 5, 0, 3, 1, 2, 4, 9, 7]]) else bif id.beq 6 then ([0, 1, 2, 3, 5, 4, 6, 7, 8, 9, 10, 11], [[], [], [], [], [1, 2, 3], [], [0, 4, 1, 2, 3, 5], [6, 0, 4, 1, 2, 3, 5], [7, 6, 0, 4, 1, 2, 3, 5], [7, 6, 0, 4, 1, 2, 3, 5], [8, 7, 6, 0, 4, 1, 2, 3, 5], [9, 7, 6, 0, 4, 1, 2, 3, 5, 10, 8]]) else bif id.beq 13 then ([0, 1, 2, 3, 4, 5, 6, 7, 8, 9], [[], [], [0, 1], [2, 0, 1], [], [], [4, 5], [6, 4, 5], [3, 2, 0, 1, 7, 6, 4, 5], [8, 3, 2, 0, 1, 7, 6, 4, 5]]) else bif id.beq 17 then ([0, 1, 2, 4, 5, 3, 6, 7, 8, 9, 10, 11], [[], [], [], [1, 2], [], [], [0, 3, 1, 2, 4, 5], [6, 0, 3, 1, 2, 4, 5], [7, 6, 0, 3, 1, 2, 4, 5], [7, 6, 0, 3, 1, 2, 4, 5], [8, 7, 6, 0, 3, 1, 2, 4, 5], [9, 7, 6, 0, 3, 1, 2, 4, 5, 10, 8]]) else bif id.beq 21 then ([0, 1, 2, 3, 4, 5, 6, 8, 9, 10, 11, 12, 7, 13, 14, 15, 16], [[], [], [], [], [2, 3], [4, 2, 3], [5, 4, 2, 3], [6, 5, 4, 2, 3], [], [], [8, 9], [10, 8, 9], [11, 10, 8, 9], [12, 11, 10, 8, 9, 7, 6, 5, 4, 2, 3], [7, 6, 5, 4, 2, 3, 13, 12, 11, 10, 8, 9], [0, 1, 2, 3, 4, 5, 6, 7, 8, 9, 10, 11, 12, 13, 14], [15, 0, 1, 2, 3, 4, 5, 6, 7, 8, 9, 10, 11, 12, 13, 14]]) else bif id.beq 23 then ([0, 1, 2, 4, 5, 3, 6, 7, 8, 9, 10, 11], [[], [], [], [1, 2], [], [], [0, 3, 1, 2, 4, 5], [6, 0, 3, 1, 2, 4, 5], [7, 6, 0, 3, 1, 2, 4, 5], [7, 6, 0, 3, 1, 2, 4, 5], [8, 7, 6, 0, 3, 1, 2, 4, 5], [9, 7, 6, 0, 3, 1, 2, 4, 5, 10, 8]]) else ([], [])
def goal_fb (l m k n o : List Int) (K : AV → Prop) : Prop := goalL T158 ot_fb inv_fb Tryz.f6 [.x false [.s 1 (ints l)], .x false [.s 1 (ints m)], .x false [.s 1 (ints k)], .x false [.s 1 (ints n)], .x false [.s 1 (ints o)]] K
theorem goal_fb_vc (l : List Int) (m : List Int) (k : List Int) (n : List Int) (o : List Int) (K : AV → Prop) : goal_fb l m k n o K = ( True ∧ ∃ (l_1 : List Int), ints l = ints l_1 ∧ List.length l_1 ≤ (9223372036854775807 : Nat) ∧ ∀ (a : ArmV), Made a ∧ (1 : Nat) ≤ List.length (ArmV.links a) → ∃ (a_2 : ArmV), ∃ (l : List Int), [Ch.v (Value.string (ArmV.name a)), Ch.r (ArmV.x a) (63 : Nat), Ch.r (ArmV.y a) (63 : Nat), Ch.v (Value.bool (ArmV.half a)), Ch.r (ArmV.t a) (63 : Nat), Ch.s (16 : Nat) (List.map linkCh (ArmV.links a))] = [Ch.v (Value.string (ArmV.name a_2)), Ch.r (ArmV.x a_2) (63 : Nat), Ch.r (ArmV.y a_2) (63 : Nat), Ch.v (Value.bool (ArmV.half a_2)), Ch.r (ArmV.t a_2) (63 : Nat), Ch.s (16 : Nat) (List.map linkCh (ArmV.links a_2))] ∧ ints m = ints l ∧ (GoodArm a_2 ∧ List.length l ≤ (9223372036854775807 : Nat)) ∧ ∀ (qs : List Rat), (∀ (i : Nat) (L : LinkV) (q : Rat), (ArmV.links a_2)[i]? = some L → qs[i]? = some q → LinkV.lo L ≤ q ∧ q ≤ LinkV.hi L) → List.length qs = List.length (ArmV.links a_2) → ∃ (a_5 : ArmV), ∃ (l : List Int), [Ch.v (Value.string (ArmV.name a)), Ch.r (ArmV.x a) (63 : Nat), Ch.r (ArmV.y a) (63 : Nat), Ch.v (Value.bool (ArmV.half a)), Ch.r (ArmV.t a) (63 : Nat), Ch.s (16 : Nat) (List.map linkCh (ArmV.links a))] = [Ch.v (Value.string (ArmV.name a_5)), Ch.r (ArmV.x a_5) (63 : Nat), Ch.r (ArmV.y a_5) (63 : Nat), Ch.v (Value.bool (ArmV.half a_5)), Ch.r (ArmV.t a_5) (63 : Nat), Ch.s (16 : Nat) (List.map linkCh (ArmV.links a_5))] ∧ ints k = ints l ∧ (GoodArm a_5 ∧ List.length l ≤ (9223372036854775807 : Nat)) ∧ ∀ (qs_1 : List Rat), (∀ (i : Nat) (L : LinkV) (q : Rat), (ArmV.links a_5)[i]? = some L → qs_1[i]? = some q → LinkV.lo L ≤ q ∧ q ≤ LinkV.hi L) → List.length qs_1 = List.length (ArmV.links a_5) → ∃ (l : List Int), ints o = ints l ∧ List.length l ≤ (9223372036854775807 : Nat) ∧ ∀ (p : Rat × Rat), ∃ (ps : List Rat), ∃ (a_8 : Nat), ∃ (qs_2 : List Rat), ∃ (b : Nat), lR (63 : Nat) qs = lR a_8 ps ∧ lR (63 : Nat) qs_1 = lR b qs_2 ∧ ((List.length ps = List.length qs_2 ∧ List.length ps ≤ (100 : Nat)) ∧ a_8 + b ≤ (1000000 : Nat)) ∧ ∃ (a_9 : ArmV), ∃ (B : Nat), ∃ (ts : List Sp), ∃ (qs_3 : List Rat), [Ch.v (Value.string (ArmV.name a)), Ch.r (ArmV.x a) (63 : Nat), Ch.r (ArmV.y a) (63 : Nat), Ch.v (Value.bool (ArmV.half a)), Ch.r (ArmV.t a) (63 : Nat), Ch.s (16 : Nat) (List.map linkCh (ArmV.links a))] = [Ch.v (Value.string (ArmV.name a_9)), Ch.r (ArmV.x a_9) (63 : Nat), Ch.r (ArmV.y a_9) (63 : Nat), Ch.v (Value.bool (ArmV.half a_9)), Ch.r (ArmV.t a_9) (63 : Nat), Ch.s (16 : Nat) (List.map linkCh (ArmV.links a_9))] ∧ List.map (spN (max a_8 b)) (spansV ps qs_2) = List.map (spN B) ts ∧ (GoodArm a_9 ∧ (B ≤ (400 : Nat) ∧ List.length ts = List.length (ArmV.links a_9)) ∧ (List.length ts = List.length qs_3 ∧ ∀ (i : Nat) (t : Sp) (q : Rat), ts[i]? = some t → qs_3[i]? = some q → Sp.lo t ≤ q ∧ q ≤ Sp.hi t) ∧ (63 : Nat) ≤ (1000 : Nat) ∧ (63 : Nat) ≤ (1000 : Nat)) ∧ ∃ (ps : List Rat), ∃ (a_10 : Nat), ∃ (qs_4 : List Rat), ∃ (b : Nat), ∃ (l : List Int), lR (63 : Nat) qs = lR a_10 ps ∧ lR (63 : Nat) qs_1 = lR b qs_4 ∧ ints n = ints l ∧ ((List.length ps = List.length qs_4 ∧ List.length ps ≤ (100 : Nat)) ∧ a_10 + b ≤ (1000000 : Nat) ∧ List.length l ≤ (9223372036854775807 : Nat)) ∧ ∀ (vs : List Rat), (List.length (spansV ps qs_4) = List.length vs ∧ ∀ (i : Nat) (t : Sp) (q : Rat), (spansV ps qs_4)[i]? = some t → vs[i]? = some q → Sp.lo t ≤ q ∧ q ≤ Sp.hi t) → ∃ (a_12 : ArmV), ∃ (b_1 : Nat), ∃ (qs_5 : List Rat), [Ch.v (Value.string (ArmV.name a)), Ch.r (ArmV.x a) (63 : Nat), Ch.r (ArmV.y a) (63 : Nat), Ch.v (Value.bool (ArmV.half a)), Ch.r (ArmV.t a) (63 : Nat), Ch.s (16 : Nat) (List.map linkCh (ArmV.links a))] = [Ch.v (Value.string (ArmV.name a_12)), Ch.r (ArmV.x a_12) (63 : Nat), Ch.r (ArmV.y a_12) (63 : Nat), Ch.v (Value.bool (ArmV.half a_12)), Ch.r (ArmV.t a_12) (63 : Nat), Ch.s (16 : Nat) (List.map linkCh (ArmV.links a_12))] ∧ lR ((2 : Nat) * a_10 + b + (65 : Nat)) vs = lR b_1 qs_5 ∧ (GoodArm a_12 ∧ (b_1 ≤ (400 : Nat) ∧ List.length qs_5 = List.length (ArmV.links a_12)) ∧ (63 : Nat) ≤ (300000000 : Nat) ∧ (63 : Nat) ≤ (300000000 : Nat)) ∧ ∀ (fs : List FrV) (f : FrV), fs ++ [f] = framesV (baseV a_12) (ArmV.links a_12) qs_5 → List.length fs = List.length (ArmV.links a_12) → bif Int.ofNat (List.length (List.map (spN (2000000 : Nat)) (bndA a_9 ts (Prod.fst p) (Prod.snd p)))) != Int.ofNat (List.length (lR (265600136 : Nat) (torqV f (Prod.fst p) (Prod.snd p) fs))) then K (AV.x false [Ch.v (Value.bool false)]) else (∃ (x : FbX), (FbI x ∧ OfNat.ofNat (0 : Nat) = (0 : Nat)) ∧ (0 : Nat) = (0 : Nat) ∧ (3 : Nat) = (3 : Nat) ∧ lR (63 : Nat) qs = lR (63 : Nat) (FbX.ps x) ∧ (3 : Nat) = (3 : Nat) ∧ lR (63 : Nat) qs_1 = lR (63 : Nat) (FbX.qs x) ∧ (0 : Nat) = (0 : Nat) ∧ (6 : Nat) = (6 : Nat) ∧ List.map (spN (2000000 : Nat)) (bndA a_9 ts (Prod.fst p) (Prod.snd p)) = List.map (spN (2000000 : Nat)) (bX x) ∧ (3 : Nat) = (3 : Nat) ∧ lR (265600136 : Nat) (torqV f (Prod.fst p) (Prod.snd p) fs) = lR (265600136 : Nat) (tX x) ∧ Value.slice none (0 : Nat) (0 : Nat) = Value.slice none (0 : Nat) (0 : Nat) ∧ (0 : Nat) = (0 : Nat) ∧ FbX.i x = (0 : Nat) ∧ (3 : Nat) = (3 : Nat) ∧ lR (265600136 : Nat) (torqV f (Prod.fst p) (Prod.snd p) fs) = lR (265600136 : Nat) (tX x) ∧ Int.ofNat (List.length (lR (265600136 : Nat) (torqV f (Prod.fst p) (Prod.snd p) fs))) = Int.ofNat (List.length (ArmV.links (FbX.a x))) ∧ (0 : Int) = Int.ofNat (FbX.i x) ∧ (44 : Nat) = (44 : Nat) ∧ ArmV.name a = ArmV.name (FbX.a x) ∧ ArmV.x a = ArmV.x (FbX.a x) ∧ (63 : Nat) ≤ (63 : Nat) ∧ ArmV.y a = ArmV.y (FbX.a x) ∧ (63 : Nat) ≤ (63 : Nat) ∧ ArmV.half a = ArmV.half (FbX.a x) ∧ ArmV.t a = ArmV.t (FbX.a x) ∧ (63 : Nat) ≤ (63 : Nat) ∧ (16 : Nat) = (16 : Nat) ∧ List.map linkCh (ArmV.links a) = List.map linkCh (ArmV.links (FbX.a x)) ∧ (32 : Nat) = (32 : Nat) ∧ Prod.fst p = Prod.fst (FbX.u x, FbX.v x) ∧ (63 : Nat) ≤ (63 : Nat) ∧ Prod.snd p = Prod.snd (FbX.u x, FbX.v x) ∧ (63 : Nat) ≤ (63 : Nat) ∧ List.map (fun (q : Rat) => [Ch.r q (265600136 : Nat)]) (List.map absR (List.take (FbX.i x) (tX x))) = [] ∧ True) ∧ ∀ (x : FbX), FbI x → OfNat.ofNat (0 : Nat) = (0 : Nat) → bif decide (Int.ofNat (FbX.i x) < Int.ofNat (List.length (ArmV.links (FbX.a x)))) then ((0 : Int) ≤ Int.ofNat (FbX.i x) ∧ Int.ofNat (FbX.i x) < Int.ofNat (List.length (List.map (spN (2000000 : Nat)) (bX x)))) ∧ ∃ (q : Rat), ∃ (n : Nat), ∃ (q_1 : Rat), ∃ (n_1 : Nat), ldE (List.map (spN (2000000 : Nat)) (bX x)) (Int.toNat (Int.ofNat (FbX.i x))) (0 : Nat) (6 : Nat) = some [Ch.r q n, Ch.r q_1 n_1] ∧ ((0 : Int) ≤ Int.ofNat (FbX.i x) ∧ Int.ofNat (FbX.i x) < Int.ofNat (List.length (lR (265600136 : Nat) (tX x)))) ∧ ∃ (q_2 : Rat), ∃ (n_2 : Nat), ldE (lR (265600136 : Nat) (tX x)) (Int.toNat (Int.ofNat (FbX.i x))) (0 : Nat) (3 : Nat) = some [Ch.r q_2 n_2] ∧ (n + n_1 + n_2 ≤ (4294967290 : Nat) ∧ q ≤ q_1) ∧ bif !spHas (Sp.mk q q_1) q_2 then K (AV.x false [Ch.v (Value.bool false)]) else ((0 : Int) ≤ Int.ofNat (FbX.i x) ∧ Int.ofNat (FbX.i x) < Int.ofNat (List.length (lR (265600136 : Nat) (tX x)))) ∧ ∃ (q : Rat), ∃ (n : Nat), ldE (lR (265600136 : Nat) (tX x)) (Int.toNat (Int.ofNat (FbX.i x))) (0 : Nat) (3 : Nat) = some [Ch.r q n] ∧ n ≤ (4294967296 : Nat) ∧ ((FbX.i x + (1 : Nat)) * (40 : Nat) ≤ (140737488355328 : Nat) ∧ FbX.i x + (1 : Nat) ≤ (9223372036854775807 : Nat)) ∧ ∃ (x' : FbX), (FbI x' ∧ OfNat.ofNat (0 : Nat) = (0 : Nat) ∧ List.length (ArmV.links (FbX.a x')) - FbX.i x' < List.length (ArmV.links (FbX.a x)) - FbX.i x) ∧ (0 : Nat) = (0 : Nat) ∧ (3 : Nat) = (3 : Nat) ∧ lR (63 : Nat) (FbX.ps x) = lR (63 : Nat) (FbX.ps x') ∧ (3 : Nat) = (3 : Nat) ∧ lR (63 : Nat) (FbX.qs x) = lR (63 : Nat) (FbX.qs x') ∧ (0 : Nat) = (0 : Nat) ∧ (6 : Nat) = (6 : Nat) ∧ List.map (spN (2000000 : Nat)) (bX x) = List.map (spN (2000000 : Nat)) (bX x') ∧ (3 : Nat) = (3 : Nat) ∧ lR (265600136 : Nat) (tX x) = lR (265600136 : Nat) (tX x') ∧ (0 : Nat) = (0 : Nat) ∧ FbX.i x + (1 : Nat) = FbX.i x' ∧ (3 : Nat) = (3 : Nat) ∧ lR (265600136 : Nat) (tX x) = lR (265600136 : Nat) (tX x') ∧ Int.ofNat (List.length (ArmV.links (FbX.a x))) = Int.ofNat (List.length (ArmV.links (FbX.a x'))) ∧ IntKind.wrap IntKind.i64 (Int.ofNat (FbX.i x) + (1 : Int)) = Int.ofNat (FbX.i x') ∧ (44 : Nat) = (44 : Nat) ∧ ArmV.name (FbX.a x) = ArmV.name (FbX.a x') ∧ ArmV.x (FbX.a x) = ArmV.x (FbX.a x') ∧ (63 : Nat) ≤ (63 : Nat) ∧ ArmV.y (FbX.a x) = ArmV.y (FbX.a x') ∧ (63 : Nat) ≤ (63 : Nat) ∧ ArmV.half (FbX.a x) = ArmV.half (FbX.a x') ∧ ArmV.t (FbX.a x) = ArmV.t (FbX.a x') ∧ (63 : Nat) ≤ (63 : Nat) ∧ (16 : Nat) = (16 : Nat) ∧ List.map linkCh (ArmV.links (FbX.a x)) = List.map linkCh (ArmV.links (FbX.a x')) ∧ (32 : Nat) = (32 : Nat) ∧ Prod.fst (FbX.u x, FbX.v x) = Prod.fst (FbX.u x', FbX.v x') ∧ (63 : Nat) ≤ (63 : Nat) ∧ Prod.snd (FbX.u x, FbX.v x) = Prod.snd (FbX.u x', FbX.v x') ∧ (63 : Nat) ≤ (63 : Nat) ∧ (26 : Nat) = (26 : Nat) ∧ (3 : Nat) = (3 : Nat) ∧ (List.take (FbX.i x) (List.map (fun (q : Rat) => [Ch.r q (265600136 : Nat)]) (List.map absR (List.take (FbX.i x) (tX x)))) ++ [[Ch.r (absR q) n]] = List.map (fun (q : Rat) => [Ch.r q (265600136 : Nat)]) (List.map absR (List.take (FbX.i x') (tX x'))) ∨ RowLE (List.take (FbX.i x) (List.map (fun (q : Rat) => [Ch.r q (265600136 : Nat)]) (List.map absR (List.take (FbX.i x) (tX x)))) ++ [[Ch.r (absR q) n]]) (List.map (fun (q : Rat) => [Ch.r q (265600136 : Nat)]) (List.map absR (List.take (FbX.i x') (tX x'))))) ∧ True else ∃ (ps : List Rat), ∃ (a : Nat), ∃ (qs : List Rat), ∃ (b : Nat), lR (63 : Nat) (FbX.ps x) = lR a ps ∧ lR (63 : Nat) (FbX.qs x) = lR b qs ∧ ((List.length ps = List.length qs ∧ List.length ps ≤ (100 : Nat)) ∧ a + b ≤ (1000000 : Nat)) ∧ ∃ (a_15 : ArmV), ∃ (B : Nat), ∃ (ts : List Sp), ∃ (qs_6 : List Rat), ∃ (N : Nat), ∃ (lim : List Rat), [Ch.v (Value.string (ArmV.name (FbX.a x))), Ch.r (ArmV.x (FbX.a x)) (63 : Nat), Ch.r (ArmV.y (FbX.a x)) (63 : Nat), Ch.v (Value.bool (ArmV.half (FbX.a x))), Ch.r (ArmV.t (FbX.a x)) (63 : Nat), Ch.s (16 : Nat) (List.map linkCh (ArmV.links (FbX.a x)))] = [Ch.v (Value.string (ArmV.name a_15)), Ch.r (ArmV.x a_15) (63 : Nat), Ch.r (ArmV.y a_15) (63 : Nat), Ch.v (Value.bool (ArmV.half a_15)), Ch.r (ArmV.t a_15) (63 : Nat), Ch.s (16 : Nat) (List.map linkCh (ArmV.links a_15))] ∧ List.map (spN (max a b)) (spansV ps qs) = List.map (spN B) ts ∧ List.take (FbX.i x) (List.drop (0 : Nat) (List.map (fun (q : Rat) => [Ch.r q (265600136 : Nat)]) (List.map absR (List.take (FbX.i x) (tX x))))) = lR N lim ∧ (GoodArm a_15 ∧ (B ≤ (400 : Nat) ∧ List.length ts = List.length (ArmV.links a_15)) ∧ (List.length ts = List.length qs_6 ∧ ∀ (i : Nat) (t : Sp) (q : Rat), ts[i]? = some t → qs_6[i]? = some q → Sp.lo t ≤ q ∧ q ≤ Sp.hi t) ∧ ((63 : Nat) ≤ (1000 : Nat) ∧ (63 : Nat) ≤ (1000 : Nat)) ∧ N ≤ (1000000000 : Nat) ∧ List.length lim = List.length (ArmV.links a_15)) ∧ ∀ (b : Bool), ((∀ (i : Nat) (s : Sp) (m : Rat), (bndA a_15 ts (Prod.fst (FbX.u x, FbX.v x)) (Prod.snd (FbX.u x, FbX.v x)))[i]? = some s → lim[i]? = some m → Sp.hi s ≤ m ∧ -Sp.lo s ≤ m) → b = true) → (∃ (x_1 : FbX), (FbI x_1 ∧ OfNat.ofNat (0 : Nat) = (0 : Nat)) ∧ (0 : Nat) = (0 : Nat) ∧ (3 : Nat) = (3 : Nat) ∧ lR (63 : Nat) (FbX.ps x) = lR (63 : Nat) (FbX.ps x_1) ∧ (3 : Nat) = (3 : Nat) ∧ lR (63 : Nat) (FbX.qs x) = lR (63 : Nat) (FbX.qs x_1) ∧ (0 : Nat) = (0 : Nat) ∧ (6 : Nat) = (6 : Nat) ∧ List.map (spN (2000000 : Nat)) (bX x) = List.map (spN (2000000 : Nat)) (bX x_1) ∧ (0 : Nat) = (0 : Nat) ∧ FbX.i x = List.length (ArmV.links (FbX.a x_1)) ∧ b = FbX.b x_1 ∧ (0 : Int) = (0 : Int) ∧ (6 : Nat) = (6 : Nat) ∧ List.map (spN (2000000 : Nat)) (bX x) = List.map (spN (2000000 : Nat)) (bX x_1) ∧ Int.ofNat (List.length (List.map (spN (2000000 : Nat)) (bX x))) = Int.ofNat (List.length (ArmV.links (FbX.a x_1))) ∧ (0 : Int) = Int.ofNat (FbX.i x_1) ∧ (44 : Nat) = (44 : Nat) ∧ ArmV.name (FbX.a x) = ArmV.name (FbX.a x_1) ∧ ArmV.x (FbX.a x) = ArmV.x (FbX.a x_1) ∧ (63 : Nat) ≤ (63 : Nat) ∧ ArmV.y (FbX.a x) = ArmV.y (FbX.a x_1) ∧ (63 : Nat) ≤ (63 : Nat) ∧ ArmV.half (FbX.a x) = ArmV.half (FbX.a x_1) ∧ ArmV.t (FbX.a x) = ArmV.t (FbX.a x_1) ∧ (63 : Nat) ≤ (63 : Nat) ∧ (16 : Nat) = (16 : Nat) ∧ List.map linkCh (ArmV.links (FbX.a x)) = List.map linkCh (ArmV.links (FbX.a x_1)) ∧ (32 : Nat) = (32 : Nat) ∧ Prod.fst (FbX.u x, FbX.v x) = Prod.fst (FbX.u x_1, FbX.v x_1) ∧ (63 : Nat) ≤ (63 : Nat) ∧ Prod.snd (FbX.u x, FbX.v x) = Prod.snd (FbX.u x_1, FbX.v x_1) ∧ (63 : Nat) ≤ (63 : Nat) ∧ (26 : Nat) = (26 : Nat) ∧ (3 : Nat) = (3 : Nat) ∧ (List.map (fun (q : Rat) => [Ch.r q (265600136 : Nat)]) (List.map absR (List.take (FbX.i x) (tX x))) = List.map (fun (q : Rat) => [Ch.r q (265600136 : Nat)]) (mxL (bX x_1) (tX x_1) (FbX.i x_1)) ∨ RowLE (List.map (fun (q : Rat) => [Ch.r q (265600136 : Nat)]) (List.map absR (List.take (FbX.i x) (tX x)))) (List.map (fun (q : Rat) => [Ch.r q (265600136 : Nat)]) (mxL (bX x_1) (tX x_1) (FbX.i x_1)))) ∧ True) ∧ ∀ (x : FbX), FbI x → OfNat.ofNat (0 : Nat) = (0 : Nat) → bif decide (Int.ofNat (FbX.i x) < Int.ofNat (List.length (ArmV.links (FbX.a x)))) then ((0 : Int) ≤ Int.ofNat (FbX.i x) ∧ Int.ofNat (FbX.i x) < Int.ofNat (List.length (List.map (spN (2000000 : Nat)) (bX x)))) ∧ ∃ (q : Rat), ∃ (n : Nat), ldE (List.map (spN (2000000 : Nat)) (bX x)) (Int.toNat (Int.ofNat (FbX.i x))) (0 : Nat) (3 : Nat) = some [Ch.r q n] ∧ ((0 : Int) ≤ Int.ofNat (FbX.i x) ∧ Int.ofNat (FbX.i x) < Int.ofNat (List.length (List.map (spN (2000000 : Nat)) (bX x)))) ∧ ∃ (q_1 : Rat), ∃ (n_1 : Nat), ldE (List.map (spN (2000000 : Nat)) (bX x)) (Int.toNat (Int.ofNat (FbX.i x))) (3 : Nat) (3 : Nat) = some [Ch.r q_1 n_1] ∧ n ≤ (4294967296 : Nat) ∧ n_1 ≤ (4294967296 : Nat) ∧ n + n_1 ≤ (4294967296 : Nat) ∧ ((0 : Int) ≤ Int.ofNat (FbX.i x) ∧ Int.ofNat (FbX.i x) < Int.ofNat (List.length (ArmV.links (FbX.a x)))) ∧ (0 : Nat) + Int.toNat (Int.ofNat (FbX.i x)) < List.length (List.map (fun (q : Rat) => [Ch.r q (265600136 : Nat)]) (mxL (bX x) (tX x) (FbX.i x))) ∧ ∃ (x' : FbX), (FbI x' ∧ OfNat.ofNat (0 : Nat) = (0 : Nat) ∧ List.length (ArmV.links (FbX.a x')) - FbX.i x' < List.length (ArmV.links (FbX.a x)) - FbX.i x) ∧ (0 : Nat) = (0 : Nat) ∧ (3 : Nat) = (3 : Nat) ∧ lR (63 : Nat) (FbX.ps x) = lR (63 : Nat) (FbX.ps x') ∧ (3 : Nat) = (3 : Nat) ∧ lR (63 : Nat) (FbX.qs x) = lR (63 : Nat) (FbX.qs x') ∧ (0 : Nat) = (0 : Nat) ∧ (6 : Nat) = (6 : Nat) ∧ List.map (spN (2000000 : Nat)) (bX x) = List.map (spN (2000000 : Nat)) (bX x') ∧ (0 : Nat) = (0 : Nat) ∧ List.length (ArmV.links (FbX.a x)) = List.length (ArmV.links (FbX.a x')) ∧ FbX.b x = FbX.b x' ∧ (0 : Int) = (0 : Int) ∧ (6 : Nat) = (6 : Nat) ∧ List.map (spN (2000000 : Nat)) (bX x) = List.map (spN (2000000 : Nat)) (bX x') ∧ Int.ofNat (List.length (ArmV.links (FbX.a x))) = Int.ofNat (List.length (ArmV.links (FbX.a x'))) ∧ IntKind.wrap IntKind.i64 (Int.ofNat (FbX.i x) + (1 : Int)) = Int.ofNat (FbX.i x') ∧ (44 : Nat) = (44 : Nat) ∧ ArmV.name (FbX.a x) = ArmV.name (FbX.a x') ∧ ArmV.x (FbX.a x) = ArmV.x (FbX.a x') ∧ (63 : Nat) ≤ (63 : Nat) ∧ ArmV.y (FbX.a x) = ArmV.y (FbX.a x') ∧ (63 : Nat) ≤ (63 : Nat) ∧ ArmV.half (FbX.a x) = ArmV.half (FbX.a x') ∧ ArmV.t (FbX.a x) = ArmV.t (FbX.a x') ∧ (63 : Nat) ≤ (63 : Nat) ∧ (16 : Nat) = (16 : Nat) ∧ List.map linkCh (ArmV.links (FbX.a x)) = List.map linkCh (ArmV.links (FbX.a x')) ∧ (32 : Nat) = (32 : Nat) ∧ Prod.fst (FbX.u x, FbX.v x) = Prod.fst (FbX.u x', FbX.v x') ∧ (63 : Nat) ≤ (63 : Nat) ∧ Prod.snd (FbX.u x, FbX.v x) = Prod.snd (FbX.u x', FbX.v x') ∧ (63 : Nat) ≤ (63 : Nat) ∧ (26 : Nat) = (26 : Nat) ∧ (3 : Nat) = (3 : Nat) ∧ (List.set (List.map (fun (q : Rat) => [Ch.r q (265600136 : Nat)]) (mxL (bX x) (tX x) (FbX.i x))) ((0 : Nat) + Int.toNat (Int.ofNat (FbX.i x))) [Ch.r (maxR (absR q) (absR q_1)) (max n n_1)] = List.map (fun (q : Rat) => [Ch.r q (265600136 : Nat)]) (mxL (bX x') (tX x') (FbX.i x')) ∨ RowLE (List.set (List.map (fun (q : Rat) => [Ch.r q (265600136 : Nat)]) (mxL (bX x) (tX x) (FbX.i x))) ((0 : Nat) + Int.toNat (Int.ofNat (FbX.i x))) [Ch.r (maxR (absR q) (absR q_1)) (max n n_1)]) (List.map (fun (q : Rat) => [Ch.r q (265600136 : Nat)]) (mxL (bX x') (tX x') (FbX.i x')))) ∧ True else ∃ (ps : List Rat), ∃ (a : Nat), ∃ (qs : List Rat), ∃ (b : Nat), lR (63 : Nat) (FbX.ps x) = lR a ps ∧ lR (63 : Nat) (FbX.qs x) = lR b qs ∧ ((List.length ps = List.length qs ∧ List.length ps ≤ (100 : Nat)) ∧ a + b ≤ (1000000 : Nat)) ∧ ∃ (a_16 : ArmV), ∃ (B : Nat), ∃ (ts : List Sp), ∃ (qs_7 : List Rat), ∃ (N : Nat), ∃ (lim : List Rat), [Ch.v (Value.string (ArmV.name (FbX.a x))), Ch.r (ArmV.x (FbX.a x)) (63 : Nat), Ch.r (ArmV.y (FbX.a x)) (63 : Nat), Ch.v (Value.bool (ArmV.half (FbX.a x))), Ch.r (ArmV.t (FbX.a x)) (63 : Nat), Ch.s (16 : Nat) (List.map linkCh (ArmV.links (FbX.a x)))] = [Ch.v (Value.string (ArmV.name a_16)), Ch.r (ArmV.x a_16) (63 : Nat), Ch.r (ArmV.y a_16) (63 : Nat), Ch.v (Value.bool (ArmV.half a_16)), Ch.r (ArmV.t a_16) (63 : Nat), Ch.s (16 : Nat) (List.map linkCh (ArmV.links a_16))] ∧ List.map (spN (max a b)) (spansV ps qs) = List.map (spN B) ts ∧ List.take (List.length (ArmV.links (FbX.a x))) (List.drop (0 : Nat) (List.map (fun (q : Rat) => [Ch.r q (265600136 : Nat)]) (mxL (bX x) (tX x) (FbX.i x)))) = lR N lim ∧ (GoodArm a_16 ∧ (B ≤ (400 : Nat) ∧ List.length ts = List.length (ArmV.links a_16)) ∧ (List.length ts = List.length qs_7 ∧ ∀ (i : Nat) (t : Sp) (q : Rat), ts[i]? = some t → qs_7[i]? = some q → Sp.lo t ≤ q ∧ q ≤ Sp.hi t) ∧ ((63 : Nat) ≤ (1000 : Nat) ∧ (63 : Nat) ≤ (1000 : Nat)) ∧ N ≤ (1000000000 : Nat) ∧ List.length lim = List.length (ArmV.links a_16)) ∧ ∀ (b : Bool), ((∀ (i : Nat) (s : Sp) (m : Rat), (bndA a_16 ts (Prod.fst (FbX.u x, FbX.v x)) (Prod.snd (FbX.u x, FbX.v x)))[i]? = some s → lim[i]? = some m → Sp.hi s ≤ m ∧ -Sp.lo s ≤ m) → b = true) → bif b then bif !FbX.b x then K (AV.x false [Ch.v (Value.bool true)]) else K (AV.x false [Ch.v (Value.bool b)]) else K (AV.x false [Ch.v (Value.bool false)])) := by kernel_rfl
theorem le_absR (p : Rat) : p ≤ absR p := by
  have k := Rat.num_nonneg (q := p)
  unfold absR; split
  · have : ¬ 0 ≤ p := fun h => by have := k.2 h; omega
    grind
  · exact Rat.le_refl
theorem neg_le_absR (p : Rat) : -p ≤ absR p := by
  have k := Rat.num_nonneg (q := p)
  unfold absR; split
  · exact Rat.le_refl
  · have : 0 ≤ p := k.1 (by omega)
    grind
theorem spn_lo {n : Nat} {us : List Sp} {i : Nat} {u : Sp} (h : us[i]? = some u) : ldE (us.map (spN n)) i 0 3 = some [.r u.lo n] := by
  simp only [ldE, List.getElem?_map, h]; rfl
theorem spn_hi {n : Nat} {us : List Sp} {i : Nat} {u : Sp} (h : us[i]? = some u) : ldE (us.map (spN n)) i 3 3 = some [.r u.hi n] := by
  simp only [ldE, List.getElem?_map, h]; rfl
theorem mx_len {bs : List Sp} {ts : List Rat} {j : Nat} (h : bs.length = ts.length) (k : j ≤ ts.length) : (mxL bs ts j).length = ts.length := by simp [mxL]; omega
theorem mx_lim {bs : List Sp} {ts : List Rat} {j i : Nat} {s : Sp} {m : Rat} (h : bs.length = j) (k : ts.length = j) (hs : bs[i]? = some s) (hm : (mxL bs ts j)[i]? = some m) : s.hi ≤ m ∧ -s.lo ≤ m := by
  have hi := (List.getElem?_eq_some_iff.1 hs).1
  unfold mxL at hm
  rw [List.getElem?_append_left (by simp; omega), List.take_of_length_le (by omega), List.getElem?_map, hs] at hm
  cases hm
  exact ⟨Rat.le_trans (le_absR _) (le_maxR_r _ _), Rat.le_trans (neg_le_absR _) (le_maxR_l _ _)⟩
theorem mx_set {N m j : Nat} {bs : List Sp} {ts : List Rat} {s : Sp} {t : Rat} (hs : bs[j]? = some s) (ht : ts[j]? = some t) (hm : m ≤ N) :
    RowLE (((mxL bs ts j).map fun q => [Ch.r q N]).set j [.r (maxR (absR s.lo) (absR s.hi)) m]) ((mxL bs ts (j + 1)).map fun q => [Ch.r q N]) := by
  have hi := (List.getElem?_eq_some_iff.1 hs).1
  have e1 : ((mxL bs ts j).map fun q => [Ch.r q N]).set j [.r (maxR (absR s.lo) (absR s.hi)) m] = (((bs.take j).map fun s => maxR (absR s.lo) (absR s.hi)).map fun q => [Ch.r q N]) ++ [Ch.r (maxR (absR s.lo) (absR s.hi)) m] :: ((ts.drop (j + 1)).map absR).map fun q => [Ch.r q N] := by
    unfold mxL
    have hl : (((bs.take j).map fun s => maxR (absR s.lo) (absR s.hi)).map fun q => [Ch.r q N]).length = j := by simp; omega
    rw [drop_get' ht, List.map_append, List.set_append_right _ _ (by omega), hl, Nat.sub_self]
    rfl
  have e2 : ((mxL bs ts (j + 1)).map fun q => [Ch.r q N]) = (((bs.take j).map fun s => maxR (absR s.lo) (absR s.hi)).map fun q => [Ch.r q N]) ++ [Ch.r (maxR (absR s.lo) (absR s.hi)) N] :: ((ts.drop (j + 1)).map absR).map fun q => [Ch.r q N] := by
    unfold mxL
    rw [List.take_add_one, hs, Option.toList_some, List.map_append, List.map_append, List.map_append, List.append_assoc]
    rfl
  rw [e1, e2]
  generalize (bs.take j).map (fun s => maxR (absR s.lo) (absR s.hi)) = A
  generalize (ts.drop (j + 1)).map absR = B
  refine ⟨by simp, fun i c d hc hd => ?_⟩
  by_cases k : i < A.length
  · rw [List.getElem?_append_left (by simpa using k), List.getElem?_map] at hc hd
    cases hg : A[i]? with
    | none => rw [hg] at hc; cases hc
    | some w => rw [hg] at hc hd; cases hc; cases hd; exact ⟨.r (Nat.le_refl _) .nil, rfl⟩
  · rw [List.getElem?_append_right (by simp; omega)] at hc hd
    cases hj : i - (A.map fun q => [Ch.r q N]).length with
    | zero =>
      rw [hj] at hc hd
      cases hc; cases hd
      exact ⟨.r hm .nil, rfl⟩
    | succ j =>
      rw [hj, List.getElem?_cons_succ, List.getElem?_map] at hc hd
      cases hg : B[j]? with
      | none => rw [hg] at hc; cases hc
      | some w => rw [hg] at hc hd; cases hc; cases hd; exact ⟨.r (Nat.le_refl _) .nil, rfl⟩
theorem fb_fact {x : FbX} (hx : FbI x) : (bX x).length = x.a.links.length ∧ (tX x).length = x.a.links.length ∧ HasQ (bX x) (tX x) := by
  have h1 := hx.ps
  have h2 := hx.qs
  have h3 := hx.l2
  have h4 := hx.hv.1
  have sl := spans_len (show x.ps.length = x.qs.length by omega)
  have hh : HasQ (bX x) (tX x) := bndA_has x.u x.v hx.hv (by omega) hx.e2
  have tl : (tX x).length = x.a.links.length := by show (torqV x.f x.u x.v x.fs).length = _; simp [torqV]; omega
  exact ⟨by rw [hh.1]; exact tl, tl, hh⟩
theorem g_fb (l m k n o : List Int) (hl : l.length ≤ 9223372036854775807) (hm : m.length ≤ 9223372036854775807) (hk : k.length ≤ 9223372036854775807) (hn : n.length ≤ 9223372036854775807) (ho : o.length ≤ 9223372036854775807) (K : AV → Prop) (hK : K (.x false [.v (.bool true)])) : Holds (goal_fb l m k n o K) := by
  refine ⟨?_⟩
  rw [goal_fb_vc]
  simp only [Int.ofNat_eq_natCast, true_and, and_true, Nat.zero_add, Nat.le_refl, true_implies, true_or, or_true]
  refine ⟨l, rfl, hl, fun a ha => ⟨a, m, rfl, rfl, ⟨MadeA.good ha, hm⟩, fun ps _ hp => ⟨a, k, rfl, rfl, ⟨MadeA.good ha, hk⟩, fun qs _ hq => ⟨o, rfl, ho, fun p => ?_⟩⟩⟩⟩
  have hg := MadeA.good ha
  have hnn := hg.n
  have hpq : ps.length = qs.length := by omega
  have sl := spans_len hpq
  refine ⟨ps, 63, qs, 63, rfl, rfl, ⟨⟨hpq, by omega⟩, by omega⟩, a, 63, spansV ps qs, ps, rfl, rfl, ⟨hg, ⟨by omega, by omega⟩, spans_hasL hpq, by omega, by omega⟩, ps, 63, qs, 63, n, rfl, rfl, rfl, ⟨⟨hpq, by omega⟩, by omega, hn⟩, fun vs hv => ⟨a, 254, vs, rfl, rfl, ⟨hg, ⟨by omega, by have := hv.1; omega⟩, by omega, by omega⟩, fun fs f hf hfl => ?_⟩⟩
  have tl : ∀ (f : FrV) u v (fs : List FrV), (torqV f u v fs).length = fs.length := fun f u v fs => by simp [torqV]
  have bl : (bndA a (spansV ps qs) p.1 p.2).length = a.links.length := bnd_len _ _ _ _ (by rw [spread_len a.links _ (loBase a) (by omega)]; omega)
  simp only [List.length_map, lR_len, tl, bl, hfl]
  refine bif_mk (fun h => by simp at h) (fun _ => ⟨⟨⟨a, ps, qs, vs, fs, f, p.1, p.2, 0, false⟩, ⟨hg, hp, hq, hv, hf, hfl, by simp⟩, rfl, rfl, rfl, rfl, rfl, rfl, rfl, rfl, rfl, rfl, rfl, rfl, rfl, rfl, rfl, rfl, rfl⟩, fun x hx => bif_mk (fun hc => ?_) (fun hc => ?_)⟩)
  · have hp : x.i < x.a.links.length := by have := of_decide_eq_true hc; omega
    obtain ⟨bl2, tl2, hh⟩ := fb_fact hx
    have hxn := hx.good.n
    obtain ⟨s, hs⟩ : ∃ s, (bX x)[x.i]? = some s := ⟨_, List.getElem?_eq_getElem (by omega)⟩
    obtain ⟨t, ht⟩ : ∃ t, (tX x)[x.i]? = some t := ⟨_, List.getElem?_eq_getElem (by omega)⟩
    have hst := hh.2 x.i s t hs ht
    refine ⟨by omega, _, _, _, _, spn_ld (by simpa using hs), by omega, _, _, lR_ld (by simpa using ht), ⟨by omega, hst.ok⟩, bif_mk (fun h => ?_) (fun _ => ⟨by omega, _, _, lR_ld (by simpa using ht), by omega, ⟨by omega, by omega⟩, ⟨x.a, x.ps, x.qs, x.vs, x.fs, x.f, x.u, x.v, x.i + 1, x.b⟩, ⟨⟨hx.good, hx.ps, hx.qs, hx.hv, hx.e2, hx.l2, hp⟩, by simp only; omega⟩, rfl, rfl, rfl, rfl, rfl, rfl, rfl, by rw [w64 (by omega)]; simp, rfl, rfl, rfl, rfl, rfl, rfl, rfl, rfl, .inl ?_⟩)⟩
    · exfalso
      rw [show spHas ⟨s.lo, s.hi⟩ t = true from spHas_iff.2 hst] at h; cases h
    · rw [List.take_of_length_le (by simp; omega)]
      show _ = List.map _ (List.map absR (List.take (x.i + 1) (tX x)))
      rw [List.take_add_one, ht, Option.toList_some, List.map_append, List.map_append]
      rfl
  · have hp : x.i = x.a.links.length := by have := of_decide_eq_false hc; have := hx.le; omega
    obtain ⟨bl2, tl2, hh⟩ := fb_fact hx
    have hxn := hx.good.n
    have hxp := hx.ps
    have hxq := hx.qs
    have hpq2 : x.ps.length = x.qs.length := by omega
    have sl2 := spans_len hpq2
    have em : List.map absR (List.take x.i (tX x)) = (tX x).map absR := by rw [List.take_of_length_le (by omega)]
    have er : List.take x.i (List.drop 0 (List.map (fun q => [Ch.r q 265600136]) (List.map absR (List.take x.i (tX x))))) = lR 265600136 ((tX x).map absR) := by
      rw [List.drop_zero, em, List.take_of_length_le (by simp; omega)]; rfl
    refine ⟨x.ps, 63, x.qs, 63, rfl, rfl, ⟨⟨hpq2, by omega⟩, by omega⟩, x.a, 63, spansV x.ps x.qs, x.ps, 265600136, (tX x).map absR, rfl, rfl, er, ⟨hx.good, ⟨by omega, by omega⟩, spans_hasL hpq2, ⟨by omega, by omega⟩, by omega, by rw [List.length_map]; exact tl2⟩, fun b _ => ⟨⟨⟨x.a, x.ps, x.qs, x.vs, x.fs, x.f, x.u, x.v, 0, b⟩, ⟨hx.good, hx.ps, hx.qs, hx.hv, hx.e2, hx.l2, by simp⟩, rfl, rfl, rfl, hp, rfl, rfl, by rw [bl2], rfl, rfl, rfl, rfl, rfl, rfl, rfl, rfl, rfl, .inl ?_⟩, fun x hx => ?_⟩⟩
    · rw [em]; rfl
    clear er em sl2 hpq2 hxq hxp hxn hh tl2 bl2 hp hc
    refine bif_mk (fun hc => ?_) (fun hc => ?_)
    · have hp : x.i < x.a.links.length := by have := of_decide_eq_true hc; omega
      obtain ⟨bl2, tl2, hh⟩ := fb_fact hx
      have hxn := hx.good.n
      obtain ⟨s, hs⟩ : ∃ s, (bX x)[x.i]? = some s := ⟨_, List.getElem?_eq_getElem (by omega)⟩
      obtain ⟨t, ht⟩ : ∃ t, (tX x)[x.i]? = some t := ⟨_, List.getElem?_eq_getElem (by omega)⟩
      refine ⟨by omega, _, _, by rw [Int.toNat_natCast]; exact spn_lo hs, by omega, _, _, by rw [Int.toNat_natCast]; exact spn_hi hs, by omega, by omega, by omega, by omega, by rw [mx_len (by omega) (by omega)]; omega, ⟨x.a, x.ps, x.qs, x.vs, x.fs, x.f, x.u, x.v, x.i + 1, x.b⟩, ⟨⟨hx.good, hx.ps, hx.qs, hx.hv, hx.e2, hx.l2, hp⟩, by simp only; omega⟩, rfl, rfl, rfl, rfl, rfl, rfl, rfl, by rw [w64 (by omega)]; simp, rfl, rfl, rfl, rfl, rfl, rfl, rfl, rfl, .inr ?_⟩
      exact mx_set hs ht (by omega)
    · have hp : x.i = x.a.links.length := by have := of_decide_eq_false hc; have := hx.le; omega
      obtain ⟨bl2, tl2, hh⟩ := fb_fact hx
      have hxn := hx.good.n
      have hxp := hx.ps
      have hxq := hx.qs
      have hpq2 : x.ps.length = x.qs.length := by omega
      have sl2 := spans_len hpq2
      have er : List.take x.a.links.length (List.drop 0 (List.map (fun q => [Ch.r q 265600136]) (mxL (bX x) (tX x) x.i))) = lR 265600136 (mxL (bX x) (tX x) x.i) := by
        rw [List.drop_zero, List.take_of_length_le (by rw [List.length_map, mx_len (by omega) (by omega)]; omega)]; rfl
      refine ⟨x.ps, 63, x.qs, 63, rfl, rfl, ⟨⟨hpq2, by omega⟩, by omega⟩, x.a, 63, spansV x.ps x.qs, x.ps, 265600136, mxL (bX x) (tX x) x.i, rfl, rfl, er, ⟨hx.good, ⟨by omega, by omega⟩, spans_hasL hpq2, ⟨by omega, by omega⟩, by omega, by rw [mx_len (by omega) (by omega)]; exact tl2⟩, fun b hb => ?_⟩
      have hb := hb fun i s m hs hm => mx_lim (bs := bX x) (ts := tX x) (by omega) (by omega) hs hm
      subst hb
      cases x.b <;> exact hK
theorem spec_fb (l m k n o : List Int) (hl : l.length ≤ 9223372036854775807) (hm : m.length ≤ 9223372036854775807) (hk : k.length ≤ 9223372036854775807) (hn : n.length ≤ 9223372036854775807) (ho : o.length ≤ 9223372036854775807) : Eng.Spec Tryz.prog tabG debT 6 [.x false [.s 1 (ints l)], .x false [.s 1 (ints m)], .x false [.s 1 (ints k)], .x false [.s 1 (ints n)], .x false [.s 1 (ints o)]] (fun av => av = .x false [.v (.bool true)]) :=
  spec_ofL T158ok mixed Tryz.func6 (by kernel_rfl) (by kernel_rfl) (by rfl) (g_fb l m k n o hl hm hk hn ho _ rfl)
end Go.Proofs
