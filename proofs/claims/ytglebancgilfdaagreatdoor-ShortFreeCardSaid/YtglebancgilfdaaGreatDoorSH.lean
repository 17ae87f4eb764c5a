/- Ways with points left out: plain laws. -/
import Derived.Test.YtglebancgilfdaaGreatDoorS1
import Derived.Test.YtglebancgilfdaaGreatDoorCU
import Derived.Test.YtglebancgilfdaaGreatDoorS2
open Int renaming ofNat → Za, ofNat_eq_natCast → Zl, toNat_natCast → Zn
open Go.IntKind renaming i64 → Zb
open List renaming map → Zc, getElem?_eq_getElem → Zf, mem_of_getElem? → Zh, getD_eq_getElem?_getD → Zk, getElem?_map → Zm, length_cons → Zo
open Go.Value renaming bool → Zd, string → Ze
open Go.Eng.Ch renaming r → Zg, v → Zi, s → Zj
/- Ways with points left out: plain laws. -/
namespace Go.Proofs
open Go Go.Eng
def cutK (go : List Rat → List Rat → Bool) (w : List (List Rat)) (i : Nat) : Nat → Nat
 | 0 => i + 1
 | k + 1 => bif Nat.ble (k + 1) (i + 1) then i + 1 else bif go (w.getD i []) (w.getD (k + 1) []) then k + 1 else cutK go w i k
def cutI (go : List Rat → List Rat → Bool) (w : List (List Rat)) : Nat → Nat → List Nat
 | 0, _ => []
 | f + 1, i => bif decide (i + 1 < w.length) then cutK go w i (w.length - 1) :: cutI go w f (cutK go w i (w.length - 1)) else []
def atW (w : List (List Rat)) (i : Nat) : List Rat := w.getD i []
def cutV (go : List Rat → List Rat → Bool) (w : List (List Rat)) : List (List Rat) := (0 :: cutI go w w.length 0).map (atW w)
def Steps (go : List Rat → List Rat → Bool) (w : List (List Rat)) : Nat → List Nat → Prop
 | i, [] => i + 1 = w.length
 | i, k :: r => (i < k ∧ k < w.length) ∧ (k = i + 1 ∨ go (atW w i) (atW w k) = true) ∧ Steps go w k r
def freeW (go : List Rat → List Rat → Bool) (w : List (List Rat)) : Bool := (List.range w.length).all fun i => go (atW w (i - 1)) (atW w i)
theorem cutK_ok (go : List Rat → List Rat → Bool) (w : List (List Rat)) (i : Nat) : ∀ k, k < w.length → i + 1 < w.length → (i < cutK go w i k ∧ cutK go w i k < w.length) ∧ (cutK go w i k = i + 1 ∨ go (atW w i) (atW w (cutK go w i k)) = true) := by
 intro k
 induction k with
 | zero => intro _ h; exact ⟨⟨by simp [cutK], by simpa [cutK] using h⟩, .inl rfl⟩
 | succ k ih =>
  intro hk hi
  simp only [cutK]
  cases hb : Nat.ble (k + 1) (i + 1) with
  | true => exact ⟨⟨by simp, by simpa using hi⟩, .inl rfl⟩
  | false =>
   cases hg : go (w.getD i []) (w.getD (k + 1) []) with
   | true =>
    have : ¬ k + 1 ≤ i + 1 := fun h => by rw [Nat.ble_eq_true_of_le h] at hb; cases hb
    exact ⟨⟨by simp only [cond_false, cond_true]; omega, hk⟩, .inr hg⟩
   | false => exact ih (by omega) hi
theorem cut_steps (go : List Rat → List Rat → Bool) (w : List (List Rat)) : ∀ f i, i < w.length → w.length ≤ f + i + 1 → Steps go w i (cutI go w f i) := by
 intro f
 induction f with
 | zero => intro i h1 h2; show i + 1 = w.length; omega
 | succ f ih =>
  intro i h1 h2
  simp only [cutI]
  by_cases h : i + 1 < w.length
  ·rw [decide_eq_true h]
   obtain ⟨a, b⟩ := cutK_ok go w i (w.length - 1) (by omega) h
   exact ⟨a, b, ih _ a.2 (by omega)⟩
  ·rw [decide_eq_false h]
   show i + 1 = w.length
   omega
theorem steps_len {go : List Rat → List Rat → Bool} {w : List (List Rat)} : ∀ {r : List Nat} {i : Nat}, Steps go w i r → r.length + i < w.length := by
 intro r
 induction r with
 | nil => intro i h; have h : i + 1 = w.length := h; simp; omega
 | cons k r ih => intro i h; have := ih h.2.2; have := h.1; simp only [Zo]; omega
theorem steps_last {go : List Rat → List Rat → Bool} {w : List (List Rat)} : ∀ {r : List Nat} {i : Nat}, Steps go w i r → (i :: r)[r.length]? = some (w.length - 1) := by
 intro r
 induction r with
 | nil => intro i h; have h : i + 1 = w.length := h; simp; omega
 | cons k r ih => intro i h; rw [Zo, List.getElem?_cons_succ]; exact ih h.2.2
theorem steps_at {go : List Rat → List Rat → Bool} {w : List (List Rat)} : ∀ {r : List Nat} {i : Nat}, Steps go w i r → ∀ {j a b : Nat}, (i :: r)[j]? = some a → (i :: r)[j + 1]? = some b → (a < b ∧ b < w.length) ∧ (b = a + 1 ∨ go (atW w a) (atW w b) = true) := by
 intro r
 induction r with
 | nil => intro i h j a b _ hb; simp at hb
 | cons k r ih =>
  intro i h j a b ha hb
  cases j with
  | zero => cases ha; cases hb; exact ⟨h.1, h.2.1⟩
  | succ j => exact ih h.2.2 (by simpa using ha) (by simpa using hb)
theorem steps_lt {go : List Rat → List Rat → Bool} {w : List (List Rat)} {r : List Nat} {i : Nat} (hi : i < w.length) (h : Steps go w i r) {j a : Nat} (ha : (i :: r)[j]? = some a) : a < w.length := by
 cases j with
 | zero => cases ha; exact hi
 | succ j =>
  have hj := (List.getElem?_eq_some_iff.1 ha).1
  obtain ⟨b, hb⟩ : ∃ b, (i :: r)[j]? = some b := ⟨_, Zf (by omega)⟩
  exact (steps_at h hb ha).1.2
theorem atW_get {w : List (List Rat)} {i : Nat} (h : i < w.length) : w[i]? = some (atW w i) := by
 unfold atW; rw [Zk, Zf h]; rfl
theorem cutV_get {go : List Rat → List Rat → Bool} {w : List (List Rat)} (j : Nat) : (cutV go w)[j]? = ((0 :: cutI go w w.length 0)[j]?).map (atW w) := by
 unfold cutV; rw [Zm]
theorem cutV_len {go : List Rat → List Rat → Bool} {w : List (List Rat)} (h : 0 < w.length) : 0 < (cutV go w).length ∧ (cutV go w).length ≤ w.length := by
 have := steps_len (cut_steps go w w.length 0 h (by omega))
 unfold cutV
 simp only [List.length_map, Zo]
 omega
theorem cutV_first {go : List Rat → List Rat → Bool} {w : List (List Rat)} : (cutV go w)[0]? = some (atW w 0) := rfl
theorem cutV_last {go : List Rat → List Rat → Bool} {w : List (List Rat)} (h : 0 < w.length) : (cutV go w)[(cutV go w).length - 1]? = some (atW w (w.length - 1)) := by
 have := steps_last (cut_steps go w w.length 0 h (by omega))
 rw [cutV_get, show (cutV go w).length - 1 = (cutI go w w.length 0).length by simp [cutV], this]
 rfl
/-- A way that is free stays free. -/
theorem cutV_free {go : List Rat → List Rat → Bool} {w : List (List Rat)} (h : 0 < w.length) (hf : freeW go w = true) : freeW go (cutV go w) = true := by
  have hs := cut_steps go w w.length 0 h (by omega)
  have hw : ∀ i, i < w.length → go (atW w (i - 1)) (atW w i) = true := fun i hi => List.all_eq_true.1 hf i (List.mem_range.2 hi)
  refine List.all_eq_true.2 fun j hj => ?_
  have hj := List.mem_range.1 hj
  have hl : (cutV go w).length = (0 :: cutI go w w.length 0).length := by simp [cutV]
  have at' : ∀ {j a : Nat}, (0 :: cutI go w w.length 0)[j]? = some a → atW (cutV go w) j = atW w a := fun {j a} ha => by
    show (cutV go w).getD j [] = _
    rw [Zk, cutV_get, ha]; rfl
  cases j with
  | zero =>
    have := hw 0 h
    rw [Nat.zero_sub, at' (j := 0) (a := 0) rfl]
    exact this
  | succ j =>
    obtain ⟨a, ha⟩ : ∃ a, (0 :: cutI go w w.length 0)[j]? = some a := ⟨_, Zf (by omega)⟩
    obtain ⟨b, hb⟩ : ∃ b, (0 :: cutI go w w.length 0)[j + 1]? = some b := ⟨_, Zf (by omega)⟩
    rw [Nat.add_sub_cancel, at' ha, at' hb]
    obtain ⟨⟨h1, h2⟩, h3 | h3⟩ := steps_at hs ha hb
    · subst h3; have := hw (a + 1) h2; rwa [Nat.add_sub_cancel] at this
    · exact h3
theorem absR_def (p : Rat) : absR p = if p < 0 then -p else p := by
 unfold absR
 have k := Rat.num_nonneg (q := p)
 by_cases h : p.num < 0
 ·have : ¬ 0 ≤ p := fun h' => by have := k.2 h'; omega
  rw [if_pos h, if_pos (by grind)]
 ·have : 0 ≤ p := k.1 (by omega)
  rw [if_neg h, if_neg (by grind)]
theorem abs_tri (p q r : Rat) : absR (r - p) ≤ absR (q - p) + absR (r - q) := by
 rw [absR_def, absR_def, absR_def]
 split <;> split <;> split <;> grind
theorem dst_tri : ∀ (a b c : List Rat), a.length = b.length → b.length = c.length → dst a c ≤ dst a b + dst b c := by
 intro a
 induction a with
 | nil => intro b c h1 h2; cases b with
  | nil => cases c with
   | nil => show (0 : Rat) ≤ 0 + 0; rw [Rat.add_zero]; exact Rat.le_refl
   | cons z c => cases h2
  | cons y b => cases h1
 | cons x a ih =>
  intro b c h1 h2
  match b, c, h1, h2 with
  | y :: b, z :: c, h1, h2 =>
   have := ih b c (by simpa using h1) (by simpa using h2)
   have := abs_tri x y z
   simp only [dst]
   grind
theorem dst_self : ∀ a : List Rat, dst a a = 0 := by
 intro a
 induction a with
 | nil => rfl
 | cons x a ih => simp only [dst]; rw [ih, absR_def]; split <;> grind
theorem drop_atW {w : List (List Rat)} {i : Nat} (h : i < w.length) : w.drop i = atW w i :: w.drop (i + 1) := by
 rw [List.drop_eq_getElem_cons h]
 congr 1
 unfold atW
 rw [Zk, Zf h]; rfl
theorem meas_seg {w : List (List Rat)} {m : Nat} (hw : ∀ q ∈ w, q.length = m) (i : Nat) : ∀ d, i + d < w.length → dst (atW w i) (atW w (i + d)) + meas (w.drop (i + d)) ≤ meas (w.drop i) := by
 have hlen : ∀ j, j < w.length → (atW w j).length = m := fun j hj => hw _ (Zh (atW_get hj))
 intro d
 induction d with
 | zero =>
  intro h
  rw [Nat.add_zero, dst_self]
  have : (0 : Rat) + meas (w.drop i) = meas (w.drop i) := by grind
  rw [this]
  exact Rat.le_refl
 | succ d ih =>
  intro h
  have h1 := ih (by omega)
  have e : w.drop (i + d) = atW w (i + d) :: atW w (i + (d + 1)) :: w.drop (i + d + 1 + 1) := by
   rw [drop_atW (by omega), drop_atW (show i + d + 1 < w.length by omega)]; rfl
  have e2 : w.drop (i + (d + 1)) = atW w (i + (d + 1)) :: w.drop (i + d + 1 + 1) := drop_atW (by omega)
  rw [e, meas, ← e2] at h1
  have h2 := dst_tri (atW w i) (atW w (i + d)) (atW w (i + (d + 1))) (by rw [hlen _ (by omega), hlen _ (by omega)]) (by rw [hlen _ (by omega), hlen _ (by omega)])
  grind
theorem steps_meas {go : List Rat → List Rat → Bool} {w : List (List Rat)} {m : Nat} (hw : ∀ q ∈ w, q.length = m) : ∀ {r : List Nat} {i : Nat}, Steps go w i r → meas ((i :: r).map (atW w)) ≤ meas (w.drop i) := by
 intro r
 induction r with
 | nil =>
  intro i h
  have h : i + 1 = w.length := h
  rw [drop_atW (by omega), List.drop_of_length_le (by omega)]
  exact Rat.le_refl
 | cons k r ih =>
  intro i h
  have h1 := ih h.2.2
  have h2 := meas_seg hw i (k - i) (by have := h.1; omega)
  rw [show i + (k - i) = k by have := h.1; omega] at h2
  show dst (atW w i) (atW w k) + meas ((k :: r).map (atW w)) ≤ _
  grind
/-- What is left is not longer. -/
theorem cutV_meas {go : List Rat → List Rat → Bool} {w : List (List Rat)} {m : Nat} (h : 0 < w.length) (hw : ∀ q ∈ w, q.length = m) : meas (cutV go w) ≤ meas w := by
  have := steps_meas hw (cut_steps go w w.length 0 h (by omega))
  rwa [List.drop_zero] at this
end Go.Proofs
/- Ways cut short among walls: short.good once more, Cut, path.Free; ShortFree. -/
namespace Go.Proofs
open Go Go.Eng
def inS (l : List Int) : AV := .x false [.s 1 (ints l)]
def goV (a : ArmV) (ws : List (List (Rat × Rat))) (k : Nat) (p q : List Rat) : Bool := motB a (splV p q k) ws
def cutW (go : List Rat → List Rat → Bool) (w : List (List Rat)) : List (List Rat) := match w with
 | [] => []
 | q :: r => cutV go (q :: r)
def c_sGoodN : Ctr := fun as0 => match as0 with
 | [.x false [.s 3 xs]] => some fun K => ∃ (n : Nat) (qs : List Rat), xs = lR n qs ∧ (n ≤ 1000000 ∧ qs.length ≤ 1000000) ∧ K (sR n qs)
 | _ => none
theorem cutW_eq {go : List Rat → List Rat → Bool} {w : List (List Rat)} (h : 1 ≤ w.length) : cutW go w = cutV go w := by
 cases w with
 | nil => simp at h
 | cons q r => rfl
theorem cc_el {W : World} {O : Nat → Prop} {ρ : Env} {sz : Nat} {X Y : List (List Ch)} {vs : List Value} (hlen : X.length = Y.length) (hel : ∀ (i : Nat) (x y : List Ch), X[i]? = some x → Y[i]? = some y → ∀ f, CC W O (fun _ => none) x f → CC W O (fun _ => none) y f) (h : CC W O ρ [.s sz X] vs) : CC W O ρ [.s sz Y] vs := by
 cases h with
 | s0 h => rw [List.length_eq_zero_iff.1 hlen.symm]; exact .s0 h
 | s00 h => rw [List.length_eq_zero_iff.1 hlen.symm]; exact .s00 h
 | s hr hx hcap h =>
  have back : ∀ (i : Nat) (y : List Ch), Y[i]? = some y → ∃ x, X[i]? = some x := fun i y hy => ⟨_, Zf (by have := (List.getElem?_eq_some_iff.1 hy).1; omega)⟩
  rename_i f vs'
  rw [hlen] at hcap ⊢
  refine .s (f := f) ⟨hr.lt, hr.free, fun i y hy => ?_⟩ (fun i y hy => ?_) hcap h
  ·obtain ⟨x, hx'⟩ := back i y hy; exact hr.cell i x hx'
  ·obtain ⟨x, hx'⟩ := back i y hy; exact hel i x y hx' hy _ (hx i x hx')
theorem nar_lR {W : World} {O : Nat → Prop} {ρ : Env} {n m : Nat} {qs : List Rat} (hb : ∀ q ∈ qs, Bd n q) {v : Value} (h : ConcV W O ρ (sR m qs) v) : ConcV W O ρ (sR n qs) v := by
 obtain ⟨vs, h1, h2⟩ := h
 refine ⟨vs, cc_el (by rw [lR_len, lR_len]) (fun i x y hx hy g hg => ?_) h1, h2⟩
 simp only [lR, Zm] at hx hy
 cases hq : qs[i]? with
 | none => rw [hq] at hx; cases hx
 | some r =>
  rw [hq] at hx hy
  cases hx; cases hy
  cases hg with
  | r _ h' => exact .r (hb r (Zh hq)) h'
theorem bd_of_sR {w : World} {O : Nat → Prop} {ρ : Env} {n : Nat} {qs : List Rat} {v : Value} (h : ConcV w O ρ (sR n qs) v) : ∀ q ∈ qs, Bd n q := by
 obtain ⟨vs, h1, h2⟩ := h
 intro q hq
 obtain ⟨i, hi⟩ := List.getElem?_of_mem hq
 have hi' : (lR n qs)[i]? = some [.r q n] := by simp only [lR, Zm, hi]; rfl
 generalize lR n qs = X at *
 cases h1 with
 | s0 _ => simp at hi'
 | s00 _ => simp at hi'
 | s hr hx hcap h =>
  rename_i f vs'
  have hc := hx i _ hi'
  generalize f i = g at hc
  cases hc with
  | r hb _ => exact hb
theorem ok_sGoodN : CtrOK Tryz.prog tabG debT 49 c_sGoodN := by
 refine ⟨enters Tryz.func49 (by kernel_rfl), fun l T hT K hK => ?_⟩
 unfold c_sGoodN at hT
 split at hT
 ·cases hT
  obtain ⟨n, qs, rfl, hc, hK⟩ := hK
  refine spec_pre fun w O ρ vals hv => ?_
  cases hv with
  | cons h0 _ =>
   have hb := bd_of_sR h0
   exact Spec.res (spec_ofL T99ok mixed Tryz.func49 (by kernel_rfl) (by kernel_rfl) (by rfl) (g_sGood n qs hc (fun av => av = sR (n + 65) qs) rfl)) fun w O av v e hcv => ⟨_, hK, by subst e; exact nar_lR hb hcv⟩
 ·cases hT
def L193 : List (Nat × Ctr) := (49, c_sGoodN) :: (47, c_sCheck) :: (18, c_sMeasure) :: (13, c_kWay) :: (10, c_kMeasures) :: (16, c_equalR) :: L192d
def T193 : Tabs := mkT L193 M190 X4
theorem L193ok : CtrsOK Tryz.prog tabG debT L193 := .cons ok_sGoodN (.cons ok_sCheck (.cons ok_sMeasure (.cons ok_kWay (.cons ok_kMeasures (.cons ok_equalR L192dok)))))
theorem T193ok : TabsOK Tryz.prog tabG debT T193 := mkTok L193ok M190ok X4ok
def allGo (go : List Rat → List Rat → Bool) (w : List (List Rat)) (i : Nat) : Bool := (List.range i).all fun j => go (atW w (j - 1)) (atW w j)
def inv_pfree (a : ArmV) (n : Nat) (w : List (List Rat)) (m : Nat) (ws : List (List (Rat × Rat))) (k : Nat) : LI := fun _ => .inv ⟨Nat, fun i => ⟨[(1, sW n w), (2, slA m ws), (3, iA .i64 k), (4, .x false [.p 4 0]), (11, .x false [.v (.bool (allGo (goV a ws k) w i))]), (27, iA .i64 w.length), (28, iA .i64 i)], [(4, .box 34 (armCh a))]⟩, fun i => i ≤ w.length, fun i => w.length - i, fun _ => 0⟩
structure CuX where
 o : List (List Rat)
 f : Nat
 i : Nat
 k : Nat
structure CuI (go : List Rat → List Rat → Bool) (w : List (List Rat)) (x : CuX) : Prop where
 i : x.i < w.length
 f : w.length ≤ x.f + x.i + 1
 o : x.o.length ≤ x.i + 1
 eq : x.o ++ (cutI go w x.f x.i).map (atW w) = cutV go w
structure CuJ (go : List Rat → List Rat → Bool) (w : List (List Rat)) (x : CuX) : Prop where
 all : CuI go w x
 i : x.i + 1 < w.length
 k : x.i < x.k ∧ x.k < w.length
 eq : cutK go w x.i x.k = cutK go w x.i (w.length - 1)
structure CuE (go : List Rat → List Rat → Bool) (w : List (List Rat)) (x : CuX) : Prop where
 all : CuI go w x
 i : x.i + 1 < w.length
 k : x.k = cutK go w x.i (w.length - 1)
def cuT (n : Nat) (w : List (List Rat)) (m : Nat) (ws : List (List (Rat × Rat))) (k : Nat) (x : CuX) : List (Nat × AV) := [(1, sW n w), (2, slA m ws), (3, iA .i64 k), (4, .x false [.p 4 0]), (13, .x false [.w 500 0 x.o.length]), (14, iA .i64 x.i)]
def cuH (a : ArmV) (n : Nat) (x : CuX) : List (Nat × Blk) := [(4, .box 34 (armCh a)), (500, .row 44 1 (wN n x.o))]
def inv_scut (a : ArmV) (n : Nat) (w : List (List Rat)) (m : Nat) (ws : List (List (Rat × Rat))) (k : Nat) : LI := fun id => bif id.beq 9 then .inv ⟨CuX, fun x => ⟨cuT n w m ws k x, cuH a n x⟩, CuI (goV a ws k) w, fun x => w.length - x.i, fun _ => 0⟩
 else bif id.beq 11 then .inv ⟨CuX, fun x => ⟨cuT n w m ws k x ++ [(15, iA .i64 x.k)], cuH a n x⟩, CuJ (goV a ws k) w, fun x => x.k, fun x => w.length - x.i⟩
 else bif id.beq 15 then .cut ⟨CuX, fun x => ⟨cuT n w m ws k x ++ [(15, iA .i64 x.k)], cuH a n x⟩, CuE (goV a ws k) w, fun _ => 0, fun x => w.length - x.i⟩ else .no
theorem allGo_succ (go : List Rat → List Rat → Bool) (w : List (List Rat)) (i : Nat) : allGo go w (i + 1) = (allGo go w i && go (atW w (i - 1)) (atW w i)) := by
 simp [allGo, List.range_succ]
theorem cutK_yes {go : List Rat → List Rat → Bool} {w : List (List Rat)} {i k : Nat} (h : i + 1 < k) (hg : go (atW w i) (atW w k) = true) : cutK go w i k = k := by
 cases k with
 | zero => omega
 | succ k =>
  have hb : Nat.ble (k + 1) (i + 1) = false := by
   cases hb : Nat.ble (k + 1) (i + 1) with
   | false => rfl
   | true => have := Nat.le_of_ble_eq_true hb; omega
  unfold atW at hg
  rw [cutK, hb, hg]; rfl
theorem cutK_no {go : List Rat → List Rat → Bool} {w : List (List Rat)} {i k : Nat} (h : i + 1 < k) (hg : go (atW w i) (atW w k) = false) : cutK go w i k = cutK go w i (k - 1) := by
 cases k with
 | zero => omega
 | succ k =>
  have hb : Nat.ble (k + 1) (i + 1) = false := by
   cases hb : Nat.ble (k + 1) (i + 1) with
   | false => rfl
   | true => have := Nat.le_of_ble_eq_true hb; omega
  unfold atW at hg
  rw [cutK, hb, hg]; rfl
theorem cutK_end {go : List Rat → List Rat → Bool} {w : List (List Rat)} {i k : Nat} (h : k ≤ i + 1) : cutK go w i k = i + 1 := by
 cases k with
 | zero => rfl
 | succ k => rw [cutK, Nat.ble_eq_true_of_le h]; rfl
theorem cutI_step {go : List Rat → List Rat → Bool} {w : List (List Rat)} {f i : Nat} (h : i + 1 < w.length) (hf : 1 ≤ f) : cutI go w f i = cutK go w i (w.length - 1) :: cutI go w (f - 1) (cutK go w i (w.length - 1)) := by
 cases f with
 | zero => omega
 | succ f => rw [cutI, decide_eq_true h]; rfl
theorem cutI_end {go : List Rat → List Rat → Bool} {w : List (List Rat)} {f i : Nat} (h : ¬ i + 1 < w.length) : cutI go w f i = [] := by
 cases f with
 | zero => rfl
 | succ f => rw [cutI, decide_eq_false h]; rfl
def ot_pFree : OT := fun id => bif id.beq 12 then ([0, 1, 2, 3, 7, 8, 9, 10, 11, 12, 4, 5, 6, 13, 14, 15, 16, 17, 18], [[], [], [], [2], [3, 2], [1, 4, 3, 2], [5, 1, 4, 3, 2], [], [], [7, 8], [9, 7, 8], [], [], [0, 6, 5, 1, 4, 3, 2, 10, 9, 7, 8, 11, 12], [13, 0, 6, 5, 1, 4, 3, 2, 10, 9, 7, 8, 11, 12], [14, 13, 0, 6, 5, 1, 4, 3, 2, 10, 9, 7, 8, 11, 12], [14, 13, 0, 6, 5, 1, 4, 3, 2, 10, 9, 7, 8, 11, 12], [15, 14, 13, 0, 6, 5, 1, 4, 3, 2, 10, 9, 7, 8, 11, 12], [16, 14, 13, 0, 6, 5, 1, 4, 3, 2, 10, 9, 7, 8, 11, 12, 17, 15]]) else ([], [])
def goal_pFree (a : ArmV) (n : Nat) (w : List (List Rat)) (m : Nat) (ws : List (List (Rat × Rat))) (k : Nat) (K : AV → Prop) : Prop := goalL T193 ot_pFree (inv_pfree a n w m ws k) Tryz.f17 [armA a, sW n w, slA m ws, iA .i64 k] K
theorem goal_pFree_vc (a : ArmV) (n : Nat) (w : List (List Rat)) (m : Nat) (ws : List (List (Rat × Rat))) (k : Nat) (K : AV → Prop) : goal_pFree a n w m ws k K = (∃(a_1:ArmV),[Zi (Ze a.name),Zg a.x 63,Zg a.y 63,Zi (Zd a.half),Zg a.t 63,Zj 16 (Zc linkCh a.links)]=[Zi (Ze a_1.name),Zg a_1.x 63,Zg a_1.y 63,Zi (Zd a_1.half),Zg a_1.t 63,Zj 16 (Zc linkCh a_1.links)]∧GoodArm a_1∧bif Za (wN n w).length==0 then K (AV.t [(false,[Zi (Zd false)]),(false,[Zi (Value.int Zb 14)])]) else bif decide (Za (wN n w).length>60) then K (AV.t [(false,[Zi (Zd false)]),(false,[Zi (Value.int Zb 2)])]) else (∃(x:Nat),(x≤w.length∧OfNat.ofNat 0=0)∧1=1∧wN n w=wN n w∧1=1∧shN m ws=shN m ws∧Za k=Za k∧0=0∧true=allGo (goV a ws k) w x∧Za (wN n w).length=Za w.length∧0=Za x∧34=34∧a.name=a.name∧a.x=a.x∧63≤63∧a.y=a.y∧63≤63∧a.half=a.half∧a.t=a.t∧63≤63∧16=16∧Zc linkCh a.links=Zc linkCh a.links∧True)∧∀(x:Nat),x≤w.length→OfNat.ofNat 0=0→bif decide (Za x<Za w.length) then (0≤Za x∧Za x<Za (wN n w).length)∧∃(ys:List (List Ch)),ldE (wN n w) (Za x).toNat 0 1=some [Zj 3 ys]∧((0≤bif true then if 0>Zb.wrap (Za x-1) then 0 else Zb.wrap (Za x-1) else if 0<Zb.wrap (Za x-1) then 0 else Zb.wrap (Za x-1))∧(bif true then if 0>Zb.wrap (Za x-1) then 0 else Zb.wrap (Za x-1) else if 0<Zb.wrap (Za x-1) then 0 else Zb.wrap (Za x-1))<Za (wN n w).length)∧∃(ys_1:List (List Ch)),ldE (wN n w) (bif true then if 0>Zb.wrap (Za x-1) then 0 else Zb.wrap (Za x-1) else if 0<Zb.wrap (Za x-1) then 0 else Zb.wrap (Za x-1)).toNat 0 1=some [Zj 3 ys_1]∧∃(a_4:ArmV),∃(d:Nat),∃(p:List Rat),∃(e:Nat),∃(q:List Rat),∃(m_1:Nat),∃(ws_1:List (List (Rat × Rat))),∃(n_1:Nat),[Zi (Ze a.name),Zg a.x 63,Zg a.y 63,Zi (Zd a.half),Zg a.t 63,Zj 16 (Zc linkCh a.links)]=[Zi (Ze a_4.name),Zg a_4.x 63,Zg a_4.y 63,Zi (Zd a_4.half),Zg a_4.t 63,Zj 16 (Zc linkCh a_4.links)]∧ys_1=lR d p∧ys=lR e q∧shN m ws=shN m_1 ws_1∧Za k=Za n_1∧(GoodArm a_4∧2*d+e+130≤400∧(p.length=a_4.links.length∧q.length=a_4.links.length)∧m_1≤400000000∧((∀(w:List (Rat × Rat)),w ∈ ws_1→PolyOK w)∧ws_1.length≤20)∧1≤n_1∧n_1≤50)∧bif allGo (goV a ws k) w x then ∃(x':Nat),(x'≤w.length∧OfNat.ofNat 0=0∧w.length-x'<w.length-x)∧1=1∧wN n w=wN n w∧1=1∧shN m ws=shN m ws∧Za k=Za k∧0=0∧motB a_4 (splV p q n_1) ws_1=allGo (goV a ws k) w x'∧Za w.length=Za w.length∧Zb.wrap (Za x+1)=Za x'∧34=34∧a.name=a.name∧a.x=a.x∧63≤63∧a.y=a.y∧63≤63∧a.half=a.half∧a.t=a.t∧63≤63∧16=16∧Zc linkCh a.links=Zc linkCh a.links∧True else ∃(x':Nat),(x'≤w.length∧OfNat.ofNat 0=0∧w.length-x'<w.length-x)∧1=1∧wN n w=wN n w∧1=1∧shN m ws=shN m ws∧Za k=Za k∧0=0∧false=allGo (goV a ws k) w x'∧Za w.length=Za w.length∧Zb.wrap (Za x+1)=Za x'∧34=34∧a.name=a.name∧a.x=a.x∧63≤63∧a.y=a.y∧63≤63∧a.half=a.half∧a.t=a.t∧63≤63∧16=16∧Zc linkCh a.links=Zc linkCh a.links∧True else K (AV.t [(false,[Zi (Zd (allGo (goV a ws k) w x))]),(false,[Zi (Value.int Zb 0)])])) := by kernel_rfl
theorem g_pFree (a : ArmV) (n : Nat) (w : List (List Rat)) (m : Nat) (ws : List (List (Rat × Rat))) (k : Nat) (hc : (GoodArm a) ∧ (WayOK w a.links.length ∧ 3 * n + 130 ≤ 400) ∧ (m ≤ 400000000) ∧ ((∀ w ∈ ws, PolyOK w) ∧ ws.length ≤ 20) ∧ (1 ≤ k ∧ k ≤ 50)) (K : AV → Prop) (hK : K (.t [(false, [.v (.bool (freeW (goV a ws k) w))]), (false, [.v (.int .i64 0)])])) : Holds (goal_pFree a n w m ws k K) := by
 refine ⟨?_⟩
 rw [goal_pFree_vc]
 try simp only [Zl, true_and, and_true, Nat.le_refl, true_implies]
 obtain ⟨hg, ⟨hw, hn⟩, hm, ⟨hp, hl⟩, hk⟩ := hc
 have hwn := hw.n
 have wl : ∀ n, (wN n w).length = w.length := fun n => by simp [wN]
 have hlen : ∀ i, i < w.length → (atW w i).length = a.links.length := fun i hi => hw.len _ (Zh (atW_get hi))
 simp only [wl]
 refine ⟨a, rfl, hg, bif_mk (fun h => by have := eq_of_beq h; omega) (fun _ => bif_mk (fun h => by have := of_decide_eq_true h; omega) (fun _ => ⟨⟨0, by omega, rfl, trivial, rfl⟩, fun x hx => bif_mk (fun hx' => ?_) (fun hx' => ?_)⟩))⟩
 ·have hx' : x < w.length := by have := of_decide_eq_true hx'; omega
  have e1 : (bif true then if (0 : Int) > Zb.wrap ((x : Int) - 1) then 0 else Zb.wrap ((x : Int) - 1) else if (0 : Int) < Zb.wrap ((x : Int) - 1) then 0 else Zb.wrap ((x : Int) - 1)) = ((x - 1 : Nat) : Int) := by
   rw [w64 (by omega)]
   simp only [cond_true]
   split <;> omega
  rw [e1, Zn]
  refine ⟨by omega, _, way_ld (by simpa using atW_get hx'), by omega, _, way_ld (atW_get (by omega)), a, n, atW w (x - 1), n, atW w x, m, ws, k, rfl, rfl, rfl, rfl, rfl, ⟨hg, by omega, ⟨hlen _ (by omega), hlen _ hx'⟩, hm, ⟨hp, hl⟩, hk⟩, bif_mk (fun hb => ⟨x + 1, ⟨by omega, by omega⟩, ?_, by rw [w64 (by omega)]; simp⟩) (fun hb => ⟨x + 1, ⟨by omega, by omega⟩, ?_, by rw [w64 (by omega)]; simp⟩)⟩
  ·rw [allGo_succ, hb]; rfl
  ·rw [allGo_succ, hb]; rfl
 ·have hx' : x = w.length := by have := of_decide_eq_false hx'; omega
  rw [hx']
  exact hK
def c_pFree : Ctr := fun as0 => match as0 with
 | [.x true xs, .x false [.s 1 ys], .x false [.s 1 zs], .x false [.v (.int .i64 N)]] => some fun K => ∃ (a : ArmV) (n : Nat) (w : List (List Rat)) (m : Nat) (ws : List (List (Rat × Rat))) (k : Nat), xs = armCh a ∧ ys = wN n w ∧ zs = shN m ws ∧ N = (k : Int) ∧ ((GoodArm a) ∧ (WayOK w a.links.length ∧ 3 * n + 130 ≤ 400) ∧ (m ≤ 400000000) ∧ ((∀ w ∈ ws, PolyOK w) ∧ ws.length ≤ 20) ∧ (1 ≤ k ∧ k ≤ 50)) ∧ (K (.t [(false, [.v (.bool (freeW (goV a ws k) w))]), (false, [.v (.int .i64 0)])]))
 | _ => none
theorem ok_pFree : CtrOK Tryz.prog tabG debT 17 c_pFree := by
 refine ⟨enters Tryz.func17 (by kernel_rfl), fun l T hT K hK => ?_⟩
 unfold c_pFree at hT
 split at hT
 ·cases hT
  obtain ⟨a, n, w, m, ws, k, rfl, rfl, rfl, rfl, hc, hK⟩ := hK
  exact spec_ofL T193ok mixed Tryz.func17 (by kernel_rfl) (by kernel_rfl) (by rfl) (g_pFree _ _ _ _ _ _ hc K hK)
 ·cases hT
def L194e : List (Nat × Ctr) := (17, c_pFree) :: L193
def T194e : Tabs := mkT L194e M190 X4
theorem L194eok : CtrsOK Tryz.prog tabG debT L194e := .cons ok_pFree L193ok
theorem T194eok : TabsOK Tryz.prog tabG debT T194e := mkTok L194eok M190ok X4ok
def ot_sCut : OT := fun id => bif id.beq 4 then ([0, 1, 2, 3, 4, 5, 6, 7, 8, 9, 10, 11, 12, 13, 14], [[], [], [1], [2, 1], [], [4], [5, 4], [], [], [0, 3, 2, 1, 6, 5, 4, 7, 8], [9, 0, 3, 2, 1, 6, 5, 4, 7, 8], [10, 9, 0, 3, 2, 1, 6, 5, 4, 7, 8], [10, 9, 0, 3, 2, 1, 6, 5, 4, 7, 8], [11, 10, 9, 0, 3, 2, 1, 6, 5, 4, 7, 8], [12, 10, 9, 0, 3, 2, 1, 6, 5, 4, 7, 8, 13, 11]]) else bif id.beq 13 then ([0, 1, 2, 3, 4, 5, 6, 7, 8, 9, 10, 11, 12, 13, 14, 15, 16], [[], [], [], [1, 2], [3, 1, 2], [], [], [5, 6], [7, 5, 6], [], [], [0, 4, 3, 1, 2, 8, 7, 5, 6, 9, 10], [11, 0, 4, 3, 1, 2, 8, 7, 5, 6, 9, 10], [12, 11, 0, 4, 3, 1, 2, 8, 7, 5, 6, 9, 10], [12, 11, 0, 4, 3, 1, 2, 8, 7, 5, 6, 9, 10], [13, 12, 11, 0, 4, 3, 1, 2, 8, 7, 5, 6, 9, 10], [14, 12, 11, 0, 4, 3, 1, 2, 8, 7, 5, 6, 9, 10, 15, 13]]) else ([], [])
def goal_sCut (a : ArmV) (n : Nat) (w : List (List Rat)) (m : Nat) (ws : List (List (Rat × Rat))) (k : Nat) (K : AV → Prop) : Prop := goalL T194e ot_sCut (inv_scut a n w m ws k) Tryz.f14 [armA a, sW n w, slA m ws, iA .i64 k] K
theorem goal_sCut_vc (a : ArmV) (n : Nat) (w : List (List Rat)) (m : Nat) (ws : List (List (Rat × Rat))) (k : Nat) (K : AV → Prop) : goal_sCut a n w m ws k K = (∃(a_1:ArmV),∃(n_1:Nat),∃(w_1:List (List Rat)),[Zi (Ze a.name),Zg a.x 63,Zg a.y 63,Zi (Zd a.half),Zg a.t 63,Zj 16 (Zc linkCh a.links)]=[Zi (Ze a_1.name),Zg a_1.x 63,Zg a_1.y 63,Zi (Zd a_1.half),Zg a_1.t 63,Zj 16 (Zc linkCh a_1.links)]∧wN n w=wN n_1 w_1∧(GoodArm a_1∧WayOK w_1 a_1.links.length)∧((0:Int)≤0∧0<Za (wN n w).length)∧∃(ys:List (List Ch)),ldE (wN n w) 0 0 1=some [Zj 3 ys]∧((0:Int)≤0∧0<Za (wN n w).length)∧∃(ys_1:List (List Ch)),ldE (wN n w) 0 0 1=some [Zj 3 ys_1]∧∃(a_2:ArmV),∃(d:Nat),∃(p:List Rat),∃(e:Nat),∃(q:List Rat),∃(m_1:Nat),∃(ws_1:List (List (Rat × Rat))),∃(n_2:Nat),[Zi (Ze a.name),Zg a.x 63,Zg a.y 63,Zi (Zd a.half),Zg a.t 63,Zj 16 (Zc linkCh a.links)]=[Zi (Ze a_2.name),Zg a_2.x 63,Zg a_2.y 63,Zi (Zd a_2.half),Zg a_2.t 63,Zj 16 (Zc linkCh a_2.links)]∧ys=lR d p∧ys_1=lR e q∧shN m ws=shN m_1 ws_1∧Za k=Za n_2∧(GoodArm a_2∧2*d+e+130≤400∧(p.length=a_2.links.length∧q.length=a_2.links.length)∧m_1≤400000000∧((∀(w:List (Rat × Rat)),w ∈ ws_1→PolyOK w)∧ws_1.length≤20)∧1≤n_2∧n_2≤50)∧((0:Int)≤0∧0<Za (wN n w).length)∧∃(ys:List (List Ch)),ldE (wN n w) 0 0 1=some [Zj 3 ys]∧∃(n_3:Nat),∃(qs:List Rat),ys=lR n_3 qs∧(n_3≤1000000∧qs.length≤1000000)∧(∃(x:CuX),(CuI (goV a ws k) w x∧OfNat.ofNat 0=0)∧1=1∧wN n w=wN n w∧1=1∧shN m ws=shN m ws∧Za k=Za k∧0=0∧0=0∧1=x.o.length∧0=Za x.i∧34=34∧a.name=a.name∧a.x=a.x∧63≤63∧a.y=a.y∧63≤63∧a.half=a.half∧a.t=a.t∧63≤63∧16=16∧Zc linkCh a.links=Zc linkCh a.links∧44=44∧1=1∧([[Zj 3 (lR n_3 qs)]]=wN n x.o∨RowLE [[Zj 3 (lR n_3 qs)]] (wN n x.o))∧True)∧∀(x:CuX),CuI (goV a ws k) w x→OfNat.ofNat 0=0→bif decide (Za x.i<Zb.wrap (Za (wN n w).length-1)) then ((∃(x_1:CuX),(CuJ (goV a ws k) w x_1∧w.length-x_1.i=w.length-x.i)∧1=1∧wN n w=wN n w∧1=1∧shN m ws=shN m ws∧Za k=Za k∧0=0∧0=0∧x.o.length=x_1.o.length∧Za x.i=Za x_1.i∧Zb.wrap (Za (wN n w).length-1)=Za x_1.k∧34=34∧a.name=a.name∧a.x=a.x∧63≤63∧a.y=a.y∧63≤63∧a.half=a.half∧a.t=a.t∧63≤63∧16=16∧Zc linkCh a.links=Zc linkCh a.links∧44=44∧1=1∧(wN n x.o=wN n x_1.o∨RowLE (wN n x.o) (wN n x_1.o))∧True)∧∀(x_1:CuX),CuJ (goV a ws k) w x_1→w.length-x_1.i=w.length-x.i→bif decide (Za x_1.k>Zb.wrap (Za x_1.i+1)) then (0≤Za x_1.i∧Za x_1.i<Za (wN n w).length)∧∃(ys:List (List Ch)),ldE (wN n w) (Za x_1.i).toNat 0 1=some [Zj 3 ys]∧(0≤Za x_1.k∧Za x_1.k<Za (wN n w).length)∧∃(ys_2:List (List Ch)),ldE (wN n w) (Za x_1.k).toNat 0 1=some [Zj 3 ys_2]∧∃(a_7:ArmV),∃(d:Nat),∃(p:List Rat),∃(e:Nat),∃(q:List Rat),∃(m_2:Nat),∃(ws_2:List (List (Rat × Rat))),∃(n_4:Nat),[Zi (Ze a.name),Zg a.x 63,Zg a.y 63,Zi (Zd a.half),Zg a.t 63,Zj 16 (Zc linkCh a.links)]=[Zi (Ze a_7.name),Zg a_7.x 63,Zg a_7.y 63,Zi (Zd a_7.half),Zg a_7.t 63,Zj 16 (Zc linkCh a_7.links)]∧ys=lR d p∧ys_2=lR e q∧shN m ws=shN m_2 ws_2∧Za k=Za n_4∧(GoodArm a_7∧2*d+e+130≤400∧(p.length=a_7.links.length∧q.length=a_7.links.length)∧m_2≤400000000∧((∀(w:List (Rat × Rat)),w ∈ ws_2→PolyOK w)∧ws_2.length≤20)∧1≤n_4∧n_4≤50)∧bif motB a_7 (splV p q n_4) ws_2 then ∃(x_2:CuX),(CuE (goV a ws k) w x_2∧w.length-x_2.i=w.length-x.i)∧1=1∧wN n w=wN n w∧1=1∧shN m ws=shN m ws∧Za k=Za k∧0=0∧0=0∧x_1.o.length=x_2.o.length∧Za x_1.i=Za x_2.i∧Za x_1.k=Za x_2.k∧34=34∧a.name=a.name∧a.x=a.x∧63≤63∧a.y=a.y∧63≤63∧a.half=a.half∧a.t=a.t∧63≤63∧16=16∧Zc linkCh a.links=Zc linkCh a.links∧44=44∧1=1∧(wN n x_1.o=wN n x_2.o∨RowLE (wN n x_1.o) (wN n x_2.o))∧True else ∃(x':CuX),(CuJ (goV a ws k) w x'∧w.length-x'.i=w.length-x.i∧x'.k<x_1.k)∧1=1∧wN n w=wN n w∧1=1∧shN m ws=shN m ws∧Za k=Za k∧0=0∧0=0∧x_1.o.length=x'.o.length∧Za x_1.i=Za x'.i∧Zb.wrap (Za x_1.k-1)=Za x'.k∧34=34∧a.name=a.name∧a.x=a.x∧63≤63∧a.y=a.y∧63≤63∧a.half=a.half∧a.t=a.t∧63≤63∧16=16∧Zc linkCh a.links=Zc linkCh a.links∧44=44∧1=1∧(wN n x_1.o=wN n x'.o∨RowLE (wN n x_1.o) (wN n x'.o))∧True else ∃(x_2:CuX),(CuE (goV a ws k) w x_2∧w.length-x_2.i=w.length-x.i)∧1=1∧wN n w=wN n w∧1=1∧shN m ws=shN m ws∧Za k=Za k∧0=0∧0=0∧x_1.o.length=x_2.o.length∧Za x_1.i=Za x_2.i∧Za x_1.k=Za x_2.k∧34=34∧a.name=a.name∧a.x=a.x∧63≤63∧a.y=a.y∧63≤63∧a.half=a.half∧a.t=a.t∧63≤63∧16=16∧Zc linkCh a.links=Zc linkCh a.links∧44=44∧1=1∧(wN n x_1.o=wN n x_2.o∨RowLE (wN n x_1.o) (wN n x_2.o))∧True)∧∀(x_1:CuX),CuE (goV a ws k) w x_1→w.length-x_1.i=w.length-x.i→(0≤Za x_1.k∧Za x_1.k<Za (wN n w).length)∧∃(ys:List (List Ch)),ldE (wN n w) (Za x_1.k).toNat 0 1=some [Zj 3 ys]∧∃(n_4:Nat),∃(qs:List Rat),ys=lR n_4 qs∧(n_4≤1000000∧qs.length≤1000000)∧((x_1.o.length+1)*24≤140737488355328∧x_1.o.length+1≤9223372036854775807)∧∃(x':CuX),(CuI (goV a ws k) w x'∧OfNat.ofNat 0=0∧w.length-x'.i<w.length-x.i)∧1=1∧wN n w=wN n w∧1=1∧shN m ws=shN m ws∧Za k=Za k∧0=0∧0=0∧x_1.o.length+1=x'.o.length∧Za x_1.k=Za x'.i∧34=34∧a.name=a.name∧a.x=a.x∧63≤63∧a.y=a.y∧63≤63∧a.half=a.half∧a.t=a.t∧63≤63∧16=16∧Zc linkCh a.links=Zc linkCh a.links∧44=44∧1=1∧(List.take x_1.o.length (wN n x_1.o)++[[Zj 3 (lR n_4 qs)]]=wN n x'.o∨RowLE (List.take x_1.o.length (wN n x_1.o)++[[Zj 3 (lR n_4 qs)]]) (wN n x'.o))∧True else K (AV.t [(false,[Zj 1 (List.take x.o.length (List.drop 0 (wN n x.o)))]),(false,[Zi (Value.int Zb 0)])])) := by kernel_rfl
theorem g_sCut (a : ArmV) (n : Nat) (w : List (List Rat)) (m : Nat) (ws : List (List (Rat × Rat))) (k : Nat) (hc : (GoodArm a) ∧ (WayOK w a.links.length ∧ 3 * n + 130 ≤ 400) ∧ (m ≤ 400000000) ∧ ((∀ w ∈ ws, PolyOK w) ∧ ws.length ≤ 20) ∧ (1 ≤ k ∧ k ≤ 50)) (K : AV → Prop) (hK : K (.t [(false, [.s 1 (wN n (cutW (goV a ws k) w))]), (false, [.v (.int .i64 0)])])) : Holds (goal_sCut a n w m ws k K) := by
 refine ⟨?_⟩
 rw [goal_sCut_vc]
 try simp only [Zl, true_and, and_true, Nat.le_refl, true_implies]
 obtain ⟨hg, ⟨hw, hn⟩, hm, ⟨hp, hl⟩, hk⟩ := hc
 have hwn := hw.n
 have hgn := hg.n
 have wl : ∀ n, (wN n w).length = w.length := fun n => by simp [wN]
 have hlen : ∀ i, i < w.length → (atW w i).length = a.links.length := fun i hi => hw.len _ (Zh (atW_get hi))
 have hle : ∀ i, i < w.length → (atW w i).length ≤ 1000000 := fun i hi => by rw [hlen i hi]; omega
 have w0 := atW_get (w := w) (show 0 < w.length by omega)
 have l0 := hlen 0 (by omega)
 have e1 : Zb.wrap ((w.length : Int) - 1) = ((w.length - 1 : Nat) : Int) := by rw [w64 (by omega)]; omega
 rw [cutW_eq hwn.1] at hK
 simp only [wl, e1]
 refine ⟨a, n, w, rfl, rfl, ⟨hg, hw⟩, by omega, _, way_ld w0, by omega, _, way_ld w0, a, n, atW w 0, n, atW w 0, m, ws, k, rfl, rfl, rfl, rfl, rfl, ⟨hg, by omega, ⟨l0, l0⟩, hm, ⟨hp, hl⟩, hk⟩, by omega, _, way_ld w0, n, atW w 0, rfl, ⟨by omega, by omega⟩, ⟨⟨[atW w 0], w.length, 0, 0⟩, ⟨by simp only; omega, by simp only; omega, by simp, rfl⟩, rfl, rfl, .inl rfl⟩, fun x hx => bif_mk (fun hx' => ?_) (fun hx' => ?_)⟩
 ·have hi : x.i + 1 < w.length := by have := of_decide_eq_true hx'; omega
  refine ⟨⟨⟨⟨x.o, x.f, x.i, w.length - 1⟩, ⟨⟨⟨hx.i, hx.f, hx.o, hx.eq⟩, hi, by simp only; omega, rfl⟩, rfl⟩, rfl, rfl, rfl, .inl rfl⟩, fun y hy hyt => ?_⟩, fun y hy hyt => ?_⟩
  ·have yi := hy.i
   have yk := hy.k
   have yo := hy.all.o
   have ew : Zb.wrap ((y.i : Int) + 1) = (y.i : Int) + 1 := w64 (by omega)
   refine bif_mk (fun hj => ?_) (fun hj => ?_)
   ·have hj : y.i + 1 < y.k := by have := of_decide_eq_true hj; rw [ew] at this; omega
    refine ⟨by omega, _, way_ld (by simpa using atW_get (by omega)), by omega, _, way_ld (by simpa using atW_get yk.2), a, n, atW w y.i, n, atW w y.k, m, ws, k, rfl, rfl, rfl, rfl, rfl, ⟨hg, by omega, ⟨hlen _ (by omega), hlen _ yk.2⟩, hm, ⟨hp, hl⟩, hk⟩, bif_mk (fun hb => ⟨⟨y.o, y.f, y.i, y.k⟩, ⟨⟨⟨hy.all.i, hy.all.f, hy.all.o, hy.all.eq⟩, hy.i, ?_⟩, hyt⟩, rfl, rfl, rfl, .inl rfl⟩) (fun hb => ⟨⟨y.o, y.f, y.i, y.k - 1⟩, ⟨⟨⟨hy.all.i, hy.all.f, hy.all.o, hy.all.eq⟩, hy.i, by simp only; omega, ?_⟩, hyt, by simp only; omega⟩, rfl, rfl, by rw [w64 (by omega)]; simp only; omega, .inl rfl⟩)⟩
    ·simp only
     rw [← hy.eq, cutK_yes hj hb]
    ·simp only
     rw [← cutK_no hj hb, hy.eq]
   ·have hj : y.k = y.i + 1 := by have := of_decide_eq_false hj; rw [ew] at this; omega
    refine ⟨⟨y.o, y.f, y.i, y.k⟩, ⟨⟨⟨hy.all.i, hy.all.f, hy.all.o, hy.all.eq⟩, hy.i, ?_⟩, hyt⟩, rfl, rfl, rfl, .inl rfl⟩
    simp only
    rw [← hy.eq, hj, cutK_end (Nat.le_refl _)]
  ·have yi := hy.i
   have yf := hy.all.f
   have yo := hy.all.o
   have ye := hy.all.eq
   obtain ⟨⟨k1, k2⟩, _⟩ := cutK_ok (goV a ws k) w y.i (w.length - 1) (by omega) yi
   rw [← hy.k] at k1 k2
   rw [cutI_step yi (by omega), ← hy.k] at ye
   refine ⟨by omega, _, way_ld (by simpa using atW_get k2), n, atW w y.k, rfl, ⟨by omega, hle _ k2⟩, ⟨by omega, by omega⟩, ⟨y.o ++ [atW w y.k], y.f - 1, y.k, 0⟩, ⟨⟨k2, by simp only; omega, by simp only [List.length_append, List.length_singleton]; omega, ?_⟩, by simp only; omega⟩, by simp, rfl, .inl (wN_snoc _ _ _)⟩
   simp only
   rw [List.append_assoc]
   exact ye
 ·have hi : ¬ x.i + 1 < w.length := by have := of_decide_eq_false hx'; omega
  have xe := hx.eq
  rw [cutI_end hi, List.map_nil, List.append_nil] at xe
  rw [List.drop_zero, List.take_of_length_le (by simp [wN]), xe]
  exact hK
def c_sCut : Ctr := fun as0 => match as0 with
 | [.x true xs, .x false [.s 1 ys], .x false [.s 1 zs], .x false [.v (.int .i64 N)]] => some fun K => ∃ (a : ArmV) (n : Nat) (w : List (List Rat)) (m : Nat) (ws : List (List (Rat × Rat))) (k : Nat), xs = armCh a ∧ ys = wN n w ∧ zs = shN m ws ∧ N = (k : Int) ∧ ((GoodArm a) ∧ (WayOK w a.links.length ∧ 3 * n + 130 ≤ 400) ∧ (m ≤ 400000000) ∧ ((∀ w ∈ ws, PolyOK w) ∧ ws.length ≤ 20) ∧ (1 ≤ k ∧ k ≤ 50)) ∧ (K (.t [(false, [.s 1 (wN n (cutW (goV a ws k) w))]), (false, [.v (.int .i64 0)])]))
 | _ => none
theorem ok_sCut : CtrOK Tryz.prog tabG debT 14 c_sCut := by
 refine ⟨enters Tryz.func14 (by kernel_rfl), fun l T hT K hK => ?_⟩
 unfold c_sCut at hT
 split at hT
 ·cases hT
  obtain ⟨a, n, w, m, ws, k, rfl, rfl, rfl, rfl, hc, hK⟩ := hK
  exact spec_ofL T194eok mixed Tryz.func14 (by kernel_rfl) (by kernel_rfl) (by rfl) (g_sCut _ _ _ _ _ _ hc K hK)
 ·cases hT
def L195e : List (Nat × Ctr) := (14, c_sCut) :: L194e
def T195e : Tabs := mkT L195e M190 X4
theorem L195eok : CtrsOK Tryz.prog tabG debT L195e := .cons ok_sCut L194eok
theorem T195eok : TabsOK Tryz.prog tabG debT T195e := mkTok L195eok M190ok X4ok
structure SfX where
 a : ArmV
 w : List (List Rat)
 i : Nat
 j : Nat
def sfY (wl : List Int) (x : SfX) : List (List Rat) := cutW (goV x.a (wallsV wl) 2) x.w
def sfK (wl : List Int) (x : SfX) : List Nat := 0 :: cutI (goV x.a (wallsV wl) 2) x.w x.w.length 0
structure SfI (wl : List Int) (x : SfX) : Prop where
 good : GoodArm x.a
 way : WayOK x.w x.a.links.length
 j : x.j ≤ (sfY wl x).length
 i : x.i < x.w.length
 le : ∀ b, (sfK wl x)[x.j]? = some b → x.i ≤ b
structure SfJ (wl : List Int) (x : SfX) : Prop where
 all : SfI wl x
 j : x.j < (sfY wl x).length
def sfT (wl : List Int) (x : SfX) : List (Nat × AV) := [(2, inS wl), (7, .x false [.p 7 0]), (8, sW 63 x.w), (9, sW 63 (sfY wl x)), (11, iA .i64 x.i), (81, sW 63 (sfY wl x)), (82, iA .i64 (sfY wl x).length), (83, iA .i64 x.j)]
def inv_sfree (wl : List Int) : LI := fun id => bif id.beq 10 then .inv ⟨SfX, fun x => ⟨sfT wl x, [(7, .box 34 (armCh x.a))]⟩, SfI wl, fun x => (sfY wl x).length - x.j, fun _ => 0⟩
 else .inv ⟨SfX, fun x => ⟨sfT wl x ++ [(13, sR 63 (atW (sfY wl x) x.j))], [(7, .box 34 (armCh x.a))]⟩, SfJ wl, fun x => x.w.length - x.i, fun x => (sfY wl x).length - x.j⟩
def ot_sfree : OT := fun id => bif id.beq 5 then ([0, 1, 2, 3, 4, 5, 6, 7, 8, 9], [[], [], [], [2], [0, 1, 3, 2], [4, 0, 1, 3, 2], [5, 4, 0, 1, 3, 2], [5, 4, 0, 1, 3, 2], [6, 5, 4, 0, 1, 3, 2], [7, 5, 4, 0, 1, 3, 2, 8, 6]]) else bif id.beq 6 then ([0, 1, 2, 3, 4, 5, 6, 7, 8, 9, 10, 11, 12, 13, 14, 15, 16, 17, 18, 19, 20, 21, 22, 23, 24, 25, 26, 27, 28, 29, 30, 31, 32, 33, 34, 35, 36, 37, 38, 39], [[], [0], [1, 0], [2, 1, 0], [3, 2, 1, 0], [4, 3, 2, 1, 0], [2, 1, 0, 5, 4, 3], [6, 2, 1, 0, 5, 4, 3], [7, 6, 2, 1, 0, 5, 4, 3], [8, 7, 6, 2, 1, 0, 5, 4, 3], [7, 6, 2, 1, 0, 5, 4, 3], [10, 7, 6, 2, 1, 0, 5, 4, 3], [9, 8, 7, 6, 2, 1, 0, 5, 4, 3, 11, 10], [7, 6, 2, 1, 0, 5, 4, 3, 12, 9, 8, 11, 10], [13, 7, 6, 2, 1, 0, 5, 4, 3, 12, 9, 8, 11, 10], [14, 13, 7, 6, 2, 1, 0, 5, 4, 3, 12, 9, 8, 11, 10], [15, 14, 13, 7, 6, 2, 1, 0, 5, 4, 3, 12, 9, 8, 11, 10], [16, 15, 14, 13, 7, 6, 2, 1, 0, 5, 4, 3, 12, 9, 8, 11, 10], [14, 13, 7, 6, 2, 1, 0, 5, 4, 3, 12, 9, 8, 11, 10], [18, 14, 13, 7, 6, 2, 1, 0, 5, 4, 3, 12, 9, 8, 11, 10], [19, 18, 14, 13, 7, 6, 2, 1, 0, 5, 4, 3, 12, 9, 8, 11, 10], [17, 16, 15, 14, 13, 7, 6, 2, 1, 0, 5, 4, 3, 12, 9, 8, 11, 10, 20, 19, 18], [21, 17, 16, 15, 14, 13, 7, 6, 2, 1, 0, 5, 4, 3, 12, 9, 8, 11, 10, 20, 19, 18], [14, 13, 7, 6, 2, 1, 0, 5, 4, 3, 12, 9, 8, 11, 10, 22, 21, 17, 16, 15, 20, 19, 18], [23, 14, 13, 7, 6, 2, 1, 0, 5, 4, 3, 12, 9, 8, 11, 10, 22, 21, 17, 16, 15, 20, 19, 18], [24, 23, 14, 13, 7, 6, 2, 1, 0, 5, 4, 3, 12, 9, 8, 11, 10, 22, 21, 17, 16, 15, 20, 19, 18], [24, 23, 14, 13, 7, 6, 2, 1, 0, 5, 4, 3, 12, 9, 8, 11, 10, 22, 21, 17, 16, 15, 20, 19, 18], [26, 24, 23, 14, 13, 7, 6, 2, 1, 0, 5, 4, 3, 12, 9, 8, 11, 10, 22, 21, 17, 16, 15, 20, 19, 18], [27, 26, 24, 23, 14, 13, 7, 6, 2, 1, 0, 5, 4, 3, 12, 9, 8, 11, 10, 22, 21, 17, 16, 15, 20, 19, 18], [25, 24, 23, 14, 13, 7, 6, 2, 1, 0, 5, 4, 3, 12, 9, 8, 11, 10, 22, 21, 17, 16, 15, 20, 19, 18, 28, 27, 26], [29, 25, 24, 23, 14, 13, 7, 6, 2, 1, 0, 5, 4, 3, 12, 9, 8, 11, 10, 22, 21, 17, 16, 15, 20, 19, 18, 28, 27, 26], [24, 23, 14, 13, 7, 6, 2, 1, 0, 5, 4, 3, 12, 9, 8, 11, 10, 22, 21, 17, 16, 15, 20, 19, 18], [24, 23, 14, 13, 7, 6, 2, 1, 0, 5, 4, 3, 12, 9, 8, 11, 10, 22, 21, 17, 16, 15, 20, 19, 18], [32, 24, 23, 14, 13, 7, 6, 2, 1, 0, 5, 4, 3, 12, 9, 8, 11, 10, 22, 21, 17, 16, 15, 20, 19, 18], [33, 32, 24, 23, 14, 13, 7, 6, 2, 1, 0, 5, 4, 3, 12, 9, 8, 11, 10, 22, 21, 17, 16, 15, 20, 19, 18], [31, 24, 23, 14, 13, 7, 6, 2, 1, 0, 5, 4, 3, 12, 9, 8, 11, 10, 22, 21, 17, 16, 15, 20, 19, 18, 34, 33, 32], [35, 31, 24, 23, 14, 13, 7, 6, 2, 1, 0, 5, 4, 3, 12, 9, 8, 11, 10, 22, 21, 17, 16, 15, 20, 19, 18, 34, 33, 32], [30, 29, 25, 24, 23, 14, 13, 7, 6, 2, 1, 0, 5, 4, 3, 12, 9, 8, 11, 10, 22, 21, 17, 16, 15, 20, 19, 18, 28, 27, 26, 36, 35, 31, 34, 33, 32], [37, 30, 29, 25, 24, 23, 14, 13, 7, 6, 2, 1, 0, 5, 4, 3, 12, 9, 8, 11, 10, 22, 21, 17, 16, 15, 20, 19, 18, 28, 27, 26, 36, 35, 31, 34, 33, 32], [24, 23, 14, 13, 7, 6, 2, 1, 0, 5, 4, 3, 12, 9, 8, 11, 10, 22, 21, 17, 16, 15, 20, 19, 18, 38, 37, 30, 29, 25, 28, 27, 26, 36, 35, 31, 34, 33, 32]]) else bif id.beq 17 then ([0, 1, 2, 3, 4, 5, 6, 7, 8, 9], [[], [], [], [2], [0, 1, 3, 2], [4, 0, 1, 3, 2], [5, 4, 0, 1, 3, 2], [5, 4, 0, 1, 3, 2], [6, 5, 4, 0, 1, 3, 2], [7, 5, 4, 0, 1, 3, 2, 8, 6]]) else bif id.beq 18 then ([0, 1, 2, 3, 4, 5, 6, 7, 8, 9], [[], [], [], [2], [0, 1, 3, 2], [4, 0, 1, 3, 2], [5, 4, 0, 1, 3, 2], [5, 4, 0, 1, 3, 2], [6, 5, 4, 0, 1, 3, 2], [7, 5, 4, 0, 1, 3, 2, 8, 6]]) else ([], [])
def goal_sfree (l m k : List Int) (K : AV → Prop) : Prop := goalL T195e ot_sfree (inv_sfree k) Tryz.f3 [inS l, inS m, inS k] K
theorem goal_sfree_vc (l : List Int) (m : List Int) (k : List Int) (K : AV → Prop) : goal_sfree l m k K = (True∧True∧∃(l_1:List Int),ints l=ints l_1∧l_1.length≤9223372036854775807∧∀(a:ArmV),Made a∧1≤a.links.length→∃(a_2:ArmV),∃(l:List Int),[Zi (Ze a.name),Zg a.x 63,Zg a.y 63,Zi (Zd a.half),Zg a.t 63,Zj 16 (Zc linkCh a.links)]=[Zi (Ze a_2.name),Zg a_2.x 63,Zg a_2.y 63,Zi (Zd a_2.half),Zg a_2.t 63,Zj 16 (Zc linkCh a_2.links)]∧ints m=ints l∧(GoodArm a_2∧l.length≤9223372036854775807)∧∀(w:List (List Rat)),1≤w.length→w.length≤5→(∀(q:List Rat),q ∈ w→q.length=a_2.links.length)→∃(l:List Int),ints k=ints l∧l.length≤9223372036854775807∧∃(a_6:ArmV),∃(n:Nat),∃(w_1:List (List Rat)),∃(m:Nat),∃(ws:List (List (Rat × Rat))),∃(k_1:Nat),[Zi (Ze a.name),Zg a.x 63,Zg a.y 63,Zi (Zd a.half),Zg a.t 63,Zj 16 (Zc linkCh a.links)]=[Zi (Ze a_6.name),Zg a_6.x 63,Zg a_6.y 63,Zi (Zd a_6.half),Zg a_6.t 63,Zj 16 (Zc linkCh a_6.links)]∧wN 63 w=wN n w_1∧shN 127 (wallsV l)=shN m ws∧2=Za k_1∧(GoodArm a_6∧(WayOK w_1 a_6.links.length∧3*n+130≤400)∧m≤400000000∧((∀(w:List (Rat × Rat)),w ∈ ws→PolyOK w)∧ws.length≤20)∧1≤k_1∧k_1≤50)∧bif Za (wN n (cutW (goV a_6 ws k_1) w_1)).length==0 then K (AV.x false [Zi (Zd false)]) else bif decide (Za (wN n (cutW (goV a_6 ws k_1) w_1)).length>Za (wN 63 w).length) then K (AV.x false [Zi (Zd false)]) else ((0:Int)≤0∧0<Za (wN n (cutW (goV a_6 ws k_1) w_1)).length)∧∃(ys:List (List Ch)),ldE (wN n (cutW (goV a_6 ws k_1) w_1)) 0 0 1=some [Zj 3 ys]∧((0:Int)≤0∧0<Za (wN 63 w).length)∧∃(ys_1:List (List Ch)),ldE (wN 63 w) 0 0 1=some [Zj 3 ys_1]∧∃(a_7:Nat),∃(ps:List Rat),∃(b:Nat),∃(qs:List Rat),ys=lR a_7 ps∧ys_1=lR b qs∧(ps.length≤1000000000∧qs.length≤1000000000)∧bif !decide (ps=qs) then K (AV.x false [Zi (Zd false)]) else (0≤Zb.wrap (Za (wN n (cutW (goV a_6 ws k_1) w_1)).length-1)∧Zb.wrap (Za (wN n (cutW (goV a_6 ws k_1) w_1)).length-1)<Za (wN n (cutW (goV a_6 ws k_1) w_1)).length)∧∃(ys:List (List Ch)),ldE (wN n (cutW (goV a_6 ws k_1) w_1)) (Zb.wrap (Za (wN n (cutW (goV a_6 ws k_1) w_1)).length-1)).toNat 0 1=some [Zj 3 ys]∧(0≤Zb.wrap (Za (wN 63 w).length-1)∧Zb.wrap (Za (wN 63 w).length-1)<Za (wN 63 w).length)∧∃(ys_2:List (List Ch)),ldE (wN 63 w) (Zb.wrap (Za (wN 63 w).length-1)).toNat 0 1=some [Zj 3 ys_2]∧∃(a_8:Nat),∃(ps:List Rat),∃(b:Nat),∃(qs:List Rat),ys=lR a_8 ps∧ys_2=lR b qs∧(ps.length≤1000000000∧qs.length≤1000000000)∧bif !decide (ps=qs) then K (AV.x false [Zi (Zd false)]) else (∃(x:SfX),(SfI k x∧OfNat.ofNat 0=0)∧1=1∧ints k=ints k∧0=0∧1=1∧wN 63 w=wN 63 x.w∧1=1∧wN n (cutW (goV a_6 ws k_1) w_1)=wN 63 (sfY k x)∧0=Za x.i∧1=1∧wN n (cutW (goV a_6 ws k_1) w_1)=wN 63 (sfY k x)∧Za (wN n (cutW (goV a_6 ws k_1) w_1)).length=Za (sfY k x).length∧0=Za x.j∧34=34∧a.name=x.a.name∧a.x=x.a.x∧63≤63∧a.y=x.a.y∧63≤63∧a.half=x.a.half∧a.t=x.a.t∧63≤63∧16=16∧Zc linkCh a.links=Zc linkCh x.a.links∧True)∧∀(x:SfX),SfI k x→OfNat.ofNat 0=0→bif decide (Za x.j<Za (sfY k x).length) then (0≤Za x.j∧Za x.j<Za (wN 63 (sfY k x)).length)∧∃(ys:List (List Ch)),ldE (wN 63 (sfY k x)) (Za x.j).toNat 0 1=some [Zj 3 ys]∧(∃(x_1:SfX),(SfJ k x_1∧(sfY k x_1).length-x_1.j=(sfY k x).length-x.j)∧1=1∧ints k=ints k∧0=0∧1=1∧wN 63 x.w=wN 63 x_1.w∧1=1∧wN 63 (sfY k x)=wN 63 (sfY k x_1)∧Za x.i=Za x_1.i∧1=1∧wN 63 (sfY k x)=wN 63 (sfY k x_1)∧Za (sfY k x).length=Za (sfY k x_1).length∧Za x.j=Za x_1.j∧3=3∧ys=lR 63 (atW (sfY k x_1) x_1.j)∧34=34∧x.a.name=x_1.a.name∧x.a.x=x_1.a.x∧63≤63∧x.a.y=x_1.a.y∧63≤63∧x.a.half=x_1.a.half∧x.a.t=x_1.a.t∧63≤63∧16=16∧Zc linkCh x.a.links=Zc linkCh x_1.a.links∧True)∧∀(x_1:SfX),SfJ k x_1→(sfY k x_1).length-x_1.j=(sfY k x).length-x.j→bif decide (Za x_1.i<Za (wN 63 x_1.w).length) then (0≤Za x_1.i∧Za x_1.i<Za (wN 63 x_1.w).length)∧∃(ys:List (List Ch)),ldE (wN 63 x_1.w) (Za x_1.i).toNat 0 1=some [Zj 3 ys]∧∃(a:Nat),∃(ps:List Rat),∃(b:Nat),∃(qs:List Rat),ys=lR a ps∧lR 63 (atW (sfY k x_1) x_1.j)=lR b qs∧(ps.length≤1000000000∧qs.length≤1000000000)∧bif !decide (ps=qs) then ∃(x':SfX),(SfJ k x'∧(sfY k x').length-x'.j=(sfY k x).length-x.j∧x'.w.length-x'.i<x_1.w.length-x_1.i)∧1=1∧ints k=ints k∧0=0∧1=1∧wN 63 x_1.w=wN 63 x'.w∧1=1∧wN 63 (sfY k x_1)=wN 63 (sfY k x')∧Zb.wrap (Za x_1.i+1)=Za x'.i∧1=1∧wN 63 (sfY k x_1)=wN 63 (sfY k x')∧Za (sfY k x_1).length=Za (sfY k x').length∧Za x_1.j=Za x'.j∧3=3∧lR 63 (atW (sfY k x_1) x_1.j)=lR 63 (atW (sfY k x') x'.j)∧34=34∧x_1.a.name=x'.a.name∧x_1.a.x=x'.a.x∧63≤63∧x_1.a.y=x'.a.y∧63≤63∧x_1.a.half=x'.a.half∧x_1.a.t=x'.a.t∧63≤63∧16=16∧Zc linkCh x_1.a.links=Zc linkCh x'.a.links∧True else bif Za x_1.i==Za (wN 63 x_1.w).length then K (AV.x false [Zi (Zd false)]) else ∃(x':SfX),(SfI k x'∧OfNat.ofNat 0=0∧(sfY k x').length-x'.j<(sfY k x).length-x.j)∧1=1∧ints k=ints k∧0=0∧1=1∧wN 63 x_1.w=wN 63 x'.w∧1=1∧wN 63 (sfY k x_1)=wN 63 (sfY k x')∧Za x_1.i=Za x'.i∧1=1∧wN 63 (sfY k x_1)=wN 63 (sfY k x')∧Za (sfY k x_1).length=Za (sfY k x').length∧Zb.wrap (Za x_1.j+1)=Za x'.j∧34=34∧x_1.a.name=x'.a.name∧x_1.a.x=x'.a.x∧63≤63∧x_1.a.y=x'.a.y∧63≤63∧x_1.a.half=x'.a.half∧x_1.a.t=x'.a.t∧63≤63∧16=16∧Zc linkCh x_1.a.links=Zc linkCh x'.a.links∧True else bif Za x_1.i==Za (wN 63 x_1.w).length then K (AV.x false [Zi (Zd false)]) else ∃(x':SfX),(SfI k x'∧OfNat.ofNat 0=0∧(sfY k x').length-x'.j<(sfY k x).length-x.j)∧1=1∧ints k=ints k∧0=0∧1=1∧wN 63 x_1.w=wN 63 x'.w∧1=1∧wN 63 (sfY k x_1)=wN 63 (sfY k x')∧Za x_1.i=Za x'.i∧1=1∧wN 63 (sfY k x_1)=wN 63 (sfY k x')∧Za (sfY k x_1).length=Za (sfY k x').length∧Zb.wrap (Za x_1.j+1)=Za x'.j∧34=34∧x_1.a.name=x'.a.name∧x_1.a.x=x'.a.x∧63≤63∧x_1.a.y=x'.a.y∧63≤63∧x_1.a.half=x'.a.half∧x_1.a.t=x'.a.t∧63≤63∧16=16∧Zc linkCh x_1.a.links=Zc linkCh x'.a.links∧True else ∃(l:List Int),ints k=ints l∧l.length≤9223372036854775807∧∃(a:ArmV),∃(n:Nat),∃(w:List (List Rat)),∃(m:Nat),∃(ws:List (List (Rat × Rat))),∃(k_2:Nat),[Zi (Ze x.a.name),Zg x.a.x 63,Zg x.a.y 63,Zi (Zd x.a.half),Zg x.a.t 63,Zj 16 (Zc linkCh x.a.links)]=[Zi (Ze a.name),Zg a.x 63,Zg a.y 63,Zi (Zd a.half),Zg a.t 63,Zj 16 (Zc linkCh a.links)]∧wN 63 x.w=wN n w∧shN 127 (wallsV l)=shN m ws∧2=Za k_2∧(GoodArm a∧(WayOK w a.links.length∧3*n+130≤400)∧m≤400000000∧((∀(w:List (Rat × Rat)),w ∈ ws→PolyOK w)∧ws.length≤20)∧1≤k_2∧k_2≤50)∧∃(l:List Int),ints k=ints l∧l.length≤9223372036854775807∧∃(a_9:ArmV),∃(n:Nat),∃(w_2:List (List Rat)),∃(m:Nat),∃(ws_1:List (List (Rat × Rat))),∃(k_3:Nat),[Zi (Ze x.a.name),Zg x.a.x 63,Zg x.a.y 63,Zi (Zd x.a.half),Zg x.a.t 63,Zj 16 (Zc linkCh x.a.links)]=[Zi (Ze a_9.name),Zg a_9.x 63,Zg a_9.y 63,Zi (Zd a_9.half),Zg a_9.t 63,Zj 16 (Zc linkCh a_9.links)]∧wN 63 (sfY k x)=wN n w_2∧shN 127 (wallsV l)=shN m ws_1∧2=Za k_3∧(GoodArm a_9∧(WayOK w_2 a_9.links.length∧3*n+130≤400)∧m≤400000000∧((∀(w:List (Rat × Rat)),w ∈ ws_1→PolyOK w)∧ws_1.length≤20)∧1≤k_3∧k_3≤50)∧∃(a_10:ArmV),∃(n:Nat),∃(w_3:List (List Rat)),[Zi (Ze x.a.name),Zg x.a.x 63,Zg x.a.y 63,Zi (Zd x.a.half),Zg x.a.t 63,Zj 16 (Zc linkCh x.a.links)]=[Zi (Ze a_10.name),Zg a_10.x 63,Zg a_10.y 63,Zi (Zd a_10.half),Zg a_10.t 63,Zj 16 (Zc linkCh a_10.links)]∧wN 63 x.w=wN n w_3∧(GoodArm a_10∧WayOK w_3 a_10.links.length∧n≤100000)∧∃(a_11:ArmV),∃(n_1:Nat),∃(w_4:List (List Rat)),[Zi (Ze x.a.name),Zg x.a.x 63,Zg x.a.y 63,Zi (Zd x.a.half),Zg x.a.t 63,Zj 16 (Zc linkCh x.a.links)]=[Zi (Ze a_11.name),Zg a_11.x 63,Zg a_11.y 63,Zi (Zd a_11.half),Zg a_11.t 63,Zj 16 (Zc linkCh a_11.links)]∧wN 63 (sfY k x)=wN n_1 w_4∧(GoodArm a_11∧WayOK w_4 a_11.links.length∧n_1≤100000)∧bif !freeW (goV a ws k_2) w then 64+(2*n_1+2)*(3*(w_4.length-1))+(64+(2*n+2)*(3*(w_3.length-1)))≤4294967296∧K (AV.x false [Zi (Zd (decide (cmpR (meas w_4) (meas w_3)≤0)))]) else bif freeW (goV a_9 ws_1 k_3) w_2 then 64+(2*n_1+2)*(3*(w_4.length-1))+(64+(2*n+2)*(3*(w_3.length-1)))≤4294967296∧K (AV.x false [Zi (Zd (decide (cmpR (meas w_4) (meas w_3)≤0)))]) else K (AV.x false [Zi (Zd false)])) := by kernel_rfl
theorem cutW_facts (go : List Rat → List Rat → Bool) {w : List (List Rat)} (h : 1 ≤ w.length) : 1 ≤ (cutW go w).length ∧ (cutW go w).length ≤ w.length ∧ (cutW go w)[0]? = some (atW w 0) ∧ (cutW go w)[(cutW go w).length - 1]? = some (atW w (w.length - 1)) := by
 rw [cutW_eq h]
 have := cutV_len (go := go) (w := w) h
 exact ⟨this.1, this.2, cutV_first, cutV_last h⟩
theorem sf_len {k : List Int} {x : SfX} (hx : SfI k x) : 1 ≤ (sfY k x).length ∧ (sfY k x).length ≤ x.w.length := by
 obtain ⟨h1, h2, _⟩ := cutW_facts (goV x.a (wallsV k) 2) hx.way.n.1
 exact ⟨h1, h2⟩
theorem sf_get {k : List Int} {x : SfX} (hx : SfI k x) (j : Nat) : (sfY k x)[j]? = ((sfK k x)[j]?).map (atW x.w) := by
 unfold sfY sfK
 rw [cutW_eq hx.way.n.1]
 exact cutV_get j
theorem sf_steps {k : List Int} {x : SfX} (hx : SfI k x) : Steps (goV x.a (wallsV k) 2) x.w 0 (cutI (goV x.a (wallsV k) 2) x.w x.w.length 0) :=
 cut_steps _ _ _ _ hx.way.n.1 (by omega)
theorem sf_at {k : List Int} {y : SfX} (hy : SfJ k y) : ∃ b, (sfK k y)[y.j]? = some b ∧ atW (sfY k y) y.j = atW y.w b ∧ b < y.w.length ∧ ∀ b', (sfK k y)[y.j + 1]? = some b' → b < b' := by
 have h1 := sf_get hy.all y.j
 rw [atW_get hy.j] at h1
 have st := sf_steps hy.all
 cases hb : (sfK k y)[y.j]? with
 | none => rw [hb] at h1; cases h1
 | some b =>
  rw [hb] at h1
  exact ⟨b, rfl, Option.some.inj h1, steps_lt hy.all.way.n.1 st hb, fun b' hb' => (steps_at st hb hb').1.1⟩
theorem sf_way {k : List Int} {x : SfX} (hx : SfI k x) : WayOK (sfY k x) x.a.links.length := by
 have hn := hx.way.n
 have hl := sf_len hx
 refine ⟨by omega, fun q hq => ?_, hx.good.n⟩
 obtain ⟨j, hj⟩ := List.getElem?_of_mem hq
 rw [sf_get hx] at hj
 cases hb : (sfK k x)[j]? with
 | none => rw [hb] at hj; cases hj
 | some b =>
  rw [hb] at hj
  cases hj
  exact hx.way.len _ (Zh (atW_get (steps_lt hn.1 (sf_steps hx) hb)))
theorem g_sfree (l m k : List Int) (hl : l.length ≤ 9223372036854775807) (hm : m.length ≤ 9223372036854775807) (hk : k.length ≤ 9223372036854775807) (K : AV → Prop) (hK : K (.x false [.v (.bool true)])) : Holds (goal_sfree l m k K) := by
 refine ⟨?_⟩
 rw [goal_sfree_vc]
 simp only [Zl, true_and, and_true, Nat.le_refl, true_implies]
 obtain ⟨wsl, wsp⟩ := wallsV_ok k
 have wl : ∀ n (w : List (List Rat)), (wN n w).length = w.length := fun n w => by simp [wN]
 simp only [wl]
 refine ⟨l, rfl, hl, fun a ha => ⟨a, m, rfl, rfl, ⟨MadeA.good ha, hm⟩, fun w hw1 hw2 hwl => ?_⟩⟩
 have hg := MadeA.good ha
 have hgn := hg.n
 have ok : WayOK w a.links.length := ⟨by omega, hwl, hgn⟩
 have hlen : ∀ i, i < w.length → (atW w i).length = a.links.length := fun i hi => ok.len _ (Zh (atW_get hi))
 have l0 := hlen 0 (by omega)
 have l1 := hlen (w.length - 1) (by omega)
 obtain ⟨y1, y2, yf, yla⟩ := cutW_facts (goV a (wallsV k) 2) hw1
 have e1 : Zb.wrap (((cutW (goV a (wallsV k) 2) w).length : Int) - 1) = (((cutW (goV a (wallsV k) 2) w).length - 1 : Nat) : Int) := by rw [w64 (by omega)]; omega
 have e2 : Zb.wrap ((w.length : Int) - 1) = ((w.length - 1 : Nat) : Int) := by rw [w64 (by omega)]; omega
 refine ⟨k, rfl, hk, a, 63, w, 127, wallsV k, 2, rfl, rfl, rfl, rfl, ⟨hg, ⟨ok, by omega⟩, by omega, ⟨wsp, by omega⟩, by omega, by omega⟩, ?_⟩
 rw [e1, e2, Zn, Zn]
 refine bif_mk (fun h => by have := eq_of_beq h; omega) (fun _ => bif_mk (fun h => by have := of_decide_eq_true h; omega) (fun _ => ⟨by omega, _, way_ld yf, by omega, _, way_ld (atW_get (by omega)), 63, atW w 0, 63, atW w 0, rfl, rfl, ⟨by omega, by omega⟩, bif_mk (fun h => by simp at h) (fun _ => ⟨by omega, _, way_ld yla, by omega, _, way_ld (atW_get (by omega)), 63, atW w (w.length - 1), 63, atW w (w.length - 1), rfl, rfl, ⟨by omega, by omega⟩, bif_mk (fun h => by simp at h) (fun _ => ⟨⟨⟨a, w, 0, 0⟩, ⟨hg, ok, Nat.zero_le _, by simp only; omega, fun b _ => Nat.zero_le _⟩, rfl, rfl, rfl, rfl, rfl, rfl, rfl, rfl, rfl, rfl, rfl, rfl⟩, fun x hx => bif_mk (fun hp => ?_) (fun hp => ?_)⟩)⟩)⟩))
 ·have hp : x.j < (sfY k x).length := by have := of_decide_eq_true hp; omega
  refine ⟨by omega, _, way_ld (by simpa using atW_get hp), ⟨⟨x.a, x.w, x.i, x.j⟩, ⟨⟨⟨hx.good, hx.way, hx.j, hx.i, hx.le⟩, hp⟩, rfl⟩, rfl, rfl, rfl, rfl, rfl, rfl, rfl, rfl, rfl, rfl, rfl, rfl, rfl⟩, fun y hy hyt => ?_⟩
  have yi := hy.all.i
  have yn := hy.all.way.n
  have yg := hy.all.good.n
  obtain ⟨b, kb, eb, blt, nxt⟩ := sf_at hy
  have hib := hy.all.le b kb
  have hlen : ∀ i, i < y.w.length → (atW y.w i).length = y.a.links.length := fun i hi => hy.all.way.len _ (Zh (atW_get hi))
  have lb := hlen b blt
  have li := hlen y.i yi
  have yj := hy.j
  have yl := sf_len hy.all
  refine bif_mk (fun _ => ⟨by omega, _, way_ld (by simpa using atW_get yi), 63, atW y.w y.i, 63, atW (sfY k y) y.j, rfl, rfl, ⟨by omega, by rw [eb]; omega⟩, bif_mk (fun hne => ?_) (fun he => ?_)⟩) (fun h => absurd yi (by have := of_decide_eq_false h; omega))
  ·have hne : y.i ≠ b := fun e => by rw [eb, e] at hne; simp at hne
   exact ⟨⟨y.a, y.w, y.i + 1, y.j⟩, ⟨⟨⟨hy.all.good, hy.all.way, hy.all.j, by simp only; omega, fun b' h' => by
    have h' : (sfK k y)[y.j]? = some b' := h'
    rw [kb] at h'; cases h'; simp only; omega⟩, hy.j⟩, hyt, by simp only; omega⟩, rfl, rfl, by rw [w64 (by omega)]; simp, rfl, rfl, rfl, rfl, rfl, rfl, rfl, rfl, rfl, rfl⟩
  ·have hms : (sfY k y).length - (y.j + 1) < (sfY k x).length - x.j := by
    have : (sfY k y).length - y.j = (sfY k x).length - x.j := hyt
    omega
   exact bif_mk (fun h => absurd yi (by have := eq_of_beq h; omega)) (fun _ => ⟨⟨y.a, y.w, y.i, y.j + 1⟩, ⟨⟨hy.all.good, hy.all.way, hy.j, yi, fun b' h' => by
    have h' : (sfK k y)[y.j + 1]? = some b' := h'
    have := nxt b' h'
    simp only; omega⟩, hms⟩, rfl, rfl, rfl, rfl, rfl, by rw [w64 (by omega)]; simp, rfl, rfl, rfl, rfl, rfl, rfl⟩)
 ·have hwn := hx.way.n
  have yl := sf_len hx
  have yok := sf_way hx
  have xe : sfY k x = cutV (goV x.a (wallsV k) 2) x.w := cutW_eq hwn.1
  have hml := cutV_meas (go := goV x.a (wallsV k) 2) (by omega : 0 < x.w.length) hx.way.len
  rw [← xe] at hml
  have fin : 64 + (2 * 63 + 2) * (3 * ((sfY k x).length - 1)) + (64 + (2 * 63 + 2) * (3 * (x.w.length - 1))) ≤ 4294967296 ∧ K (AV.x false [Zi (Zd (decide (cmpR (meas (sfY k x)) (meas x.w) ≤ 0)))]) := by
   refine ⟨by omega, ?_⟩
   rw [cmp_dec, decide_eq_true hml]
   exact hK
  refine ⟨k, rfl, hk, x.a, 63, x.w, 127, wallsV k, 2, rfl, rfl, rfl, rfl, ⟨hx.good, ⟨hx.way, by omega⟩, by omega, ⟨wsp, by omega⟩, by omega, by omega⟩, k, rfl, hk, x.a, 63, sfY k x, 127, wallsV k, 2, rfl, rfl, rfl, rfl, ⟨hx.good, ⟨yok, by omega⟩, by omega, ⟨wsp, by omega⟩, by omega, by omega⟩, x.a, 63, x.w, rfl, rfl, ⟨hx.good, hx.way, by omega⟩, x.a, 63, sfY k x, rfl, rfl, ⟨hx.good, yok, by omega⟩, bif_mk (fun _ => fin) (fun h => bif_mk (fun _ => fin) (fun h2 => ?_))⟩
  have := cutV_free (go := goV x.a (wallsV k) 2) (by omega : 0 < x.w.length) (by simpa using h)
  rw [← xe, h2] at this
  cases this
theorem spec_sfree (l m k : List Int) (hl : l.length ≤ 9223372036854775807) (hm : m.length ≤ 9223372036854775807) (hk : k.length ≤ 9223372036854775807) : Eng.Spec Tryz.prog tabG debT 3 [inS l, inS m, inS k] (fun av => av = .x false [.v (.bool true)]) :=
 spec_ofL T195eok mixed Tryz.func3 (by kernel_rfl) (by kernel_rfl) (by rfl) (g_sfree l m k hl hm hk _ rfl)
end Go.Proofs
