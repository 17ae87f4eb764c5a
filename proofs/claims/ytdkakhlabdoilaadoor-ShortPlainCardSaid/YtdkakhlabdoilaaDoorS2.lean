/- Ways: leaving out what lies between changes no length, and nothing more the second time. -/
import Derived.Test.YtdkakhlabdoilaaDoorS1
/- Ways: leaving out what lies between changes no length, and nothing more the second time. -/
namespace Go.Proofs
open Go Go.Eng
def Seg (a b c : List Rat) : Prop := ∃ t : Rat, 0 ≤ t ∧ t ≤ 1 ∧ ∀ (j : Nat) (p q r : Rat), a[j]? = some p → b[j]? = some q → c[j]? = some r → q = p + t * (r - p)
theorem get_of {a : List Rat} {m j : Nat} (h : a.length = m) (hj : j < m) : ∃ p, a[j]? = some p := ⟨_, List.getElem?_eq_getElem (by omega)⟩
theorem lt_of {a : List Rat} {m j : Nat} {p : Rat} (h : a.length = m) (hp : a[j]? = some p) : j < m := h ▸ (List.getElem?_eq_some_iff.1 hp).1
theorem le_mul_cancel {t d : Rat} (hd : 0 < d) (h : 0 ≤ t * d) : 0 ≤ t := by
 apply Classical.byContradiction
 intro hn
 have h1 : 0 < -t := by grind
 have h2 := Rat.mul_pos h1 hd
 grind
theorem seg_of {m : Nat} {a b c : List Rat} (ha : a.length = m) (hb : b.length = m) (hc : c.length = m) (h : Btw a b c) : Seg a b c := by
 by_cases hz : ∃ (j : Nat) (p r : Rat), a[j]? = some p ∧ c[j]? = some r ∧ p ≠ r
 ·obtain ⟨j, p, r, hp, hr, hne⟩ := hz
  obtain ⟨q, hq⟩ := get_of hb (lt_of ha hp)
  obtain ⟨h1, h2, h3⟩ := h j p q r hp hq hr
  have hd : r - p ≠ 0 := by grind
  have ht : (q - p) / (r - p) * (r - p) = q - p := Rat.div_mul_cancel hd
  refine ⟨(q - p) / (r - p), ?_, ?_, fun k p' q' r' hp' hq' hr' => ?_⟩
  ·generalize (q - p) / (r - p) = t at ht
   rcases (by grind : 0 < r - p ∨ 0 < p - r) with h | h
   ·exact le_mul_cancel h (by grind)
   ·exact le_mul_cancel h (by grind)
  ·generalize (q - p) / (r - p) = t at ht
   have : 0 ≤ 1 - t := by
    rcases (by grind : 0 < r - p ∨ 0 < p - r) with h | h
    ·exact le_mul_cancel h (by grind)
    ·exact le_mul_cancel h (by grind)
   grind
  ·have e := h1 k p' q' r' hp' hq' hr'
   generalize (q - p) / (r - p) = t at ht
   have : (q' - p' - t * (r' - p')) * (r - p) = 0 := by grind
   rcases Rat.mul_eq_zero.1 this with h | h
   ·grind
   ·exact absurd h hd
 ·refine ⟨0, by grind, by grind, fun j p q r hp hq hr => ?_⟩
  have e : p = r := Classical.byContradiction fun hne => hz ⟨j, p, r, hp, hr, hne⟩
  obtain ⟨_, h2, h3⟩ := h j p q r hp hq hr
  grind
theorem of_seg {a b c : List Rat} (h : Seg a b c) : Btw a b c := by
 obtain ⟨t, h0, h1, h⟩ := h
 intro j p q r hp hq hr
 have e := h j p q r hp hq hr
 refine ⟨fun k p' q' r' hp' hq' hr' => ?_, ?_, ?_⟩
 ·have e' := h k p' q' r' hp' hq' hr'
  rw [e, e']; grind
 ·rcases @Rat.le_total p r with hpr | hpr
  ·have := Rat.mul_nonneg h0 (show 0 ≤ r - p by grind); left; grind
  ·have := Rat.mul_nonneg (show 0 ≤ 1 - t by grind) (show 0 ≤ p - r by grind); right; grind
 ·rcases @Rat.le_total p r with hpr | hpr
  ·have := Rat.mul_nonneg (show 0 ≤ 1 - t by grind) (show 0 ≤ r - p by grind); right; grind
  ·have := Rat.mul_nonneg h0 (show 0 ≤ p - r by grind); left; grind
theorem seg_self (a b : List Rat) : Seg a b b := ⟨1, by grind, by grind, fun j p q r _ hq hr => by rw [hq] at hr; cases hr; grind⟩
theorem seg_trans {m : Nat} {x y u z : List Rat} (hu : u.length = m) (hx : x.length = m) (h1 : Seg x y u) (h2 : Seg x u z) : Seg x y z := by
 obtain ⟨t, t0, t1, ht⟩ := h1
 obtain ⟨s, s0, s1, hs⟩ := h2
 have hm := Rat.mul_nonneg t0 s0
 have hm2 := Rat.mul_nonneg t0 (show 0 ≤ 1 - s by grind)
 refine ⟨t * s, hm, by grind, fun j p q r hp hq hr => ?_⟩
 obtain ⟨v, hv⟩ := get_of hu (lt_of hx hp)
 rw [ht j p q v hp hq hv, hs j p v r hp hv hr]
 grind
theorem seg_mid {m : Nat} {l x y z : List Rat} (hl : l.length = m) (hz : z.length = m) (h1 : Seg l x z) (h2 : Seg x y z) : Seg l x y := by
 obtain ⟨t, t0, t1, ht⟩ := h1
 obtain ⟨u, u0, u1, hu⟩ := h2
 have hm := Rat.mul_nonneg u0 (show 0 ≤ 1 - t by grind)
 by_cases hv : t + u * (1 - t) = 0
 ·have t00 : t = 0 := by grind
  refine ⟨0, by grind, by grind, fun j p q r hp hq hr => ?_⟩
  obtain ⟨w, hw⟩ := get_of hz (lt_of hl hp)
  have := ht j p q w hp hq hw
  rw [this, t00]; grind
 ·have hpos : 0 < t + u * (1 - t) := by grind
  have e : t / (t + u * (1 - t)) * (t + u * (1 - t)) = t := Rat.div_mul_cancel hv
  refine ⟨t / (t + u * (1 - t)), ?_, ?_, fun j p q r hp hq hr => ?_⟩
  ·generalize t / (t + u * (1 - t)) = s at e
   exact le_mul_cancel hpos (by grind)
  ·generalize t / (t + u * (1 - t)) = s at e
   have : 0 ≤ 1 - s := le_mul_cancel hpos (by grind)
   grind
  ·obtain ⟨w, hw⟩ := get_of hz (lt_of hl hp)
   have e1 := ht j p q w hp hq hw
   have e2 := hu j q r w hq hr hw
   generalize t / (t + u * (1 - t)) = s at e
   have e3 : r - p = (t + u * (1 - t)) * (w - p) := by grind
   rw [e3]
   grind
theorem absR_nn {x : Rat} (h : 0 ≤ x) : absR x = x := by
 unfold absR
 rw [if_neg]
 have := Rat.num_nonneg.2 h
 omega
theorem absR_np {x : Rat} (h : x ≤ 0) : absR x = -x := by
 by_cases e : x = 0
 ·subst e; rfl
 ·unfold absR
  rw [if_pos]
  have h2 : ¬ 0 ≤ x := by grind
  rw [← Rat.num_nonneg] at h2
  omega
theorem absR_add {p q r : Rat} (h1 : p ≤ q ∨ r ≤ q) (h2 : q ≤ p ∨ q ≤ r) : absR (q - p) + absR (r - q) = absR (r - p) := by
 rcases @Rat.le_total p r with h | h
 ·rw [absR_nn (by grind), absR_nn (by grind), absR_nn (by grind)]; grind
 ·rw [absR_np (by grind), absR_np (by grind), absR_np (by grind)]; grind
theorem dst_add : ∀ (m : Nat) (a b c : List Rat), a.length = m → b.length = m → c.length = m → (∀ (j : Nat) (p q r : Rat), a[j]? = some p → b[j]? = some q → c[j]? = some r → (p ≤ q ∨ r ≤ q) ∧ (q ≤ p ∨ q ≤ r)) → dst a b + dst b c = dst a c := by
 intro m
 induction m with
 | zero =>
  intro a b c ha hb hc _
  rw [List.length_eq_zero_iff.1 ha, List.length_eq_zero_iff.1 hb, List.length_eq_zero_iff.1 hc]
  simp only [dst]; exact Rat.zero_add _
 | succ m ih =>
  intro a b c ha hb hc h
  match a, b, c, ha, hb, hc with
  | p :: a, q :: b, r :: c, ha, hb, hc =>
   have h0 := h 0 p q r rfl rfl rfl
   have := ih a b c (by simpa using ha) (by simpa using hb) (by simpa using hc) fun j p q r hp hq hr => h (j + 1) p q r (by simpa using hp) (by simpa using hq) (by simpa using hr)
   have e := absR_add h0.1 h0.2
   simp only [dst]
   rw [← this, ← e]; grind
theorem plainR_meas {m : Nat} : ∀ (rest : List (List Rat)) (l : List Rat), l.length = m → (∀ q ∈ rest, q.length = m) → meas (l :: plainR l rest) = meas (l :: rest) := by
 intro rest
 induction rest with
 | nil => intro l _ _; rw [plainR]
 | cons x r ih =>
  intro l hl hr
  have hx := hr x (by simp)
  cases r with
  | nil => rw [plainR]
  | cons y r =>
   have hy := hr y (by simp)
   have hr' : ∀ q ∈ y :: r, q.length = m := fun q hq => hr q (List.mem_cons_of_mem _ hq)
   rw [plainR]
   split
   ·rename_i h
    rw [ih l hl hr']
    have := dst_add m l x y hl hx hy fun j p q r hp hq hr => (h j p q r hp hq hr).2
    simp only [meas]
    rw [← this]; grind
   ·rw [meas, ih x hx hr']; rfl
theorem plainR_head {m : Nat} : ∀ (r : List (List Rat)) (x y : List Rat), x.length = m → (∀ q ∈ y :: r, q.length = m) → ∃ z s, plainR x (y :: r) = z :: s ∧ Seg x y z ∧ z.length = m := by
 intro r
 induction r with
 | nil => intro x y _ h; exact ⟨y, [], by rw [plainR], seg_self x y, h y (by simp)⟩
 | cons y2 r ih =>
  intro x y hx h
  have hy := h y (by simp)
  have hy2 := h y2 (by simp)
  rw [plainR]
  split
  ·rename_i hb
   obtain ⟨z, s, e, h1, h2⟩ := ih x y2 hx fun q hq => h q (List.mem_cons_of_mem _ hq)
   exact ⟨z, s, e, seg_trans hy2 hx (seg_of hx hy hy2 hb) h1, h2⟩
  ·exact ⟨y, _, rfl, seg_self x y, hy⟩
theorem plainR_idem {m : Nat} : ∀ (rest : List (List Rat)) (l : List Rat), l.length = m → (∀ q ∈ rest, q.length = m) → plainR l (plainR l rest) = plainR l rest := by
 intro rest
 induction rest with
 | nil => intro l _ _; simp only [plainR]
 | cons x r ih =>
  intro l hl hr
  have hx := hr x (by simp)
  cases r with
  | nil => simp only [plainR]
  | cons y r =>
   have hr' : ∀ q ∈ y :: r, q.length = m := fun q hq => hr q (List.mem_cons_of_mem _ hq)
   have hy := hr' y (by simp)
   rw [plainR]
   split
   ·exact ih l hl hr'
   ·rename_i hn
    have hi := ih x hx hr'
    obtain ⟨z, s, e, h1, h2⟩ := plainR_head r x y hx hr'
    rw [e] at hi ⊢
    rw [plainR, if_neg, hi]
    intro hb
    exact hn (of_seg (seg_mid hl h2 (seg_of hl hx h2 hb) h1))
theorem plainR_mem : ∀ (rest : List (List Rat)) (l : List Rat), (∀ q ∈ plainR l rest, q ∈ rest) ∧ (plainR l rest).length ≤ rest.length := by
 intro rest
 induction rest with
 | nil => intro l; simp [plainR]
 | cons x r ih =>
  intro l
  cases r with
  | nil => simp [plainR]
  | cons y r =>
   rw [plainR]
   split
   ·obtain ⟨h1, h2⟩ := ih l
    exact ⟨fun q hq => List.mem_cons_of_mem _ (h1 q hq), by simp only [List.length_cons] at h2 ⊢; omega⟩
   ·obtain ⟨h1, h2⟩ := ih x
    refine ⟨fun q hq => ?_, by simp only [List.length_cons] at h2 ⊢; omega⟩
    rcases List.mem_cons.1 hq with e | hq
    ·rw [e]; simp
    ·exact List.mem_cons_of_mem _ (h1 q hq)
theorem plainV_meas {m : Nat} {w : List (List Rat)} (h : ∀ q ∈ w, q.length = m) : meas (plainV w) = meas w := by
 cases w with
 | nil => rfl
 | cons x r => exact plainR_meas r x (h x (by simp)) fun q hq => h q (List.mem_cons_of_mem _ hq)
theorem plainV_idem {m : Nat} {w : List (List Rat)} (h : ∀ q ∈ w, q.length = m) : plainV (plainV w) = plainV w := by
 cases w with
 | nil => rfl
 | cons x r =>
  show x :: plainR x (plainR x r) = x :: plainR x r
  rw [plainR_idem r x (h x (by simp)) fun q hq => h q (List.mem_cons_of_mem _ hq)]
theorem plainV_ok {m : Nat} {w : List (List Rat)} (h : WayOK w m) : WayOK (plainV w) m ∧ (plainV w).length ≤ w.length := by
 obtain ⟨⟨h1, h2⟩, h3, h4⟩ := h
 cases w with
 | nil => simp at h1
 | cons x r =>
  obtain ⟨g1, g2⟩ := plainR_mem r x
  simp only [List.length_cons] at h1 h2
  refine ⟨⟨⟨by simp [plainV], by simp only [plainV, List.length_cons]; omega⟩, fun q hq => ?_, h4⟩, by simp only [plainV, List.length_cons]; omega⟩
  rcases List.mem_cons.1 hq with e | hq
  ·rw [e]; exact h3 x (by simp)
  ·exact h3 q (List.mem_cons_of_mem _ (g1 q hq))
end Go.Proofs
/- slices.EqualFunc on ways, way, measures. -/
namespace Go.Proofs
open Go Go.Eng
structure WyX where
 w : List (List Rat)
 l : List Int
 n : Nat
structure WyI (a : ArmV) (l : List Int) (x : WyX) : Prop where
 hn : x.w.length ≤ x.n ∧ 1 ≤ x.n ∧ x.n ≤ 5
 len : ∀ q ∈ x.w, q.length = a.links.length
 hl : x.l.length ≤ l.length
def ot_eqfW : OT := fun _ => ([], [])
def goal_eqfW (n : Nat) (v : List (List Rat)) (m : Nat) (w : List (List Rat)) (K : AV → Prop) : Prop := goalL T104 ot_eqfW (fun _ => .inv ⟨Nat, fun i => ⟨[(1, sW m w), (2, .x false [.v (.func (.func 15) #[] #[])]), (15, sW n v), (16, iA .i64 v.length), (17, iA .i64 i)], []⟩, fun i => i ≤ v.length, fun i => v.length - i, fun _ => 0⟩) Tryd.f41 [sW n v, sW m w, .x false [.v (.func (.func 15) #[] #[])]] K
theorem goal_eqfW_vc (n : Nat) (v : List (List Rat)) (m : Nat) (w : List (List Rat)) (K : AV → Prop) : goal_eqfW n v m w K = (bif Int.ofNat (List.length (wN n v)) != Int.ofNat (List.length (wN m w)) then K (AV.x false [Ch.v (Value.bool false)]) else (∃(x:Nat),(x≤List.length v∧OfNat.ofNat (0:Nat)=(0:Nat))∧(1:Nat)=(1:Nat)∧wN m w=wN m w∧Value.func (Fn.func (15:Nat)) (Array.mk []) (Array.mk [])=Value.func (Fn.func (15:Nat)) (Array.mk []) (Array.mk [])∧(1:Nat)=(1:Nat)∧wN n v=wN n v∧Int.ofNat (List.length (wN n v))=Int.ofNat (List.length v)∧(0:Int)=Int.ofNat x∧True)∧∀(x:Nat),x≤List.length v→OfNat.ofNat (0:Nat)=(0:Nat)→bif decide (Int.ofNat x<Int.ofNat (List.length v)) then ((0:Int)≤Int.ofNat x∧Int.ofNat x<Int.ofNat (List.length (wN n v)))∧∃(ys:List (List Ch)),ldE (wN n v) (Int.toNat (Int.ofNat x)) (0:Nat) (1:Nat)=some [Ch.s (3:Nat) ys]∧((0:Int)≤Int.ofNat x∧Int.ofNat x<Int.ofNat (List.length (wN m w)))∧∃(ys_1:List (List Ch)),ldE (wN m w) (Int.toNat (Int.ofNat x)) (0:Nat) (1:Nat)=some [Ch.s (3:Nat) ys_1]∧∃(a:Nat),∃(ps:List Rat),∃(b:Nat),∃(qs:List Rat),ys=lR a ps∧ys_1=lR b qs∧(List.length ps≤(1000000000:Nat)∧List.length qs≤(1000000000:Nat))∧bif !decide (ps=qs) then K (AV.x false [Ch.v (Value.bool false)]) else ∃(x':Nat),(x'≤List.length v∧OfNat.ofNat (0:Nat)=(0:Nat)∧List.length v-x'<List.length v-x)∧(1:Nat)=(1:Nat)∧wN m w=wN m w∧Value.func (Fn.func (15:Nat)) (Array.mk []) (Array.mk [])=Value.func (Fn.func (15:Nat)) (Array.mk []) (Array.mk [])∧(1:Nat)=(1:Nat)∧wN n v=wN n v∧Int.ofNat (List.length v)=Int.ofNat (List.length v)∧IntKind.wrap IntKind.i64 (Int.ofNat x+(1:Int))=Int.ofNat x'∧True else K (AV.x false [Ch.v (Value.bool true)])) := by kernel_rfl
theorem g_eqfW (n : Nat) (v : List (List Rat)) (m : Nat) (w : List (List Rat)) (hc : (v = w) ∧ (v.length ≤ 100000 ∧ ∀ k ∈ v, k.length ≤ 1000000)) (K : AV → Prop) (hK : K (.x false [.v (.bool true)])) : Holds (goal_eqfW n v m w K) := by
 refine ⟨?_⟩
 rw [goal_eqfW_vc]
 try simp only [Int.ofNat_eq_natCast, true_and, and_true, true_implies]
 obtain ⟨rfl, hl, hk⟩ := hc
 have hlw : ∀ n, (wN n v).length = v.length := fun n => by simp [wN]
 simp only [hlw]
 refine bif_mk (fun h => by simp at h) (fun _ => ⟨⟨0, by omega, trivial, rfl⟩, fun x hx => bif_mk (fun hp => ?_) (fun _ => hK)⟩)
 have hp : x < v.length := by have := of_decide_eq_true hp; omega
 obtain ⟨q, hq⟩ : ∃ q, v[x]? = some q := ⟨_, List.getElem?_eq_getElem hp⟩
 have hq' := hk q (List.mem_of_getElem? hq)
 exact ⟨by omega, _, way_ld (by simpa using hq), by omega, _, way_ld (by simpa using hq), n, q, m, q, rfl, rfl, by omega, bif_mk (fun h => by simp at h) (fun _ => ⟨x + 1, ⟨by omega, by omega⟩, by rw [w64 (by omega)]; simp⟩)⟩
def c_eqfW : Ctr := fun as0 => match as0 with
 | [.x false [.s 1 xs], .x false [.s 1 ys], .x false [.v (.func (.func fid) ⟨[]⟩ ⟨[]⟩)]] => some fun K => ∃ (n : Nat) (v : List (List Rat)) (m : Nat) (w : List (List Rat)), xs = wN n v ∧ ys = wN m w ∧ fid = 15 ∧ ((v = w) ∧ (v.length ≤ 100000 ∧ ∀ k ∈ v, k.length ≤ 1000000)) ∧ (K (.x false [.v (.bool true)]))
 | _ => none
theorem ok_eqfW : CtrOK Tryd.prog tabG debT 41 c_eqfW := by
 refine ⟨enters Tryd.func41 (by kernel_rfl), fun l T hT K hK => ?_⟩
 unfold c_eqfW at hT
 split at hT
 ·cases hT
  obtain ⟨n, v, m, w, rfl, rfl, rfl, hc, hK⟩ := hK
  exact spec_ofL T104ok mixed Tryd.func41 (by kernel_rfl) (by kernel_rfl) (by rfl) (g_eqfW _ _ _ _ hc K hK)
 ·cases hT
def L105 : List (Nat × Ctr) := (41, c_eqfW) :: L104
def T105 : Tabs := mkT L105 M99 X4
theorem L105ok : CtrsOK Tryd.prog tabG debT L105 := .cons ok_eqfW L104ok
theorem T105ok : TabsOK Tryd.prog tabG debT T105 := mkTok L105ok M99ok X4ok
def ot_kWay : OT := fun id => bif id.beq 5 then ([0, 1, 2, 4, 6, 3, 5, 7, 8, 9, 10, 11, 12], [[], [], [], [2], [], [4, 3, 2], [], [6, 5, 4, 3, 2], [3, 2, 5, 4, 7, 6], [1, 8, 3, 2, 5, 4, 7, 6], [9, 1, 8, 3, 2, 5, 4, 7, 6], [0, 10, 9, 1, 8, 3, 2, 5, 4, 7, 6], [11, 0, 10, 9, 1, 8, 3, 2, 5, 4, 7, 6]]) else ([], [])
def goal_kWay (a : ArmV) (l : List Int) (K : AV → Prop) : Prop := goalL T105 ot_kWay (fun _ => .inv ⟨WyX, fun x => ⟨[(2, .x false [.p 2 0]), (5, .x false [.w 500 0 x.w.length]), (6, .x false [.p 9 0]), (12, iA .i64 x.n), (13, iA .i64 x.w.length)], [(2, .box 34 (armCh a)), (9, stB x.l), (500, .row 45 1 (wN 63 x.w))]⟩, WyI a l, fun x => x.n - x.w.length, fun _ => 0⟩) Tryd.f11 [armA a, .x false [.s 1 (ints l)]] K
theorem goal_kWay_vc (a : ArmV) (l : List Int) (K : AV → Prop) : goal_kWay a l K = (∃(l_1:List Int),ints l=ints l_1∧((1:Int)≤5∧(5:Int)<9223372036854775808)∧l_1.length≤9223372036854775807∧∀(r:Int) (l':List Int),0≤r∧r<5→l'.length≤l_1.length→(∃(x:WyX),(WyI a l x∧OfNat.ofNat 0=0)∧0=0∧Value.slice none 0 0=Value.slice none 0 0∧0=0∧x.w.length=0∧0=0∧IntKind.i64.wrap (1+r)=Int.ofNat x.n∧0=Int.ofNat x.w.length∧34=34∧a.name=a.name∧a.x=a.x∧63≤63∧a.y=a.y∧63≤63∧a.half=a.half∧a.t=a.t∧63≤63∧16=16∧List.map linkCh a.links=List.map linkCh a.links∧85=85∧1=1∧ints l'=ints x.l∧wN 63 x.w=[]∧True)∧∀(x:WyX),WyI a l x→OfNat.ofNat 0=0→bif decide (Int.ofNat x.w.length<Int.ofNat x.n) then ∃(l_2:List Int),ints x.l=ints l_2∧((1:Int)≤9∧(9:Int)<9223372036854775808)∧l_2.length≤9223372036854775807∧∀(r:Int) (l':List Int),0≤r∧r<9→l'.length≤l_2.length→∃(l_3:List Int),ints l'=ints l_3∧((1:Int)≤9∧(9:Int)<9223372036854775808)∧l_3.length≤9223372036854775807∧∀(r_1:Int) (l':List Int),0≤r_1∧r_1<9→l'.length≤l_3.length→∃(l_4:List Int),ints l'=ints l_4∧((1:Int)≤9∧(9:Int)<9223372036854775808)∧l_4.length≤9223372036854775807∧∀(r_2:Int) (l':List Int),0≤r_2∧r_2<9→l'.length≤l_4.length→∃(a_11:ArmV),∃(l_5:List Int),[Ch.v (Value.string a.name),Ch.r a.x 63,Ch.r a.y 63,Ch.v (Value.bool a.half),Ch.r a.t 63,Ch.s 16 (List.map linkCh a.links)]=[Ch.v (Value.string a_11.name),Ch.r a_11.x 63,Ch.r a_11.y 63,Ch.v (Value.bool a_11.half),Ch.r a_11.t 63,Ch.s 16 (List.map linkCh a_11.links)]∧[[Ch.v (Value.int IntKind.i64 r)],[Ch.v (Value.int IntKind.i64 r_1)],[Ch.v (Value.int IntKind.i64 r_2)]]=ints l_5∧(GoodArm a_11∧l_5.length≤9223372036854775807)∧∀(qs:List Rat),(∀(i:Nat) (L:LinkV) (q:Rat),a_11.links[i]?=some L→qs[i]?=some q→L.lo≤q∧q≤L.hi)→qs.length=a_11.links.length→((x.w.length+1)*24≤140737488355328∧x.w.length+1≤9223372036854775807)∧∃(x':WyX),(WyI a l x'∧OfNat.ofNat 0=0∧x'.n-x'.w.length<x.n-x.w.length)∧0=0∧0=0∧x.w.length+1=x'.w.length∧0=0∧Int.ofNat x.n=Int.ofNat x'.n∧IntKind.i64.wrap (Int.ofNat x.w.length+1)=Int.ofNat x'.w.length∧34=34∧a.name=a.name∧a.x=a.x∧63≤63∧a.y=a.y∧63≤63∧a.half=a.half∧a.t=a.t∧63≤63∧16=16∧List.map linkCh a.links=List.map linkCh a.links∧85=85∧1=1∧ints l'=ints x'.l∧45=45∧1=1∧(List.take x.w.length (wN 63 x.w)++[[Ch.s 3 (lR 63 qs)]]=wN 63 x'.w∨RowLE (List.take x.w.length (wN 63 x.w)++[[Ch.s 3 (lR 63 qs)]]) (wN 63 x'.w))∧True else K (AV.x false [Ch.s 1 (List.take x.w.length (List.drop 0 (wN 63 x.w)))])) := by kernel_rfl
theorem g_kWay (a : ArmV) (l : List Int) (hc : (GoodArm a) ∧ (l.length ≤ 9223372036854775807)) (K : AV → Prop) (hK : ∀ w : List (List Rat), 1 ≤ w.length → w.length ≤ 5 → (∀ q ∈ w, q.length = a.links.length) → K (sW 63 w)) : Holds (goal_kWay a l K) := by
 refine ⟨?_⟩
 rw [goal_kWay_vc]
 try simp only [Int.ofNat_eq_natCast, true_and, and_true, Nat.le_refl, true_implies]
 refine ⟨l, rfl, by omega, hc.2, fun r l1 hr h1 => ?_⟩
 rw [w64 (n := 1 + r) (by omega)]
 refine ⟨⟨⟨[], l1, (1 + r).toNat⟩, ⟨by simp only [List.length_nil]; omega, by simp, h1⟩, rfl, by simp only; omega, rfl, rfl, rfl⟩, fun x hx => bif_mk (fun hp => ?_) (fun hp => ?_)⟩
 ·have hp := of_decide_eq_true hp
  have hn := hx.hn
  have hl := hx.hl
  refine ⟨x.l, rfl, by omega, by omega, fun r l1 hr h1 => ⟨l1, rfl, by omega, by omega, fun r2 l2 hr2 h2 => ⟨l2, rfl, by omega, by omega, fun r3 l3 hr3 h3 => ⟨a, [r, r2, r3], rfl, rfl, ⟨hc.1, by simp⟩, fun qs _ hq => ⟨by omega, ⟨x.w ++ [qs], l3, x.n⟩, ⟨⟨by simp only [List.length_append, List.length_singleton]; omega, fun q hq' => ?_, by simp only; omega⟩, by simp only [List.length_append, List.length_singleton]; omega⟩, by simp, rfl, by rw [w64 (by omega)]; simp, rfl, .inl (wN_snoc _ _ _)⟩⟩⟩⟩⟩
  rcases List.mem_append.1 hq' with h | h
  ·exact hx.len q h
  ·rw [List.mem_singleton.1 h]; exact hq
 ·have hp := of_decide_eq_false hp
  have hn := hx.hn
  rw [List.drop_zero, List.take_of_length_le (by simp [wN])]
  exact hK x.w (by omega) (by omega) hx.len
def c_kWay : Ctr := fun as0 => match as0 with
 | [.x true xs, .x false [.s 1 ys]] => some fun K => ∃ (a : ArmV) (l : List Int), xs = armCh a ∧ ys = ints l ∧ ((GoodArm a) ∧ (l.length ≤ 9223372036854775807)) ∧ (∀ w : List (List Rat), 1 ≤ w.length → w.length ≤ 5 → (∀ q ∈ w, q.length = a.links.length) → K (sW 63 w))
 | _ => none
theorem ok_kWay : CtrOK Tryd.prog tabG debT 11 c_kWay := by
 refine ⟨enters Tryd.func11 (by kernel_rfl), fun l T hT K hK => ?_⟩
 unfold c_kWay at hT
 split at hT
 ·cases hT
  obtain ⟨a, l, rfl, rfl, hc, hK⟩ := hK
  exact spec_ofL T105ok mixed Tryd.func11 (by kernel_rfl) (by kernel_rfl) (by rfl) (g_kWay _ _ hc K hK)
 ·cases hT
def L106 : List (Nat × Ctr) := (11, c_kWay) :: L105
def T106 : Tabs := mkT L106 M99 X4
theorem L106ok : CtrsOK Tryd.prog tabG debT L106 := .cons ok_kWay L105ok
theorem T106ok : TabsOK Tryd.prog tabG debT T106 := mkTok L106ok M99ok X4ok
def ot_kMeasures : OT := fun id => bif id.beq 3 then ([0, 1, 2, 3, 4, 5, 6, 7], [[], [0], [1, 0], [2, 1, 0], [2, 1, 0], [3, 2, 1, 0, 4], [2, 1, 0, 5, 3, 4], [6, 2, 1, 0, 5, 3, 4]]) else ([], [])
def goal_kMeasures  (K : AV → Prop) : Prop := goalL T106 ot_kMeasures noL Tryd.f38 [] K
theorem goal_kMeasures_vc (K : AV → Prop) : goal_kMeasures K = ((((-9223372036854775808:Int)<0∧(0:Int)<9223372036854775808)∧(0:Int)<1∧(1:Int)<9223372036854775808)∧(((-9223372036854775808:Int)<1∧(1:Int)<9223372036854775808)∧(0:Int)<1∧(1:Int)<9223372036854775808)∧∃(ns:List Int),[[Ch.v (Value.int IntKind.i64 3)]]=ints ns∧(ns.length≤3∧∀(n:Int),n ∈ ns→1≤n∧n≤1000)∧∃(a:ArmV),∃(n:Nat),∃(w:List (List Rat)),[Ch.v (Value.string (sampleV ns).name),Ch.r (sampleV ns).x 63,Ch.r (sampleV ns).y 63,Ch.v (Value.bool false),Ch.r (sampleV ns).t 63,Ch.s 16 (List.map linkCh (sampleV ns).links)]=[Ch.v (Value.string a.name),Ch.r a.x 63,Ch.r a.y 63,Ch.v (Value.bool a.half),Ch.r a.t 63,Ch.s 16 (List.map linkCh a.links)]∧[[Ch.s 3 [[Ch.r (mkRat 0 1) 63]]],[Ch.s 3 [[Ch.r (mkRat 1 1) 63]]],[Ch.s 3 [[Ch.r (mkRat 0 1) 63]]]]=wN n w∧(GoodArm a∧WayOK w a.links.length∧n≤100000)∧(((-9223372036854775808:Int)<2∧(2:Int)<9223372036854775808)∧(0:Int)<1∧(1:Int)<9223372036854775808)∧K (AV.x false [Ch.v (Value.bool (decide (meas w=mkRat 2 (Int.toNat 1))&&true))])) := by kernel_rfl
theorem g_kMeasures  (_hc : True) (K : AV → Prop) (hK : K (.x false [.v (.bool true)])) : Holds (goal_kMeasures  K) := by
 refine ⟨?_⟩
 rw [goal_kMeasures_vc]
 try simp only [Int.ofNat_eq_natCast, true_and, and_true, Nat.zero_add, Nat.le_refl, true_implies, true_or, or_true]
 have e : meas [[mkRat 0 1], [mkRat 1 1], [mkRat 0 1]] = mkRat 2 1 := by decide +kernel
 refine ⟨by omega, by omega, [3], rfl, ⟨by simp, by simp⟩, sampleV [3], 63, [[mkRat 0 1], [mkRat 1 1], [mkRat 0 1]], rfl, rfl, ⟨sample_good (by simp) (by simp), ⟨by simp, fun q hq => ?_, by simp [sampleV]⟩, by omega⟩, by omega, ?_⟩
 ·simp only [List.mem_cons, List.not_mem_nil, or_false] at hq
  rcases hq with rfl | rfl | rfl <;> rfl
 ·rw [e]
  simpa using hK
def c_kMeasures : Ctr := fun as0 => match as0 with
 | [] => some fun K => (True) ∧ (K (.x false [.v (.bool true)]))
 | _ => none
theorem ok_kMeasures : CtrOK Tryd.prog tabG debT 38 c_kMeasures := by
 refine ⟨enters Tryd.func38 (by kernel_rfl), fun l T hT K hK => ?_⟩
 unfold c_kMeasures at hT
 split at hT
 ·cases hT
  obtain ⟨hc, hK⟩ := hK
  exact spec_ofL T106ok mixed Tryd.func38 (by kernel_rfl) (by kernel_rfl) (by rfl) (g_kMeasures  hc K hK)
 ·cases hT
def L107 : List (Nat × Ctr) := (38, c_kMeasures) :: L106
def T107 : Tabs := mkT L107 M99 X4
theorem L107ok : CtrsOK Tryd.prog tabG debT L107 := .cons ok_kMeasures L106ok
theorem T107ok : TabsOK Tryd.prog tabG debT T107 := mkTok L107ok M99ok X4ok
def ot_shp : OT := fun _ => ([], [])
def goal_shp (l m : List Int) (K : AV → Prop) : Prop := goalL T107 ot_shp noL Tryd.f7 [.x false [.s 1 (ints l)], .x false [.s 1 (ints m)]] K
theorem goal_shp_vc (l : List Int) (m : List Int) (K : AV → Prop) : goal_shp l m K = ( True ∧ ∃ (l_1 : List Int), ints l = ints l_1 ∧ List.length l_1 ≤ (9223372036854775807 : Nat) ∧ ∀ (a : ArmV), Made a ∧ (1 : Nat) ≤ List.length (ArmV.links a) → ∃ (a_2 : ArmV), ∃ (l : List Int), [Ch.v (Value.string (ArmV.name a)), Ch.r (ArmV.x a) (63 : Nat), Ch.r (ArmV.y a) (63 : Nat), Ch.v (Value.bool (ArmV.half a)), Ch.r (ArmV.t a) (63 : Nat), Ch.s (16 : Nat) (List.map linkCh (ArmV.links a))] = [Ch.v (Value.string (ArmV.name a_2)), Ch.r (ArmV.x a_2) (63 : Nat), Ch.r (ArmV.y a_2) (63 : Nat), Ch.v (Value.bool (ArmV.half a_2)), Ch.r (ArmV.t a_2) (63 : Nat), Ch.s (16 : Nat) (List.map linkCh (ArmV.links a_2))] ∧ ints m = ints l ∧ (GoodArm a_2 ∧ List.length l ≤ (9223372036854775807 : Nat)) ∧ ∀ (w : List (List Rat)), (1 : Nat) ≤ List.length w → List.length w ≤ (5 : Nat) → (∀ (q : List Rat), q ∈ w → List.length q = List.length (ArmV.links a_2)) → ∃ (a_6 : ArmV), ∃ (n : Nat), ∃ (w_1 : List (List Rat)), [Ch.v (Value.string (ArmV.name a)), Ch.r (ArmV.x a) (63 : Nat), Ch.r (ArmV.y a) (63 : Nat), Ch.v (Value.bool (ArmV.half a)), Ch.r (ArmV.t a) (63 : Nat), Ch.s (16 : Nat) (List.map linkCh (ArmV.links a))] = [Ch.v (Value.string (ArmV.name a_6)), Ch.r (ArmV.x a_6) (63 : Nat), Ch.r (ArmV.y a_6) (63 : Nat), Ch.v (Value.bool (ArmV.half a_6)), Ch.r (ArmV.t a_6) (63 : Nat), Ch.s (16 : Nat) (List.map linkCh (ArmV.links a_6))] ∧ wN (63 : Nat) w = wN n w_1 ∧ (GoodArm a_6 ∧ WayOK w_1 (List.length (ArmV.links a_6)) ∧ n ≤ (100000 : Nat)) ∧ ∃ (a_7 : ArmV), ∃ (n_1 : Nat), ∃ (w_2 : List (List Rat)), [Ch.v (Value.string (ArmV.name a)), Ch.r (ArmV.x a) (63 : Nat), Ch.r (ArmV.y a) (63 : Nat), Ch.v (Value.bool (ArmV.half a)), Ch.r (ArmV.t a) (63 : Nat), Ch.s (16 : Nat) (List.map linkCh (ArmV.links a))] = [Ch.v (Value.string (ArmV.name a_7)), Ch.r (ArmV.x a_7) (63 : Nat), Ch.r (ArmV.y a_7) (63 : Nat), Ch.v (Value.bool (ArmV.half a_7)), Ch.r (ArmV.t a_7) (63 : Nat), Ch.s (16 : Nat) (List.map linkCh (ArmV.links a_7))] ∧ wN (n + (65 : Nat)) (plainV w_1) = wN n_1 w_2 ∧ (GoodArm a_7 ∧ WayOK w_2 (List.length (ArmV.links a_7)) ∧ n_1 ≤ (100000 : Nat)) ∧ ∃ (a_8 : ArmV), ∃ (n_2 : Nat), ∃ (w_3 : List (List Rat)), [Ch.v (Value.string (ArmV.name a)), Ch.r (ArmV.x a) (63 : Nat), Ch.r (ArmV.y a) (63 : Nat), Ch.v (Value.bool (ArmV.half a)), Ch.r (ArmV.t a) (63 : Nat), Ch.s (16 : Nat) (List.map linkCh (ArmV.links a))] = [Ch.v (Value.string (ArmV.name a_8)), Ch.r (ArmV.x a_8) (63 : Nat), Ch.r (ArmV.y a_8) (63 : Nat), Ch.v (Value.bool (ArmV.half a_8)), Ch.r (ArmV.t a_8) (63 : Nat), Ch.s (16 : Nat) (List.map linkCh (ArmV.links a_8))] ∧ wN (63 : Nat) w = wN n_2 w_3 ∧ (GoodArm a_8 ∧ WayOK w_3 (List.length (ArmV.links a_8)) ∧ n_2 ≤ (100000 : Nat)) ∧ ∃ (a_9 : ArmV), ∃ (n_3 : Nat), ∃ (w_4 : List (List Rat)), [Ch.v (Value.string (ArmV.name a)), Ch.r (ArmV.x a) (63 : Nat), Ch.r (ArmV.y a) (63 : Nat), Ch.v (Value.bool (ArmV.half a)), Ch.r (ArmV.t a) (63 : Nat), Ch.s (16 : Nat) (List.map linkCh (ArmV.links a))] = [Ch.v (Value.string (ArmV.name a_9)), Ch.r (ArmV.x a_9) (63 : Nat), Ch.r (ArmV.y a_9) (63 : Nat), Ch.v (Value.bool (ArmV.half a_9)), Ch.r (ArmV.t a_9) (63 : Nat), Ch.s (16 : Nat) (List.map linkCh (ArmV.links a_9))] ∧ wN (n + (65 : Nat)) (plainV w_1) = wN n_3 w_4 ∧ (GoodArm a_9 ∧ WayOK w_4 (List.length (ArmV.links a_9)) ∧ n_3 ≤ (100000 : Nat)) ∧ bif decide (meas w_3 = meas w_4) && true then bif decide (Int.ofNat (List.length (wN (n + (65 : Nat)) (plainV w_1))) ≤ Int.ofNat (List.length (wN (63 : Nat) w))) then ∃ (n_4 : Nat), ∃ (v : List (List Rat)), ∃ (m : Nat), ∃ (w : List (List Rat)), wN (n + (65 : Nat)) (plainV w_1) = wN n_4 v ∧ wN (n_1 + (65 : Nat)) (plainV w_2) = wN m w ∧ (15 : Nat) = (15 : Nat) ∧ (v = w ∧ List.length v ≤ (100000 : Nat) ∧ ∀ (k : List Rat), k ∈ v → List.length k ≤ (1000000 : Nat)) ∧ K (AV.x false [Ch.v (Value.bool true)]) else K (AV.x false [Ch.v (Value.bool false)]) else K (AV.x false [Ch.v (Value.bool false)])) := by kernel_rfl
theorem g_shp (l m : List Int) (hl : l.length ≤ 9223372036854775807) (hm : m.length ≤ 9223372036854775807) (K : AV → Prop) (hK : K (.x false [.v (.bool true)])) : Holds (goal_shp l m K) := by
 refine ⟨?_⟩
 rw [goal_shp_vc]
 simp only [Int.ofNat_eq_natCast, true_and]
 refine ⟨l, rfl, hl, fun a ha => ⟨a, m, rfl, rfl, ⟨MadeA.good ha, hm⟩, fun w hw1 hw2 hwl => ?_⟩⟩
 have hg := MadeA.good ha
 have hn := hg.n
 have ok : WayOK w a.links.length := ⟨by omega, hwl, hn⟩
 obtain ⟨ok2, hle⟩ := plainV_ok ok
 refine ⟨a, 63, w, rfl, rfl, ⟨hg, ok, by omega⟩, a, 128, plainV w, rfl, rfl, ⟨hg, ok2, by omega⟩, a, 63, w, rfl, rfl, ⟨hg, ok, by omega⟩, a, 128, plainV w, rfl, rfl, ⟨hg, ok2, by omega⟩, ?_⟩
 rw [plainV_meas hwl]
 refine bif_mk (fun _ => bif_mk (fun _ => ⟨128, plainV w, 193, plainV w, rfl, by rw [plainV_idem hwl], ⟨rfl, by have := ok2.n; omega, fun k hk => by rw [ok2.len k hk]; omega⟩, hK⟩) (fun h => ?_)) (fun h => by simp at h)
 simp [wN] at h
 omega
theorem spec_shp (l m : List Int) (hl : l.length ≤ 9223372036854775807) (hm : m.length ≤ 9223372036854775807) : Eng.Spec Tryd.prog tabG debT 7 [.x false [.s 1 (ints l)], .x false [.s 1 (ints m)]] (fun av => av = .x false [.v (.bool true)]) :=
 spec_ofL T107ok mixed Tryd.func7 (by kernel_rfl) (by kernel_rfl) (by rfl) (g_shp l m hl hm _ rfl)
end Go.Proofs
