/- Natural numbers: long division, plain facts. -/
import Derived.Test.YtagcmnmbgogljaaDoorN1
/- Natural numbers: long division, plain facts. -/
namespace Go.Proofs
open Go Go.Eng
theorem lead_le {B m : Nat} {l : List Nat} (hm : m ≤ l.length) : B ^ m * leNat B (l.drop m) ≤ leNat B l := by
 rw [leNat_take_drop (B := B) hm]; omega
theorem lead_lt {B m : Nat} {l : List Nat} (hd : Dig B l) (hm : m ≤ l.length) : leNat B l < B ^ m * (leNat B (l.drop m) + 1) := by
 have := leNat_lt (hd.take (i := m))
 rw [List.length_take, Nat.min_eq_left hm] at this
 conv => lhs; rw [leNat_take_drop (B := B) hm]
 rw [Nat.mul_add]; omega
theorem drop_one {l : List Nat} {m : Nat} (h : l.length = m + 1) : l.drop m = [l.getD m 0] := by
 rw [List.drop_eq_getElem_cons (by omega), List.drop_of_length_le (by omega)]
 simp [List.getD_eq_getElem?_getD, List.getElem?_eq_getElem (show m < l.length by omega)]
theorem drop_two {l : List Nat} {m : Nat} (h : l.length = m + 2) : l.drop m = [l.getD m 0, l.getD (m + 1) 0] := by
 rw [List.drop_eq_getElem_cons (by omega), drop_one (m := m + 1) h]
 simp [List.getD_eq_getElem?_getD, List.getElem?_eq_getElem (show m < l.length by omega)]
theorem drop_three {l : List Nat} {m : Nat} (h : l.length = m + 3) : l.drop m = [l.getD m 0, l.getD (m + 1) 0, l.getD (m + 2) 0] := by
 rw [List.drop_eq_getElem_cons (by omega), drop_two (m := m + 1) h]
 simp [List.getD_eq_getElem?_getD, List.getElem?_eq_getElem (show m < l.length by omega)]
theorem win_getD {us : List Nat} {o n i : Nat} (hi : i < n) : (win us o n).getD i 0 = us.getD (o + i) 0 := by
 simp only [win, List.getD_eq_getElem?_getD, List.getElem?_take, if_pos hi, List.getElem?_drop]
theorem leNat_spl {B : Nat} {us w : List Nat} {o : Nat} (h : o + w.length ≤ us.length) : leNat B (spl us o w) = leNat B (us.take o) + B ^ o * (leNat B w + B ^ w.length * leNat B (us.drop (o + w.length))) := by
 unfold spl
 rw [leNat_append, leNat_append, List.length_take, Nat.min_eq_left (by omega)]
theorem win_split {B : Nat} {us : List Nat} {o n : Nat} (h : o + n ≤ us.length) : leNat B us = leNat B (us.take o) + B ^ o * (leNat B (win us o n) + B ^ n * leNat B (us.drop (o + n))) := by
 have := leNat_spl (B := B) (us := us) (w := win us o n) (o := o) (by rw [win_len h]; exact h)
 rw [spl_win h, win_len h] at this
 exact this
/-- The digit of a quotient. -/
structure QD (B : Nat) (V W v1 v2 top u3 n2 : Nat) : Prop where
  v_lo : (v1 * B + v2) * B ^ n2 ≤ V
  v_hi : V < (v1 * B + v2 + 1) * B ^ n2
  w_lo : (top * B + u3) * B ^ n2 ≤ W
  w_hi : W < (top * B + u3 + 1) * B ^ n2
  v1_lo : 2147483648 ≤ v1
  v1_hi : v1 < B
  v2_hi : v2 < B
  u3_hi : u3 < B
  W_hi : W < V * B
  top_hi : top ≤ v1 * B + (B - 1)
theorem QD.pos {V W v1 v2 top u3 n2 : Nat} (h : QD 4294967296 V W v1 v2 top u3 n2) : 0 < V := by
 have := h.v_lo
 have h1 : 0 < (v1 * 4294967296 + v2) * 4294967296 ^ n2 := Nat.mul_pos (by have := h.v1_lo; omega) (Nat.pow_pos (by omega))
 omega
theorem QD.q_lt {V W v1 v2 top u3 n2 : Nat} (h : QD 4294967296 V W v1 v2 top u3 n2) : W / V < 4294967296 := by
 apply Nat.div_lt_of_lt_mul; exact h.W_hi
theorem QD.start {V W v1 v2 top u3 n2 : Nat} (h : QD 4294967296 V W v1 v2 top u3 n2) : W / V ≤ top / v1 := by
 refine guess_start (B := 4294967296) (V := V) (U := W) (n1 := n2 + 1) ?_ ?_ (Nat.div_mul_le_self _ _) (by have := h.v1_lo; omega)
 ·have := h.v_lo
  rw [Nat.pow_succ]
  rw [Nat.add_mul] at this
  have e : v1 * (4294967296 ^ n2 * 4294967296) = v1 * 4294967296 * 4294967296 ^ n2 := by grind
  omega
 ·have := h.w_hi
  rw [Nat.pow_succ]
  have e : (top + 1) * (4294967296 ^ n2 * 4294967296) = (top * 4294967296 + 4294967296) * 4294967296 ^ n2 := by grind
  rw [e]
  exact Nat.lt_of_lt_of_le this (Nat.mul_le_mul_right _ (by have := h.u3_hi; omega))
theorem QD.step {V W v1 v2 top u3 n2 d r : Nat} (h : QD 4294967296 V W v1 v2 top u3 n2) (hs : d * v1 + r = top) (hd : 4294967296 ≤ d ∨ r * 4294967296 + u3 < d * v2) : W / V < d := by
 rcases hd with hd | hd
 ·have := h.q_lt; omega
 ·exact guess_step (B := 4294967296) (V := V) (U := W) h.v_lo h.w_hi (Nat.div_mul_le_self _ _) hs hd
theorem QD.fin {V W v1 v2 top u3 n2 d r : Nat} (h : QD 4294967296 V W v1 v2 top u3 n2) (hs : d * v1 + r = top) (hd : d < 4294967296) (ht : d * v2 ≤ r * 4294967296 + u3) : d ≤ W / V + 1 := by
 have h1 := guess_end (B := 4294967296) (V := V) (U := W) (n2 := n2) h.v_hi h.w_lo hs ht (by have := h.v1_lo; omega)
 have := (Nat.le_div_iff_mul_le h.pos).2 h1
 omega
/-- A guess that is taken back by one is small enough, if its rest is not. -/
theorem QD.brk {V W v1 v2 top u3 n2 d r : Nat} (h : QD 4294967296 V W v1 v2 top u3 n2) (hs : d * v1 + r = top) (hr : 4294967296 ≤ r) : d < 4294967296 ∧ d * v2 ≤ r * 4294967296 + u3 := by
  have h1 := h.top_hi
  have hd : d < 4294967296 := by
    rcases Nat.lt_or_ge d 4294967296 with h' | h'
    · exact h'
    · have : 4294967296 * v1 ≤ d * v1 := Nat.mul_le_mul_right _ h'
      omega
  refine ⟨hd, ?_⟩
  have h2 := h.v2_hi
  have : d * v2 ≤ 4294967296 * 4294967296 := Nat.mul_le_mul (by omega) (by omega)
  have : 4294967296 * 4294967296 ≤ r * 4294967296 := Nat.mul_le_mul_right _ hr
  omega
end Go.Proofs
/- Natural numbers, eleventh part: long division, what is known on the way. -/
namespace Go.Proofs
open Go Go.Eng
structure LongC where
 xs : List Nat
 ys : List Nat
 s : Nat
def LongC.n (c : LongC) : Nat := c.ys.length
def LongC.Q (c : LongC) : Nat := c.xs.length + 1 - c.ys.length
def LongC.V (c : LongC) : Nat := leNat 4294967296 c.ys * 2 ^ c.s
def LongC.vs (c : LongC) : List Nat := fd 4294967296 (c.ys.length + 1) (leNat 4294967296 c.ys * 2 ^ c.s)
def LongC.U (c : LongC) : Nat := leNat 4294967296 c.xs * 2 ^ c.s
def LongC.v1 (c : LongC) : Nat := c.vs.getD (c.n - 1) 0
def LongC.v2 (c : LongC) : Nat := c.vs.getD (c.n - 2) 0
structure LongX where
 us : List Nat
 qs : List Nat
 j : Nat
structure LongI (c : LongC) (x : LongX) : Prop where
 du : Dig 4294967296 x.us
 lu : x.us.length = c.xs.length + 1
 dq : Dig 4294967296 x.qs
 lq : x.qs.length = c.Q
 hj : x.j ≤ c.Q
 sum : c.U = c.V * 4294967296 ^ x.j * leNat 4294967296 (x.qs.drop x.j) + leNat 4294967296 x.us
 lt : leNat 4294967296 x.us < c.V * 4294967296 ^ x.j
def LongX.W (c : LongC) (x : LongX) : Nat := leNat 4294967296 (win x.us (x.j - 1) (c.n + 1))
def LongX.top (c : LongC) (x : LongX) : Nat := x.us.getD (x.j - 1 + c.n) 0 * 4294967296 + x.us.getD (x.j - 1 + c.n - 1) 0
def LongX.u3 (c : LongC) (x : LongX) : Nat := x.us.getD (x.j - 1 + c.n - 2) 0
structure GuessI (c : LongC) (x : LongX) (d r : Nat) : Prop where
 main : LongI c x
 jp : 0 < x.j
 sum : d * c.v1 + r = x.top c
 ge : x.W c / c.V ≤ d
 rlt : r < 4294967296
def longT (c : LongC) (j : Nat) : List (Nat × AV) := [(4, wA 36 c.Q), (6, iA .i64 c.s), (7, iA .i64 c.n), (8, wA 26 (c.xs.length + 1)), (9, wA 29 c.n), (10, iA .i64 ((j : Int) - 1))]
def longH (c : LongC) (us qs : List Nat) : List (Nat × Blk) := [(1000, rowW c.xs), (1001, rowW c.ys), (26, rowW us), (29, rowW c.vs), (36, rowW qs)]
structure ShiftI (c : LongC) (us : List Nat) (x : List Nat × Nat) : Prop where
 dw : Dig 4294967296 x.1
 lw : x.1.length = c.xs.length + 1
 hi : x.2 ≤ c.n
 rest : x.1.drop x.2 = us.drop x.2
 inv : leNat 4294967296 (x.1.take x.2) * 2 ^ c.s + us.getD 0 0 % 2 ^ c.s = leNat 4294967296 (us.take x.2) + 4294967296 ^ x.2 * (us.getD x.2 0 % 2 ^ c.s)
structure DoneI (c : LongC) (x : LongX) : Prop where
 main : LongI c x
 j0 : x.j = 0
structure ShiftX where
 x : LongX
 wd : List Nat
 i : Nat
structure ShiftJ (c : LongC) (y : ShiftX) : Prop where
 main : DoneI c y.x
 sh : ShiftI c y.x.us (y.wd, y.i)
def inv_long (c : LongC) : LI := fun id => bif id.beq 6 then .inv ⟨LongX, fun x => ⟨longT c x.j, longH c x.us x.qs⟩, LongI c, fun x => x.j, fun _ => 0⟩
 else bif id.beq 10 then .inv ⟨LongX × Nat × Nat, fun x => ⟨(12, iA .u64 x.2.1) :: (13, iA .u64 x.2.2) :: longT c x.1.j, longH c x.1.us x.1.qs⟩, fun x => GuessI c x.1 x.2.1 x.2.2, fun x => x.2.1, fun x => x.1.j⟩
 else bif id.beq 14 then .cut ⟨LongX × Nat, fun x => ⟨(12, iA .u64 x.2) :: longT c x.1.j, longH c x.1.us x.1.qs⟩, fun x => LongI c x.1 ∧ 0 < x.1.j ∧ x.2 < 4294967296 ∧ x.1.W c / c.V ≤ x.2 ∧ x.2 ≤ x.1.W c / c.V + 1, fun _ => 0, fun x => x.1.j⟩
 else bif id.beq 17 then .cut ⟨LongX, fun x => ⟨(12, iA .u64 (x.W c / c.V : Nat)) :: longT c x.j, longH c (spl x.us (x.j - 1) (fd 4294967296 (c.n + 1) (x.W c % c.V))) x.qs⟩, fun x => LongI c x ∧ 0 < x.j, fun _ => 0, fun x => x.j⟩
 else .inv ⟨ShiftX, fun y => ⟨[(4, wA 36 c.Q), (5, wA 26 c.n), (6, iA .i64 c.s), (7, iA .i64 c.n), (8, wA 26 (c.xs.length + 1)), (145, iA .i64 c.n), (146, iA .i64 y.i)], [(1000, rowW c.xs), (1001, rowW c.ys), (26, rowW y.wd), (36, rowW y.x.qs)]⟩, ShiftJ c, fun y => c.n - y.i, fun _ => 0⟩
/-- What is asked. -/
structure LongH (c : LongC) : Prop where
  dx : Dig 4294967296 c.xs
  dy : Dig 4294967296 c.ys
  n2 : 2 ≤ c.ys.length
  nx : c.ys.length ≤ c.xs.length
  lx : c.xs.length ≤ 1099511627776
  s32 : c.s < 32
  lo : 2147483648 ≤ c.ys.getD (c.ys.length - 1) 0 * 2 ^ c.s
  hi : c.ys.getD (c.ys.length - 1) 0 * 2 ^ c.s < 4294967296
variable {c : LongC}
theorem LongH.pow (h : LongH c) : ∃ p q, 2 ^ c.s = p ∧ 2 ^ (32 - c.s) = q ∧ p * q = 4294967296 ∧ 0 < p ∧ 0 < q := by
 have := h.s32
 exact ⟨_, _, rfl, rfl, by rw [← Nat.pow_add, show c.s + (32 - c.s) = 32 by omega], Nat.pow_pos (by omega), Nat.pow_pos (by omega)⟩
theorem LongH.top (h : LongH c) : c.V < 4294967296 ^ c.n ∧ 2147483648 * 4294967296 ^ (c.n - 1) ≤ c.V := by
 have hn := h.n2
 have d1 := drop_one (l := c.ys) (m := c.ys.length - 1) (by omega)
 have l1 := lead_le (B := 4294967296) (l := c.ys) (m := c.ys.length - 1) (by omega)
 have l2 := lead_lt (l := c.ys) (m := c.ys.length - 1) h.dy (by omega)
 rw [d1] at l1 l2
 simp only [leNat, Nat.mul_zero, Nat.add_zero] at l1 l2
 have lo := h.lo
 have hi := h.hi
 obtain ⟨p, q, hp, hq, hpq, hp0, hq0⟩ := h.pow
 rw [hp] at lo hi
 unfold LongC.V LongC.n
 rw [hp]
 generalize c.ys.getD (c.ys.length - 1) 0 = t at lo hi l1 l2
 have e : (4294967296 : Nat) ^ c.ys.length = 4294967296 ^ (c.ys.length - 1) * 4294967296 := by rw [← Nat.pow_succ]; congr 1; omega
 rw [e]
 generalize (4294967296 : Nat) ^ (c.ys.length - 1) = m at l1 l2
 have ht : (t + 1) * p ≤ 4294967296 := by
  have : t < q := by
   rw [← hpq, Nat.mul_comm p q] at hi
   exact Nat.lt_of_mul_lt_mul_right hi
  rw [← hpq, Nat.mul_comm p q]
  exact Nat.mul_le_mul_right _ this
 constructor
 ·have h1 : leNat 4294967296 c.ys * p < m * (t + 1) * p := Nat.mul_lt_mul_of_pos_right l2 hp0
  have h2 : m * (t + 1) * p ≤ m * 4294967296 := by rw [Nat.mul_assoc]; exact Nat.mul_le_mul_left _ ht
  omega
 ·have h1 : m * t * p ≤ leNat 4294967296 c.ys * p := Nat.mul_le_mul_right _ l1
  have h2 : 2147483648 * m ≤ m * t * p := by rw [Nat.mul_assoc, Nat.mul_comm]; exact Nat.mul_le_mul_left _ lo
  omega
theorem LongH.vs (h : LongH c) : Dig 4294967296 c.vs ∧ c.vs.length = c.n + 1 ∧ leNat 4294967296 (c.vs.take c.n) = c.V := by
 have hlt := h.top.1
 have h1 : c.V < 4294967296 ^ (c.n + 1) := Nat.lt_of_lt_of_le hlt (Nat.pow_le_pow_right (by omega) (by omega))
 have hl : c.vs.length = c.n + 1 := fd_len
 have hv : leNat 4294967296 c.vs = c.V := leNat_fd h1
 refine ⟨Dig.fd (by omega), hl, ?_⟩
 have d1 := drop_one (l := c.vs) (m := c.n) hl
 have sp := leNat_take_drop (B := 4294967296) (l := c.vs) (i := c.n) (by omega)
 rw [d1, hv] at sp
 simp only [leNat, Nat.mul_zero, Nat.add_zero] at sp
 have : c.vs.getD c.n 0 = 0 := by
  rcases Nat.eq_zero_or_pos (c.vs.getD c.n 0) with h' | h'
  ·exact h'
  ·have : 4294967296 ^ c.n * 1 ≤ 4294967296 ^ c.n * c.vs.getD c.n 0 := Nat.mul_le_mul_left _ h'
   omega
 rw [this] at sp
 omega
theorem LongH.pos (h : LongH c) : 0 < c.V := by
 have := h.top.2
 have h1 : 0 < 2147483648 * 4294967296 ^ (c.n - 1) := Nat.mul_pos (by omega) (Nat.pow_pos (by omega))
 omega
theorem LongI.W_lt (hc : LongH c) {x : LongX} (h : LongI c x) (hj : 0 < x.j) : x.W c < c.V * 4294967296 ∧ leNat 4294967296 (x.us.drop (x.j - 1 + (c.n + 1))) = 0 := by
 have hlu := h.lu
 have hjq := h.hj
 have hn := hc.n2
 have hnx := hc.nx
 have ho : x.j - 1 + (c.n + 1) ≤ x.us.length := by unfold LongC.Q at hjq; unfold LongC.n; omega
 have sp := win_split (B := 4294967296) ho
 have lt := h.lt
 have hj' : 4294967296 ^ x.j = 4294967296 ^ (x.j - 1) * 4294967296 := by rw [← Nat.pow_succ]; congr 1; omega
 rw [hj'] at lt
 show leNat 4294967296 (win x.us (x.j - 1) (c.n + 1)) < _ ∧ _
 generalize (4294967296 : Nat) ^ (x.j - 1) = m at sp lt
 have hm : leNat 4294967296 x.us < m * (c.V * 4294967296) := by
  have : c.V * (m * 4294967296) = m * (c.V * 4294967296) := by grind
  omega
 have h1 : leNat 4294967296 (win x.us (x.j - 1) (c.n + 1)) + 4294967296 ^ (c.n + 1) * leNat 4294967296 (x.us.drop (x.j - 1 + (c.n + 1))) < c.V * 4294967296 := by
  have : m * (leNat 4294967296 (win x.us (x.j - 1) (c.n + 1)) + 4294967296 ^ (c.n + 1) * leNat 4294967296 (x.us.drop (x.j - 1 + (c.n + 1)))) < m * (c.V * 4294967296) := by omega
  exact Nat.lt_of_mul_lt_mul_left this
 refine ⟨by omega, ?_⟩
 rcases Nat.eq_zero_or_pos (leNat 4294967296 (x.us.drop (x.j - 1 + (c.n + 1)))) with h' | h'
 ·exact h'
 ·have h2 : 4294967296 ^ (c.n + 1) * 1 ≤ 4294967296 ^ (c.n + 1) * leNat 4294967296 (x.us.drop (x.j - 1 + (c.n + 1))) := Nat.mul_le_mul_left _ h'
  have h3 : c.V * 4294967296 < 4294967296 ^ (c.n + 1) := by rw [Nat.pow_succ]; exact Nat.mul_lt_mul_of_pos_right hc.top.1 (by omega)
  omega
theorem LongI.qd (hc : LongH c) {x : LongX} (h : LongI c x) (hj : 0 < x.j) : QD 4294967296 c.V (x.W c) c.v1 c.v2 (x.top c) (x.u3 c) (c.n - 2) := by
 have hlu := h.lu
 have hjq := h.hj
 have hn : 2 ≤ c.n := hc.n2
 have hnx := hc.nx
 have ho : x.j - 1 + (c.n + 1) ≤ x.us.length := by unfold LongC.Q at hjq; unfold LongC.n; omega
 obtain ⟨dv, lv, vv⟩ := hc.vs
 have hB : (0 : Nat) < 4294967296 := by omega
 -- the divisor
 have lvt : (c.vs.take c.n).length = c.n := by simp; omega
 have d2 := drop_two (l := c.vs.take c.n) (m := c.n - 2) (by omega)
 have g1 : (c.vs.take c.n).getD (c.n - 2) 0 = c.v2 := by unfold LongC.v2; simp only [List.getD_eq_getElem?_getD, List.getElem?_take]; rw [if_pos (by omega)]
 have g2 : (c.vs.take c.n).getD (c.n - 2 + 1) 0 = c.v1 := by unfold LongC.v1; simp only [List.getD_eq_getElem?_getD, List.getElem?_take]; rw [if_pos (by omega), show c.n - 2 + 1 = c.n - 1 by omega]
 have l1 := lead_le (B := 4294967296) (l := c.vs.take c.n) (m := c.n - 2) (by omega)
 have l2 := lead_lt (l := c.vs.take c.n) (m := c.n - 2) dv.take (by omega)
 rw [d2, g1, g2, vv] at l1 l2
 simp only [leNat, Nat.mul_zero, Nat.add_zero] at l1 l2
 -- the window
 have lw := win_len ho
 have dw : Dig 4294967296 (win x.us (x.j - 1) (c.n + 1)) := dig_win h.du
 have d3 := drop_three (l := win x.us (x.j - 1) (c.n + 1)) (m := c.n - 2) (by omega)
 rw [win_getD (by omega), win_getD (by omega), win_getD (by omega)] at d3
 have k1 := lead_le (B := 4294967296) (l := win x.us (x.j - 1) (c.n + 1)) (m := c.n - 2) (by omega)
 have k2 := lead_lt (l := win x.us (x.j - 1) (c.n + 1)) (m := c.n - 2) dw (by omega)
 rw [d3] at k1 k2
 simp only [leNat, Nat.mul_zero, Nat.add_zero] at k1 k2
 have e1 : x.top c = x.us.getD (x.j - 1 + (c.n - 2) + 2) 0 * 4294967296 + x.us.getD (x.j - 1 + (c.n - 2) + 1) 0 := by
  unfold LongX.top
  rw [show x.j - 1 + c.n - 1 = x.j - 1 + (c.n - 2) + 1 by omega, show x.j - 1 + c.n = x.j - 1 + (c.n - 2) + 2 by omega]
 have e2 : x.u3 c = x.us.getD (x.j - 1 + (c.n - 2)) 0 := by
  unfold LongX.u3; rw [show x.j - 1 + c.n - 2 = x.j - 1 + (c.n - 2) by omega]
 have b1 := h.du.getD (i := x.j - 1 + (c.n - 2)) hB
 have b2 := h.du.getD (i := x.j - 1 + (c.n - 2) + 1) hB
 have W1 := (h.W_lt hc hj).1
 have hW : leNat 4294967296 (win x.us (x.j - 1) (c.n + 1)) = x.W c := rfl
 rw [hW] at k1 k2
 have a1 : x.j - 1 + (c.n - 2 + 1) = x.j - 1 + (c.n - 2) + 1 := rfl
 have a2 : x.j - 1 + (c.n - 2 + 2) = x.j - 1 + (c.n - 2) + 2 := rfl
 rw [a1, a2] at k1 k2
 have v1lo : 2147483648 ≤ c.v1 := by
  have ht := hc.top.2
  have e : (4294967296 : Nat) ^ (c.n - 1) = 4294967296 ^ (c.n - 2) * 4294967296 := by rw [← Nat.pow_succ]; congr 1; omega
  rw [e] at ht
  have h3 : 4294967296 ^ (c.n - 2) * (2147483648 * 4294967296) < 4294967296 ^ (c.n - 2) * (c.v2 + 4294967296 * c.v1 + 1) := by
   have : 2147483648 * (4294967296 ^ (c.n - 2) * 4294967296) = 4294967296 ^ (c.n - 2) * (2147483648 * 4294967296) := by grind
   omega
  have h4 := Nat.lt_of_mul_lt_mul_left h3
  have : c.v2 < 4294967296 := dv.getD hB
  omega
 have v2hi : c.v2 < 4294967296 := dv.getD hB
 have v1hi : c.v1 < 4294967296 := dv.getD hB
 rw [Nat.mul_comm] at l1 l2 k1 k2
 generalize x.us.getD (x.j - 1 + (c.n - 2) + 2) 0 = w3 at e1 k1 k2
 generalize x.us.getD (x.j - 1 + (c.n - 2) + 1) 0 = w2 at e1 k1 k2 b2
 generalize x.us.getD (x.j - 1 + (c.n - 2)) 0 = w1 at e2 k1 k2 b1
 rw [e1, e2]
 have m1 : (w3 * 4294967296 + w2) * 4294967296 + w1 = w1 + 4294967296 * (w2 + 4294967296 * w3) := by omega
 have m2 : c.v1 * 4294967296 + c.v2 = c.v2 + 4294967296 * c.v1 := by rw [Nat.add_comm, Nat.mul_comm]
 refine ⟨by rw [m2]; exact l1, by rw [m2]; exact l2, by rw [m1]; exact k1, by rw [m1]; exact k2, v1lo, v1hi, v2hi, b1, W1, ?_⟩
 -- the first digit
 have h5 : (w1 + 4294967296 * (w2 + 4294967296 * w3)) * 4294967296 ^ (c.n - 2) < (c.v2 + 4294967296 * c.v1 + 1) * 4294967296 ^ (c.n - 2) * 4294967296 := by
  have : c.V * 4294967296 < (c.v2 + 4294967296 * c.v1 + 1) * 4294967296 ^ (c.n - 2) * 4294967296 := Nat.mul_lt_mul_of_pos_right l2 (by omega)
  omega
 have h6 : (w1 + 4294967296 * (w2 + 4294967296 * w3)) < (c.v2 + 4294967296 * c.v1 + 1) * 4294967296 := by
  have : (c.v2 + 4294967296 * c.v1 + 1) * 4294967296 ^ (c.n - 2) * 4294967296 = (c.v2 + 4294967296 * c.v1 + 1) * 4294967296 * 4294967296 ^ (c.n - 2) := by grind
  rw [this] at h5
  exact Nat.lt_of_mul_lt_mul_right h5
 omega
theorem LongI.init (hc : LongH c) : LongI c ⟨fd 4294967296 (c.xs.length + 1) (leNat 4294967296 c.xs * 2 ^ c.s), List.replicate c.Q 0, c.Q⟩ := by
 obtain ⟨p, q, hp, hq, hpq, hp0, hq0⟩ := hc.pow
 have hx := leNat_lt hc.dx
 have hple : p ≤ 4294967296 := by rw [← hpq]; exact Nat.le_mul_of_pos_right _ hq0
 have hlt : leNat 4294967296 c.xs * 2 ^ c.s < 4294967296 ^ (c.xs.length + 1) := by
  rw [hp, Nat.pow_succ]
  exact Nat.lt_of_lt_of_le (Nat.mul_lt_mul_of_pos_right hx hp0) (Nat.mul_le_mul_left _ hple)
 have hv : leNat 4294967296 (fd 4294967296 (c.xs.length + 1) (leNat 4294967296 c.xs * 2 ^ c.s)) = c.U := leNat_fd hlt
 refine ⟨Dig.fd (by omega), fd_len, Dig.zeros (by omega), by simp, Nat.le_refl _, ?_, ?_⟩
 ·simp only
  rw [hv, List.drop_of_length_le (by simp)]
  simp [leNat]
 ·simp only
  rw [hv]
  have ht := hc.top.2
  have hnx := hc.nx
  have hn := hc.n2
  have e : (4294967296 : Nat) ^ (c.xs.length + 1) = 4294967296 ^ (c.n - 1) * 4294967296 ^ c.Q * 4294967296 := by
   rw [← Nat.pow_add, ← Nat.pow_succ]; congr 1; unfold LongC.n LongC.Q; omega
  have hU : c.U < 4294967296 ^ c.xs.length * p := by
   show leNat 4294967296 c.xs * 2 ^ c.s < _
   rw [hp]; exact Nat.mul_lt_mul_of_pos_right hx hp0
  have hp31 : p ≤ 2147483648 := by
   rw [← hp]
   exact Nat.pow_le_pow_right (by omega) (show c.s ≤ 31 by have := hc.s32; omega)
  have e2 : (4294967296 : Nat) ^ c.xs.length = 4294967296 ^ (c.n - 1) * 4294967296 ^ c.Q := by
   rw [← Nat.pow_add]; congr 1; unfold LongC.n LongC.Q; omega
  have h3 : 2147483648 * 4294967296 ^ (c.n - 1) * 4294967296 ^ c.Q ≤ c.V * 4294967296 ^ c.Q := Nat.mul_le_mul_right _ ht
  have h4 : 4294967296 ^ c.xs.length * p ≤ 4294967296 ^ (c.n - 1) * 4294967296 ^ c.Q * 2147483648 := by rw [e2]; exact Nat.mul_le_mul_left _ hp31
  have h5 : 2147483648 * 4294967296 ^ (c.n - 1) * 4294967296 ^ c.Q = 4294967296 ^ (c.n - 1) * 4294967296 ^ c.Q * 2147483648 := by grind
  omega
theorem next_sum {U V m B q t w d r : Nat} (h : U = V * (m * B) * q + (t + m * w)) (hw : V * d + r = w) : U = V * m * (d + B * q) + (t + m * r) := by
 subst hw; grind
theorem sum_gen {U V P Q S m B t W : Nat} (h0 : U = V * P * Q + S) (e : P = m * B) (v0 : S = t + m * W) : U = V * (m * B) * Q + (t + m * W) := by
 subst e v0; exact h0
theorem leNat_cons (B d : Nat) (l : List Nat) : leNat B (d :: l) = d + B * leNat B l := rfl
theorem next_lt {V m t r : Nat} (ht : t < m) (hr : r < V) : t + m * r < V * m := by
 have h1 : m * (r + 1) ≤ m * V := Nat.mul_le_mul_left _ hr
 rw [Nat.mul_add, Nat.mul_one] at h1
 rw [Nat.mul_comm V]
 omega
theorem zsplit {S t m w p z : Nat} (h : S = t + m * (w + p * z)) (hz : z = 0) : S = t + m * w := by
 subst hz; rw [Nat.mul_zero, Nat.add_zero] at h; exact h
theorem LongI.split (hc : LongH c) {x : LongX} (h : LongI c x) (hj : 0 < x.j) : leNat 4294967296 x.us = leNat 4294967296 (x.us.take (x.j - 1)) + 4294967296 ^ (x.j - 1) * x.W c := by
 have hlu := h.lu
 have hjq := h.hj
 have hn : 2 ≤ c.n := hc.n2
 have hnx := hc.nx
 have ho : x.j - 1 + (c.n + 1) ≤ x.us.length := by unfold LongC.Q at hjq; unfold LongC.n; omega
 obtain ⟨_, hz⟩ := h.W_lt hc hj
 exact zsplit (win_split (B := 4294967296) ho) hz
theorem LongI.next (hc : LongH c) {x : LongX} (h : LongI c x) (hj : 0 < x.j) : LongI c ⟨spl x.us (x.j - 1) (fd 4294967296 (c.n + 1) (x.W c % c.V)), x.qs.set (x.j - 1) (x.W c / c.V), x.j - 1⟩ := by
 have hlu := h.lu
 have hjq := h.hj
 have hn : 2 ≤ c.n := hc.n2
 have hnx := hc.nx
 have ho : x.j - 1 + (c.n + 1) ≤ x.us.length := by unfold LongC.Q at hjq; unfold LongC.n; omega
 have hq := (h.qd hc hj).q_lt
 obtain ⟨_, hz⟩ := h.W_lt hc hj
 have hVp := hc.pos
 have hmod : x.W c % c.V < c.V := Nat.mod_lt _ hVp
 have hmlt : x.W c % c.V < 4294967296 ^ (c.n + 1) := Nat.lt_trans hmod (Nat.lt_of_lt_of_le hc.top.1 (Nat.pow_le_pow_right (by omega) (by omega)))
 have lf : (fd 4294967296 (c.n + 1) (x.W c % c.V)).length = c.n + 1 := fd_len
 have vf : leNat 4294967296 (fd 4294967296 (c.n + 1) (x.W c % c.V)) = x.W c % c.V := leNat_fd hmlt
 have lsp : (spl x.us (x.j - 1) (fd 4294967296 (c.n + 1) (x.W c % c.V))).length = x.us.length := spl_len (by rw [lf]; exact ho)
 have v1 := leNat_spl (B := 4294967296) (us := x.us) (w := fd 4294967296 (c.n + 1) (x.W c % c.V)) (o := x.j - 1) (by rw [lf]; exact ho)
 rw [lf, vf] at v1
 replace v1 := zsplit v1 hz
 have v0 := h.split hc hj
 have lt0 := leNat_lt (h.du.take (i := x.j - 1))
 rw [List.length_take, Nat.min_eq_left (by omega)] at lt0
 have lq := h.lq
 have gq : (x.qs.set (x.j - 1) (x.W c / c.V)).drop (x.j - 1) = x.W c / c.V :: x.qs.drop x.j := by
  rw [List.drop_eq_getElem_cons (by simp; omega), List.getElem_set_self, List.drop_set_of_lt (by omega), show x.j - 1 + 1 = x.j by omega]
 have hdm := Nat.div_add_mod (x.W c) c.V
 have e1 : leNat 4294967296 ((x.qs.set (x.j - 1) (x.W c / c.V)).drop (x.j - 1)) = x.W c / c.V + 4294967296 * leNat 4294967296 (x.qs.drop x.j) := (congrArg (leNat 4294967296) gq).trans (leNat_cons _ _ _)
 have e : (4294967296 : Nat) ^ x.j = 4294967296 ^ (x.j - 1) * 4294967296 := by rw [← Nat.pow_succ]; congr 1; omega
 have hsum := sum_gen h.sum e v0
 have hdig : Dig 4294967296 (spl x.us (x.j - 1) (fd 4294967296 (c.n + 1) (x.W c % c.V))) := by
  simp only [spl]
  exact h.du.take.append ((Dig.fd (by omega)).append h.du.drop)
 exact ⟨hdig, lsp.trans hlu, h.dq.set hq, by simpa using lq, Nat.le_trans (Nat.sub_le _ _) hjq,
  (next_sum hsum hdm).trans (congr (congrArg HAdd.hAdd (congrArg (c.V * 4294967296 ^ (x.j - 1) * ·) e1.symm)) v1.symm), Nat.lt_of_le_of_lt (Nat.le_of_eq v1) (next_lt lt0 hmod)⟩
theorem DoneI.res (hc : LongH c) {x : LongX} (h : DoneI c x) : leNat 4294967296 x.qs = leNat 4294967296 c.xs / leNat 4294967296 c.ys ∧ leNat 4294967296 x.us / 2 ^ c.s = leNat 4294967296 c.xs % leNat 4294967296 c.ys ∧ leNat 4294967296 x.us < c.V := by
 obtain ⟨hm, hj⟩ := h
 have hs := hm.sum
 have hl := hm.lt
 rw [hj, Nat.pow_zero, Nat.mul_one] at hs hl
 simp only [List.drop_zero] at hs
 have hVp := hc.pos
 obtain ⟨p, q, hp, hq, hpq, hp0, hq0⟩ := hc.pow
 unfold LongC.U at hs
 have hV : c.V = leNat 4294967296 c.ys * p := by unfold LongC.V; rw [hp]
 rw [hp] at hs ⊢
 generalize leNat 4294967296 c.xs = X at hs ⊢
 have hY : 0 < leNat 4294967296 c.ys := by
  rcases Nat.eq_zero_or_pos (leNat 4294967296 c.ys) with h' | h'
  ·rw [h', Nat.zero_mul] at hV; omega
  ·exact h'
 have e1 : leNat 4294967296 x.qs = X * p / c.V := by
  rw [hs, Nat.mul_comm, Nat.add_comm, Nat.add_mul_div_right _ _ hVp, Nat.div_eq_of_lt hl, Nat.zero_add]
 have e2 : leNat 4294967296 x.us = X * p % c.V := by
  rw [hs, Nat.mul_comm, Nat.add_comm, Nat.add_mul_mod_self_right, Nat.mod_eq_of_lt hl]
 refine ⟨?_, ?_, hl⟩
 ·rw [e1, hV, Nat.mul_div_mul_right _ _ hp0]
 ·rw [e2, hV, Nat.mul_mod_mul_right, Nat.mul_div_cancel _ hp0]
theorem ShiftI.init (_hc : LongH c) {x : LongX} (h : LongI c x) : ShiftI c x.us (x.us, 0) :=
 ⟨h.du, h.lu, by simp, rfl, by simp [leNat]⟩
theorem ShiftI.step (hc : LongH c) {us : List Nat} (du : Dig 4294967296 us) (lu : us.length = c.xs.length + 1) {wd : List Nat} {i : Nat} (h : ShiftI c us (wd, i)) (hi : i < c.n) : ShiftI c us (wd.set i (us.getD i 0 / 2 ^ c.s + us.getD (i + 1) 0 % 2 ^ c.s * 2 ^ (32 - c.s)), i + 1) := by
 obtain ⟨dw, lw, _, rest, inv⟩ := h
 simp only at dw lw rest inv
 have hnx := hc.nx
 obtain ⟨p, q, hp, hq, hpq, hp0, hq0⟩ := hc.pow
 have b1 := du.getD (i := i) (by omega)
 have hil : i < us.length := by unfold LongC.n at hi; omega
 have gu : us[i]? = some (us.getD i 0) := by rw [List.getD_eq_getElem?_getD, List.getElem?_eq_getElem hil]; rfl
 rw [hp] at inv ⊢
 rw [hq]
 have h1 : us.getD i 0 / p < q := by
  apply Nat.div_lt_of_lt_mul; rw [hpq]; exact b1
 have h2 : us.getD (i + 1) 0 % p < p := Nat.mod_lt _ hp0
 have hv : us.getD i 0 / p + us.getD (i + 1) 0 % p * q < 4294967296 := by
  have : (us.getD (i + 1) 0 % p + 1) * q ≤ p * q := Nat.mul_le_mul_right _ h2
  rw [hpq, Nat.add_mul, Nat.one_mul] at this
  omega
 have gz : (wd.set i (us.getD i 0 / p + us.getD (i + 1) 0 % p * q))[i]? = some (us.getD i 0 / p + us.getD (i + 1) 0 % p * q) := by rw [List.getElem?_set]; simp; omega
 refine ⟨dw.set hv, by simpa using lw, hi, ?_, ?_⟩
 ·simp only
  rw [List.drop_set_of_lt (by omega)]
  have := congrArg (List.drop 1) rest
  rwa [List.drop_drop, List.drop_drop] at this
 ·simp only
  rw [hp, leNat_take_succ gz, take_set_eq, leNat_take_succ gu, Nat.pow_succ, Nat.add_mul]
  generalize us.getD i 0 = u at inv b1 h1 ⊢
  generalize us.getD (i + 1) 0 = u' at h2 ⊢
  generalize (4294967296 : Nat) ^ i = m at inv ⊢
  have e1 : (u / p + u' % p * q) * p = (u - u % p) + u' % p * 4294967296 := by
   rw [Nat.add_mul, Nat.mul_assoc, Nat.mul_comm q p, hpq]
   have := Nat.div_add_mod u p
   rw [Nat.mul_comm] at this
   omega
  have hle : u % p ≤ u := Nat.mod_le _ _
  have e2 : m * (u / p + u' % p * q) * p = m * (u - u % p) + m * 4294967296 * (u' % p) := by
   rw [Nat.mul_assoc, e1, Nat.mul_add, Nat.mul_assoc, Nat.mul_comm 4294967296]
  have e3 : m * (u - u % p) + m * (u % p) = m * u := by rw [← Nat.mul_add]; congr 1; omega
  omega
theorem ShiftI.fin (hc : LongH c) {x : LongX} (hx : DoneI c x) {wd : List Nat} (h : ShiftI c x.us (wd, c.n)) : wd = fd 4294967296 (c.xs.length + 1) (leNat 4294967296 c.xs % leNat 4294967296 c.ys) := by
 obtain ⟨r1, r2, r3⟩ := hx.res hc
 obtain ⟨dw, lw, _, rest, inv⟩ := h
 simp only at dw lw rest inv
 have hnx := hc.nx
 have hlu := hx.main.lu
 have hVn := hc.top.1
 obtain ⟨p, q, hp, hq, hpq, hp0, hq0⟩ := hc.pow
 have hnl : c.n ≤ x.us.length := by unfold LongC.n; omega
 have sp := leNat_take_drop (B := 4294967296) (l := x.us) (i := c.n) hnl
 have hz : leNat 4294967296 (x.us.drop c.n) = 0 := by
  rcases Nat.eq_zero_or_pos (leNat 4294967296 (x.us.drop c.n)) with h' | h'
  ·exact h'
  ·have : 4294967296 ^ c.n * 1 ≤ 4294967296 ^ c.n * leNat 4294967296 (x.us.drop c.n) := Nat.mul_le_mul_left _ h'
   omega
 rw [hz, Nat.mul_zero, Nat.add_zero] at sp
 have hun : x.us.getD c.n 0 = 0 := by
  cases hg : x.us[c.n]? with
  | none => simp [List.getD_eq_getElem?_getD, hg]
  | some d =>
   have hg' : (x.us.drop c.n)[0]? = some d := by simpa using hg
   have := leNat_ge_of_get (B := 4294967296) hg'
   rw [hz] at this
   rw [getD_of hg]; omega
 rw [hun, Nat.zero_mod, Nat.mul_zero, Nat.add_zero, ← sp, hp] at inv
 rw [hp] at r2
 have hmod : x.us.getD 0 0 % p < p := Nat.mod_lt _ hp0
 have hval : leNat 4294967296 (wd.take c.n) = leNat 4294967296 c.xs % leNat 4294967296 c.ys := by
  rw [← r2, ← inv, Nat.mul_comm, Nat.mul_add_div hp0, Nat.div_eq_of_lt hmod, Nat.add_zero]
 have hw : leNat 4294967296 wd = leNat 4294967296 c.xs % leNat 4294967296 c.ys := by
  rw [leNat_take_drop (B := 4294967296) (l := wd) (i := c.n) (by omega), rest, hz, hval]; simp
 rw [← hw, ← lw, fd_leNat dw (by omega)]
theorem DoneI.q (hc : LongH c) {x : LongX} (hx : DoneI c x) : x.qs = fd 4294967296 c.Q (leNat 4294967296 c.xs / leNat 4294967296 c.ys) := by
 rw [← (hx.res hc).1, ← hx.main.lq, fd_leNat hx.main.dq (by omega)]
theorem len_unique {t r s : Nat} (h : IsLen t r) (lo : 2147483648 ≤ t * 2 ^ s) (hi : t * 2 ^ s < 4294967296) : 32 - r = s := by
 obtain ⟨_, h1, h2⟩ := h
 have hp : 0 < 2 ^ s := Nat.pow_pos (by omega)
 have a1 : 2 ^ 31 < 2 ^ (r + s) := by
  rw [Nat.pow_add]
  exact Nat.lt_of_le_of_lt (show 2 ^ 31 ≤ t * 2 ^ s from lo) (Nat.mul_lt_mul_of_pos_right h1 hp)
 have b1 := (Nat.pow_lt_pow_iff_right (by omega)).1 a1
 rcases h2 with h2 | ⟨h2, h3⟩
 ·subst h2; omega
 ·have a2 : 2 ^ (r - 1 + s) < 2 ^ 32 := by
   rw [Nat.pow_add]
   exact Nat.lt_of_le_of_lt (Nat.mul_le_mul_right _ h3) (show t * 2 ^ s < 2 ^ 32 from hi)
  have b2 := (Nat.pow_lt_pow_iff_right (by omega)).1 a2
  omega
theorem W_ldE_getD {ds : List Nat} {i : Nat} (h : i < ds.length) : ldE (W ds) i 0 1 = some [.v (.int .u32 ((ds.getD i 0 : Nat) : Int))] := W_ldE (by rw [List.getD_eq_getElem?_getD, List.getElem?_eq_getElem h]; rfl)
theorem hi_lo {a b : Nat} (ha : a < 4294967296) (hb : b < 4294967296) : orI .u64 (shlI .u64 (IntKind.u64.wrap (a : Int)) 32) (IntKind.u64.wrap (b : Int)) = ((a * 4294967296 + b : Nat) : Int) := by
 have e1 : shlI .u64 (IntKind.u64.wrap (a : Int)) 32 = ((2 ^ 32 * a : Nat) : Int) := by
  rw [wu64 (by omega), shl_eq (by decide)]
  rw [show (a : Int) * 2 ^ (32 : Int).toNat = ((2 ^ 32 * a : Nat) : Int) by simp only [show (32 : Int).toNat = 32 from rfl]; omega]
  exact wu64 (by omega)
 rw [e1, wu64 (n := (b : Int)) (by omega), orI_u64 (s := 32) (by omega) (by omega)]
 congr 1; omega
theorem take_val {W V P d : Nat} (hV : 0 < V) (hW : W < P) (h : ¬ W < d * V) (hge : W / V ≤ d) : d = W / V ∧ (W + P - d * V) % P = W % V := by
 have h1 : d ≤ W / V := (Nat.le_div_iff_mul_le hV).2 (by omega)
 have hd : d = W / V := by omega
 refine ⟨hd, ?_⟩
 have := Nat.div_add_mod W V
 rw [Nat.mul_comm, ← hd] at this
 rw [show W + P - d * V = W % V + P by omega, Nat.add_mod_right, Nat.mod_eq_of_lt (Nat.lt_of_le_of_lt (Nat.mod_le _ _) hW)]
theorem put_val {W V P d : Nat} (hV : 0 < V) (hVP : V ≤ P) (_hW : W < P) (h : W < d * V) (hle : d ≤ W / V + 1) : d = W / V + 1 ∧ ((W + P - d * V) % P + V) % P = W % V := by
 have h0 : ¬ d ≤ W / V := fun h' => by have := (Nat.le_div_iff_mul_le hV).1 h'; omega
 have hd : d = W / V + 1 := by omega
 refine ⟨hd, ?_⟩
 have := Nat.div_add_mod W V
 rw [Nat.mul_comm] at this
 have h2 := Nat.mod_lt W hV
 rw [hd, Nat.add_mul, Nat.one_mul, show W + P - (W / V * V + V) = W % V + P - V by omega, Nat.mod_eq_of_lt (show W % V + P - V < P by omega), show W % V + P - V + V = W % V + P by omega, Nat.add_mod_right, Nat.mod_eq_of_lt (by omega)]
theorem spl_spl {us w w' : List Nat} {o : Nat} (h : o + w.length ≤ us.length) (hl : w'.length = w.length) : spl (spl us o w) o w' = spl us o w' := by
 unfold spl
 rw [List.take_append_of_le_length (by simp; omega), List.take_take, Nat.min_self]
 congr 1; congr 1
 rw [hl, ← List.append_assoc]
 exact List.drop_left' (by simp; omega)
theorem win_spl {us w : List Nat} {o : Nat} (h : o + w.length ≤ us.length) : win (spl us o w) o w.length = w := by
 unfold win spl
 rw [List.drop_append]
 have : (us.take o).length = o := by simp; omega
 rw [List.drop_of_length_le (by omega), this, Nat.sub_self, List.drop_zero, List.nil_append, List.take_append_of_le_length (Nat.le_refl _), List.take_length]
theorem LongI.taken (hc : LongH c) {x : LongX} (h : LongI c x) (hj : 0 < x.j) {d : Nat} (h1 : ¬ leNat 4294967296 (win x.us (x.j - 1) (c.n + 1)) < d * leNat 4294967296 (c.vs.take c.n)) (hge : x.W c / c.V ≤ d) : d = x.W c / c.V ∧ takenV x.us c.vs (x.j - 1) c.n d = x.W c % c.V := by
 obtain ⟨dv, lv, vv⟩ := hc.vs
 have ho : x.j - 1 + (c.n + 1) ≤ x.us.length := by have := h.lu; have := h.hj; have := hc.nx; unfold LongC.Q at *; unfold LongC.n; omega
 have hW := leNat_lt (dig_win (o := x.j - 1) (n := c.n + 1) h.du)
 rw [win_len ho] at hW
 unfold takenV
 rw [vv] at h1 ⊢
 exact take_val hc.pos hW h1 hge
theorem LongI.putted (hc : LongH c) {x : LongX} (h : LongI c x) (hj : 0 < x.j) {d : Nat} (h1 : leNat 4294967296 (win x.us (x.j - 1) (c.n + 1)) < d * leNat 4294967296 (c.vs.take c.n)) (hle : d ≤ x.W c / c.V + 1) :
  d = x.W c / c.V + 1 ∧ putV (spl x.us (x.j - 1) (fd 4294967296 (c.n + 1) (takenV x.us c.vs (x.j - 1) c.n d))) c.vs (x.j - 1) c.n = x.W c % c.V := by
 obtain ⟨dv, lv, vv⟩ := hc.vs
 have ho : x.j - 1 + (c.n + 1) ≤ x.us.length := by have := h.lu; have := h.hj; have := hc.nx; unfold LongC.Q at *; unfold LongC.n; omega
 have hW := leNat_lt (dig_win (o := x.j - 1) (n := c.n + 1) h.du)
 rw [win_len ho] at hW
 have lf : (fd 4294967296 (c.n + 1) (takenV x.us c.vs (x.j - 1) c.n d)).length = c.n + 1 := fd_len
 have hw := win_spl (us := x.us) (o := x.j - 1) (w := fd 4294967296 (c.n + 1) (takenV x.us c.vs (x.j - 1) c.n d)) (by rw [lf]; exact ho)
 rw [lf] at hw
 have hP : 0 < 4294967296 ^ (c.n + 1) := Nat.pow_pos (by decide)
 have ht : takenV x.us c.vs (x.j - 1) c.n d < 4294967296 ^ (c.n + 1) := Nat.mod_lt _ hP
 unfold putV
 rw [hw, leNat_fd ht]
 unfold takenV
 rw [vv] at h1 ⊢
 exact put_val hc.pos (Nat.le_of_lt (Nat.lt_of_lt_of_le hc.top.1 (Nat.pow_le_pow_right (by decide) (by omega)))) hW h1 hle
theorem DoneI.un (hc : LongH c) {x : LongX} (hx : DoneI c x) : x.us.getD c.n 0 = 0 := by
 obtain ⟨r1, r2, r3⟩ := hx.res hc
 have hnx := hc.nx
 have hlu := hx.main.lu
 have hVn := hc.top.1
 have hnl : c.n ≤ x.us.length := by unfold LongC.n; omega
 have sp := leNat_take_drop (B := 4294967296) (l := x.us) (i := c.n) hnl
 have hz : leNat 4294967296 (x.us.drop c.n) = 0 := by
  rcases Nat.eq_zero_or_pos (leNat 4294967296 (x.us.drop c.n)) with h' | h'
  ·exact h'
  ·have : 4294967296 ^ c.n * 1 ≤ 4294967296 ^ c.n * leNat 4294967296 (x.us.drop c.n) := Nat.mul_le_mul_left _ h'
   omega
 cases hg : x.us[c.n]? with
 | none => simp [List.getD_eq_getElem?_getD, hg]
 | some d =>
  have hg' : (x.us.drop c.n)[0]? = some d := by simpa using hg
  have := leNat_ge_of_get (B := 4294967296) hg'
  rw [hz] at this
  rw [getD_of hg]; omega
theorem shl_low {u s : Nat} (hu : u < 4294967296) (hs : s < 32) : IntKind.u32.wrap (shlI .u64 (IntKind.u64.wrap (u : Int)) ((32 - s : Nat) : Int)) = ((u % 2 ^ s * 2 ^ (32 - s) : Nat) : Int) := by
 have hpq : 2 ^ s * 2 ^ (32 - s) = 4294967296 := by rw [← Nat.pow_add, show s + (32 - s) = 32 by omega]
 have hq : (2 : Nat) ^ (32 - s) ≤ 2 ^ 32 := Nat.pow_le_pow_right (by omega) (by omega)
 have hm : u * 2 ^ (32 - s) ≤ 4294967295 * 2 ^ 32 := Nat.mul_le_mul (by omega) hq
 have e1 : shlI .u64 (IntKind.u64.wrap (u : Int)) ((32 - s : Nat) : Int) = ((u * 2 ^ (32 - s) : Nat) : Int) := by
  rw [wu64 (by omega), shl_eq (by simp [IntKind.bits]; omega), Int.toNat_natCast]
  have : (u : Int) * 2 ^ (32 - s) = ((u * 2 ^ (32 - s) : Nat) : Int) := by simp
  rw [this]
  exact wu64 (by omega)
 rw [e1, IntKind.wrap_u32]
 have e2 : u * 2 ^ (32 - s) % 4294967296 = u % 2 ^ s * 2 ^ (32 - s) := by rw [← hpq, Nat.mul_mod_mul_right]
 omega
theorem or_shift {u u' s : Nat} (hu : u < 4294967296) (hs : s < 32) : orI .u32 ((u / 2 ^ s : Nat) : Int) ((u' % 2 ^ s * 2 ^ (32 - s) : Nat) : Int) = ((u / 2 ^ s + u' % 2 ^ s * 2 ^ (32 - s) : Nat) : Int) := by
 have hpq : 2 ^ s * 2 ^ (32 - s) = 4294967296 := by rw [← Nat.pow_add, show s + (32 - s) = 32 by omega]
 have hp0 : 0 < 2 ^ s := Nat.pow_pos (by omega)
 have h1 : u / 2 ^ s < 2 ^ (32 - s) := by apply Nat.div_lt_of_lt_mul; rw [hpq]; exact hu
 have h2 : u' % 2 ^ s < 2 ^ s := Nat.mod_lt _ hp0
 have h3 : (u' % 2 ^ s + 1) * 2 ^ (32 - s) ≤ 4294967296 := by rw [← hpq]; exact Nat.mul_le_mul_right _ h2
 rw [Nat.add_mul, Nat.one_mul] at h3
 rw [orI_comm, Nat.mul_comm (u' % 2 ^ s), orI_u32 h1 (by rw [Nat.mul_comm (2 ^ (32 - s))]; omega)]
 congr 1
 rw [Nat.add_comm]
end Go.Proofs
/- Natural numbers, eleventh part: long division. -/
namespace Go.Proofs
open Go Go.Eng
def ot_long : OT := fun id => bif id.beq 3 then ([0, 1, 3, 4, 6, 2, 5, 8, 7, 9], [[], [], [0, 1], [], [], [3, 4, 2, 0, 1], [], [5, 3, 4, 2, 0, 1, 6], [2, 0, 1, 5, 3, 4], [7, 5, 3, 4, 2, 0, 1, 6, 8]]) else bif id.beq 8 then ([0, 1, 2, 3, 4, 5, 6, 7, 8, 9, 10, 11, 12, 13, 14, 15, 16, 17], [[], [], [], [1, 2], [0, 3, 1, 2], [4, 0, 3, 1, 2], [5, 4, 0, 3, 1, 2], [6, 5, 4, 0, 3, 1, 2], [], [], [], [9, 10], [11, 9, 10], [8, 12, 11, 9, 10], [13, 8, 12, 11, 9, 10], [14, 13, 8, 12, 11, 9, 10], [7, 6, 5, 4, 0, 3, 1, 2, 15, 14, 13, 8, 12, 11, 9, 10], [16, 7, 6, 5, 4, 0, 3, 1, 2, 15, 14, 13, 8, 12, 11, 9, 10]]) else bif id.beq 9 then ([0, 1, 2, 3, 4, 5, 6, 7, 8, 9, 10, 11, 12, 13, 14, 15, 16, 17], [[], [], [], [2], [1, 3, 2], [4, 1, 3, 2], [5, 4, 1, 3, 2], [0, 6, 5, 4, 1, 3, 2], [], [], [], [10], [9, 11, 10], [12, 9, 11, 10], [13, 12, 9, 11, 10], [8, 14, 13, 12, 9, 11, 10], [7, 0, 6, 5, 4, 1, 3, 2], [15, 8, 14, 13, 12, 9, 11, 10, 16, 7, 0, 6, 5, 4, 1, 3, 2]]) else bif id.beq 10 then ([0, 1, 2, 3, 4, 5, 6, 7, 8, 9, 10, 11, 12, 13, 14, 15, 16, 17, 18, 19, 20, 21, 22, 23, 24], [[], [0], [1, 0], [2, 1, 0], [3, 2, 1, 0], [3, 2, 1, 0], [3, 2, 1, 0], [6, 3, 2, 1, 0], [5, 3, 2, 1, 0, 7, 6], [8, 5, 3, 2, 1, 0, 7, 6], [9, 8, 5, 3, 2, 1, 0, 7, 6], [4, 3, 2, 1, 0, 10, 9, 8, 5, 7, 6], [3, 2, 1, 0], [12, 3, 2, 1, 0], [3, 2, 1, 0], [3, 2, 1, 0], [3, 2, 1, 0], [15, 3, 2, 1, 0, 16], [17, 15, 3, 2, 1, 0, 16], [14, 3, 2, 1, 0, 18, 17, 15, 16], [19, 14, 3, 2, 1, 0, 18, 17, 15, 16], [20, 19, 14, 3, 2, 1, 0, 18, 17, 15, 16], [13, 12, 3, 2, 1, 0, 21, 20, 19, 14, 18, 17, 15, 16], [11, 4, 3, 2, 1, 0, 10, 9, 8, 5, 7, 6, 22, 13, 12, 21, 20, 19, 14, 18, 17, 15, 16], [3, 2, 1, 0, 23, 11, 4, 10, 9, 8, 5, 7, 6, 22, 13, 12, 21, 20, 19, 14, 18, 17, 15, 16]]) else bif id.beq 24 then ([0, 1, 2, 3, 4, 5, 6, 7, 8, 9, 10, 11, 12, 13, 14, 15, 16], [[], [], [0, 1], [2, 0, 1], [], [], [5], [4, 6, 5], [7, 4, 6, 5], [8, 7, 4, 6, 5], [], [10], [9, 8, 7, 4, 6, 5, 11, 10], [12, 9, 8, 7, 4, 6, 5, 11, 10], [3, 2, 0, 1, 13, 12, 9, 8, 7, 4, 6, 5, 11, 10], [0, 1, 2, 3, 4, 5, 6, 7, 8, 9, 10, 11, 12, 13, 14], [15, 0, 1, 2, 3, 4, 5, 6, 7, 8, 9, 10, 11, 12, 13, 14]]) else ([], [])
def goal_long (c : LongC) : Prop := goalM (X := Unit) T11 ot_long (inv_long c) Tryd.f53 [wA 1000 c.xs.length, wA 1001 c.ys.length] [(1000, rowW c.xs), (1001, rowW c.ys)] (fun _ => True)
 (fun _ => ⟨[(4, wA 1002 c.Q), (5, wA 1003 c.n)], [(1000, rowW c.xs), (1001, rowW c.ys), (1002, rowW (fd 4294967296 c.Q (leNat 4294967296 c.xs / leNat 4294967296 c.ys))), (1003, rowW (fd 4294967296 (c.xs.length + 1) (leNat 4294967296 c.xs % leNat 4294967296 c.ys)))]⟩)
theorem goal_long_vc (c : LongC) : goal_long c = ((0≤IntKind.i64.wrap (Int.ofNat c.ys.length-1)∧IntKind.i64.wrap (Int.ofNat c.ys.length-1)<Int.ofNat c.ys.length)∧∃(d:Int),ldE (W c.ys) (0+(IntKind.i64.wrap (Int.ofNat c.ys.length-1)).toNat) 0 1=some [Ch.v (Value.int IntKind.u32 d)]∧(0≤d∧d<4294967296)∧∀(r:Nat),r≤32∧d.toNat<2^r∧(d.toNat=0∨1≤r∧2^(r-1)≤d.toNat)→∃(ds:List Nat),W c.xs=W ds∧c.xs.length=ds.length∧(∀(d:Nat),d ∈ ds→d<4294967296)∧ds.length≤1099511627776∧(0≤Int.ofNat (32-r)∧Int.ofNat (32-r)<32)∧∃(ds_1:List Nat),W c.ys=W ds_1∧c.ys.length=ds_1.length∧(∀(d:Nat),d ∈ ds_1→d<4294967296)∧ds_1.length≤1099511627776∧(0≤Int.ofNat (32-r)∧Int.ofNat (32-r)<32)∧((0:Int)≤0∧0≤Int.ofNat c.ys.length∧Int.ofNat c.ys.length≤Int.ofNat (ds_1.length+1))∧(0≤IntKind.i64.wrap (Int.ofNat (ds.length+1)-Int.ofNat c.ys.length)∧IntKind.i64.wrap (Int.ofNat (ds.length+1)-Int.ofNat c.ys.length)≤IntKind.i64.wrap (Int.ofNat (ds.length+1)-Int.ofNat c.ys.length)∧4*IntKind.i64.wrap (Int.ofNat (ds.length+1)-Int.ofNat c.ys.length)≤281474976710656∧IntKind.i64.wrap (Int.ofNat (ds.length+1)-Int.ofNat c.ys.length)≤9223372036854775807)∧(∃(x:LongX),(LongI c x∧OfNat.ofNat 0=0)∧0=0∧(IntKind.i64.wrap (Int.ofNat (ds.length+1)-Int.ofNat c.ys.length)).toNat=c.Q∧Int.ofNat (32-r)=Int.ofNat c.s∧Int.ofNat c.ys.length=Int.ofNat c.n∧0=0∧ds.length+1=c.xs.length+1∧0=0∧(Int.ofNat c.ys.length).toNat-0=c.n∧IntKind.i64.wrap (Int.ofNat (IntKind.i64.wrap (Int.ofNat (ds.length+1)-Int.ofNat c.ys.length)).toNat-1)=Int.ofNat x.j-1∧86=86∧1=1∧(W ds=W c.xs∨RowLE (W ds) (W c.xs))∧86=86∧1=1∧(W ds_1=W c.ys∨RowLE (W ds_1) (W c.ys))∧86=86∧1=1∧(W (fd 4294967296 (ds.length+1) (leNat 4294967296 ds*2^(Int.ofNat (32-r)).toNat))=W x.us∨RowLE (W (fd 4294967296 (ds.length+1) (leNat 4294967296 ds*2^(Int.ofNat (32-r)).toNat))) (W x.us))∧86=86∧1=1∧(W (fd 4294967296 (ds_1.length+1) (leNat 4294967296 ds_1*2^(Int.ofNat (32-r)).toNat))=W c.vs∨RowLE (W (fd 4294967296 (ds_1.length+1) (leNat 4294967296 ds_1*2^(Int.ofNat (32-r)).toNat))) (W c.vs))∧86=86∧1=1∧(List.replicate (IntKind.i64.wrap (Int.ofNat (ds.length+1)-Int.ofNat c.ys.length)).toNat [Ch.v (Value.int IntKind.u32 0)]=W x.qs∨RowLE (List.replicate (IntKind.i64.wrap (Int.ofNat (ds.length+1)-Int.ofNat c.ys.length)).toNat [Ch.v (Value.int IntKind.u32 0)]) (W x.qs))∧True)∧∀(x:LongX),LongI c x→OfNat.ofNat 0=0→bif decide (Int.ofNat x.j-1≥0) then (0≤IntKind.i64.wrap (Int.ofNat x.j-1+Int.ofNat c.n)∧IntKind.i64.wrap (Int.ofNat x.j-1+Int.ofNat c.n)<Int.ofNat (c.xs.length+1))∧∃(d:Int),ldE (W x.us) (0+(IntKind.i64.wrap (Int.ofNat x.j-1+Int.ofNat c.n)).toNat) 0 1=some [Ch.v (Value.int IntKind.u32 d)]∧(0:Int)≤32∧(0≤IntKind.i64.wrap (IntKind.i64.wrap (Int.ofNat x.j-1+Int.ofNat c.n)-1)∧IntKind.i64.wrap (IntKind.i64.wrap (Int.ofNat x.j-1+Int.ofNat c.n)-1)<Int.ofNat (c.xs.length+1))∧∃(d_1:Int),ldE (W x.us) (0+(IntKind.i64.wrap (IntKind.i64.wrap (Int.ofNat x.j-1+Int.ofNat c.n)-1)).toNat) 0 1=some [Ch.v (Value.int IntKind.u32 d_1)]∧(0≤IntKind.i64.wrap (Int.ofNat c.n-1)∧IntKind.i64.wrap (Int.ofNat c.n-1)<Int.ofNat c.n)∧∃(d_2:Int),ldE (W c.vs) (0+(IntKind.i64.wrap (Int.ofNat c.n-1)).toNat) 0 1=some [Ch.v (Value.int IntKind.u32 d_2)]∧IntKind.u64.wrap d_2≠0∧(0≤IntKind.i64.wrap (Int.ofNat c.n-1)∧IntKind.i64.wrap (Int.ofNat c.n-1)<Int.ofNat c.n)∧∃(d_3:Int),ldE (W c.vs) (0+(IntKind.i64.wrap (Int.ofNat c.n-1)).toNat) 0 1=some [Ch.v (Value.int IntKind.u32 d_3)]∧IntKind.u64.wrap d_3≠0∧((∃(x_1:LongX × Nat × Nat),(GuessI c x_1.fst x_1.snd.fst x_1.snd.snd∧x_1.fst.j=x.j)∧IntKind.u64.wrap ((orI IntKind.u64 (shlI IntKind.u64 (IntKind.u64.wrap d) 32) (IntKind.u64.wrap d_1)).tdiv (IntKind.u64.wrap d_2))=Int.ofNat x_1.snd.fst∧(orI IntKind.u64 (shlI IntKind.u64 (IntKind.u64.wrap d) 32) (IntKind.u64.wrap d_1)).tmod (IntKind.u64.wrap d_3)=Int.ofNat x_1.snd.snd∧0=0∧c.Q=c.Q∧Int.ofNat c.s=Int.ofNat c.s∧Int.ofNat c.n=Int.ofNat c.n∧0=0∧c.xs.length+1=c.xs.length+1∧0=0∧c.n=c.n∧Int.ofNat x.j-1=Int.ofNat x_1.fst.j-1∧86=86∧1=1∧(W c.xs=W c.xs∨RowLE (W c.xs) (W c.xs))∧86=86∧1=1∧(W c.ys=W c.ys∨RowLE (W c.ys) (W c.ys))∧86=86∧1=1∧(W x.us=W x_1.fst.us∨RowLE (W x.us) (W x_1.fst.us))∧86=86∧1=1∧(W c.vs=W c.vs∨RowLE (W c.vs) (W c.vs))∧86=86∧1=1∧(W x.qs=W x_1.fst.qs∨RowLE (W x.qs) (W x_1.fst.qs))∧True)∧∀(x_1:LongX × Nat × Nat),GuessI c x_1.fst x_1.snd.fst x_1.snd.snd→x_1.fst.j=x.j→(0:Int)≤32∧bif decide (shrI IntKind.u64 (Int.ofNat x_1.snd.fst) 32>0) then (0≤IntKind.i64.wrap (Int.ofNat c.n-1)∧IntKind.i64.wrap (Int.ofNat c.n-1)<Int.ofNat c.n)∧∃(d:Int),ldE (W c.vs) (0+(IntKind.i64.wrap (Int.ofNat c.n-1)).toNat) 0 1=some [Ch.v (Value.int IntKind.u32 d)]∧(0:Int)≤32∧bif decide (shrI IntKind.u64 (IntKind.u64.wrap (Int.ofNat x_1.snd.snd+IntKind.u64.wrap d)) 32>0) then ∃(x_2:LongX × Nat),((LongI c x_2.fst∧0<x_2.fst.j∧x_2.snd<4294967296∧LongX.W c x_2.fst/c.V≤x_2.snd∧x_2.snd≤LongX.W c x_2.fst/c.V+1)∧x_2.fst.j=x.j)∧IntKind.u64.wrap (Int.ofNat x_1.snd.fst-1)=Int.ofNat x_2.snd∧0=0∧c.Q=c.Q∧Int.ofNat c.s=Int.ofNat c.s∧Int.ofNat c.n=Int.ofNat c.n∧0=0∧c.xs.length+1=c.xs.length+1∧0=0∧c.n=c.n∧Int.ofNat x_1.fst.j-1=Int.ofNat x_2.fst.j-1∧86=86∧1=1∧(W c.xs=W c.xs∨RowLE (W c.xs) (W c.xs))∧86=86∧1=1∧(W c.ys=W c.ys∨RowLE (W c.ys) (W c.ys))∧86=86∧1=1∧(W x_1.fst.us=W x_2.fst.us∨RowLE (W x_1.fst.us) (W x_2.fst.us))∧86=86∧1=1∧(W c.vs=W c.vs∨RowLE (W c.vs) (W c.vs))∧86=86∧1=1∧(W x_1.fst.qs=W x_2.fst.qs∨RowLE (W x_1.fst.qs) (W x_2.fst.qs))∧True else ∃(x':LongX × Nat × Nat),(GuessI c x'.fst x'.snd.fst x'.snd.snd∧x'.fst.j=x.j∧x'.snd.fst<x_1.snd.fst)∧IntKind.u64.wrap (Int.ofNat x_1.snd.fst-1)=Int.ofNat x'.snd.fst∧IntKind.u64.wrap (Int.ofNat x_1.snd.snd+IntKind.u64.wrap d)=Int.ofNat x'.snd.snd∧0=0∧c.Q=c.Q∧Int.ofNat c.s=Int.ofNat c.s∧Int.ofNat c.n=Int.ofNat c.n∧0=0∧c.xs.length+1=c.xs.length+1∧0=0∧c.n=c.n∧Int.ofNat x_1.fst.j-1=Int.ofNat x'.fst.j-1∧86=86∧1=1∧(W c.xs=W c.xs∨RowLE (W c.xs) (W c.xs))∧86=86∧1=1∧(W c.ys=W c.ys∨RowLE (W c.ys) (W c.ys))∧86=86∧1=1∧(W x_1.fst.us=W x'.fst.us∨RowLE (W x_1.fst.us) (W x'.fst.us))∧86=86∧1=1∧(W c.vs=W c.vs∨RowLE (W c.vs) (W c.vs))∧86=86∧1=1∧(W x_1.fst.qs=W x'.fst.qs∨RowLE (W x_1.fst.qs) (W x'.fst.qs))∧True else (0≤IntKind.i64.wrap (Int.ofNat c.n-2)∧IntKind.i64.wrap (Int.ofNat c.n-2)<Int.ofNat c.n)∧∃(d:Int),ldE (W c.vs) (0+(IntKind.i64.wrap (Int.ofNat c.n-2)).toNat) 0 1=some [Ch.v (Value.int IntKind.u32 d)]∧(0:Int)≤32∧(0≤IntKind.i64.wrap (IntKind.i64.wrap (Int.ofNat x_1.fst.j-1+Int.ofNat c.n)-2)∧IntKind.i64.wrap (IntKind.i64.wrap (Int.ofNat x_1.fst.j-1+Int.ofNat c.n)-2)<Int.ofNat (c.xs.length+1))∧∃(d_4:Int),ldE (W x_1.fst.us) (0+(IntKind.i64.wrap (IntKind.i64.wrap (Int.ofNat x_1.fst.j-1+Int.ofNat c.n)-2)).toNat) 0 1=some [Ch.v (Value.int IntKind.u32 d_4)]∧bif decide (IntKind.u64.wrap (Int.ofNat x_1.snd.fst*IntKind.u64.wrap d)>orI IntKind.u64 (shlI IntKind.u64 (Int.ofNat x_1.snd.snd) 32) (IntKind.u64.wrap d_4)) then (0≤IntKind.i64.wrap (Int.ofNat c.n-1)∧IntKind.i64.wrap (Int.ofNat c.n-1)<Int.ofNat c.n)∧∃(d:Int),ldE (W c.vs) (0+(IntKind.i64.wrap (Int.ofNat c.n-1)).toNat) 0 1=some [Ch.v (Value.int IntKind.u32 d)]∧(0:Int)≤32∧bif decide (shrI IntKind.u64 (IntKind.u64.wrap (Int.ofNat x_1.snd.snd+IntKind.u64.wrap d)) 32>0) then ∃(x_2:LongX × Nat),((LongI c x_2.fst∧0<x_2.fst.j∧x_2.snd<4294967296∧LongX.W c x_2.fst/c.V≤x_2.snd∧x_2.snd≤LongX.W c x_2.fst/c.V+1)∧x_2.fst.j=x.j)∧IntKind.u64.wrap (Int.ofNat x_1.snd.fst-1)=Int.ofNat x_2.snd∧0=0∧c.Q=c.Q∧Int.ofNat c.s=Int.ofNat c.s∧Int.ofNat c.n=Int.ofNat c.n∧0=0∧c.xs.length+1=c.xs.length+1∧0=0∧c.n=c.n∧Int.ofNat x_1.fst.j-1=Int.ofNat x_2.fst.j-1∧86=86∧1=1∧(W c.xs=W c.xs∨RowLE (W c.xs) (W c.xs))∧86=86∧1=1∧(W c.ys=W c.ys∨RowLE (W c.ys) (W c.ys))∧86=86∧1=1∧(W x_1.fst.us=W x_2.fst.us∨RowLE (W x_1.fst.us) (W x_2.fst.us))∧86=86∧1=1∧(W c.vs=W c.vs∨RowLE (W c.vs) (W c.vs))∧86=86∧1=1∧(W x_1.fst.qs=W x_2.fst.qs∨RowLE (W x_1.fst.qs) (W x_2.fst.qs))∧True else ∃(x':LongX × Nat × Nat),(GuessI c x'.fst x'.snd.fst x'.snd.snd∧x'.fst.j=x.j∧x'.snd.fst<x_1.snd.fst)∧IntKind.u64.wrap (Int.ofNat x_1.snd.fst-1)=Int.ofNat x'.snd.fst∧IntKind.u64.wrap (Int.ofNat x_1.snd.snd+IntKind.u64.wrap d)=Int.ofNat x'.snd.snd∧0=0∧c.Q=c.Q∧Int.ofNat c.s=Int.ofNat c.s∧Int.ofNat c.n=Int.ofNat c.n∧0=0∧c.xs.length+1=c.xs.length+1∧0=0∧c.n=c.n∧Int.ofNat x_1.fst.j-1=Int.ofNat x'.fst.j-1∧86=86∧1=1∧(W c.xs=W c.xs∨RowLE (W c.xs) (W c.xs))∧86=86∧1=1∧(W c.ys=W c.ys∨RowLE (W c.ys) (W c.ys))∧86=86∧1=1∧(W x_1.fst.us=W x'.fst.us∨RowLE (W x_1.fst.us) (W x'.fst.us))∧86=86∧1=1∧(W c.vs=W c.vs∨RowLE (W c.vs) (W c.vs))∧86=86∧1=1∧(W x_1.fst.qs=W x'.fst.qs∨RowLE (W x_1.fst.qs) (W x'.fst.qs))∧True else ∃(x_2:LongX × Nat),((LongI c x_2.fst∧0<x_2.fst.j∧x_2.snd<4294967296∧LongX.W c x_2.fst/c.V≤x_2.snd∧x_2.snd≤LongX.W c x_2.fst/c.V+1)∧x_2.fst.j=x.j)∧Int.ofNat x_1.snd.fst=Int.ofNat x_2.snd∧0=0∧c.Q=c.Q∧Int.ofNat c.s=Int.ofNat c.s∧Int.ofNat c.n=Int.ofNat c.n∧0=0∧c.xs.length+1=c.xs.length+1∧0=0∧c.n=c.n∧Int.ofNat x_1.fst.j-1=Int.ofNat x_2.fst.j-1∧86=86∧1=1∧(W c.xs=W c.xs∨RowLE (W c.xs) (W c.xs))∧86=86∧1=1∧(W c.ys=W c.ys∨RowLE (W c.ys) (W c.ys))∧86=86∧1=1∧(W x_1.fst.us=W x_2.fst.us∨RowLE (W x_1.fst.us) (W x_2.fst.us))∧86=86∧1=1∧(W c.vs=W c.vs∨RowLE (W c.vs) (W c.vs))∧86=86∧1=1∧(W x_1.fst.qs=W x_2.fst.qs∨RowLE (W x_1.fst.qs) (W x_2.fst.qs))∧True)∧∀(x_1:LongX × Nat),LongI c x_1.fst∧0<x_1.fst.j∧x_1.snd<4294967296∧LongX.W c x_1.fst/c.V≤x_1.snd∧x_1.snd≤LongX.W c x_1.fst/c.V+1→x_1.fst.j=x.j→((0≤Int.ofNat x_1.fst.j-1∧Int.ofNat x_1.fst.j-1≤IntKind.i64.wrap (IntKind.i64.wrap (Int.ofNat x_1.fst.j-1+Int.ofNat c.n)+1)∧IntKind.i64.wrap (IntKind.i64.wrap (Int.ofNat x_1.fst.j-1+Int.ofNat c.n)+1)≤Int.ofNat (c.xs.length+1))∧∃(us:List Nat),∃(vs:List Nat),W x_1.fst.us=W us∧W c.vs=W vs∧(IntKind.i64.wrap (IntKind.i64.wrap (Int.ofNat x_1.fst.j-1+Int.ofNat c.n)+1)).toNat-(Int.ofNat x_1.fst.j-1).toNat=c.n+1∧(∀(d:Nat),d ∈ us→d<4294967296)∧(∀(d:Nat),d ∈ vs→d<4294967296)∧(0≤Int.ofNat x_1.snd∧Int.ofNat x_1.snd<4294967296)∧0+(Int.ofNat x_1.fst.j-1).toNat+(c.n+1)≤us.length∧c.n≤vs.length∧us.length≤2199023255552∧bif decide (leNat 4294967296 (win us (0+(Int.ofNat x_1.fst.j-1).toNat) (c.n+1))<(Int.ofNat x_1.snd).toNat*leNat 4294967296 (List.take c.n vs)) then (0≤Int.ofNat x_1.fst.j-1∧Int.ofNat x_1.fst.j-1≤IntKind.i64.wrap (IntKind.i64.wrap (Int.ofNat x_1.fst.j-1+Int.ofNat c.n)+1)∧IntKind.i64.wrap (IntKind.i64.wrap (Int.ofNat x_1.fst.j-1+Int.ofNat c.n)+1)≤Int.ofNat (c.xs.length+1))∧∃(us_1:List Nat),∃(vs_1:List Nat),W (spl us (0+(Int.ofNat x_1.fst.j-1).toNat) (fd 4294967296 (c.n+1) (takenV us vs (0+(Int.ofNat x_1.fst.j-1).toNat) c.n (Int.ofNat x_1.snd).toNat)))=W us_1∧W vs=W vs_1∧(IntKind.i64.wrap (IntKind.i64.wrap (Int.ofNat x_1.fst.j-1+Int.ofNat c.n)+1)).toNat-(Int.ofNat x_1.fst.j-1).toNat=c.n+1∧(∀(d:Nat),d ∈ us_1→d<4294967296)∧(∀(d:Nat),d ∈ vs_1→d<4294967296)∧0+(Int.ofNat x_1.fst.j-1).toNat+(c.n+1)≤us_1.length∧c.n≤vs_1.length∧us_1.length≤2199023255552∧∃(x_2:LongX),((LongI c x_2∧0<x_2.j)∧x_2.j=x.j)∧IntKind.u64.wrap (Int.ofNat x_1.snd-1)=Int.ofNat (LongX.W c x_2/c.V)∧0=0∧c.Q=c.Q∧Int.ofNat c.s=Int.ofNat c.s∧Int.ofNat c.n=Int.ofNat c.n∧0=0∧c.xs.length+1=c.xs.length+1∧0=0∧c.n=c.n∧Int.ofNat x_1.fst.j-1=Int.ofNat x_2.j-1∧86=86∧1=1∧(W c.xs=W c.xs∨RowLE (W c.xs) (W c.xs))∧86=86∧1=1∧(W c.ys=W c.ys∨RowLE (W c.ys) (W c.ys))∧86=86∧1=1∧(W (spl us_1 (0+(Int.ofNat x_1.fst.j-1).toNat) (fd 4294967296 (c.n+1) (putV us_1 vs_1 (0+(Int.ofNat x_1.fst.j-1).toNat) c.n)))=W (spl x_2.us (x_2.j-1) (fd 4294967296 (c.n+1) (LongX.W c x_2%c.V)))∨RowLE (W (spl us_1 (0+(Int.ofNat x_1.fst.j-1).toNat) (fd 4294967296 (c.n+1) (putV us_1 vs_1 (0+(Int.ofNat x_1.fst.j-1).toNat) c.n)))) (W (spl x_2.us (x_2.j-1) (fd 4294967296 (c.n+1) (LongX.W c x_2%c.V)))))∧86=86∧1=1∧(W vs_1=W c.vs∨RowLE (W vs_1) (W c.vs))∧86=86∧1=1∧(W x_1.fst.qs=W x_2.qs∨RowLE (W x_1.fst.qs) (W x_2.qs))∧True else ∃(x_2:LongX),((LongI c x_2∧0<x_2.j)∧x_2.j=x.j)∧Int.ofNat x_1.snd=Int.ofNat (LongX.W c x_2/c.V)∧0=0∧c.Q=c.Q∧Int.ofNat c.s=Int.ofNat c.s∧Int.ofNat c.n=Int.ofNat c.n∧0=0∧c.xs.length+1=c.xs.length+1∧0=0∧c.n=c.n∧Int.ofNat x_1.fst.j-1=Int.ofNat x_2.j-1∧86=86∧1=1∧(W c.xs=W c.xs∨RowLE (W c.xs) (W c.xs))∧86=86∧1=1∧(W c.ys=W c.ys∨RowLE (W c.ys) (W c.ys))∧86=86∧1=1∧(W (spl us (0+(Int.ofNat x_1.fst.j-1).toNat) (fd 4294967296 (c.n+1) (takenV us vs (0+(Int.ofNat x_1.fst.j-1).toNat) c.n (Int.ofNat x_1.snd).toNat)))=W (spl x_2.us (x_2.j-1) (fd 4294967296 (c.n+1) (LongX.W c x_2%c.V)))∨RowLE (W (spl us (0+(Int.ofNat x_1.fst.j-1).toNat) (fd 4294967296 (c.n+1) (takenV us vs (0+(Int.ofNat x_1.fst.j-1).toNat) c.n (Int.ofNat x_1.snd).toNat)))) (W (spl x_2.us (x_2.j-1) (fd 4294967296 (c.n+1) (LongX.W c x_2%c.V)))))∧86=86∧1=1∧(W vs=W c.vs∨RowLE (W vs) (W c.vs))∧86=86∧1=1∧(W x_1.fst.qs=W x_2.qs∨RowLE (W x_1.fst.qs) (W x_2.qs))∧True)∧∀(x_2:LongX),LongI c x_2∧0<x_2.j→x_2.j=x.j→(0≤Int.ofNat x_2.j-1∧Int.ofNat x_2.j-1<Int.ofNat c.Q)∧0+(Int.ofNat x_2.j-1).toNat<(W x_2.qs).length∧∃(x':LongX),(LongI c x'∧OfNat.ofNat 0=0∧x'.j<x.j)∧0=0∧c.Q=c.Q∧Int.ofNat c.s=Int.ofNat c.s∧Int.ofNat c.n=Int.ofNat c.n∧0=0∧c.xs.length+1=c.xs.length+1∧0=0∧c.n=c.n∧IntKind.i64.wrap (Int.ofNat x_2.j-1-1)=Int.ofNat x'.j-1∧86=86∧1=1∧(W c.xs=W c.xs∨RowLE (W c.xs) (W c.xs))∧86=86∧1=1∧(W c.ys=W c.ys∨RowLE (W c.ys) (W c.ys))∧86=86∧1=1∧(W (spl x_2.us (x_2.j-1) (fd 4294967296 (c.n+1) (LongX.W c x_2%c.V)))=W x'.us∨RowLE (W (spl x_2.us (x_2.j-1) (fd 4294967296 (c.n+1) (LongX.W c x_2%c.V)))) (W x'.us))∧86=86∧1=1∧(W c.vs=W c.vs∨RowLE (W c.vs) (W c.vs))∧86=86∧1=1∧((W x_2.qs).set (0+(Int.ofNat x_2.j-1).toNat) [Ch.v (Value.int IntKind.u32 (IntKind.u32.wrap (Int.ofNat (LongX.W c x_2/c.V))))]=W x'.qs∨RowLE ((W x_2.qs).set (0+(Int.ofNat x_2.j-1).toNat) [Ch.v (Value.int IntKind.u32 (IntKind.u32.wrap (Int.ofNat (LongX.W c x_2/c.V))))]) (W x'.qs))∧True else ((0:Int)≤0∧0≤Int.ofNat c.n∧Int.ofNat c.n≤Int.ofNat (c.xs.length+1))∧(∃(x_1:ShiftX),(ShiftJ c x_1∧OfNat.ofNat 0=0)∧0=0∧c.Q=c.Q∧0=0∧(Int.ofNat c.n).toNat-0=c.n∧Int.ofNat c.s=Int.ofNat c.s∧Int.ofNat c.n=Int.ofNat c.n∧0=0∧c.xs.length+1=c.xs.length+1∧Int.ofNat ((Int.ofNat c.n).toNat-0)=Int.ofNat c.n∧0=Int.ofNat x_1.i∧86=86∧1=1∧(W c.xs=W c.xs∨RowLE (W c.xs) (W c.xs))∧86=86∧1=1∧(W c.ys=W c.ys∨RowLE (W c.ys) (W c.ys))∧86=86∧1=1∧(W x.us=W x_1.wd∨RowLE (W x.us) (W x_1.wd))∧86=86∧1=1∧(W x.qs=W x_1.x.qs∨RowLE (W x.qs) (W x_1.x.qs))∧True)∧∀(x:ShiftX),ShiftJ c x→OfNat.ofNat 0=0→bif decide (Int.ofNat x.i<Int.ofNat c.n) then (0≤Int.ofNat x.i∧Int.ofNat x.i<Int.ofNat c.n)∧∃(d:Int),ldE (W x.wd) (0+(Int.ofNat x.i).toNat) 0 1=some [Ch.v (Value.int IntKind.u32 d)]∧0≤Int.ofNat c.s∧(0≤Int.ofNat x.i∧Int.ofNat x.i<Int.ofNat c.n)∧0+(Int.ofNat x.i).toNat<(W x.wd).length∧bif decide (IntKind.i64.wrap (Int.ofNat x.i+1)<Int.ofNat c.n) then (0≤Int.ofNat x.i∧Int.ofNat x.i<Int.ofNat c.n)∧∃(d_1:Int),ldE ((W x.wd).set (0+(Int.ofNat x.i).toNat) [Ch.v (Value.int IntKind.u32 (shrI IntKind.u32 d (Int.ofNat c.s)))]) (0+(Int.ofNat x.i).toNat) 0 1=some [Ch.v (Value.int IntKind.u32 d_1)]∧(0≤IntKind.i64.wrap (Int.ofNat x.i+1)∧IntKind.i64.wrap (Int.ofNat x.i+1)<Int.ofNat (c.xs.length+1))∧∃(d_2:Int),ldE ((W x.wd).set (0+(Int.ofNat x.i).toNat) [Ch.v (Value.int IntKind.u32 (shrI IntKind.u32 d (Int.ofNat c.s)))]) (0+(IntKind.i64.wrap (Int.ofNat x.i+1)).toNat) 0 1=some [Ch.v (Value.int IntKind.u32 d_2)]∧0≤IntKind.i64.wrap (32-Int.ofNat c.s)∧(0≤Int.ofNat x.i∧Int.ofNat x.i<Int.ofNat c.n)∧0+(Int.ofNat x.i).toNat<((W x.wd).set (0+(Int.ofNat x.i).toNat) [Ch.v (Value.int IntKind.u32 (shrI IntKind.u32 d (Int.ofNat c.s)))]).length∧∃(x':ShiftX),(ShiftJ c x'∧OfNat.ofNat 0=0∧c.n-x'.i<c.n-x.i)∧0=0∧c.Q=c.Q∧0=0∧c.n=c.n∧Int.ofNat c.s=Int.ofNat c.s∧Int.ofNat c.n=Int.ofNat c.n∧0=0∧c.xs.length+1=c.xs.length+1∧Int.ofNat c.n=Int.ofNat c.n∧IntKind.i64.wrap (Int.ofNat x.i+1)=Int.ofNat x'.i∧86=86∧1=1∧(W c.xs=W c.xs∨RowLE (W c.xs) (W c.xs))∧86=86∧1=1∧(W c.ys=W c.ys∨RowLE (W c.ys) (W c.ys))∧86=86∧1=1∧(((W x.wd).set (0+(Int.ofNat x.i).toNat) [Ch.v (Value.int IntKind.u32 (shrI IntKind.u32 d (Int.ofNat c.s)))]).set (0+(Int.ofNat x.i).toNat) [Ch.v (Value.int IntKind.u32 (orI IntKind.u32 d_1 (IntKind.u32.wrap (shlI IntKind.u64 (IntKind.u64.wrap d_2) (IntKind.i64.wrap (32-Int.ofNat c.s))))))]=W x'.wd∨RowLE (((W x.wd).set (0+(Int.ofNat x.i).toNat) [Ch.v (Value.int IntKind.u32 (shrI IntKind.u32 d (Int.ofNat c.s)))]).set (0+(Int.ofNat x.i).toNat) [Ch.v (Value.int IntKind.u32 (orI IntKind.u32 d_1 (IntKind.u32.wrap (shlI IntKind.u64 (IntKind.u64.wrap d_2) (IntKind.i64.wrap (32-Int.ofNat c.s))))))]) (W x'.wd))∧86=86∧1=1∧(W x.x.qs=W x'.x.qs∨RowLE (W x.x.qs) (W x'.x.qs))∧True else ∃(x':ShiftX),(ShiftJ c x'∧OfNat.ofNat 0=0∧c.n-x'.i<c.n-x.i)∧0=0∧c.Q=c.Q∧0=0∧c.n=c.n∧Int.ofNat c.s=Int.ofNat c.s∧Int.ofNat c.n=Int.ofNat c.n∧0=0∧c.xs.length+1=c.xs.length+1∧Int.ofNat c.n=Int.ofNat c.n∧IntKind.i64.wrap (Int.ofNat x.i+1)=Int.ofNat x'.i∧86=86∧1=1∧(W c.xs=W c.xs∨RowLE (W c.xs) (W c.xs))∧86=86∧1=1∧(W c.ys=W c.ys∨RowLE (W c.ys) (W c.ys))∧86=86∧1=1∧((W x.wd).set (0+(Int.ofNat x.i).toNat) [Ch.v (Value.int IntKind.u32 (shrI IntKind.u32 d (Int.ofNat c.s)))]=W x'.wd∨RowLE ((W x.wd).set (0+(Int.ofNat x.i).toNat) [Ch.v (Value.int IntKind.u32 (shrI IntKind.u32 d (Int.ofNat c.s)))]) (W x'.wd))∧86=86∧1=1∧(W x.x.qs=W x'.x.qs∨RowLE (W x.x.qs) (W x'.x.qs))∧True else ∃(x_1:Unit),True∧0=0∧c.Q=c.Q∧0=0∧c.n=c.n∧86=86∧1=1∧(W c.xs=W c.xs∨RowLE (W c.xs) (W c.xs))∧86=86∧1=1∧(W c.ys=W c.ys∨RowLE (W c.ys) (W c.ys))∧86=86∧1=1∧(W x.x.qs=W (fd 4294967296 c.Q (leNat 4294967296 c.xs/leNat 4294967296 c.ys))∨RowLE (W x.x.qs) (W (fd 4294967296 c.Q (leNat 4294967296 c.xs/leNat 4294967296 c.ys))))∧86=86∧1=1∧(W x.wd=W (fd 4294967296 (c.xs.length+1) (leNat 4294967296 c.xs%leNat 4294967296 c.ys))∨RowLE (W x.wd) (W (fd 4294967296 (c.xs.length+1) (leNat 4294967296 c.xs%leNat 4294967296 c.ys))))∧True) := by kernel_rfl
theorem g_long (c : LongC) (hc : LongH c) : Holds (goal_long c) := by
 refine ⟨?_⟩
 rw [goal_long_vc]
 have hn : 2 ≤ c.n := hc.n2
 have hny : c.ys.length = c.n := rfl
 have hnx : c.n ≤ c.xs.length := hc.nx
 have hlx := hc.lx
 have hQ : c.Q = c.xs.length + 1 - c.n := rfl
 have hs32 := hc.s32
 obtain ⟨dv, lv, vv⟩ := hc.vs
 have ht := hc.dy.getD (i := c.n - 1) (by decide)
 simp only [Int.ofNat_eq_natCast, true_and, and_true, Nat.zero_add, true_implies, true_or]
 rw [hny]
 rw [w64 (n := (c.n : Int) - 1) (by omega), show ((c.n : Int) - 1).toNat = c.n - 1 by omega]
 refine ⟨by omega, _, W_ldE_getD (by omega), by omega, fun r hr => ?_⟩
 have hrs : 32 - r = c.s := len_unique (t := c.ys.getD (c.n - 1) 0) (by simpa [IsLen] using hr) hc.lo hc.hi
 rw [hrs]
 refine ⟨c.xs, rfl, rfl, hc.dx, by omega, by omega, c.ys, rfl, rfl, hc.dy, by omega, by omega, by omega, ?_, ?_, fun x hx => bif_mk (fun hp => ?_) (fun hp => ?_)⟩
 ·rw [w64 (by omega)]; omega
 ·have e1 : (IntKind.i64.wrap (((c.xs.length + 1 : Nat) : Int) - c.n)).toNat = c.Q := by rw [w64 (by omega)]; omega
  refine ⟨_, LongI.init hc, ?_⟩
  simp only [e1, Int.toNat_natCast]
  rw [w64 (by omega)]
  simp only [true_and, true_or, W_zeros]
  exact ⟨by omega, .inl rfl, trivial⟩
 ·have hp := of_decide_eq_true hp
  have hj : 0 < x.j := by omega
  have hlu := hx.lu
  have hjq := hx.hj
  have qd := hx.qd hc hj
  have v1lo := qd.v1_lo
  have v1hi := qd.v1_hi
  have f1 : IntKind.i64.wrap ((x.j : Int) - 1 + c.n) = ((x.j - 1 + c.n : Nat) : Int) := by rw [w64 (by omega)]; omega
  have f2 : IntKind.i64.wrap (((x.j - 1 + c.n : Nat) : Int) - 1) = ((x.j - 1 + c.n - 1 : Nat) : Int) := by rw [w64 (by omega)]; omega
  have f3 : IntKind.i64.wrap ((c.n : Int) - 1) = ((c.n - 1 : Nat) : Int) := by rw [w64 (by omega)]; omega
  have hv1 : IntKind.u64.wrap ((c.vs.getD (c.n - 1) 0 : Nat) : Int) = ((c.v1 : Nat) : Int) := wu64 (show (0 : Int) ≤ ((c.v1 : Nat) : Int) ∧ ((c.v1 : Nat) : Int) < 18446744073709551616 by omega)
  simp only [f1, f2, Int.toNat_natCast]
  refine ⟨by omega, _, W_ldE_getD (by omega), by omega, by omega, _, W_ldE_getD (by omega), by omega, _, W_ldE_getD (i := c.n - 1) (by omega), ?_, by omega, _, W_ldE_getD (i := c.n - 1) (by omega), ?_, ⟨?_, ?_⟩, ?_⟩
  ·rw [hv1]; omega
  ·rw [hv1]; omega
  ·have b1 := hx.du.getD (i := x.j - 1 + c.n) (by decide)
   have b2 := hx.du.getD (i := x.j - 1 + c.n - 1) (by decide)
   have htop := qd.top_hi
   have hsum : x.top c / c.v1 * c.v1 + x.top c % c.v1 = x.top c := Nat.div_add_mod' _ _
   have hr : x.top c % c.v1 < c.v1 := Nat.mod_lt _ (by omega)
   refine ⟨(x, x.top c / c.v1, x.top c % c.v1), ⟨⟨hx, hj, hsum, qd.start, Nat.lt_trans hr v1hi⟩, rfl⟩, ?_⟩
   have ht : orI .u64 (shlI .u64 (IntKind.u64.wrap ((x.us.getD (x.j - 1 + c.n) 0 : Nat) : Int)) 32) (IntKind.u64.wrap ((x.us.getD (x.j - 1 + c.n - 1) 0 : Nat) : Int)) = ((x.top c : Nat) : Int) := hi_lo b1 b2
   rw [ht, hv1]
   have hle : x.top c / c.v1 ≤ x.top c := Nat.div_le_self _ _
   generalize x.top c = t at *
   generalize c.v1 = v at *
   have e1 : (t : Int).tdiv v = ((t / v : Nat) : Int) := by rw [te (Int.natCast_nonneg t)]; simp
   have e2 : (t : Int).tmod v = ((t % v : Nat) : Int) := by rw [tm (Int.natCast_nonneg t)]; simp
   have e3 : IntKind.u64.wrap ((t / v : Nat) : Int) = ((t / v : Nat) : Int) := by
    generalize t / v = y at hle ⊢
    exact wu64 (by omega)
   rw [e1, e2, e3]
   simp
  ·intro x1 hg hj1
   obtain ⟨x1, d, r⟩ := x1
   have qd1 : QD 4294967296 c.V (x1.W c) c.v1 c.v2 (x1.top c) (x1.u3 c) (c.n - 2) := hg.main.qd hc hg.jp
   have hsum := hg.sum
   have hge := hg.ge
   have hrl := hg.rlt
   have hlu1 := hg.main.lu
   have hjq1 := hg.main.hj
   have hjp1 := hg.jp
   have htop := qd1.top_hi
   simp only at hsum hge hrl hlu1 hjq1 hjp1 htop hj1 ⊢
   have hdtop : d ≤ x1.top c := by
    have : d * 1 ≤ d * c.v1 := Nat.mul_le_mul_left _ (by omega)
    omega
   have decs : 0 < d → (d - 1) * c.v1 + (r + c.v1) = x1.top c := fun h => by
    rw [Nat.sub_mul, Nat.one_mul]
    have : 1 * c.v1 ≤ d * c.v1 := Nat.mul_le_mul_right _ h
    omega
   refine ⟨by omega, bif_mk (fun h1 => ?_) (fun h1 => ?_)⟩
   ·have h1 := of_decide_eq_true h1
    rw [shr_eq (by decide) (by omega)] at h1
    simp only [show (32 : Int).toNat = 32 from rfl] at h1
    have hd : 4294967296 ≤ d := by omega
    have hlt := qd1.step hsum (.inl hd)
    have hdp : 0 < d := Nat.lt_of_le_of_lt (Nat.zero_le _) hlt
    have hsum' := decs hdp
    refine ⟨by omega, _, W_ldE_getD (i := c.n - 1) (by omega), by omega, bif_mk (fun h3 => ?_) (fun h3 => ?_)⟩
    ·have h3 := of_decide_eq_true h3
     rw [hv1, wu64 (n := (r : Int) + c.v1) (by omega), shr_eq (by decide) (by omega)] at h3
     simp only [show (32 : Int).toNat = 32 from rfl] at h3
     have hr3 : 4294967296 ≤ r + c.v1 := by omega
     obtain ⟨b1, b2⟩ := qd1.brk hsum' hr3
     refine ⟨(x1, d - 1), ⟨⟨hg.main, hg.jp, b1, Nat.le_sub_one_of_lt hlt, qd1.fin hsum' b1 b2⟩, hj1⟩, ?_, rfl, .inl rfl, .inl rfl⟩
     rw [wu64 (by omega)]; omega
    ·have h3 := of_decide_eq_false h3
     rw [hv1, wu64 (n := (r : Int) + c.v1) (by omega), shr_eq (by decide) (by omega)] at h3
     simp only [show (32 : Int).toNat = 32 from rfl] at h3
     refine ⟨(x1, d - 1, r + c.v1), ⟨⟨hg.main, hg.jp, hsum', Nat.le_sub_one_of_lt hlt, by simp only; omega⟩, hj1, by simp only; omega⟩, ?_, ?_, rfl, .inl rfl, .inl rfl⟩
     ·rw [wu64 (by omega)]; simp only; omega
     ·rw [hv1, wu64 (by omega)]; simp
   ·have h1 := of_decide_eq_false h1
    rw [shr_eq (by decide) (by omega)] at h1
    simp only [show (32 : Int).toNat = 32 from rfl] at h1
    have hd : d < 4294967296 := by omega
    have g1 : IntKind.i64.wrap ((c.n : Int) - 2) = ((c.n - 2 : Nat) : Int) := by rw [w64 (by omega)]; omega
    have g2 : IntKind.i64.wrap (IntKind.i64.wrap ((x1.j : Int) - 1 + c.n) - 2) = ((x1.j - 1 + c.n - 2 : Nat) : Int) := by rw [w64 (n := (x1.j : Int) - 1 + c.n) (by omega), w64 (by omega)]; omega
    simp only [g1, g2, Int.toNat_natCast]
    have v2hi := qd1.v2_hi
    have u3hi := qd1.u3_hi
    have m1 : d * c.v2 ≤ 4294967295 * 4294967295 := Nat.mul_le_mul (by omega) (by omega)
    have g3 : IntKind.u64.wrap ((d : Int) * IntKind.u64.wrap ((c.vs.getD (c.n - 2) 0 : Nat) : Int)) = ((d * c.v2 : Nat) : Int) := by
     rw [show IntKind.u64.wrap ((c.vs.getD (c.n - 2) 0 : Nat) : Int) = ((c.v2 : Nat) : Int) from wu64 (show (0 : Int) ≤ ((c.v2 : Nat) : Int) ∧ ((c.v2 : Nat) : Int) < 18446744073709551616 by omega)]
     rw [show ((d : Int) * (c.v2 : Nat)) = ((d * c.v2 : Nat) : Int) by simp]
     exact wu64 (by omega)
    have g4 : orI .u64 (shlI .u64 (r : Int) 32) (IntKind.u64.wrap ((x1.us.getD (x1.j - 1 + c.n - 2) 0 : Nat) : Int)) = ((r * 4294967296 + x1.u3 c : Nat) : Int) := by
     have := hi_lo hrl u3hi
     rw [wu64 (n := (r : Int)) (by omega)] at this
     exact this
    refine ⟨by omega, _, W_ldE_getD (i := c.n - 2) (by omega), by omega, by omega, _, W_ldE_getD (i := x1.j - 1 + c.n - 2) (by omega), bif_mk (fun h2 => ?_) (fun h2 => ?_)⟩
    ·have h2 := of_decide_eq_true h2
     rw [g3, g4] at h2
     have hlt := qd1.step hsum (.inr (by omega))
     have hdp : 0 < d := Nat.lt_of_le_of_lt (Nat.zero_le _) hlt
     have hsum' := decs hdp
     refine ⟨by omega, _, W_ldE_getD (i := c.n - 1) (by omega), by omega, bif_mk (fun h3 => ?_) (fun h3 => ?_)⟩
     ·have h3 := of_decide_eq_true h3
      rw [hv1, wu64 (n := (r : Int) + c.v1) (by omega), shr_eq (by decide) (by omega)] at h3
      simp only [show (32 : Int).toNat = 32 from rfl] at h3
      have hr3 : 4294967296 ≤ r + c.v1 := by omega
      obtain ⟨b1, b2⟩ := qd1.brk hsum' hr3
      refine ⟨(x1, d - 1), ⟨⟨hg.main, hg.jp, b1, Nat.le_sub_one_of_lt hlt, qd1.fin hsum' b1 b2⟩, hj1⟩, ?_, rfl, .inl rfl, .inl rfl⟩
      rw [wu64 (by omega)]; omega
     ·have h3 := of_decide_eq_false h3
      rw [hv1, wu64 (n := (r : Int) + c.v1) (by omega), shr_eq (by decide) (by omega)] at h3
      simp only [show (32 : Int).toNat = 32 from rfl] at h3
      refine ⟨(x1, d - 1, r + c.v1), ⟨⟨hg.main, hg.jp, hsum', Nat.le_sub_one_of_lt hlt, by simp only; omega⟩, hj1, by simp only; omega⟩, ?_, ?_, rfl, .inl rfl, .inl rfl⟩
      ·rw [wu64 (by omega)]; simp only; omega
      ·rw [hv1, wu64 (by omega)]; simp
    ·have h2 := of_decide_eq_false h2
     rw [g3, g4] at h2
     have hfin : d * c.v2 ≤ r * 4294967296 + x1.u3 c := by omega
     exact ⟨(x1, d), ⟨⟨hg.main, hg.jp, hd, hge, qd1.fin hsum hd hfin⟩, hj1⟩, rfl, rfl, .inl rfl, .inl rfl⟩
  ·intro x1 hx1 hj1
   obtain ⟨x1, d⟩ := x1
   obtain ⟨hl, hj1p, hd, hge, hle⟩ := hx1
   have hlu1 := hl.lu
   have hjq1 := hl.hj
   simp only at hl hj1p hd hge hle hlu1 hjq1 hj1 ⊢
   have k0 : ((x1.j : Int) - 1).toNat = x1.j - 1 := by omega
   have k1 : IntKind.i64.wrap (IntKind.i64.wrap ((x1.j : Int) - 1 + c.n) + 1) = ((x1.j - 1 + (c.n + 1) : Nat) : Int) := by rw [w64 (n := (x1.j : Int) - 1 + c.n) (by omega), w64 (by omega)]; omega
   simp only [k0, k1, Int.toNat_natCast]
   have ho : x1.j - 1 + (c.n + 1) ≤ x1.us.length := by omega
   have spd : ∀ m, Dig 4294967296 (spl x1.us (x1.j - 1) (fd 4294967296 (c.n + 1) m)) := fun m => hl.du.take.append ((Dig.fd (by decide)).append hl.du.drop)
   have spn : ∀ m, (spl x1.us (x1.j - 1) (fd 4294967296 (c.n + 1) m)).length = x1.us.length := fun m => spl_len (by rw [fd_len]; exact ho)
   refine ⟨⟨by omega, x1.us, c.vs, rfl, rfl, by omega, hl.du, dv, by omega, ho, by omega, by omega, bif_mk (fun h => ?_) (fun h => ?_)⟩, fun x2 hx2 hj2 => ?_⟩
   ·have h := of_decide_eq_true h
    obtain ⟨r1, r2⟩ := hl.putted hc hj1p h hle
    refine ⟨by omega, _, c.vs, rfl, rfl, by omega, spd _, dv, by rw [spn]; exact ho, by omega, by rw [spn]; omega, x1, ⟨⟨hl, hj1p⟩, hj1⟩, ?_, rfl, .inl ?_, .inl rfl, .inl rfl⟩
    ·have hdp : 1 ≤ d := by rw [r1]; exact Nat.le_add_left _ _
     have hdm : d - 1 = x1.W c / c.V := by rw [r1]; exact Nat.add_sub_cancel _ _
     rw [wu64 (by omega), ← hdm]; omega
    ·rw [r2, spl_spl (by rw [fd_len]; exact ho) (by rw [fd_len, fd_len])]
   ·have h := of_decide_eq_false h
    obtain ⟨r1, r2⟩ := hl.taken hc hj1p h hge
    refine ⟨x1, ⟨⟨hl, hj1p⟩, hj1⟩, by rw [r1], rfl, .inl (by rw [r2]), .inl rfl, .inl rfl⟩
   ·obtain ⟨hl2, hj2p⟩ := hx2
    have hjq2 := hl2.hj
    have lq2 := hl2.lq
    have hq := (hl2.qd hc hj2p).q_lt
    have k2 : ((x2.j : Int) - 1).toNat = x2.j - 1 := by omega
    have hq0 : IntKind.u32.wrap ((x2.W c / c.V : Nat) : Int) = ((x2.W c / c.V : Nat) : Int) := by
     generalize x2.W c / c.V = y at hq ⊢
     exact wu32 (by omega)
    rw [k2, hq0, w64 (by omega), W_set]
    exact ⟨by omega, by rw [W_len]; omega, _, ⟨hl2.next hc hj2p, by simp only; omega⟩, by simp only; omega, .inl rfl, .inl rfl⟩
 ·have hp := of_decide_eq_false hp
  have hj0 : x.j = 0 := by omega
  have hd : DoneI c x := ⟨hx, hj0⟩
  have hlu := hx.lu
  simp only [Int.toNat_natCast, Nat.sub_zero]
  refine ⟨by omega, ⟨⟨x, x.us, 0⟩, ⟨hd, ShiftI.init hc hx⟩, ?_⟩, fun y hy => bif_mk (fun hp => ?_) (fun hp => ?_)⟩
  ·simp
  ·obtain ⟨x, wd, i⟩ := y
   have hp : i < c.n := by simpa using hp
   have hxm := hy.main.main
   have hst := hy.sh.step hc hxm.du hxm.lu hp
   have lw := hy.sh.lw
   have rest := hy.sh.rest
   have hlu := hxm.lu
   simp only at hst lw rest hlu ⊢
   have hud := hxm.du.getD (i := i) (by decide)
   have hud1 := hxm.du.getD (i := i + 1) (by decide)
   have hil : i < x.us.length := by omega
   have gwd : wd[i]? = some (x.us.getD i 0) := by
    have h0 := congrArg (fun l : List Nat => l[0]?) rest
    simp only [List.getElem?_drop, Nat.add_zero] at h0
    rw [h0, List.getD_eq_getElem?_getD, List.getElem?_eq_getElem hil]; rfl
   have gwd1 : wd[i + 1]? = some (x.us.getD (i + 1) 0) := by
    have h0 := congrArg (fun l : List Nat => l[1]?) rest
    simp only [List.getElem?_drop] at h0
    rw [h0, List.getD_eq_getElem?_getD, List.getElem?_eq_getElem (by omega)]; rfl
   have f5 : IntKind.i64.wrap ((i : Int) + 1) = ((i + 1 : Nat) : Int) := by rw [w64 (by omega)]; simp
   have f6 : IntKind.i64.wrap (32 - (c.s : Int)) = ((32 - c.s : Nat) : Int) := by rw [w64 (by omega)]; omega
   have f7 : shrI .u32 ((x.us.getD i 0 : Nat) : Int) (c.s : Int) = ((x.us.getD i 0 / 2 ^ c.s : Nat) : Int) := shr32 (by omega)
   simp only [f5, f6, Int.toNat_natCast]
   refine ⟨by omega, _, W_ldE gwd, by omega, by omega, by rw [W_len]; omega, ?_⟩
   rw [f7, W_set]
   have gs : (wd.set i (x.us.getD i 0 / 2 ^ c.s))[i]? = some (x.us.getD i 0 / 2 ^ c.s) := by rw [List.getElem?_set]; simp; omega
   have gs1 : (wd.set i (x.us.getD i 0 / 2 ^ c.s))[i + 1]? = some (x.us.getD (i + 1) 0) := by rw [List.getElem?_set, if_neg (by omega)]; exact gwd1
   refine bif_mk (fun h => ?_) (fun h => ?_)
   ·refine ⟨by omega, _, W_ldE gs, by omega, _, W_ldE gs1, by omega, by omega, by rw [W_len, List.length_set]; omega, ⟨x, _, i + 1⟩, ⟨⟨hy.main, hst⟩, by simp only; omega⟩, rfl, .inl ?_, .inl rfl⟩
    rw [shl_low hud1 hs32, or_shift hud hs32, W_set, List.set_set]
   ·have h := of_decide_eq_false h
    have hin : i + 1 = c.n := by omega
    have hz := hy.main.un hc
    rw [hin] at hst
    simp only at hz
    rw [hz, Nat.zero_mod, Nat.zero_mul, Nat.add_zero, ← hin] at hst
    exact ⟨⟨x, _, i + 1⟩, ⟨⟨hy.main, hst⟩, by simp only; omega⟩, rfl, .inl rfl, .inl rfl⟩
  ·obtain ⟨x, wd, i⟩ := y
   have hp : ¬ i < c.n := by simpa using hp
   have hi := hy.sh.hi
   have hsh := hy.sh
   simp only at hi hsh ⊢
   have : i = c.n := by omega
   subst this
   have e1 := hsh.fin hc hy.main
   have e2 := hy.main.q hc
   simp only at e1 e2
   exact ⟨(), .inl (by rw [e2]), .inl (by rw [e1])⟩
end Go.Proofs
/- Natural numbers, twelfth part: the contract of long division. -/
namespace Go.Proofs
open Go Go.Eng
def c_long : CtrM := fun as0 H d => match as0 with
 | [.x false [.w k 0 n1], .x false [.w k2 0 n2]] => match H k, H k2, H (d + 1000), H (d + 2000) with
  | some (.row t 1 xs0), some (.row t2 1 ys0), none, none => bif t.beq 86 && t2.beq 86 && !(k.beq k2) then
    some fun K => ∃ xs ys s, xs0 = W xs ∧ ys0 = W ys ∧ n1 = xs.length ∧ n2 = ys.length ∧ LongH ⟨xs, ys, s⟩ ∧
     K (.t [(false, [.w (d + 1000) 0 (xs.length + 1 - ys.length)]), (false, [.w (d + 2000) 0 ys.length])])
      (backH [(1000, k), (1001, k2), (1002, d + 1000), (1003, d + 2000)] (lookH [(1000, rowW xs), (1001, rowW ys), (1002, rowW (fd 4294967296 (xs.length + 1 - ys.length) (leNat 4294967296 xs / leNat 4294967296 ys))), (1003, rowW (fd 4294967296 (xs.length + 1) (leNat 4294967296 xs % leNat 4294967296 ys)))]) H)
    else none
  | _, _, _, _ => none
 | _ => none
theorem ok_long {g : Nat} {tab : List Value} : CtrMOK Tryd.prog g tab 53 c_long := by
 refine ⟨enters Tryd.func53 (by kernel_rfl), fun l H d T hT K hK => ?_⟩
 unfold c_long at hT
 split at hT
 ·rename_i k n1 k2 n2
  split at hT
  ·rename_i t xs0 t2 ys0 e1 e2 e3 e4
   cases hb : t.beq 86 && t2.beq 86 && !(k.beq k2) with
   | false => rw [hb] at hT; cases hT
   | true =>
    rw [hb] at hT
    cases hT
    simp only [Bool.and_eq_true, Bool.not_eq_true'] at hb
    obtain ⟨⟨ht, ht2⟩, hk⟩ := hb
    have ht := Nat.eq_of_beq_eq_true ht
    have ht2 := Nat.eq_of_beq_eq_true ht2
    have hk : k ≠ k2 := fun e => by subst e; simp at hk
    subst ht ht2
    obtain ⟨xs, ys, s, rfl, rfl, rfl, rfl, hc, hK⟩ := hK
    refine specM_of (R := [(1000, k), (1001, k2)]) (N := [(1002, d + 1000), (1003, d + 2000)]) (Hl := [(1000, rowW xs), (1001, rowW ys)]) T11ok mixed Tryd.func53 (by kernel_rfl) (by kernel_rfl) (by rfl)
     (as0 := [wA 1000 xs.length, wA 1001 ys.length]) ?_ (hand2 e1 e2 hk rfl rfl rfl rfl) rfl (by simp) (by simp) (fun p hp => ?_) (fun x => ⟨fun p hp => ?_, fun p hp b hb => ?_⟩) (g_long ⟨xs, ys, s⟩ hc) (fun x _ => ?_)
    ·simp [renAs, renAV, renCh, (lkB2 hk).1, (lkB2 hk).2, wA]
    ·simp at hp
     rcases hp with rfl | rfl
     ·exact e3
     ·exact e4
    ·simp at hp
     rcases hp with rfl | rfl
     ·exact fun h => by have h' : some (rowW _) = none := h; cases h'
     ·exact fun h => by have h' : some (rowW _) = none := h; cases h'
    ·simp at hp
     rcases hp with rfl | rfl | rfl | rfl
     ·have h' : some (rowW _) = some b := hb; cases h'; rfl
     ·have h' : some (rowW _) = some b := hb; cases h'; rfl
     ·have h' : some (rowW _) = some b := hb; cases h'; rfl
     ·have h' : some (rowW _) = some b := hb; cases h'; rfl
    ·exact ⟨_, rfl, hK⟩
  ·cases hT
 ·cases hT
def M12 : List (Nat × CtrM) := (53, c_long) :: M10
noncomputable def T12 : Tabs := mkT L11 M12 X3
theorem M12ok {g : Nat} {tab : List Value} : CtrMsOK Tryd.prog g tab M12 := .cons ok_long M10ok
theorem T12ok {g : Nat} {tab : List Value} : TabsOK Tryd.prog g tab T12 := mkTok L11ok M12ok X3ok
end Go.Proofs
/- Natural numbers, thirteenth part: Div. -/
namespace Go.Proofs
open Go Go.Eng
structure DivX where
 cur : List Nat
 rest : Nat
 j : Nat
structure DivI (xs : List Nat) (y : Nat) (x : DivX) : Prop where
 dc : Dig 4294967296 x.cur
 lc : x.cur.length = xs.length
 hj : x.j ≤ xs.length
 hr : x.rest < y
 low : x.cur.take x.j = xs.take x.j
 inv : leNat 4294967296 (xs.drop x.j) = y * leNat 4294967296 (x.cur.drop x.j) + x.rest
def inv_Div (m a n b : Nat) : LI := fun id => bif id.beq 8 then .cut ⟨Unit, fun _ => ⟨[(0, bA m a), (1, bA n b)], []⟩, fun _ => n ≠ 0 ∧ n ≤ m, fun _ => 0, fun _ => 0⟩
 else .inv ⟨DivX, fun x => ⟨[(7, wA 48 (wl m)), (8, wA 50 (wl n)), (9, iA .u64 x.rest), (10, iA .i64 ((x.j : Int) - 1))], [(48, rowW x.cur), (50, rowW (fd 4294967296 (wl n) n))]⟩, DivI (fd 4294967296 (wl m) m) n, fun x => x.j, fun _ => 0⟩
def ot_Div : OT := fun id => bif id.beq 15 then ([0, 1, 2, 3, 4, 5, 6, 7, 8, 9, 10, 11, 12, 13, 14, 15, 16, 17], [[], [], [], [], [3], [4, 3], [5, 4, 3], [2, 6, 5, 4, 3], [7, 2, 6, 5, 4, 3], [], [], [10], [11, 10], [12, 11, 10], [9, 13, 12, 11, 10], [0, 1, 2, 3, 4, 5, 6, 7, 8, 12, 11, 10], [15, 0, 1, 2, 3, 4, 5, 6, 7, 8, 12, 11, 10], [14, 9, 13, 12, 11, 10, 16, 15, 0, 1, 2, 3, 4, 5, 6, 7, 8]]) else ([], [])
def goal_Div (m a n b : Nat) (K : AV → Prop) : Prop := goalL T12 ot_Div (inv_Div m a n b) Tryd.f48 [bA m a, bA n b] K
theorem goal_Div_vc (m : Nat) (a : Nat) (n : Nat) (b : Nat) (K : AV → Prop) : goal_Div m a n b K = ((bif decide (natBytes n=[]) then K (AV.t [(false,[Ch.v (Value.string (ByteArray.mk (Array.mk [])))]),(false,[Ch.v (Value.string (ByteArray.mk (Array.mk [])))]),(false,[Ch.v (Value.int IntKind.i64 12)])]) else bif decide (Int.ofNat (natBytes m).length≤8) then bif decide (Int.ofNat (natBytes n).length≤8) then m<18446744073709551616∧n<18446744073709551616∧Int.ofNat n≠0∧(0≤IntKind.u64.wrap ((Int.ofNat m).tdiv (Int.ofNat n))∧IntKind.u64.wrap ((Int.ofNat m).tdiv (Int.ofNat n))<18446744073709551616)∧m<18446744073709551616∧n<18446744073709551616∧Int.ofNat n≠0∧(0≤(Int.ofNat m).tmod (Int.ofNat n)∧(Int.ofNat m).tmod (Int.ofNat n)<18446744073709551616)∧K (AV.t [(false,[Ch.b (IntKind.u64.wrap ((Int.ofNat m).tdiv (Int.ofNat n))).toNat 64]),(false,[Ch.b ((Int.ofNat m).tmod (Int.ofNat n)).toNat 64]),(false,[Ch.v (Value.int IntKind.i64 0)])]) else bif decide (cmpN m n<0) then K (AV.t [(false,[Ch.v (Value.string (ByteArray.mk (Array.mk [])))]),(false,[Ch.b m a]),(false,[Ch.v (Value.int IntKind.i64 0)])]) else ∃(x:Unit),((n≠0∧n≤m)∧OfNat.ofNat 0=0)∧m=m∧a≤a∧n=n∧b≤b∧True else bif decide (cmpN m n<0) then K (AV.t [(false,[Ch.v (Value.string (ByteArray.mk (Array.mk [])))]),(false,[Ch.b m a]),(false,[Ch.v (Value.int IntKind.i64 0)])]) else ∃(x:Unit),((n≠0∧n≤m)∧OfNat.ofNat 0=0)∧m=m∧a≤a∧n=n∧b≤b∧True)∧∀(x:Unit),n≠0∧n≤m→OfNat.ofNat 0=0→a≤1099511627776∧b≤1099511627776∧bif Int.ofNat (wl n)==1 then (∃(x:DivX),(DivI (fd 4294967296 (wl m) m) n x∧OfNat.ofNat 0=0)∧0=0∧wl m=wl m∧0=0∧wl n=wl n∧0=Int.ofNat x.rest∧IntKind.i64.wrap (Int.ofNat (wl m)-1)=Int.ofNat x.j-1∧86=86∧1=1∧(W (fd 4294967296 (wl m) m)=W x.cur∨RowLE (W (fd 4294967296 (wl m) m)) (W x.cur))∧86=86∧1=1∧(W (fd 4294967296 (wl n) n)=W (fd 4294967296 (wl n) n)∨RowLE (W (fd 4294967296 (wl n) n)) (W (fd 4294967296 (wl n) n)))∧True)∧∀(x:DivX),DivI (fd 4294967296 (wl m) m) n x→OfNat.ofNat 0=0→bif decide (Int.ofNat x.j-1≥0) then (0:Int)≤32∧(0≤Int.ofNat x.j-1∧Int.ofNat x.j-1<Int.ofNat (wl m))∧∃(d:Int),ldE (W x.cur) (0+(Int.ofNat x.j-1).toNat) 0 1=some [Ch.v (Value.int IntKind.u32 d)]∧((0:Int)≤0∧0<Int.ofNat (wl n))∧∃(d_1:Int),ldE (W (fd 4294967296 (wl n) n)) 0 0 1=some [Ch.v (Value.int IntKind.u32 d_1)]∧IntKind.u64.wrap d_1≠0∧((0:Int)≤0∧0<Int.ofNat (wl n))∧∃(d_2:Int),ldE (W (fd 4294967296 (wl n) n)) 0 0 1=some [Ch.v (Value.int IntKind.u32 d_2)]∧IntKind.u64.wrap d_2≠0∧(0≤Int.ofNat x.j-1∧Int.ofNat x.j-1<Int.ofNat (wl m))∧0+(Int.ofNat x.j-1).toNat<(W x.cur).length∧∃(x':DivX),(DivI (fd 4294967296 (wl m) m) n x'∧OfNat.ofNat 0=0∧x'.j<x.j)∧0=0∧wl m=wl m∧0=0∧wl n=wl n∧(orI IntKind.u64 (shlI IntKind.u64 (Int.ofNat x.rest) 32) (IntKind.u64.wrap d)).tmod (IntKind.u64.wrap d_2)=Int.ofNat x'.rest∧IntKind.i64.wrap (Int.ofNat x.j-1-1)=Int.ofNat x'.j-1∧86=86∧1=1∧((W x.cur).set (0+(Int.ofNat x.j-1).toNat) [Ch.v (Value.int IntKind.u32 (IntKind.u32.wrap (IntKind.u64.wrap ((orI IntKind.u64 (shlI IntKind.u64 (Int.ofNat x.rest) 32) (IntKind.u64.wrap d)).tdiv (IntKind.u64.wrap d_1)))))]=W x'.cur∨RowLE ((W x.cur).set (0+(Int.ofNat x.j-1).toNat) [Ch.v (Value.int IntKind.u32 (IntKind.u32.wrap (IntKind.u64.wrap ((orI IntKind.u64 (shlI IntKind.u64 (Int.ofNat x.rest) 32) (IntKind.u64.wrap d)).tdiv (IntKind.u64.wrap d_1)))))]) (W x'.cur))∧86=86∧1=1∧(W (fd 4294967296 (wl n) n)=W (fd 4294967296 (wl n) n)∨RowLE (W (fd 4294967296 (wl n) n)) (W (fd 4294967296 (wl n) n)))∧True else ∃(ds:List Nat),List.take (wl m) (List.drop 0 (W x.cur))=W ds∧(∀(d:Nat),d ∈ ds→d<4294967296)∧ds.length≤1099511627776∧(0≤Int.ofNat x.rest∧Int.ofNat x.rest<18446744073709551616)∧K (AV.t [(false,[Ch.b (leNat 4294967296 ds) (32*ds.length)]),(false,[Ch.b (Int.ofNat x.rest).toNat 64]),(false,[Ch.v (Value.int IntKind.i64 0)])]) else ∃(xs:List Nat),∃(ys:List Nat),∃(s:Nat),W (fd 4294967296 (wl m) m)=W xs∧W (fd 4294967296 (wl n) n)=W ys∧wl m=xs.length∧wl n=ys.length∧LongH (LongC.mk xs ys s)∧∃(ds:List Nat),List.take (xs.length+1-ys.length) (List.drop 0 (W (fd 4294967296 (xs.length+1-ys.length) (leNat 4294967296 xs/leNat 4294967296 ys))))=W ds∧(∀(d:Nat),d ∈ ds→d<4294967296)∧ds.length≤1099511627776∧∃(ds_1:List Nat),List.take ys.length (List.drop 0 (W (fd 4294967296 (xs.length+1) (leNat 4294967296 xs%leNat 4294967296 ys))))=W ds_1∧(∀(d:Nat),d ∈ ds_1→d<4294967296)∧ds_1.length≤1099511627776∧K (AV.t [(false,[Ch.b (leNat 4294967296 ds) (32*ds.length)]),(false,[Ch.b (leNat 4294967296 ds_1) (32*ds_1.length)]),(false,[Ch.v (Value.int IntKind.i64 0)])])) := by kernel_rfl
theorem DivI.step {xs : List Nat} {y : Nat} {x : DivX} (h : DivI xs y x) (dx : Dig 4294967296 xs) (hy : y < 4294967296) (hj : 0 < x.j) {d : Nat} (hd : xs[x.j - 1]? = some d) : DivI xs y ⟨x.cur.set (x.j - 1) ((x.rest * 4294967296 + d) / y), (x.rest * 4294967296 + d) % y, x.j - 1⟩ := by
 obtain ⟨dc, lc, hjl, hr, low, inv⟩ := h
 have dd := dx.get hd
 have hq : (x.rest * 4294967296 + d) / y < 4294967296 := by
  apply Nat.div_lt_of_lt_mul
  have : (x.rest + 1) * 4294967296 ≤ y * 4294967296 := Nat.mul_le_mul_right _ hr
  omega
 have gx : xs.drop (x.j - 1) = d :: xs.drop x.j := by
  have hlt := (List.getElem?_eq_some_iff.1 hd).1
  rw [List.drop_eq_getElem_cons hlt, (List.getElem?_eq_some_iff.1 hd).2, show x.j - 1 + 1 = x.j by omega]
 have gq : (x.cur.set (x.j - 1) ((x.rest * 4294967296 + d) / y)).drop (x.j - 1) = (x.rest * 4294967296 + d) / y :: x.cur.drop x.j := by
  rw [List.drop_eq_getElem_cons (by simp; omega), List.getElem_set_self, List.drop_set_of_lt (by omega), show x.j - 1 + 1 = x.j by omega]
 refine ⟨dc.set hq, by simpa using lc, by simp only; omega, Nat.mod_lt _ (by omega), ?_, ?_⟩
 ·simp only
  rw [take_set_eq]
  have := congrArg (List.take (x.j - 1)) low
  rwa [List.take_take, List.take_take, Nat.min_eq_left (by omega)] at this
 ·simp only
  rw [gx, gq, leNat_cons, leNat_cons, inv]
  have := Nat.div_add_mod (x.rest * 4294967296 + d) y
  generalize (x.rest * 4294967296 + d) / y = q at this ⊢
  generalize (x.rest * 4294967296 + d) % y = r at this ⊢
  generalize leNat 4294967296 (x.cur.drop x.j) = v
  rw [Nat.mul_add, Nat.mul_add]
  have e : y * (4294967296 * v) = 4294967296 * (y * v) := by rw [← Nat.mul_assoc, Nat.mul_comm y, Nat.mul_assoc]
  omega
/-- A quotient, a remainder and an error. -/
def NatRes (q a r b : Nat) (e : Int) (av : AV) : Prop := ∃ x y, av = .t [(false, [x]), (false, [y]), (false, [.v (.int .i64 e)])] ∧ NatIs q a (.x false [x]) ∧ NatIs r b (.x false [y])
theorem wl_lo {n : Nat} (h : n ≠ 0) : 0 < wl n ∧ 4294967296 ^ (wl n - 1) ≤ n := by
 have hl : (natBytes n).length ≠ 0 := fun h' => h (natBytes_nil.1 (List.eq_nil_of_length_eq_zero h'))
 have h1 : ¬ n < 256 ^ ((natBytes n).length - 1) := fun h' => by have := natBytes_len_iff.2 h'; omega
 refine ⟨by unfold wl; omega, ?_⟩
 rw [show (4294967296 : Nat) = 256 ^ 4 from rfl, ← Nat.pow_mul]
 have : (256 : Nat) ^ (4 * (wl n - 1)) ≤ 256 ^ ((natBytes n).length - 1) := Nat.pow_le_pow_right (by decide) (by unfold wl; omega)
 omega
theorem norm_ex {t : Nat} (h0 : t ≠ 0) (h : t < 4294967296) : ∃ s, s < 32 ∧ 2147483648 ≤ t * 2 ^ s ∧ t * 2 ^ s < 4294967296 := by
 have h1 := Nat.log2_self_le h0
 have h2 := @Nat.lt_log2_self t
 have h3 : t.log2 < 32 := (Nat.log2_lt h0).2 (show t < 2 ^ 32 from h)
 refine ⟨31 - t.log2, by omega, ?_, ?_⟩
 ·have e : 2 ^ t.log2 * 2 ^ (31 - t.log2) = 2147483648 := by rw [← Nat.pow_add, show t.log2 + (31 - t.log2) = 31 by omega]
  rw [← e]; exact Nat.mul_le_mul_right _ h1
 ·have e : 2 ^ (t.log2 + 1) * 2 ^ (31 - t.log2) = 4294967296 := by rw [← Nat.pow_add, show t.log2 + 1 + (31 - t.log2) = 32 by omega]
  rw [← e]; exact Nat.mul_lt_mul_of_pos_right h2 (Nat.pow_pos (by decide))
theorem fd_top {n : Nat} (h : n ≠ 0) : (fd 4294967296 (wl n) n).getD (wl n - 1) 0 = n / 4294967296 ^ (wl n - 1) ∧ n / 4294967296 ^ (wl n - 1) ≠ 0 ∧ n / 4294967296 ^ (wl n - 1) < 4294967296 := by
 obtain ⟨h1, h2⟩ := wl_lo h
 have hp := wl_pow n
 refine ⟨getD_of (fd_get_last h1 hp), ?_, ?_⟩
 ·have := Nat.div_pos h2 (Nat.pow_pos (by decide)); exact Nat.ne_of_gt this
 ·apply Nat.div_lt_of_lt_mul
  rw [← Nat.pow_succ, show (wl n - 1).succ = wl n by omega]; exact hp
theorem fd_take {B L k v : Nat} (h : k ≤ L) : (fd B L v).take k = fd B k v := by
 simp only [fd, ← List.map_take, List.take_range, Nat.min_eq_left h]
theorem quo_lt {m n : Nat} (hn : n ≠ 0) (hle : n ≤ m) : m / n < 4294967296 ^ (wl m + 1 - wl n) := by
 obtain ⟨h1, h2⟩ := wl_lo hn
 have h3 := wl_mono hle
 have hp := wl_pow m
 apply Nat.div_lt_of_lt_mul
 have e : (4294967296 : Nat) ^ wl m = 4294967296 ^ (wl n - 1) * 4294967296 ^ (wl m + 1 - wl n) := by rw [← Nat.pow_add]; congr 1; omega
 rw [e] at hp
 exact Nat.lt_of_lt_of_le hp (Nat.mul_le_mul_right _ h2)
theorem longH_of {m n : Nat} (hn : n ≠ 0) (hle : n ≤ m) (h2 : 2 ≤ wl n) (hm : wl m ≤ 1099511627776) : ∃ s, LongH ⟨fd 4294967296 (wl m) m, fd 4294967296 (wl n) n, s⟩ := by
 obtain ⟨e, h3, h4⟩ := fd_top hn
 obtain ⟨s, s1, s2, s3⟩ := norm_ex h3 h4
 refine ⟨s, Dig.fd (by decide), Dig.fd (by decide), by simpa [fd_len] using h2, by simpa [fd_len] using wl_mono hle, by simpa [fd_len] using hm, s1, ?_, ?_⟩
 ·simp only [fd_len, e]; exact s2
 ·simp only [fd_len, e]; exact s3
theorem g_Div (m a n b : Nat) (ha : a ≤ 549755813888) (hb : b ≤ 549755813888) (hm : m < 2 ^ a) (hn : n < 2 ^ b) : Holds (goal_Div m a n b (NatRes (m / n) a (bif decide (n = 0) then 0 else m % n) b (bif decide (n = 0) then 12 else 0))) := by
 refine ⟨?_⟩
 rw [goal_Div_vc]
 have hwm := wl_le hm
 have hwn := wl_le hn
 have hpb : 0 < 2 ^ b := Nat.pow_pos (by decide)
 have hpa : 0 < 2 ^ a := Nat.pow_pos (by decide)
 have hqa : m / n < 2 ^ a := Nat.lt_of_le_of_lt (Nat.div_le_self _ _) hm
 simp only [Int.ofNat_eq_natCast, true_and, and_true, Nat.zero_add, Nat.le_refl, true_implies, true_or]
 have small : n ≠ 0 → decide (cmpN m n < 0) = true → NatRes (m / n) a (bif decide (n = 0) then 0 else m % n) b (bif decide (n = 0) then 12 else 0) (.t [(false, [.v (.string ⟨⟨[]⟩⟩)]), (false, [.b m a]), (false, [.v (.int .i64 0)])]) := by
  intro h0 h
  have hlt : m < n := by
   have h := of_decide_eq_true h
   unfold cmpN at h
   rcases Nat.lt_or_ge m n with h' | h'
   ·exact h'
   ·rw [if_neg (by omega)] at h; split at h <;> simp at h
  simp only [h0, decide_false, cond_false]
  rw [Nat.div_eq_of_lt hlt, Nat.mod_eq_of_lt hlt]
  exact ⟨_, _, rfl, ⟨hpa, .inr ⟨[], rfl, rfl⟩⟩, .b (by omega)⟩
 have big : n ≠ 0 → decide (cmpN m n < 0) = false → ∃ _x : Unit, n ≠ 0 ∧ n ≤ m := by
  intro h0 h
  have h := of_decide_eq_false h
  refine ⟨(), h0, ?_⟩
  unfold cmpN at h
  rcases Nat.lt_or_ge m n with h' | h'
  ·rw [if_pos h'] at h; simp at h
  ·exact h'
 refine ⟨bif_mk (fun h => ?_) (fun h => ?_), fun _ hx => ⟨by omega, by omega, bif_mk (fun h => ?_) (fun h => ?_)⟩⟩
 ·have h0 : n = 0 := natBytes_nil.1 (of_decide_eq_true h)
  subst h0
  simp only [Nat.div_zero, decide_true, cond_true]
  exact ⟨_, _, rfl, ⟨hpa, .inr ⟨[], rfl, rfl⟩⟩, ⟨hpb, .inr ⟨[], rfl, rfl⟩⟩⟩
 ·have h0 : n ≠ 0 := fun h' => (of_decide_eq_false h) (natBytes_nil.2 h')
  refine bif_mk (fun h1 => bif_mk (fun h2 => ?_) (fun h2 => bif_mk (fun h3 => small h0 h3) (fun h3 => big h0 h3))) (fun h1 => bif_mk (fun h3 => small h0 h3) (fun h3 => big h0 h3))
  have h1 := of_decide_eq_true h1
  have h2 := of_decide_eq_true h2
  have m8 := natBytes_len_iff (m := m) (k := 8) |>.1 (by omega)
  have n8 := natBytes_len_iff (m := n) (k := 8) |>.1 (by omega)
  have e1 : (m : Int).tdiv n = ((m / n : Nat) : Int) := by rw [te (Int.natCast_nonneg m)]; simp
  have e2 : (m : Int).tmod n = ((m % n : Nat) : Int) := by rw [tm (Int.natCast_nonneg m)]; simp
  have q1 : m / n ≤ m := Nat.div_le_self _ _
  have r1 : m % n ≤ m := Nat.mod_le _ _
  have r2 : m % n < n := Nat.mod_lt _ (by omega)
  rw [e1, e2]
  simp only [h0, decide_false, cond_false]
  generalize m / n = q at q1 hqa ⊢
  generalize m % n = r at r1 r2 ⊢
  rw [wu64 (by omega), Int.toNat_natCast, Int.toNat_natCast]
  exact ⟨by omega, by omega, by omega, by omega, by omega, by omega, by omega, by omega, _, _, rfl, .b hqa, .b (by omega)⟩
 ·obtain ⟨h0, hle⟩ := hx
  have hw1 : wl n = 1 := by have h := (by simpa using h : (wl n : Int) = 1); omega
  have hnB : n < 4294967296 := by have := wl_pow n; rw [hw1, Nat.pow_one] at this; exact this
  have gy : (fd 4294967296 (wl n) n)[0]? = some n := by rw [fd_get (by omega), Nat.pow_zero, Nat.div_one, Nat.mod_eq_of_lt hnB]
  have wn : IntKind.u64.wrap (n : Int) = (n : Int) := wu64 (by omega)
  have vm := leNat_fd (wl_pow m)
  have dx : Dig 4294967296 (fd 4294967296 (wl m) m) := Dig.fd (by decide)
  have lx : (fd 4294967296 (wl m) m).length = wl m := fd_len
  generalize fd 4294967296 (wl m) m = xs at vm dx lx ⊢
  generalize fd 4294967296 (wl n) n = ys at gy ⊢
  refine ⟨⟨⟨xs, 0, wl m⟩, ⟨dx, rfl, by simp only; omega, by simp only; omega, rfl, ?_⟩, rfl, ?_, .inl rfl⟩, fun x hx => bif_mk (fun hp => ?_) (fun hp => ?_)⟩
  ·simp only
   rw [List.drop_of_length_le (by omega)]
   simp [leNat]
  ·rw [w64 (by omega)]
  ·have hp := of_decide_eq_true hp
   have hj : 0 < x.j := by omega
   have hjl := hx.hj
   have lc := hx.lc
   have hr := hx.hr
   obtain ⟨d, hd⟩ : ∃ d, xs[x.j - 1]? = some d := ⟨_, List.getElem?_eq_getElem (by omega)⟩
   have dd := dx.get hd
   have hcd : x.cur[x.j - 1]? = some d := by
    have h1 := congrArg (fun l : List Nat => l[x.j - 1]?) hx.low
    simp only [List.getElem?_take] at h1
    rw [if_pos (by omega), if_pos (by omega)] at h1
    rw [h1]; exact hd
   have hs := hx.step dx hnB hj hd
   have k0 : ((x.j : Int) - 1).toNat = x.j - 1 := by omega
   have k1 : orI .u64 (shlI .u64 (x.rest : Int) 32) (IntKind.u64.wrap (d : Int)) = ((x.rest * 4294967296 + d : Nat) : Int) := by
    have := hi_lo (a := x.rest) (b := d) (by omega) dd
    rw [wu64 (n := (x.rest : Int)) (by omega)] at this
    exact this
   have hq : (x.rest * 4294967296 + d) / n < 4294967296 := by
    apply Nat.div_lt_of_lt_mul
    have : (x.rest + 1) * 4294967296 ≤ n * 4294967296 := Nat.mul_le_mul_right _ hr
    omega
   rw [k0]
   refine ⟨by omega, by omega, d, W_ldE hcd, by omega, n, W_ldE gy, by omega, by omega, n, W_ldE gy, by omega, by omega, by rw [W_len]; omega, _, ⟨hs, by simp only; omega⟩, ?_, ?_, ?_⟩
   ·rw [k1, wn, tm (Int.natCast_nonneg _)]; simp
   ·rw [w64 (by omega)]; simp only; omega
   ·have e1 : ((x.rest * 4294967296 + d : Nat) : Int).tdiv (n : Int) = (((x.rest * 4294967296 + d) / n : Nat) : Int) := by rw [te (Int.natCast_nonneg _)]; simp
    rw [k1, wn, e1]
    generalize (x.rest * 4294967296 + d) / n = q at hq ⊢
    rw [wu64 (by omega), wu32 (by omega), W_set]
    exact .inl rfl
  ·have hp := of_decide_eq_false hp
   have hj : x.j = 0 := by omega
   have lc := hx.lc
   have hr := hx.hr
   have inv := hx.inv
   rw [hj, List.drop_zero, List.drop_zero, vm] at inv
   have hq : leNat 4294967296 x.cur = m / n := by
    rw [inv, Nat.mul_add_div (by omega), Nat.div_eq_of_lt hr, Nat.add_zero]
   have hm2 : x.rest = m % n := by rw [inv, Nat.mul_add_mod, Nat.mod_eq_of_lt hr]
   refine ⟨x.cur, by rw [List.drop_zero, W_take, List.take_of_length_le (by omega)], hx.dc, by omega, by omega, ?_⟩
   simp only [h0, decide_false, cond_false]
   rw [hq, Int.toNat_natCast, ← hm2]
   exact ⟨_, _, rfl, .b hqa, .b (by omega)⟩
 ·obtain ⟨h0, hle⟩ := hx
  have hw2 : 2 ≤ wl n := by
   have := (wl_lo h0).1
   have h := (by simpa using h : ¬ (wl n : Int) = 1)
   omega
  obtain ⟨s, hs⟩ := longH_of h0 hle hw2 (by omega)
  have vm := leNat_fd (wl_pow m)
  have vn := leNat_fd (wl_pow n)
  refine ⟨_, _, s, rfl, rfl, by rw [fd_len], by rw [fd_len], hs, ?_⟩
  rw [vm, vn, fd_len, fd_len]
  simp only [h0, decide_false, cond_false]
  have hq := quo_lt h0 hle
  have hr : m % n < n := Nat.mod_lt _ (by omega)
  refine ⟨fd 4294967296 (wl m + 1 - wl n) (m / n), by rw [List.drop_zero, W_take, List.take_of_length_le (by rw [fd_len]; omega)], Dig.fd (by decide), by rw [fd_len]; omega, fd 4294967296 (wl n) (m % n), ?_, Dig.fd (by decide), by rw [fd_len]; omega, ?_⟩
  ·have := wl_mono hle
   rw [List.drop_zero, W_take, fd_take (by omega)]
  ·rw [leNat_fd hq, leNat_fd (Nat.lt_trans hr (wl_pow n))]
   exact ⟨_, _, rfl, .b hqa, .b (by omega)⟩
theorem NatRes.conc {w : World} {O : Nat → Prop} {ρ : Env} {q a r b : Nat} {e : Int} {av : AV} {v : Value} (h : NatRes q a r b e av) (hc : ConcV w O ρ av v) : ConcV w O ρ (.t [(false, [.b q a]), (false, [.b r b]), (false, [.v (.int .i64 e)])]) v := by
 obtain ⟨x, y, rfl, hx, hy⟩ := h
 obtain ⟨vs, h1, h2⟩ := hc
 cases h1 with
 | cons h1 h3 => cases h3 with
  | cons h3 h4 => exact ⟨_, .cons (hx.conc (av := .x false [x]) h1) (.cons (hy.conc (av := .x false [y]) h3) h4), h2⟩
def c_Div : Ctr := fun as0 => match as0 with
 | [.x false [.b m a], .x false [.b n b]] => some fun K => (a ≤ 549755813888 ∧ b ≤ 549755813888) ∧ K (.t [(false, [.b (m / n) a]), (false, [.b (bif decide (n = 0) then 0 else m % n) b]), (false, [.v (.int .i64 (bif decide (n = 0) then 12 else 0))])])
 | _ => none
theorem ok_Div {g : Nat} {tab : List Value} : CtrOK Tryd.prog g tab 48 c_Div := by
 refine ⟨enters Tryd.func48 (by kernel_rfl), fun l T hT K hK => ?_⟩
 unfold c_Div at hT
 split at hT
 ·rename_i m a n b
  cases hT
  refine spec_pre fun w O ρ vals hc => Eng.Spec.res (spec_ofL T12ok mixed Tryd.func48 (by kernel_rfl) (by kernel_rfl) (by rfl) (g_Div m a n b hK.1.1 hK.1.2 (conc_lt hc) (conc_lt2 hc))) fun _ _ _ _ hn hc => ⟨_, hK.2, hn.conc hc⟩
 ·cases hT
def L13 : List (Nat × Ctr) := (48, c_Div) :: L11
noncomputable def T13 : Tabs := mkT L13 M12 X3
theorem L13ok {g : Nat} {tab : List Value} : CtrsOK Tryd.prog g tab L13 := .cons ok_Div L11ok
theorem T13ok {g : Nat} {tab : List Value} : TabsOK Tryd.prog g tab T13 := mkTok L13ok M12ok X3ok
end Go.Proofs
/- Natural numbers: digits of 64 bits, plain facts. -/
namespace Go.Proofs
open Go Go.Eng
theorem fd_byte64 {m x L : Nat} (hx : x < 8 * L) : (fd 18446744073709551616 L (m % 256 ^ x)).set (x / 8) ((m % 256 ^ x) / 18446744073709551616 ^ (x / 8) % 18446744073709551616 + 256 ^ (x % 8) * (m / 256 ^ x % 256)) = fd 18446744073709551616 L (m % 256 ^ (x + 1)) := by
 have hj : x / 8 < L := by omega
 have hBx : ∀ y, (18446744073709551616 : Nat) ^ y = 256 ^ (8 * y) := fun y => by rw [show (18446744073709551616 : Nat) = 256 ^ 8 from rfl, ← Nat.pow_mul]
 have e4 : 256 ^ x = 18446744073709551616 ^ (x / 8) * 256 ^ (x % 8) := by
  rw [hBx, ← Nat.pow_add]; congr 1; omega
 have hm1 : m % 256 ^ x < 256 ^ x := Nat.mod_lt _ (Nat.pow_pos (by omega))
 have hm2 : m % 256 ^ (x + 1) < 256 ^ (x + 1) := Nat.mod_lt _ (Nat.pow_pos (by omega))
 have hl1 : (256 : Nat) ^ x ≤ 18446744073709551616 ^ L := by rw [hBx]; exact Nat.pow_le_pow_right (by omega) (by omega)
 have hl2 : (256 : Nat) ^ (x + 1) ≤ 18446744073709551616 ^ L := by rw [hBx]; exact Nat.pow_le_pow_right (by omega) (by omega)
 have hd : (m % 256 ^ x) / 18446744073709551616 ^ (x / 8) < 256 ^ (x % 8) := by
  apply Nat.div_lt_of_lt_mul; rw [← e4]; exact hm1
 have hr : x % 8 < 8 := Nat.mod_lt _ (by omega)
 have hp : 256 ^ (x % 8) * 256 ≤ 18446744073709551616 := by
  have : (256 : Nat) ^ (x % 8) * 256 = 256 ^ (x % 8 + 1) := by rw [Nat.pow_succ]
  rw [this, show (18446744073709551616 : Nat) = 256 ^ 8 from rfl]
  exact Nat.pow_le_pow_right (by omega) (by omega)
 have hb : m / 256 ^ x % 256 < 256 := Nat.mod_lt _ (by omega)
 have hdm : (m % 256 ^ x) / 18446744073709551616 ^ (x / 8) % 18446744073709551616 = (m % 256 ^ x) / 18446744073709551616 ^ (x / 8) := Nat.mod_eq_of_lt (by omega)
 have hv : (m % 256 ^ x) / 18446744073709551616 ^ (x / 8) % 18446744073709551616 + 256 ^ (x % 8) * (m / 256 ^ x % 256) < 18446744073709551616 := by
  rw [hdm]
  have : 256 ^ (x % 8) * (m / 256 ^ x % 256 + 1) ≤ 256 ^ (x % 8) * 256 := Nat.mul_le_mul_left _ hb
  rw [Nat.mul_add] at this
  omega
 apply leNat_inj ((Dig.fd (by omega)).set hv) (Dig.fd (by omega)) (by simp [fd_len])
 have h1 := leNat_set (B := 18446744073709551616) (v := (m % 256 ^ x) / 18446744073709551616 ^ (x / 8) % 18446744073709551616 + 256 ^ (x % 8) * (m / 256 ^ x % 256)) (fd_get (B := 18446744073709551616) (m := m % 256 ^ x) hj)
 rw [leNat_fd (by omega), Nat.mul_add, ← Nat.mul_assoc, ← e4] at h1
 rw [leNat_fd (by omega), mod_pow_succ]
 omega
theorem zeros_fd64 {L : Nat} : fd 18446744073709551616 L 0 = List.replicate L 0 :=
 leNat_inj (Dig.fd (by omega)) (Dig.zeros (by omega)) (by simp [fd_len]) (by rw [leNat_fd (Nat.pow_pos (by omega)), leNat_zeros])
theorem byte_lt64 (m x : Nat) : m % 256 ^ x / 18446744073709551616 ^ (x / 8) % 18446744073709551616 < 256 ^ (x % 8) := by
 have hBx : (18446744073709551616 : Nat) ^ (x / 8) = 256 ^ (8 * (x / 8)) := by rw [show (18446744073709551616 : Nat) = 256 ^ 8 from rfl, ← Nat.pow_mul]
 have e4 : 256 ^ x = 18446744073709551616 ^ (x / 8) * 256 ^ (x % 8) := by
  rw [hBx, ← Nat.pow_add]; congr 1; omega
 have hm1 : m % 256 ^ x < 256 ^ x := Nat.mod_lt _ (Nat.pow_pos (by omega))
 refine Nat.lt_of_le_of_lt (Nat.mod_le _ _) (Nat.div_lt_of_lt_mul ?_)
 rw [← e4]; exact hm1
def V (ds : List Nat) : List (List Ch) := ds.map fun (d : Nat) => [.v (.int .u64 (d : Int))]
theorem V_len (ds : List Nat) : (V ds).length = ds.length := by simp [V]
theorem V_get {ds : List Nat} {i d : Nat} (h : ds[i]? = some d) : (V ds)[i]? = some [.v (.int .u64 (d : Int))] := by simp [V, h]
theorem V_ldE {ds : List Nat} {i d : Nat} (h : ds[i]? = some d) : ldE (V ds) i 0 1 = some [.v (.int .u64 (d : Int))] := by simp only [ldE, V_get h]; rfl
theorem V_set (ds : List Nat) (i v : Nat) : (V ds).set i [.v (.int .u64 (v : Int))] = V (ds.set i v) := by simp [V, List.map_set]
theorem V_take (ds : List Nat) (i : Nat) : (V ds).take i = V (ds.take i) := by simp [V, List.map_take]
theorem V_drop (ds : List Nat) (i : Nat) : (V ds).drop i = V (ds.drop i) := by simp [V, List.map_drop]
end Go.Proofs
/- Natural numbers: limbs. -/
namespace Go.Proofs
open Go Go.Eng
def vl (m : Nat) : Nat := ((natBytes m).length + 7) / 8
def inv_limbs (m n : Nat) : LI := fun _ => .inv ⟨Nat, fun i => ⟨[(0, bA m n), (3, .x false [.w 9 0 (vl m)]), (11, iA .i64 (natBytes m).length), (12, iA .i64 i)], [(9, .row 82 1 (V (fd 18446744073709551616 (vl m) (m % 256 ^ i))))]⟩,
 fun i => i ≤ (natBytes m).length, fun i => (natBytes m).length - i, fun _ => 0⟩
def ot_limbs : OT := fun id => bif id.beq 5 then ([0, 1, 2, 3, 4, 5, 6, 7, 8, 9, 10, 11, 12, 13, 14, 15, 16, 17, 18, 19], [[], [], [1], [0, 2, 1], [3, 0, 2, 1], [], [], [6], [7, 6], [], [8, 7, 6, 9], [5, 10, 8, 7, 6, 9], [11, 5, 10, 8, 7, 6, 9], [], [13], [14, 13], [12, 11, 5, 10, 8, 7, 6, 9, 15, 14, 13], [4, 3, 0, 2, 1, 16, 12, 11, 5, 10, 8, 7, 6, 9, 15, 14, 13], [0, 2, 1, 3, 4, 5, 6, 7, 8, 9, 10, 11, 12, 13, 14, 15, 16, 17], [18, 0, 2, 1, 3, 4, 5, 6, 7, 8, 9, 10, 11, 12, 13, 14, 15, 16, 17]]) else ([], [])
def goal_limbs (m n : Nat) : Prop := goalM (X := Unit) T13 ot_limbs (inv_limbs m n) Tryd.f54 [bA m n] [] (fun _ => True) (fun _ => ⟨[(2, .x false [.w 0 0 (vl m)])], [(0, .row 82 1 (V (fd 18446744073709551616 (vl m) m)))]⟩)
theorem goal_limbs_vc (m : Nat) (n : Nat) : goal_limbs m n = ((8:Int)≠0∧(0≤IntKind.i64.wrap ((IntKind.i64.wrap (Int.ofNat (natBytes m).length+7)).tdiv 8)∧IntKind.i64.wrap ((IntKind.i64.wrap (Int.ofNat (natBytes m).length+7)).tdiv 8)≤IntKind.i64.wrap ((IntKind.i64.wrap (Int.ofNat (natBytes m).length+7)).tdiv 8)∧8*IntKind.i64.wrap ((IntKind.i64.wrap (Int.ofNat (natBytes m).length+7)).tdiv 8)≤281474976710656∧IntKind.i64.wrap ((IntKind.i64.wrap (Int.ofNat (natBytes m).length+7)).tdiv 8)≤9223372036854775807)∧(∃(x:Nat),(x≤(natBytes m).length∧OfNat.ofNat 0=0)∧m=m∧n≤n∧0=0∧(IntKind.i64.wrap ((IntKind.i64.wrap (Int.ofNat (natBytes m).length+7)).tdiv 8)).toNat=vl m∧Int.ofNat (natBytes m).length=Int.ofNat (natBytes m).length∧0=Int.ofNat x∧82=82∧1=1∧(List.replicate (IntKind.i64.wrap ((IntKind.i64.wrap (Int.ofNat (natBytes m).length+7)).tdiv 8)).toNat [Ch.v (Value.int IntKind.u64 0)]=V (fd 18446744073709551616 (vl m) (m%256^x))∨RowLE (List.replicate (IntKind.i64.wrap ((IntKind.i64.wrap (Int.ofNat (natBytes m).length+7)).tdiv 8)).toNat [Ch.v (Value.int IntKind.u64 0)]) (V (fd 18446744073709551616 (vl m) (m%256^x))))∧True)∧∀(x:Nat),x≤(natBytes m).length→OfNat.ofNat 0=0→bif decide (Int.ofNat x<Int.ofNat (natBytes m).length) then (8:Int)≠0∧(0≤IntKind.i64.wrap ((Int.ofNat x).tdiv 8)∧IntKind.i64.wrap ((Int.ofNat x).tdiv 8)<Int.ofNat (vl m))∧∃(d:Int),ldE (V (fd 18446744073709551616 (vl m) (m%256^x))) (0+(IntKind.i64.wrap ((Int.ofNat x).tdiv 8)).toNat) 0 1=some [Ch.v (Value.int IntKind.u64 d)]∧∃(b:UInt8),(0≤IntKind.i64.wrap (IntKind.i64.wrap (Int.ofNat (natBytes m).length-1)-Int.ofNat x)∧(natBytes m)[(IntKind.i64.wrap (IntKind.i64.wrap (Int.ofNat (natBytes m).length-1)-Int.ofNat x)).toNat]?=some b)∧(8:Int)≠0∧0≤IntKind.i64.wrap ((Int.ofNat x).tmod 8*8)∧(0≤IntKind.i64.wrap ((Int.ofNat x).tdiv 8)∧IntKind.i64.wrap ((Int.ofNat x).tdiv 8)<Int.ofNat (vl m))∧0+(IntKind.i64.wrap ((Int.ofNat x).tdiv 8)).toNat<(V (fd 18446744073709551616 (vl m) (m%256^x))).length∧∃(x':Nat),(x'≤(natBytes m).length∧OfNat.ofNat 0=0∧(natBytes m).length-x'<(natBytes m).length-x)∧m=m∧n≤n∧0=0∧vl m=vl m∧Int.ofNat (natBytes m).length=Int.ofNat (natBytes m).length∧IntKind.i64.wrap (Int.ofNat x+1)=Int.ofNat x'∧82=82∧1=1∧((V (fd 18446744073709551616 (vl m) (m%256^x))).set (0+(IntKind.i64.wrap ((Int.ofNat x).tdiv 8)).toNat) [Ch.v (Value.int IntKind.u64 (orI IntKind.u64 d (shlI IntKind.u64 (IntKind.u64.wrap (Int.ofNat b.toNat)) (IntKind.i64.wrap ((Int.ofNat x).tmod 8*8)))))]=V (fd 18446744073709551616 (vl m) (m%256^x'))∨RowLE ((V (fd 18446744073709551616 (vl m) (m%256^x))).set (0+(IntKind.i64.wrap ((Int.ofNat x).tdiv 8)).toNat) [Ch.v (Value.int IntKind.u64 (orI IntKind.u64 d (shlI IntKind.u64 (IntKind.u64.wrap (Int.ofNat b.toNat)) (IntKind.i64.wrap ((Int.ofNat x).tmod 8*8)))))]) (V (fd 18446744073709551616 (vl m) (m%256^x'))))∧True else ∃(x_1:Unit),True∧0=0∧vl m=vl m∧82=82∧1=1∧(V (fd 18446744073709551616 (vl m) (m%256^x))=V (fd 18446744073709551616 (vl m) m)∨RowLE (V (fd 18446744073709551616 (vl m) (m%256^x))) (V (fd 18446744073709551616 (vl m) m)))∧True) := by kernel_rfl
theorem or_byte64 {d b r : Nat} (hd : d < 256 ^ r) (hr : r < 8) (hb : b < 256) : orI .u64 (d : Int) (shlI .u64 (IntKind.u64.wrap (b : Int)) ((r : Int) * 8)) = ((d + 256 ^ r * b : Nat) : Int) := by
 have hp : (256 : Nat) ^ r * 256 ≤ 18446744073709551616 := by
  have : (256 : Nat) ^ r * 256 = 256 ^ (r + 1) := by rw [Nat.pow_succ]
  rw [this, show (18446744073709551616 : Nat) = 256 ^ 8 from rfl]
  exact Nat.pow_le_pow_right (by omega) (by omega)
 have h2 : 256 ^ r * (b + 1) ≤ 256 ^ r * 256 := Nat.mul_le_mul_left _ hb
 rw [Nat.mul_add] at h2
 have e1 : shlI .u64 (IntKind.u64.wrap (b : Int)) ((r : Int) * 8) = ((2 ^ (8 * r) * b : Nat) : Int) := by
  have e0 : ((r : Int) * 8).toNat = 8 * r := by omega
  rw [wu64 (by omega), shl_eq (by rw [e0]; simp only [IntKind.bits]; omega), e0]
  have : (b : Int) * 2 ^ (8 * r) = ((2 ^ (8 * r) * b : Nat) : Int) := by rw [Int.natCast_mul, Int.mul_comm]; simp
  rw [this]
  refine wu64 ⟨by omega, ?_⟩
  rw [← pow256]; omega
 rw [e1, orI_comm, orI_u64 (by rw [← pow256]; exact hd) (by rw [← pow256]; omega), ← pow256]
 congr 1; omega
theorem g_limbs (m n : Nat) (hn : n ≤ 1099511627776) (hm : m < 2 ^ n) : Holds (goal_limbs m n) := by
 refine ⟨?_⟩
 rw [goal_limbs_vc]
 have hl := natBytes_len hm
 have hw : ∀ x : Nat, x ≤ (natBytes m).length → (x : Int) < 9223372036854775807 := fun x hx => by omega
 generalize hlen : (natBytes m).length = len at hl hw
 have hwl : vl m = (len + 7) / 8 := by unfold vl; rw [hlen]
 simp only [hwl]
 simp only [Int.ofNat_eq_natCast, true_and, and_true, Nat.zero_add, Nat.le_refl, true_implies]
 simp (disch := omega) only [w64, te, tm]
 have e1 : (((len : Int) + 7) / 8).toNat = (len + 7) / 8 := by omega
 rw [e1]
 simp only [true_and]
 refine ⟨by omega, ⟨by omega, by omega, by omega, by omega⟩, ⟨0, by omega, rfl, .inl ?_⟩, fun x hx => bif_mk (fun hp => ?_) (fun hp => ?_)⟩
 ·rw [Nat.pow_zero, Nat.mod_one, zeros_fd64, V, List.map_replicate]; rfl
 ·have hp : x < len := by simpa using hp
  simp (disch := omega) only [w64]
  have e2 : ((x : Int) / 8).toNat = x / 8 := by omega
  have e3 : ((len : Int) - 1 - x).toNat = len - 1 - x := by omega
  have hj : x / 8 < (len + 7) / 8 := by omega
  rw [e2, e3]
  refine ⟨by omega, by omega, _, V_ldE (fd_get hj), _, ⟨by omega, natBytes_get (by omega)⟩, by omega, by omega, by omega, by rw [V_len, fd_len]; exact hj, x + 1, by omega, by omega, .inl ?_⟩
  rw [hlen, show len - 1 - (len - 1 - x) = x by omega, UInt8.toNat_ofNat', Nat.mod_mod, ← fd_byte64 (by omega), ← V_set]
  congr 4
  rw [show ((x : Int) % 8) = ((x % 8 : Nat) : Int) by omega]
  exact or_byte64 (byte_lt64 m x) (by omega) (Nat.mod_lt _ (by omega))
 ·have hp : ¬ x < len := by simpa using hp
  have : x = len := by omega
  subst this
  exact ⟨(), .inl (by rw [Nat.mod_eq_of_lt (by rw [← hlen]; exact len_natBytes_lt m)])⟩
/-- digits of 64 bits of a number -/
def c_limbs : CtrM := fun as0 H d => match as0 with
  | [.x false [.b m n]] => match H d with
    | none => some fun K => n ≤ 1099511627776 ∧ K (.x false [.w d 0 (vl m)]) (backH [(0, d)] (lookH [(0, .row 82 1 (V (fd 18446744073709551616 (vl m) m)))]) H)
    | some _ => none
  | _ => none
theorem ok_limbs {g : Nat} {tab : List Value} : CtrMOK Tryd.prog g tab 54 c_limbs := by
 refine ⟨enters Tryd.func54 (by kernel_rfl), fun l H d T hT K hK => ?_⟩
 unfold c_limbs at hT
 split at hT
 ·split at hT
  ·rename_i hd
   cases hT
   exact SpecM.pre fun w O ρ vals hc => specM_new T13ok mixed Tryd.func54 (by kernel_rfl) (by kernel_rfl) (by rfl) (by rfl) hd (by kernel_rfl) (g_limbs _ _ hK.1 (conc_lt hc)) hK.2
  ·cases hT
 ·cases hT
end Go.Proofs
/- Natural numbers: cut. -/
namespace Go.Proofs
open Go Go.Eng
def rowV (ds : List Nat) : Blk := .row 82 1 (V ds)
/-- length without the zeros at the top of the window -/
def cutN (us : List Nat) (o : Nat) : Nat → Nat
  | 0 => 0
  | n + 1 => if us[o + n]?.getD 0 = 0 then cutN us o n else n + 1
def inv_cut (us : List Nat) (o n : Nat) : LI := fun _ => .inv ⟨Nat, fun i => ⟨[(0, wO 1000 o i)], [(1000, rowV us)]⟩,
 fun i => i ≤ n ∧ cutN us o i = cutN us o n, fun i => i, fun _ => 0⟩
def ot_cut : OT := fun _ => ([], [])
def goal_cut (us : List Nat) (o n : Nat) : Prop := goalM (X := Unit) T13 ot_cut (inv_cut us o n) Tryd.f65 [wO 1000 o n] [(1000, rowV us)] (fun _ => True)
 (fun _ => ⟨[(2, wO 1000 o (cutN us o n))], [(1000, rowV us)]⟩)
theorem goal_cut_vc (us : List Nat) (o : Nat) (n : Nat) : goal_cut us o n = ((∃(x:Nat),((x≤n∧cutN us o x=cutN us o n)∧OfNat.ofNat 0=0)∧o=o∧n=x∧82=82∧1=1∧(V us=V us∨RowLE (V us) (V us))∧True)∧∀(x:Nat),x≤n∧cutN us o x=cutN us o n→OfNat.ofNat 0=0→bif decide (Int.ofNat x>0) then (0≤IntKind.i64.wrap (Int.ofNat x-1)∧IntKind.i64.wrap (Int.ofNat x-1)<Int.ofNat x)∧∃(d:Int),ldE (V us) (o+(IntKind.i64.wrap (Int.ofNat x-1)).toNat) 0 1=some [Ch.v (Value.int IntKind.u64 d)]∧bif d==0 then ((0:Int)≤0∧0≤IntKind.i64.wrap (Int.ofNat x-1)∧IntKind.i64.wrap (Int.ofNat x-1)≤Int.ofNat x)∧∃(x':Nat),((x'≤n∧cutN us o x'=cutN us o n)∧OfNat.ofNat 0=0∧x'<x)∧o+0=o∧(IntKind.i64.wrap (Int.ofNat x-1)).toNat-0=x'∧82=82∧1=1∧(V us=V us∨RowLE (V us) (V us))∧True else ∃(x_1:Unit),True∧o=o∧x=cutN us o n∧82=82∧1=1∧(V us=V us∨RowLE (V us) (V us))∧True else ∃(x_1:Unit),True∧o=o∧x=cutN us o n∧82=82∧1=1∧(V us=V us∨RowLE (V us) (V us))∧True) := by kernel_rfl
theorem g_cut (us : List Nat) (o n : Nat) (ho : o + n ≤ us.length) (hl : us.length ≤ 2199023255552) : Holds (goal_cut us o n) := by
 refine ⟨?_⟩
 rw [goal_cut_vc]
 simp only [Int.ofNat_eq_natCast, true_and, and_true, true_implies, true_or]
 refine ⟨⟨n, ⟨by omega, rfl⟩, rfl⟩, fun x hx => bif_mk (fun hp => ?_) (fun hp => ?_)⟩
 ·have hp : 0 < x := by simpa using hp
  obtain ⟨y, rfl⟩ : ∃ y, x = y + 1 := ⟨x - 1, by omega⟩
  have hy : o + y < us.length := by omega
  have e1 : IntKind.i64.wrap (((y + 1 : Nat) : Int) - 1) = (y : Int) := by
   rw [w64 (by omega)]; omega
  have eg : us[o + y]? = some us[o + y] := List.getElem?_eq_getElem hy
  rw [e1]
  refine ⟨by omega, ((us[o + y] : Nat) : Int), by rw [Int.toNat_natCast]; exact V_ldE eg, bif_mk (fun hd => ?_) (fun hd => ?_)⟩
  ·have hd : us[o + y] = 0 := by simpa using hd
   refine ⟨by omega, y, ⟨⟨by omega, ?_⟩, by omega⟩, rfl, by simp⟩
   rw [← hx.2, cutN, if_pos (by rw [eg]; exact hd)]
  ·have hd : ¬ us[o + y] = 0 := by simpa using hd
   refine ⟨(), ?_⟩
   rw [← hx.2, cutN, if_neg (by rw [eg]; exact hd)]
 ·have hp : ¬ 0 < x := by simpa using hp
  have : x = 0 := by omega
  subst this
  exact ⟨(), by rw [← hx.2]; rfl⟩
def c_cut : CtrM := fun as0 H _ => match as0 with
 | [.x false [.w k o n]] => match H k with
  | some (.row t 1 xs) => bif t.beq 82 then
    some fun K => ∃ us, xs = V us ∧ o + n ≤ us.length ∧ us.length ≤ 2199023255552 ∧
     K (.x false [.w k o (cutN us o n)]) (backH [(1000, k)] (lookH [(1000, rowV us)]) H)
    else none
  | _ => none
 | _ => none
theorem ok_cut {g : Nat} {tab : List Value} : CtrMOK Tryd.prog g tab 65 c_cut := by
 refine ⟨enters Tryd.func65 (by kernel_rfl), fun l H d T hT K hK => ?_⟩
 unfold c_cut at hT
 split at hT
 ·rename_i k o n
  split at hT
  ·rename_i t xs e1
   cases hb : t.beq 82 with
   | false => rw [hb] at hT; cases hT
   | true =>
    rw [hb] at hT
    cases hT
    have ht := Nat.eq_of_beq_eq_true hb
    subst ht
    obtain ⟨us, rfl, ho, hl, hK⟩ := hK
    refine specM_of (R := [(1000, k)]) (N := []) (Hl := [(1000, rowV us)]) T13ok mixed Tryd.func65 (by kernel_rfl) (by kernel_rfl) (by rfl)
     (as0 := [wO 1000 o n]) ?_ (hand1 e1 rfl rfl) rfl (by simp) (by simp) (fun _ h => by cases h) (fun x => ⟨fun p hp => ?_, fun p hp b hb => ?_⟩) (g_cut us o n ho hl) (fun x _ => ?_)
    ·simp [renAs, renAV, renCh, lkB, wO]
    ·simp at hp
     subst hp
     exact fun h => by have h' : some (rowV _) = none := h; cases h'
    ·simp at hp
     subst hp
     have h' : some (rowV _) = some b := hb; cases h'; rfl
    ·exact ⟨_, rfl, hK⟩
  ·cases hT
 ·cases hT
end Go.Proofs
