/- Natural numbers: windows of digits, halving: plain facts. -/
import Derived.Test.YtagcmnmbgogljaaDoorN2
import Derived.WalkKit
/- Natural numbers: windows of digits, halving: plain facts. -/
namespace Go.Proofs
open Go Go.Eng
/-- v stands in n digits from o on. -/
structure Win (B : Nat) (us : List Nat) (o n v : Nat) : Prop where
  lt : v < B ^ n
  le : o + n ≤ us.length
  get : ∀ i, i < n → us[o + i]? = some (v / B ^ i % B)

theorem Win.zero {B : Nat} {us : List Nat} {o v : Nat} (h : Win B us o 0 v) : v = 0 := by
 have := h.lt
 rw [Nat.pow_zero] at this
 omega
theorem Win.less {B : Nat} {us : List Nat} {o n v : Nat} (h : Win B us o (n + 1) v) (hv : v < B ^ n) : Win B us o n v :=
 ⟨hv, by have := h.le; omega, fun i hi => h.get i (by omega)⟩
theorem Win.skip {B : Nat} {us : List Nat} {o n v k : Nat} (h : Win B us o n v) (hk : k ≤ n) : Win B us (o + k) (n - k) (v / B ^ k) := by
 have h1 := h.le
 refine ⟨?_, by omega, fun i hi => ?_⟩
 ·apply Nat.div_lt_of_lt_mul
  rw [← Nat.pow_add, show k + (n - k) = n by omega]; exact h.lt
 ·rw [Nat.add_assoc, h.get (k + i) (by omega), Nat.div_div_eq_div_mul, ← Nat.pow_add]
theorem Win.of_fd {B n v : Nat} {us : List Nat} (hv : v < B ^ n) (h : us = fd B n v) : Win B us 0 n v := by
 subst h
 exact ⟨hv, by rw [fd_len]; omega, fun i hi => by rw [Nat.zero_add]; exact fd_get hi⟩
theorem Win.uniq {B : Nat} {us : List Nat} {o n v w : Nat} (h : Win B us o n v) (k : Win B us o n w) : v = w := by
 have e : fd B n v = fd B n w := by
  apply List.ext_getElem?
  intro i
  by_cases hi : i < n
  ·rw [fd_get hi, fd_get hi, ← h.get i hi, k.get i hi]
  ·rw [List.getElem?_eq_none (by rw [fd_len]; omega), List.getElem?_eq_none (by rw [fd_len]; omega)]
 rw [← leNat_fd h.lt, ← leNat_fd k.lt, e]
theorem Win.win {B : Nat} {us : List Nat} {o n v : Nat} (h : Win B us o n v) : (us.drop o).take n = fd B n v := by
 have h1 := h.le
 apply List.ext_getElem?
 intro i
 by_cases hi : i < n
 ·rw [fd_get hi, List.getElem?_take, if_pos hi, List.getElem?_drop, h.get i hi]
 ·rw [List.getElem?_eq_none (by simp; omega), List.getElem?_eq_none (by rw [fd_len]; omega)]
theorem Win.move {B : Nat} {us : List Nat} {o n v : Nat} (h : Win B us o n v) : Win B ((us.drop o).take n) 0 n v := .of_fd h.lt h.win
theorem Win.same {B : Nat} {us ws : List Nat} {o n v : Nat} (h : Win B us o n v) (hl : ws.length = us.length) (hg : ∀ i, i < n → ws[o + i]? = us[o + i]?) : Win B ws o n v :=
 ⟨h.lt, by rw [hl]; exact h.le, fun i hi => by rw [hg i hi]; exact h.get i hi⟩
/-! ### How many digits of 64 bits -/

theorem vl_iff {v n : Nat} : vl v ≤ n ↔ v < 18446744073709551616 ^ n := by
 have e : (18446744073709551616 : Nat) ^ n = 256 ^ (8 * n) := by rw [show (18446744073709551616 : Nat) = 256 ^ 8 from rfl, ← Nat.pow_mul]
 rw [e, ← natBytes_len_iff]
 unfold vl
 omega
theorem vl_lt (v : Nat) : v < 18446744073709551616 ^ vl v := vl_iff.1 (Nat.le_refl _)
theorem vl_zero {v : Nat} : vl v = 0 ↔ v = 0 := by
 constructor
 ·intro h
  have := vl_lt v
  rw [h, Nat.pow_zero] at this
  omega
 ·rintro rfl
  have := vl_iff (v := 0) (n := 0)
  rw [Nat.pow_zero] at this
  omega
theorem vl_mono {u v : Nat} (h : u ≤ v) : vl u ≤ vl v := vl_iff.2 (Nat.lt_of_le_of_lt h (vl_lt v))
theorem cutN_win {us : List Nat} {o : Nat} : ∀ {n v : Nat}, Win 18446744073709551616 us o n v → cutN us o n = vl v := by
 intro n
 induction n with
 | zero => intro v h; rw [h.zero, vl_zero.2 rfl]; rfl
 | succ n ih =>
  intro v h
  unfold cutN
  rw [h.get n (by omega)]
  have hlt := h.lt
  have hp : 0 < (18446744073709551616 : Nat) ^ n := Nat.pow_pos (by decide)
  have hd : v / 18446744073709551616 ^ n < 18446744073709551616 := by
   apply Nat.div_lt_of_lt_mul; rw [← Nat.pow_succ]; exact hlt
  rw [Nat.mod_eq_of_lt hd, Option.getD_some]
  split
  ·rename_i h0
   have hv : v < 18446744073709551616 ^ n := by
    rcases Nat.lt_or_ge v (18446744073709551616 ^ n) with h' | h'
    ·exact h'
    ·have := Nat.div_pos h' hp; omega
   exact ih (h.less hv)
  ·rename_i h0
   have h1 : ¬ vl v ≤ n := fun h' => h0 (Nat.div_eq_of_lt (vl_iff.1 h'))
   have h2 : vl v ≤ n + 1 := vl_iff.2 hlt
   omega
theorem Win.cut {us : List Nat} {o n v : Nat} (h : Win 18446744073709551616 us o n v) : Win 18446744073709551616 us o (vl v) v :=
 have h1 : vl v ≤ n := vl_iff.2 h.lt
 ⟨vl_lt v, by have := h.le; omega, fun i hi => h.get i (by omega)⟩
/-! ### How often a number can be halved -/

def IsEv (v r : Nat) : Prop := ∃ q, v = 2 ^ r * (2 * q + 1)
theorem IsEv.ne {v r : Nat} (h : IsEv v r) : v ≠ 0 := by
 obtain ⟨q, rfl⟩ := h
 have : 0 < 2 ^ r * (2 * q + 1) := Nat.mul_pos (Nat.pow_pos (by decide)) (by omega)
 omega
theorem IsEv.odd {v r : Nat} (h : IsEv v r) : v / 2 ^ r % 2 = 1 := by
 obtain ⟨q, rfl⟩ := h
 rw [Nat.mul_div_cancel_left _ (Nat.pow_pos (by decide))]
 omega
theorem IsEv.back {v r : Nat} (h : IsEv v r) : v = 2 ^ r * (v / 2 ^ r) := by
 obtain ⟨q, rfl⟩ := h
 rw [Nat.mul_div_cancel_left _ (Nat.pow_pos (by decide))]
theorem IsEv.lt {v r n : Nat} (h : IsEv v r) (hv : v < 2 ^ n) : r < n := by
 obtain ⟨q, rfl⟩ := h
 rcases Nat.lt_or_ge r n with h' | h'
 ·exact h'
 ·have h1 : 2 ^ n ≤ 2 ^ r := Nat.pow_le_pow_right (by decide) h'
  have h2 : 2 ^ r * 1 ≤ 2 ^ r * (2 * q + 1) := Nat.mul_le_mul_left _ (by omega)
  omega
theorem IsEv.ex : ∀ {v : Nat}, v ≠ 0 → ∃ r, IsEv v r := by
 intro v
 induction v using Nat.strongRecOn with
 | _ v ih =>
  intro h
  by_cases h2 : v % 2 = 1
  ·exact ⟨0, v / 2, by rw [Nat.pow_zero]; omega⟩
  ·obtain ⟨r, q, hq⟩ := ih (v / 2) (by omega) (by omega)
   refine ⟨r + 1, q, ?_⟩
   rw [Nat.pow_succ, Nat.mul_comm (2 ^ r) 2, Nat.mul_assoc, ← hq]
   omega
/-- The last digit that is not 0 decides. -/
theorem IsEv.digit {v i r d : Nat} (h0 : v % 18446744073709551616 ^ i = 0) (hd : v / 18446744073709551616 ^ i % 18446744073709551616 = d) (h : IsEv d r) (hr : r < 64) : IsEv v (64 * i + r) := by
  obtain ⟨q, hq⟩ := h
  have e0 : v = 18446744073709551616 ^ i * (v / 18446744073709551616 ^ i) := by
    have := Nat.div_add_mod v (18446744073709551616 ^ i)
    omega
  have e1 := Nat.div_add_mod (v / 18446744073709551616 ^ i) 18446744073709551616
  rw [hd, hq] at e1
  generalize v / 18446744073709551616 ^ i / 18446744073709551616 = k at e1
  have e2 : (18446744073709551616 : Nat) = 2 ^ r * (2 * 2 ^ (63 - r)) := by
    rw [← Nat.pow_succ', ← Nat.pow_add, show r + (63 - r).succ = 64 by omega]
  have e3 : (18446744073709551616 : Nat) ^ i = 2 ^ (64 * i) := by rw [show (18446744073709551616 : Nat) = 2 ^ 64 from rfl, ← Nat.pow_mul]
  refine ⟨2 ^ (63 - r) * k + q, ?_⟩
  rw [e0, ← e1, e3, Nat.pow_add, Nat.mul_assoc]
  congr 1
  conv => lhs; rw [e2]
  grind

/-- The last bit. -/
theorem and_low {x r q : Nat} (hx : x = 2 ^ r * (2 * q + 1)) (hl : x < 18446744073709551616) : x &&& (18446744073709551616 - x) = 2 ^ r := by
  have h0 : 0 < x := by
    have : 0 < 2 ^ r * (2 * q + 1) := Nat.mul_pos (Nat.pow_pos (by decide)) (by omega)
    omega
  have hr : r < 64 := IsEv.lt (n := 64) ⟨q, hx⟩ hl
  have e1 : (18446744073709551616 : Nat) - x = 2 ^ 64 - ((x - 1) + 1) := by rw [show x - 1 + 1 = x by omega]
  have e2 : x - 1 = 2 ^ r * (2 * q) + (2 ^ r - 1) := by
    rw [hx, Nat.mul_add, Nat.mul_one]
    have : 0 < 2 ^ r := Nat.pow_pos (by decide)
    omega
  have e3 : x = 2 ^ r * (2 * q + 1) + 0 := by rw [hx]; rfl
  apply Nat.eq_of_testBit_eq
  intro i
  rw [Nat.testBit_and, e1, Nat.testBit_two_pow_sub_succ (by show x - 1 < 18446744073709551616; omega), e2, Nat.testBit_two_pow_mul_add _ (by have : 0 < 2 ^ r := Nat.pow_pos (by decide); omega), Nat.testBit_two_pow]
  conv => lhs; lhs; rw [e3]
  rw [Nat.testBit_two_pow_mul_add _ (Nat.pow_pos (by decide))]
  by_cases h1 : i < r
  · rw [if_pos h1, if_pos h1]
    simp; omega
  · rw [if_neg h1, if_neg h1]
    by_cases h2 : r = i
    · subst h2
      simp [hr]
    · obtain ⟨j, hj⟩ : ∃ j, i - r = j + 1 := ⟨i - r - 1, by omega⟩
      rw [hj, Nat.testBit_succ, Nat.testBit_succ]
      have : (2 * q + 1) / 2 = q := by omega
      rw [this, Nat.mul_div_cancel_left _ (by decide : 0 < 2)]
      simp [h2]
      intro h _; exact h

/-! ### Digits of a shifted number, of a difference -/

theorem shift_digit {w s : Nat} (hs : s ≤ 64) : w / 2 ^ s % 18446744073709551616 = w % 18446744073709551616 / 2 ^ s + 2 ^ (64 - s) * (w / 18446744073709551616 % 2 ^ s) := by
 have hB : (18446744073709551616 : Nat) = 2 ^ s * 2 ^ (64 - s) := by rw [← Nat.pow_add, show s + (64 - s) = 64 by omega]
 have hp : 0 < 2 ^ s := Nat.pow_pos (by decide)
 have hq : 0 < 2 ^ (64 - s) := Nat.pow_pos (by decide)
 have e1 : w % 18446744073709551616 / 2 ^ s = w / 2 ^ s % 2 ^ (64 - s) := by
  conv => lhs; rw [hB]
  rw [Nat.mod_mul_right_div_self]
 have e2 : w / 18446744073709551616 = w / 2 ^ s / 2 ^ (64 - s) := by
  conv => lhs; rw [hB]
  rw [Nat.div_div_eq_div_mul]
 rw [e1, e2]
 generalize w / 2 ^ s = v
 have e3 : v % 18446744073709551616 = v % (2 ^ (64 - s) * 2 ^ s) := by rw [Nat.mul_comm, ← hB]
 rw [e3, Nat.mod_mul]
/-- A sum, digit by digit. -/
theorem add_digit {B u d i : Nat} (hB : 0 < B) {c : Nat} (hc : u % B ^ i + d % B ^ i = (u + d) % B ^ i + B ^ i * c) :
    u / B ^ i % B + d / B ^ i % B + c = (u + d) / B ^ i % B + B * ((u / B ^ i % B + d / B ^ i % B + c) / B) ∧
    u % B ^ (i + 1) + d % B ^ (i + 1) = (u + d) % B ^ (i + 1) + B ^ (i + 1) * ((u / B ^ i % B + d / B ^ i % B + c) / B) := by
  have hp : 0 < B ^ i := Nat.pow_pos hB
  have eu := Nat.div_add_mod u (B ^ i)
  have ed := Nat.div_add_mod d (B ^ i)
  have es := Nat.div_add_mod (u + d) (B ^ i)
  have e0 : (u + d) / B ^ i = u / B ^ i + d / B ^ i + c := by
    have : B ^ i * ((u + d) / B ^ i) = B ^ i * (u / B ^ i + d / B ^ i + c) := by rw [Nat.mul_add, Nat.mul_add]; omega
    exact Nat.eq_of_mul_eq_mul_left hp this
  have e1 : (u + d) / B ^ i % B = (u / B ^ i % B + d / B ^ i % B + c) % B := by
    rw [e0]
    rw [Nat.add_mod (u / B ^ i + d / B ^ i) c, Nat.add_mod (u / B ^ i) (d / B ^ i), ← Nat.add_mod]
  have f : ∀ y, y % B ^ (i + 1) = y % B ^ i + B ^ i * (y / B ^ i % B) := fun y => by rw [Nat.pow_succ, Nat.mod_mul]
  have hm := Nat.div_add_mod (u / B ^ i % B + d / B ^ i % B + c) B
  refine ⟨by rw [e1]; omega, ?_⟩
  rw [f, f, f, e1, Nat.pow_succ, Nat.mul_assoc]
  generalize u / B ^ i % B = x at hm ⊢
  generalize d / B ^ i % B = y at hm ⊢
  generalize (x + y + c) / B = q at hm ⊢
  generalize (x + y + c) % B = r at hm ⊢
  have : B ^ i * x + B ^ i * y + B ^ i * c = B ^ i * (B * q) + B ^ i * r := by rw [← Nat.mul_add, ← Nat.mul_add, ← Nat.mul_add, hm]
  omega

theorem lt_of_vl {u v : Nat} (h : vl u < vl v) : u < v := by
 rcases Nat.lt_or_ge u v with h' | h'
 ·exact h'
 ·have := vl_mono h'; omega
/-- The first digits that differ decide. -/
theorem lt_of_digit {B u v i : Nat} (hB : 0 < B) (h : u / B ^ (i + 1) = v / B ^ (i + 1)) (hd : u / B ^ i % B < v / B ^ i % B) : u < v := by
  have hp : 0 < B ^ i := Nat.pow_pos hB
  have h1 := Nat.div_add_mod (u / B ^ i) B
  have h2 := Nat.div_add_mod (v / B ^ i) B
  rw [Nat.pow_succ, ← Nat.div_div_eq_div_mul, ← Nat.div_div_eq_div_mul] at h
  rw [h] at h1
  have h3 : u / B ^ i < v / B ^ i := by omega
  rcases Nat.lt_or_ge u v with h' | h'
  · exact h'
  · have := Nat.div_le_div_right (c := B ^ i) h'; omega
theorem eq_of_digit {B u v i : Nat} (h : u / B ^ (i + 1) = v / B ^ (i + 1)) (hd : u / B ^ i % B = v / B ^ i % B) : u / B ^ i = v / B ^ i := by
 have h1 := Nat.div_add_mod (u / B ^ i) B
 have h2 := Nat.div_add_mod (v / B ^ i) B
 rw [Nat.pow_succ, ← Nat.div_div_eq_div_mul, ← Nat.div_div_eq_div_mul] at h
 rw [h, hd] at h1
 omega
/-! ### Greatest common divisors by halves and differences -/

theorem gcd_odd_two {x y : Nat} (hy : y % 2 = 1) : Nat.gcd (2 * x) y = Nat.gcd x y := by
 have : Nat.Coprime 2 y := by
  unfold Nat.Coprime
  rw [Nat.gcd_rec, hy]; rfl
 exact Nat.Coprime.gcd_mul_left_cancel x this
theorem gcd_odd_pow {x y : Nat} (r : Nat) (hy : y % 2 = 1) : Nat.gcd (2 ^ r * x) y = Nat.gcd x y := by
 induction r with
 | zero => rw [Nat.pow_zero, Nat.one_mul]
 | succ r ih => rw [Nat.pow_succ', Nat.mul_assoc, gcd_odd_two hy, ih]
theorem gcd_pow_two {x y r s : Nat} (hx : x % 2 = 1) (hy : y % 2 = 1) : Nat.gcd (2 ^ r * x) (2 ^ s * y) = 2 ^ min r s * Nat.gcd x y := by
 rcases Nat.le_total r s with h | h
 ·rw [Nat.min_eq_left h, show s = r + (s - r) by omega, Nat.pow_add, Nat.mul_assoc, Nat.gcd_mul_left]
  rw [Nat.gcd_comm x, gcd_odd_pow _ hx, Nat.gcd_comm]
 ·rw [Nat.min_eq_right h, show r = s + (r - s) by omega, Nat.pow_add, Nat.mul_assoc, Nat.gcd_mul_left]
  rw [gcd_odd_pow _ hy]
theorem gcd_diff {x y : Nat} (h : y ≤ x) : Nat.gcd (x - y) y = Nat.gcd x y := Nat.gcd_sub_self_left h
end Go.Proofs
/- Natural numbers: bits.TrailingZeros64, bits.Sub64. -/
namespace Go.Proofs
open Go Go.Eng
def debL : List Nat := [0, 1, 56, 2, 57, 49, 28, 3, 61, 58, 42, 50, 38, 29, 17, 4, 62, 47, 59, 36, 45, 43, 51, 22, 53, 39, 33, 30, 24, 18, 12, 5, 63, 55, 48, 27, 60, 41, 37, 16, 46, 35, 44, 21, 52, 32, 23, 11, 54, 26, 40, 15, 34, 20, 31, 10, 25, 14, 19, 9, 13, 8, 7, 6]
def debT : List Value := debL.map fun (n : Nat) => .int .u8 (n : Int)
theorem deb_ok : (List.range 64).all (fun r => decide (debL[(2 ^ r * 285870213051353865) % 18446744073709551616 / 288230376151711744]? = some r)) = true := by kernel_rfl
theorem deb_get {r : Nat} (h : r < 64) : debL[(2 ^ r * 285870213051353865) % 18446744073709551616 / 288230376151711744]? = some r := by
 have := List.all_eq_true.1 deb_ok r (by simpa using h)
 simpa using this
/-- The table lies in block 1. -/
abbrev tabG : Nat := 1
theorem glob_cell {w : World} (h : Glob w tabG debT) {i r : Nat} (hi : debL[i]? = some r) : w.cell? ⟨1, i, none⟩ = some (.int .u8 (r : Int)) := by
 obtain ⟨t, fr, e⟩ := h
 simp only [World.cell?, e]
 simp [debT, hi]
theorem walk_tz (x : Int) (r : Int) (w : World) (h0 : (x == 0) = false) (hb : 0 ≤ IntKind.u64.wrap (Go.bits BinOp.and IntKind.u64 x (IntKind.u64.wrap (-x)) * 285870213051353865) / 288230376151711744 ∧ IntKind.u64.wrap (Go.bits BinOp.and IntKind.u64 x (IntKind.u64.wrap (-x)) * 285870213051353865) / 288230376151711744 < 64)
  (hc : w.cell? ⟨1, (IntKind.u64.wrap (Go.bits BinOp.and IntKind.u64 x (IntKind.u64.wrap (-x)) * 285870213051353865) / 288230376151711744).toNat, none⟩ = some (.int .u8 r)) :
  Calls Tryd.prog 64 #[.int .u64 x] w fun e w' => e = .returned (.int .i64 (RowKit.wrap64 r)) ∧ w' = w := by
 go_enter Tryd.func64, Tryd.ntmps64
 go_wp2
 go_ret
 exact ⟨rfl, rfl⟩
theorem tz_low {x r : Nat} (h : IsEv x r) (hx : x < 18446744073709551616) : Go.bits BinOp.and IntKind.u64 (x : Int) (IntKind.u64.wrap (-(x : Int))) = ((2 ^ r : Nat) : Int) := by
 have h0 := h.ne
 obtain ⟨q, hq⟩ := h
 have e1 : IntKind.u64.wrap (-(x : Int)) = ((18446744073709551616 - x : Nat) : Int) := by
  rw [wrap_u64]; omega
 have hl := and_low hq hx
 rw [e1]
 show IntKind.u64.wrap ((BitVec.ofInt 64 (x : Int) &&& BitVec.ofInt 64 ((18446744073709551616 - x : Nat) : Int)).toNat : Int) = _
 rw [BitVec.toNat_and, toNat_ofInt (by show _ < 2 ^ 64; omega), toNat_ofInt (by show _ < 2 ^ 64; omega), hl]
 have : 2 ^ r ≤ x := by rw [← hl]; exact Nat.and_le_left
 exact wu64 (by omega)
/-- How often a word can be halved. -/
def c_TZ64 : Ctr := fun as0 => match as0 with
  | [.x false [.v (.int .u64 x)]] => some fun K => (0 < x ∧ x < 18446744073709551616) ∧ ∀ r, IsEv x.toNat r → K (iA .i64 (r : Nat))
  | _ => none
theorem ok_TZ64 : CtrOK Tryd.prog tabG debT 64 c_TZ64 := by
 refine ⟨enters Tryd.func64 (by kernel_rfl), fun l T hT K hK => ?_⟩
 unfold c_TZ64 at hT
 split at hT
 ·cases hT
  rename_i x
  obtain ⟨⟨h0, h1⟩, hK⟩ := hK
  obtain ⟨x, rfl⟩ := Int.eq_ofNat_of_zero_le (by omega : 0 ≤ x)
  obtain ⟨r, hr⟩ := IsEv.ex (v := x) (by omega)
  have hr64 : r < 64 := hr.lt (n := 64) (by show x < 18446744073709551616; omega)
  intro w O vals _ hg hc
  cases hc with
  | cons hc ht =>
   cases ht
   obtain ⟨rfl, _⟩ := ConcX.one hc
   have hlow := tz_low hr (by omega)
   have e2 : IntKind.u64.wrap (((2 ^ r : Nat) : Int) * 285870213051353865) / 288230376151711744 = ((2 ^ r * 285870213051353865 % 18446744073709551616 / 288230376151711744 : Nat) : Int) := by
    rw [wrap_u64]
    generalize 2 ^ r = p
    omega
   have hi := deb_get hr64
   have hlt : 2 ^ r * 285870213051353865 % 18446744073709551616 / 288230376151711744 < 64 := (List.getElem?_eq_some_iff.1 hi).1
   have hcell := glob_cell hg hi
   generalize 2 ^ r * 285870213051353865 % 18446744073709551616 / 288230376151711744 = j at e2 hlt hcell
   refine (walk_tz (x : Int) (r : Int) w (by simp; omega) ?_ ?_).mono ?_
   ·rw [hlow, e2]; omega
   ·rw [hlow, e2, Int.toNat_natCast]; exact hcell
   ·rintro e w' ⟨rfl, rfl⟩
    have : RowKit.wrap64 (r : Int) = (r : Int) := by
     have : RowKit.wrap64 (r : Int) = IntKind.i64.wrap r := by simp [RowKit.wrap64, IntKind.wrap_i64]
     rw [this]; exact w64 (by omega)
    rw [this]
    exact ⟨_, _, rfl, hK r hr, val1_conc rfl, .refl _ _⟩
 ·cases hT
def c_Sub64 : CtrX := fun as0 => match as0 with
 | [.x false [.v (.int .u64 x)], .x false [.v (.int .u64 y)], .x false [.v (.int .u64 b)]] => some fun K => ((0 ≤ x ∧ x < 18446744073709551616) ∧ (0 ≤ y ∧ y < 18446744073709551616) ∧ 0 ≤ b ∧ b ≤ 1) ∧
   K (.t [(false, [.v (.int .u64 ((x - y - b) % 18446744073709551616))]), (false, [.v (.int .u64 (bif decide (x < y + b) then 1 else 0))])])
 | _ => none
theorem ok_Sub64 : CtrXOK Tryd.prog 66 c_Sub64 := by
 intro l T hT K hK w O ρ vals hc
 unfold c_Sub64 at hT
 split at hT
 ·cases hT
  rename_i x y b
  obtain ⟨⟨⟨a1, a2⟩, ⟨a3, a4⟩, a5, a6⟩, hK⟩ := hK
  cases hc with
  | cons h1 hc => cases hc with
   | cons h2 hc => cases hc with
    | cons h3 hc =>
     cases hc
     obtain ⟨rfl, _⟩ := ConcX.one h1
     obtain ⟨rfl, _⟩ := ConcX.one h2
     obtain ⟨rfl, _⟩ := ConcX.one h3
     obtain ⟨x, rfl⟩ := Int.eq_ofNat_of_zero_le a1
     obtain ⟨y, rfl⟩ := Int.eq_ofNat_of_zero_le a3
     obtain ⟨b, rfl⟩ := Int.eq_ofNat_of_zero_le a5
     refine ⟨.tuple #[.int .u64 ((x - y - b : Int) % 18446744073709551616), .int .u64 (bif decide ((x : Int) < y + b) then 1 else 0)], _, ?_, ?_, hK⟩
     ·rw [run_callFunc_extern Tryd.func66 (by kernel_rfl) (by kernel_rfl) (by kernel_rfl) (e := fun args => do
       let (x, y, b) ← Extern.MathBitsCarry.three "Sub64" args
       pure (Extern.MathBitsCarry.pair ((x + Extern.MathBitsCarry.m64 - y - b) % Extern.MathBitsCarry.m64) (if x < y + b then 1 else 0))) (by kernel_rfl)]
      have e1 : ((x : Int) - y - b) % 18446744073709551616 = (((x + 18446744073709551616 - y - b) % 18446744073709551616 : Nat) : Int) := by omega
      have e2 : (bif decide ((x : Int) < y + b) then (1 : Int) else 0) = ((if x < y + b then 1 else 0 : Nat) : Int) := by
       by_cases h : x < y + b
       ·have h' : (x : Int) < y + b := by omega
        simp [h, h']
       ·have h' : ¬ (x : Int) < y + b := by omega
        simp [h, h']
      rw [e1, e2]
      have h3 : (Extern.MathBitsCarry.three "Sub64" #[.int .u64 x, .int .u64 y, .int .u64 b]).run Tryd.prog w = .ok (x, y, b) w := by
       rcases (by omega : b = 0 ∨ b = 1) with rfl | rfl <;> rfl
      simp only [Sem.run_bind, h3, Result.andThen_ok, Sem.run_pure]
      rfl
     ·exact ⟨_, .cons (val1_conc rfl) (.cons (val1_conc rfl) .nil), rfl⟩
 ·cases hT
end Go.Proofs
/- Natural numbers: evens, below. -/
namespace Go.Proofs
open Go Go.Eng
def L14 : List (Nat × Ctr) := (64, c_TZ64) :: L13
def M14 : List (Nat × CtrM) := (54, c_limbs) :: (65, c_cut) :: M12
def X4 : List (Nat × CtrX) := (66, c_Sub64) :: X3
noncomputable def T14 : Tabs := mkT L14 M14 X4
theorem L14ok : CtrsOK Tryd.prog tabG debT L14 := .cons ok_TZ64 L13ok
theorem M14ok : CtrMsOK Tryd.prog tabG debT M14 := .cons ok_limbs (.cons ok_cut M12ok)
theorem X4ok : CtrXsOK Tryd.prog X4 := .cons ok_Sub64 X3ok
theorem T14ok : TabsOK Tryd.prog tabG debT T14 := mkTok L14ok M14ok X4ok
/-- digits of 64 bits, as immutable data -/
def sV (n v : Nat) : AV := .x false [.s 1 (V (fd 18446744073709551616 n v))]
def inv_evens (n v : Nat) : LI := fun _ => .inv ⟨Nat, fun i => ⟨[(0, sV n v), (3, iA .i64 i)], []⟩, fun i => i < n ∧ v % 18446744073709551616 ^ i = 0, fun i => n - i, fun _ => 0⟩
def ot_evens : OT := fun _ => ([], [])
def goal_evens (n v : Nat) (K : AV → Prop) : Prop := goalL T14 ot_evens (inv_evens n v) Tryd.f55 [sV n v] K
theorem goal_evens_vc (n : Nat) (v : Nat) (K : AV → Prop) : goal_evens n v K = ((∃(x:Nat),((x<n∧v%18446744073709551616^x=0)∧OfNat.ofNat 0=0)∧1=1∧V (fd 18446744073709551616 n v)=V (fd 18446744073709551616 n v)∧0=Int.ofNat x∧True)∧∀(x:Nat),x<n∧v%18446744073709551616^x=0→OfNat.ofNat 0=0→(0≤Int.ofNat x∧Int.ofNat x<Int.ofNat (V (fd 18446744073709551616 n v)).length)∧∃(d:Int),ldE (V (fd 18446744073709551616 n v)) (Int.ofNat x).toNat 0 1=some [Ch.v (Value.int IntKind.u64 d)]∧bif d==0 then ∃(x':Nat),((x'<n∧v%18446744073709551616^x'=0)∧OfNat.ofNat 0=0∧n-x'<n-x)∧1=1∧V (fd 18446744073709551616 n v)=V (fd 18446744073709551616 n v)∧IntKind.i64.wrap (Int.ofNat x+1)=Int.ofNat x'∧True else (0≤Int.ofNat x∧Int.ofNat x<Int.ofNat (V (fd 18446744073709551616 n v)).length)∧∃(d:Int),ldE (V (fd 18446744073709551616 n v)) (Int.ofNat x).toNat 0 1=some [Ch.v (Value.int IntKind.u64 d)]∧(0<d∧d<18446744073709551616)∧∀(r:Nat),IsEv d.toNat r→K (AV.x false [Ch.v (Value.int IntKind.i64 (IntKind.i64.wrap (IntKind.i64.wrap (64*Int.ofNat x)+Int.ofNat r)))])) := by kernel_rfl
def inv_below (n v m u : Nat) : LI := fun _ => .inv ⟨Nat, fun i => ⟨[(0, sV n v), (1, sV m u), (5, iA .i64 ((i : Int) - 1))], []⟩, fun i => i ≤ n ∧ v / 18446744073709551616 ^ i = u / 18446744073709551616 ^ i, fun i => i, fun _ => 0⟩
def ot_below : OT := fun id => bif id.beq 6 then ([0, 1, 2, 3, 4, 5, 6, 7, 8], [[], [], [0, 1], [2, 0, 1], [], [], [4, 5], [6, 4, 5], [3, 2, 0, 1, 7, 6, 4, 5]]) else bif id.beq 7 then ([0, 1, 2, 3, 4, 5, 6, 7, 8, 9], [[], [], [0, 1], [2, 0, 1], [], [], [4, 5], [6, 4, 5], [3, 2, 0, 1, 7, 6, 4, 5], [8, 3, 2, 0, 1, 7, 6, 4, 5]]) else ([], [])
def goal_below (n v m u : Nat) (K : AV → Prop) : Prop := goalL T14 ot_below (inv_below n v m u) Tryd.f57 [sV n v, sV m u] K
theorem goal_below_vc (n : Nat) (v : Nat) (m : Nat) (u : Nat) (K : AV → Prop) : goal_below n v m u K = (bif Int.ofNat (V (fd 18446744073709551616 n v)).length != Int.ofNat (V (fd 18446744073709551616 m u)).length then K (AV.x false [Ch.v (Value.bool (decide (Int.ofNat (V (fd 18446744073709551616 n v)).length<Int.ofNat (V (fd 18446744073709551616 m u)).length)))]) else (∃(x:Nat),((x≤n∧v/18446744073709551616^x=u/18446744073709551616^x)∧OfNat.ofNat 0=0)∧1=1∧V (fd 18446744073709551616 n v)=V (fd 18446744073709551616 n v)∧1=1∧V (fd 18446744073709551616 m u)=V (fd 18446744073709551616 m u)∧IntKind.i64.wrap (Int.ofNat (V (fd 18446744073709551616 n v)).length-1)=Int.ofNat x-1∧True)∧∀(x:Nat),x≤n∧v/18446744073709551616^x=u/18446744073709551616^x→OfNat.ofNat 0=0→bif decide (Int.ofNat x-1≥0) then (0≤Int.ofNat x-1∧Int.ofNat x-1<Int.ofNat (V (fd 18446744073709551616 n v)).length)∧∃(d:Int),ldE (V (fd 18446744073709551616 n v)) (Int.ofNat x-1).toNat 0 1=some [Ch.v (Value.int IntKind.u64 d)]∧(0≤Int.ofNat x-1∧Int.ofNat x-1<Int.ofNat (V (fd 18446744073709551616 m u)).length)∧∃(d_1:Int),ldE (V (fd 18446744073709551616 m u)) (Int.ofNat x-1).toNat 0 1=some [Ch.v (Value.int IntKind.u64 d_1)]∧bif d != d_1 then (0≤Int.ofNat x-1∧Int.ofNat x-1<Int.ofNat (V (fd 18446744073709551616 n v)).length)∧∃(d:Int),ldE (V (fd 18446744073709551616 n v)) (Int.ofNat x-1).toNat 0 1=some [Ch.v (Value.int IntKind.u64 d)]∧(0≤Int.ofNat x-1∧Int.ofNat x-1<Int.ofNat (V (fd 18446744073709551616 m u)).length)∧∃(d_2:Int),ldE (V (fd 18446744073709551616 m u)) (Int.ofNat x-1).toNat 0 1=some [Ch.v (Value.int IntKind.u64 d_2)]∧K (AV.x false [Ch.v (Value.bool (decide (d<d_2)))]) else ∃(x':Nat),((x'≤n∧v/18446744073709551616^x'=u/18446744073709551616^x')∧OfNat.ofNat 0=0∧x'<x)∧1=1∧V (fd 18446744073709551616 n v)=V (fd 18446744073709551616 n v)∧1=1∧V (fd 18446744073709551616 m u)=V (fd 18446744073709551616 m u)∧IntKind.i64.wrap (Int.ofNat x-1-1)=Int.ofNat x'-1∧True else K (AV.x false [Ch.v (Value.bool false)])) := by kernel_rfl
theorem g_evens (n v : Nat) (K : AV → Prop) (hn : n ≤ 1099511627776) (h0 : v ≠ 0) (hv : v < 18446744073709551616 ^ n) (hK : ∀ r, IsEv v r → r < 64 * n → K (iA .i64 (r : Nat))) : Holds (goal_evens n v K) := by
 refine ⟨?_⟩
 rw [goal_evens_vc]
 simp only [Int.ofNat_eq_natCast, true_and, and_true, true_implies]
 have h0n : 0 < n := by
  rcases Nat.eq_zero_or_pos n with rfl | h
  ·rw [Nat.pow_zero] at hv; omega
  ·exact h
 rw [V_len, fd_len]
 refine ⟨⟨0, ⟨h0n, by rw [Nat.pow_zero, Nat.mod_one]⟩, rfl⟩, fun x hx => ⟨by omega, _, by rw [Int.toNat_natCast]; exact V_ldE (fd_get hx.1), bif_mk (fun hd => ?_) (fun hd => ?_)⟩⟩
 ·have hd : v / 18446744073709551616 ^ x % 18446744073709551616 = 0 := by have := eq_of_beq hd; omega
  have hm : v % 18446744073709551616 ^ (x + 1) = 0 := by rw [Nat.pow_succ, Nat.mod_mul, hx.2, hd, Nat.mul_zero]
  refine ⟨x + 1, ⟨⟨?_, hm⟩, by omega⟩, by rw [w64 (by omega)]; omega⟩
  rcases Nat.lt_or_ge (x + 1) n with h | h
  ·exact h
  ·have : x + 1 = n := by omega
   rw [this, Nat.mod_eq_of_lt hv] at hm
   exact absurd hm h0
 ·have hd : v / 18446744073709551616 ^ x % 18446744073709551616 ≠ 0 := fun e => by rw [e] at hd; simp at hd
  have hlt : v / 18446744073709551616 ^ x % 18446744073709551616 < 18446744073709551616 := Nat.mod_lt _ (by decide)
  refine ⟨by omega, _, by rw [Int.toNat_natCast]; exact V_ldE (fd_get hx.1), ⟨by omega, by omega⟩, fun r hr => ?_⟩
  rw [Int.toNat_natCast] at hr
  have hr64 : r < 64 := hr.lt (n := 64) hlt
  have e : IntKind.i64.wrap (IntKind.i64.wrap (64 * (x : Int)) + r) = ((64 * x + r : Nat) : Int) := by
   rw [w64 (n := 64 * (x : Int)) (by omega), w64 (by omega)]; omega
  rw [e]
  exact hK _ (IsEv.digit hx.2 rfl hr hr64) (by omega)
theorem g_below (n v m u : Nat) (K : AV → Prop) (hn : n ≤ 1099511627776) (en : n = vl v) (em : m = vl u) (hK : K (.x false [.v (.bool (decide (v < u)))])) : Holds (goal_below n v m u K) := by
 refine ⟨?_⟩
 rw [goal_below_vc]
 simp only [Int.ofNat_eq_natCast, true_and, and_true, true_implies]
 simp only [V_len, fd_len]
 have hv := vl_lt v
 have hu := vl_lt u
 rw [← en] at hv
 rw [← em] at hu
 refine bif_mk (fun hp => ?_) (fun hp => ?_)
 ·have hp : n ≠ m := by
   intro e; subst e; simp at hp
  have e : decide ((n : Int) < (m : Int)) = decide (v < u) := by
   rw [Bool.eq_iff_iff]
   simp only [decide_eq_true_eq]
   constructor
   ·intro h; exact lt_of_vl (by omega)
   ·intro h
    have := vl_mono (Nat.le_of_lt h)
    omega
  rw [e]; exact hK
 ·have hp : n = m := by
   simp at hp; omega
  subst hp
  refine ⟨⟨n, ⟨Nat.le_refl _, by rw [Nat.div_eq_of_lt hv, Nat.div_eq_of_lt hu]⟩, by rw [w64 (by omega)]⟩, fun x hx => bif_mk (fun hq => ?_) (fun hq => ?_)⟩
  ·have hq := of_decide_eq_true hq
   obtain ⟨y, rfl⟩ : ∃ y, x = y + 1 := ⟨x - 1, by omega⟩
   have e1 : (((y + 1 : Nat) : Int) - 1).toNat = y := by omega
   have hy : y < n := by omega
   simp only [e1]
   have l1 := V_ldE (fd_get (B := 18446744073709551616) (m := v) hy)
   have l2 := V_ldE (fd_get (B := 18446744073709551616) (m := u) hy)
   refine ⟨by omega, _, l1, by omega, _, l2, bif_mk (fun hd => ?_) (fun hd => ?_)⟩
   ·refine ⟨by omega, _, l1, by omega, _, l2, ?_⟩
    have hd : v / 18446744073709551616 ^ y % 18446744073709551616 ≠ u / 18446744073709551616 ^ y % 18446744073709551616 := fun e => by rw [e] at hd; simp at hd
    have e : decide (((v / 18446744073709551616 ^ y % 18446744073709551616 : Nat) : Int) < ((u / 18446744073709551616 ^ y % 18446744073709551616 : Nat) : Int)) = decide (v < u) := by
     rw [Bool.eq_iff_iff]
     simp only [decide_eq_true_eq]
     constructor
     ·intro h; exact lt_of_digit (by decide) hx.2 (by omega)
     ·intro h
      rcases Nat.lt_or_ge (v / 18446744073709551616 ^ y % 18446744073709551616) (u / 18446744073709551616 ^ y % 18446744073709551616) with h' | h'
      ·omega
      ·have := lt_of_digit (B := 18446744073709551616) (by decide) hx.2.symm (by omega); omega
    rw [e]; exact hK
   ·have hd : v / 18446744073709551616 ^ y % 18446744073709551616 = u / 18446744073709551616 ^ y % 18446744073709551616 := by
     have : ((v / 18446744073709551616 ^ y % 18446744073709551616 : Nat) : Int) = ((u / 18446744073709551616 ^ y % 18446744073709551616 : Nat) : Int) := by simpa using hd
     exact Int.ofNat.inj this
    exact ⟨y, ⟨⟨by omega, eq_of_digit hx.2 hd⟩, by omega⟩, by rw [w64 (by omega)]; omega⟩
  ·have hq := of_decide_eq_false hq
   have : x = 0 := by omega
   subst this
   have h := hx.2
   rw [Nat.pow_zero, Nat.div_one, Nat.div_one] at h
   have e : decide (v < u) = false := by simp; omega
   rw [e] at hK
   exact hK
def c_evens : Ctr := fun as0 => match as0 with
 | [.x false [.s 1 xs]] => some fun K => ∃ n v, xs = V (fd 18446744073709551616 n v) ∧ v < 18446744073709551616 ^ n ∧ v ≠ 0 ∧ n ≤ 1099511627776 ∧ ∀ r, IsEv v r → r < 64 * n → K (iA .i64 (r : Nat))
 | _ => none
def c_below : Ctr := fun as0 => match as0 with
 | [.x false [.s 1 xs], .x false [.s 1 ys]] => some fun K => ∃ v u, xs = V (fd 18446744073709551616 (vl v) v) ∧ ys = V (fd 18446744073709551616 (vl u) u) ∧ vl v ≤ 1099511627776 ∧ K (.x false [.v (.bool (decide (v < u)))])
 | _ => none
theorem ok_evens : CtrOK Tryd.prog tabG debT 55 c_evens := by
 refine ⟨enters Tryd.func55 (by kernel_rfl), fun l T hT K hK => ?_⟩
 unfold c_evens at hT
 split at hT
 ·cases hT
  obtain ⟨n, v, rfl, hv, h0, hn, hK⟩ := hK
  exact spec_ofL T14ok mixed Tryd.func55 (by kernel_rfl) (by kernel_rfl) (by rfl) (g_evens n v K hn h0 hv hK)
 ·cases hT
theorem ok_below : CtrOK Tryd.prog tabG debT 57 c_below := by
 refine ⟨enters Tryd.func57 (by kernel_rfl), fun l T hT K hK => ?_⟩
 unfold c_below at hT
 split at hT
 ·cases hT
  obtain ⟨v, u, rfl, rfl, hn, hK⟩ := hK
  exact spec_ofL T14ok mixed Tryd.func57 (by kernel_rfl) (by kernel_rfl) (by rfl) (g_below _ v _ u K hn rfl rfl hK)
 ·cases hT
end Go.Proofs
/- Natural numbers: minus. -/
namespace Go.Proofs
open Go Go.Eng
structure MinX where
 us : List Nat
 b : Nat
 i : Nat
/-- From digit to digit: us holds the first i digits of d, the rest of v; v = u + d. -/
structure MinI (us0 : List Nat) (o n u d : Nat) (x : MinX) : Prop where
  len : x.us.length = us0.length
  hi : x.i ≤ n
  hb : x.b ≤ 1
  low : ∀ j, j < x.i → x.us[o + j]? = some (d / 18446744073709551616 ^ j % 18446744073709551616)
  high : ∀ j, x.i ≤ j → x.us[o + j]? = us0[o + j]?
  inv : u % 18446744073709551616 ^ x.i + d % 18446744073709551616 ^ x.i = (u + d) % 18446744073709551616 ^ x.i + 18446744073709551616 ^ x.i * x.b
def inv_minus (us ws : List Nat) (o n o2 m u d : Nat) : LI := fun _ => .inv ⟨MinX, fun x => ⟨[(0, wO 1000 o n), (1, wO 1001 o2 m), (5, iA .u64 x.b), (9, iA .i64 n), (10, iA .i64 x.i)], [(1000, rowV x.us), (1001, rowV ws)]⟩, MinI us o n u d, fun x => n - x.i, fun _ => 0⟩
def ot_minus : OT := fun _ => ([], [])
def goal_minus (us ws : List Nat) (o n o2 m u d : Nat) : Prop := goalM (X := List Nat) T14 ot_minus (inv_minus us ws o n o2 m u d) Tryd.f58 [wO 1000 o n, wO 1001 o2 m] [(1000, rowV us), (1001, rowV ws)]
 (fun us' => us'.length = us.length ∧ Win 18446744073709551616 us' o (vl d) d) (fun us' => ⟨[(4, wO 1000 o (vl d))], [(1000, rowV us'), (1001, rowV ws)]⟩)
theorem goal_minus_vc (us : List Nat) (ws : List Nat) (o : Nat) (n : Nat) (o2 : Nat) (m : Nat) (u : Nat) (d : Nat) : goal_minus us ws o n o2 m u d = ((∃(x:MinX),(MinI us o n u d x∧OfNat.ofNat 0=0)∧o=o∧n=n∧o2=o2∧m=m∧0=Int.ofNat x.b∧Int.ofNat n=Int.ofNat n∧0=Int.ofNat x.i∧82=82∧1=1∧(V us=V x.us∨RowLE (V us) (V x.us))∧82=82∧1=1∧(V ws=V ws∨RowLE (V ws) (V ws))∧True)∧∀(x:MinX),MinI us o n u d x→OfNat.ofNat 0=0→bif decide (Int.ofNat x.i<Int.ofNat n) then bif decide (Int.ofNat x.i<Int.ofNat m) then (0≤Int.ofNat x.i∧Int.ofNat x.i<Int.ofNat m)∧∃(d_1:Int),ldE (V ws) (o2+(Int.ofNat x.i).toNat) 0 1=some [Ch.v (Value.int IntKind.u64 d_1)]∧(0≤Int.ofNat x.i∧Int.ofNat x.i<Int.ofNat n)∧∃(d_2:Int),ldE (V x.us) (o+(Int.ofNat x.i).toNat) 0 1=some [Ch.v (Value.int IntKind.u64 d_2)]∧((0≤d_2∧d_2<18446744073709551616)∧(0≤d_1∧d_1<18446744073709551616)∧0≤Int.ofNat x.b∧Int.ofNat x.b≤1)∧(0≤Int.ofNat x.i∧Int.ofNat x.i<Int.ofNat n)∧o+(Int.ofNat x.i).toNat<(V x.us).length∧∃(x':MinX),(MinI us o n u d x'∧OfNat.ofNat 0=0∧n-x'.i<n-x.i)∧o=o∧n=n∧o2=o2∧m=m∧(bif decide (d_2<d_1+Int.ofNat x.b) then 1 else 0)=Int.ofNat x'.b∧Int.ofNat n=Int.ofNat n∧IntKind.i64.wrap (Int.ofNat x.i+1)=Int.ofNat x'.i∧82=82∧1=1∧((V x.us).set (o+(Int.ofNat x.i).toNat) [Ch.v (Value.int IntKind.u64 ((d_2-d_1-Int.ofNat x.b)%18446744073709551616))]=V x'.us∨RowLE ((V x.us).set (o+(Int.ofNat x.i).toNat) [Ch.v (Value.int IntKind.u64 ((d_2-d_1-Int.ofNat x.b)%18446744073709551616))]) (V x'.us))∧82=82∧1=1∧(V ws=V ws∨RowLE (V ws) (V ws))∧True else (0≤Int.ofNat x.i∧Int.ofNat x.i<Int.ofNat n)∧∃(d_1:Int),ldE (V x.us) (o+(Int.ofNat x.i).toNat) 0 1=some [Ch.v (Value.int IntKind.u64 d_1)]∧((0≤d_1∧d_1<18446744073709551616)∧((0:Int)≤0∧(0:Int)<18446744073709551616)∧0≤Int.ofNat x.b∧Int.ofNat x.b≤1)∧(0≤Int.ofNat x.i∧Int.ofNat x.i<Int.ofNat n)∧o+(Int.ofNat x.i).toNat<(V x.us).length∧∃(x':MinX),(MinI us o n u d x'∧OfNat.ofNat 0=0∧n-x'.i<n-x.i)∧o=o∧n=n∧o2=o2∧m=m∧(bif decide (d_1<0+Int.ofNat x.b) then 1 else 0)=Int.ofNat x'.b∧Int.ofNat n=Int.ofNat n∧IntKind.i64.wrap (Int.ofNat x.i+1)=Int.ofNat x'.i∧82=82∧1=1∧((V x.us).set (o+(Int.ofNat x.i).toNat) [Ch.v (Value.int IntKind.u64 ((d_1-0-Int.ofNat x.b)%18446744073709551616))]=V x'.us∨RowLE ((V x.us).set (o+(Int.ofNat x.i).toNat) [Ch.v (Value.int IntKind.u64 ((d_1-0-Int.ofNat x.b)%18446744073709551616))]) (V x'.us))∧82=82∧1=1∧(V ws=V ws∨RowLE (V ws) (V ws))∧True else ∃(us_1:List Nat),V x.us=V us_1∧o+n≤us_1.length∧us_1.length≤2199023255552∧∃(x:List Nat),(x.length=us.length∧Win 18446744073709551616 x o (vl d) d)∧o=o∧cutN us_1 o n=vl d∧82=82∧1=1∧(V us_1=V x∨RowLE (V us_1) (V x))∧82=82∧1=1∧(V ws=V ws∨RowLE (V ws) (V ws))∧True) := by kernel_rfl
theorem sub_dig {v u c d e : Nat} (h : u + d + c = v + 18446744073709551616 * e) (hd : d < 18446744073709551616) (hu : u < 18446744073709551616) (hc : c ≤ 1) : e ≤ 1 ∧ ((v : Int) - u - c) % 18446744073709551616 = d ∧ (bif decide ((v : Int) < u + c) then (1 : Int) else 0) = e := by
 have he : e = 0 ∨ e = 1 := by omega
 rcases he with rfl | rfl
 ·have h' : ¬ (v : Int) < u + c := by omega
  refine ⟨by omega, by omega, ?_⟩
  simp [h']
 ·have h' : (v : Int) < u + c := by omega
  refine ⟨by omega, by omega, ?_⟩
  simp [h']
theorem MinI.step {us0 : List Nat} {o n u d : Nat} {x : MinX} (h : MinI us0 o n u d x) (hi : x.i < n) (hw : Win 18446744073709551616 us0 o n (u + d)) : ∃ e v : Nat, x.us[o + x.i]? = some v ∧ v < 18446744073709551616 ∧ MinI us0 o n u d ⟨x.us.set (o + x.i) (d / 18446744073709551616 ^ x.i % 18446744073709551616), e, x.i + 1⟩ ∧ 
  ((v : Int) - (u / 18446744073709551616 ^ x.i % 18446744073709551616 : Nat) - x.b) % 18446744073709551616 = ((d / 18446744073709551616 ^ x.i % 18446744073709551616 : Nat) : Int) ∧ (bif decide ((v : Int) < (u / 18446744073709551616 ^ x.i % 18446744073709551616 : Nat) + (x.b : Int)) then (1 : Int) else 0) = e := by
 obtain ⟨len, _, hb, low, high, inv⟩ := h
 obtain ⟨h1, h2⟩ := add_digit (B := 18446744073709551616) (by decide) inv
 have hg := hw.get x.i hi
 have hle := hw.le
 have hu := Nat.mod_lt (u / 18446744073709551616 ^ x.i) (by decide : 0 < 18446744073709551616)
 have hd := Nat.mod_lt (d / 18446744073709551616 ^ x.i) (by decide : 0 < 18446744073709551616)
 have hv := Nat.mod_lt ((u + d) / 18446744073709551616 ^ x.i) (by decide : 0 < 18446744073709551616)
 obtain ⟨k1, k2, k3⟩ := sub_dig h1 hd hu hb
 refine ⟨_, _, by rw [high x.i (Nat.le_refl _)]; exact hg, hv, ⟨by simpa using len, hi, k1, fun j hj => ?_, fun j hj => ?_, h2⟩, k2, k3⟩
 ·simp only at hj ⊢
  by_cases e : j = x.i
  ·subst e
   rw [List.getElem?_set]; simp; omega
  ·rw [List.getElem?_set_ne (by omega)]; exact low j (by omega)
 ·simp only at hj ⊢
  rw [List.getElem?_set_ne (by omega)]; exact high j (by omega)
theorem g_minus (us ws : List Nat) (o n o2 m u d : Nat) (hl : us.length ≤ 1099511627776) (hl2 : ws.length ≤ 1099511627776) (hw : Win 18446744073709551616 us o n (u + d)) (hw2 : Win 18446744073709551616 ws o2 m u) : Holds (goal_minus us ws o n o2 m u d) := by
 refine ⟨?_⟩
 rw [goal_minus_vc]
 simp only [Int.ofNat_eq_natCast, true_and, and_true, true_implies, true_or]
 have hle := hw.le
 have hle2 := hw2.le
 refine ⟨⟨⟨us, 0, 0⟩, ⟨rfl, by simp, by simp, fun j hj => by simp at hj, fun _ _ => rfl, by simp [Nat.mod_one]⟩, by simp, by simp, .inl rfl⟩, fun x hx => bif_mk (fun hp => ?_) (fun hp => ?_)⟩
 ·have hp : x.i < n := by simpa using hp
  obtain ⟨e, v, g1, g2, g3, g4, g5⟩ := hx.step hp hw
  have len := hx.len
  have hb := hx.hb
  simp only [Int.toNat_natCast]
  refine bif_mk (fun hq => ?_) (fun hq => ?_)
  ·have hq : x.i < m := by simpa using hq
   have hu := Nat.mod_lt (u / 18446744073709551616 ^ x.i) (by decide : 0 < 18446744073709551616)
   refine ⟨by omega, _, V_ldE (hw2.get x.i hq), by omega, v, V_ldE g1, by omega, by omega, by rw [V_len]; omega, _, ⟨g3, by simp only; omega⟩, g5, by rw [w64 (by omega)]; simp, .inl ?_⟩
   rw [g4, V_set]
  ·have hq : ¬ x.i < m := by simpa using hq
   have hu0 : u / 18446744073709551616 ^ x.i = 0 := Nat.div_eq_of_lt (Nat.lt_of_lt_of_le hw2.lt (Nat.pow_le_pow_right (by decide) (by omega)))
   rw [hu0, Nat.zero_mod] at g4 g5
   refine ⟨by omega, v, V_ldE g1, by omega, by omega, by rw [V_len]; omega, _, ⟨g3, by simp only; omega⟩, g5, by rw [w64 (by omega)]; simp, .inl ?_⟩
   have e1 : ((v : Int) - 0 - x.b) % 18446744073709551616 = ((d / 18446744073709551616 ^ x.i % 18446744073709551616 : Nat) : Int) := g4
   rw [e1, V_set]
 ·have hp : ¬ x.i < n := by simpa using hp
  have hi := hx.hi
  have len := hx.len
  have : x.i = n := by omega
  have hwin : Win 18446744073709551616 x.us o n d := ⟨Nat.lt_of_le_of_lt (Nat.le_add_left d u) hw.lt, by omega, fun j hj => hx.low j (by omega)⟩
  exact ⟨x.us, rfl, by omega, by omega, x.us, ⟨len, hwin.cut⟩, cutN_win hwin, .inl rfl⟩
def c_minus : CtrM := fun as0 H _ => match as0 with
 | [.x false [.w k o n], .x false [.w k2 o2 m]] => match H k, H k2 with
  | some (.row t 1 xs), some (.row t2 1 ys) => bif t.beq 82 && t2.beq 82 && !(k.beq k2) then
    some fun K => ∃ us ws v u, xs = V us ∧ ys = V ws ∧ (us.length ≤ 1099511627776 ∧ ws.length ≤ 1099511627776) ∧ Win 18446744073709551616 us o n v ∧ Win 18446744073709551616 ws o2 m u ∧ u ≤ v ∧
     ∀ us', us'.length = us.length → Win 18446744073709551616 us' o (vl (v - u)) (v - u) → K (wO k o (vl (v - u))) (backH [(1000, k), (1001, k2)] (lookH [(1000, rowV us'), (1001, rowV ws)]) H)
    else none
  | _, _ => none
 | _ => none
theorem ok_minus : CtrMOK Tryd.prog tabG debT 58 c_minus := by
 refine ⟨enters Tryd.func58 (by kernel_rfl), fun l H d0 T hT K hK => ?_⟩
 unfold c_minus at hT
 split at hT
 ·rename_i k o n k2 o2 m
  split at hT
  ·rename_i t xs t2 ys e1 e2
   cases hb : t.beq 82 && t2.beq 82 && !(k.beq k2) with
   | false => rw [hb] at hT; cases hT
   | true =>
    rw [hb] at hT
    cases hT
    simp only [Bool.and_eq_true, Bool.not_eq_true'] at hb
    obtain ⟨⟨ht, ht2⟩, hk⟩ := hb
    have ht := Nat.eq_of_beq_eq_true ht
    have ht2 := Nat.eq_of_beq_eq_true ht2
    have hk : k ≠ k2 := fun e => by subst e; simp at hk
    subst ht ht2
    obtain ⟨us, ws, v, u, rfl, rfl, ⟨hl, hl2⟩, hw, hw2, hle, hK⟩ := hK
    obtain ⟨d, rfl⟩ : ∃ d, v = u + d := ⟨v - u, by omega⟩
    rw [show u + d - u = d by omega] at hK
    refine specM_of (R := [(1000, k), (1001, k2)]) (N := []) (Hl := [(1000, rowV us), (1001, rowV ws)]) T14ok mixed Tryd.func58 (by kernel_rfl) (by kernel_rfl) (by rfl)
     (as0 := [wO 1000 o n, wO 1001 o2 m]) ?_ (hand2 e1 e2 hk rfl rfl rfl rfl) rfl (by simp) (by simp) (fun _ h => by cases h) (fun x => ⟨fun p hp => ?_, fun p hp b hb => ?_⟩) (g_minus us ws o n o2 m u d hl hl2 hw hw2) (fun us' hx => ?_)
    ·simp [renAs, renAV, renCh, (lkB2 hk).1, (lkB2 hk).2, wO]
    ·simp at hp
     rcases hp with rfl | rfl
     ·exact fun h => by have h' : some (rowV _) = none := h; cases h'
     ·exact fun h => by have h' : some (rowV _) = none := h; cases h'
    ·simp at hp
     rcases hp with rfl | rfl
     ·have h' : some (rowV _) = some b := hb; cases h'; rfl
     ·have h' : some (rowV _) = some b := hb; cases h'; rfl
    ·exact ⟨_, rfl, hK us' hx.1 hx.2⟩
  ·cases hT
 ·cases hT
end Go.Proofs
/- Natural numbers: right. -/
namespace Go.Proofs
open Go Go.Eng
structure RightX where
 us : List Nat
 i : Nat
/-- The first i digits are those of the shifted number. -/
structure RightI (us0 : List Nat) (o n v s : Nat) (x : RightX) : Prop where
  len : x.us.length = us0.length
  hi : x.i ≤ n
  low : ∀ j, j < x.i → x.us[o + j]? = some (v / 2 ^ s / 18446744073709551616 ^ j % 18446744073709551616)
  high : ∀ j, x.i ≤ j → x.us[o + j]? = us0[o + j]?
def inv_right (us : List Nat) (o n v s : Nat) : LI := fun _ => .inv ⟨RightX, fun x => ⟨[(0, wO 1000 o n), (1, iA .i64 s), (15, iA .i64 n), (16, iA .i64 x.i)], [(1000, rowV x.us)]⟩, RightI us o n v s, fun x => n - x.i, fun _ => 0⟩
def ot_right : OT := fun id => bif id.beq 9 then ([0, 1, 2, 3, 4, 5, 6, 7, 8, 9, 10, 11, 12, 13, 14], [[], [], [0, 1], [2, 0, 1], [], [], [5], [4, 6, 5], [7, 4, 6, 5], [], [9], [8, 7, 4, 6, 5, 10, 9], [3, 2, 0, 1, 11, 8, 7, 4, 6, 5, 10, 9], [0, 1, 2, 3, 4, 5, 6, 7, 8, 9, 10, 11, 12], [13, 0, 1, 2, 3, 4, 5, 6, 7, 8, 9, 10, 11, 12]]) else ([], [])
def goal_right (us : List Nat) (o n v r s : Nat) : Prop := goalM (X := List Nat) T14 ot_right (inv_right us (o + r) (n - r) (v / 18446744073709551616 ^ r) s) Tryd.f56 [wO 1000 o n, iA .i64 ((64 * r + s : Nat) : Int)] [(1000, rowV us)]
 (fun us' => us'.length = us.length ∧ Win 18446744073709551616 us' (o + r) (vl (v / 18446744073709551616 ^ r / 2 ^ s)) (v / 18446744073709551616 ^ r / 2 ^ s)) (fun us' => ⟨[(4, wO 1000 (o + r) (vl (v / 18446744073709551616 ^ r / 2 ^ s)))], [(1000, rowV us')]⟩)
theorem goal_right_vc (us : List Nat) (o : Nat) (n : Nat) (v : Nat) (r : Nat) (s : Nat) : goal_right us o n v r s = ((64:Int)≠0∧(0≤IntKind.i64.wrap ((Int.ofNat (64*r+s)).tdiv 64)∧IntKind.i64.wrap ((Int.ofNat (64*r+s)).tdiv 64)≤Int.ofNat n∧Int.ofNat n≤Int.ofNat n)∧(64:Int)≠0∧bif decide ((Int.ofNat (64*r+s)).tmod 64>0) then (∃(x:RightX),(RightI us (o+r) (n-r) (v/18446744073709551616^r) s x∧OfNat.ofNat 0=0)∧o+(IntKind.i64.wrap ((Int.ofNat (64*r+s)).tdiv 64)).toNat=o+r∧(Int.ofNat n).toNat-(IntKind.i64.wrap ((Int.ofNat (64*r+s)).tdiv 64)).toNat=n-r∧(Int.ofNat (64*r+s)).tmod 64=Int.ofNat s∧Int.ofNat ((Int.ofNat n).toNat-(IntKind.i64.wrap ((Int.ofNat (64*r+s)).tdiv 64)).toNat)=Int.ofNat (n-r)∧0=Int.ofNat x.i∧82=82∧1=1∧(V us=V x.us∨RowLE (V us) (V x.us))∧True)∧∀(x:RightX),RightI us (o+r) (n-r) (v/18446744073709551616^r) s x→OfNat.ofNat 0=0→bif decide (Int.ofNat x.i<Int.ofNat (n-r)) then (0≤Int.ofNat x.i∧Int.ofNat x.i<Int.ofNat (n-r))∧∃(d:Int),ldE (V x.us) (o+r+(Int.ofNat x.i).toNat) 0 1=some [Ch.v (Value.int IntKind.u64 d)]∧0≤Int.ofNat s∧(0≤Int.ofNat x.i∧Int.ofNat x.i<Int.ofNat (n-r))∧o+r+(Int.ofNat x.i).toNat<(V x.us).length∧bif decide (IntKind.i64.wrap (Int.ofNat x.i+1)<Int.ofNat (n-r)) then (0≤Int.ofNat x.i∧Int.ofNat x.i<Int.ofNat (n-r))∧∃(d_1:Int),ldE ((V x.us).set (o+r+(Int.ofNat x.i).toNat) [Ch.v (Value.int IntKind.u64 (shrI IntKind.u64 d (Int.ofNat s)))]) (o+r+(Int.ofNat x.i).toNat) 0 1=some [Ch.v (Value.int IntKind.u64 d_1)]∧(0≤IntKind.i64.wrap (Int.ofNat x.i+1)∧IntKind.i64.wrap (Int.ofNat x.i+1)<Int.ofNat (n-r))∧∃(d_2:Int),ldE ((V x.us).set (o+r+(Int.ofNat x.i).toNat) [Ch.v (Value.int IntKind.u64 (shrI IntKind.u64 d (Int.ofNat s)))]) (o+r+(IntKind.i64.wrap (Int.ofNat x.i+1)).toNat) 0 1=some [Ch.v (Value.int IntKind.u64 d_2)]∧0≤IntKind.i64.wrap (64-Int.ofNat s)∧(0≤Int.ofNat x.i∧Int.ofNat x.i<Int.ofNat (n-r))∧o+r+(Int.ofNat x.i).toNat<((V x.us).set (o+r+(Int.ofNat x.i).toNat) [Ch.v (Value.int IntKind.u64 (shrI IntKind.u64 d (Int.ofNat s)))]).length∧∃(x':RightX),(RightI us (o+r) (n-r) (v/18446744073709551616^r) s x'∧OfNat.ofNat 0=0∧n-r-x'.i<n-r-x.i)∧o+r=o+r∧n-r=n-r∧Int.ofNat s=Int.ofNat s∧Int.ofNat (n-r)=Int.ofNat (n-r)∧IntKind.i64.wrap (Int.ofNat x.i+1)=Int.ofNat x'.i∧82=82∧1=1∧(((V x.us).set (o+r+(Int.ofNat x.i).toNat) [Ch.v (Value.int IntKind.u64 (shrI IntKind.u64 d (Int.ofNat s)))]).set (o+r+(Int.ofNat x.i).toNat) [Ch.v (Value.int IntKind.u64 (orI IntKind.u64 d_1 (shlI IntKind.u64 d_2 (IntKind.i64.wrap (64-Int.ofNat s)))))]=V x'.us∨RowLE (((V x.us).set (o+r+(Int.ofNat x.i).toNat) [Ch.v (Value.int IntKind.u64 (shrI IntKind.u64 d (Int.ofNat s)))]).set (o+r+(Int.ofNat x.i).toNat) [Ch.v (Value.int IntKind.u64 (orI IntKind.u64 d_1 (shlI IntKind.u64 d_2 (IntKind.i64.wrap (64-Int.ofNat s)))))]) (V x'.us))∧True else ∃(x':RightX),(RightI us (o+r) (n-r) (v/18446744073709551616^r) s x'∧OfNat.ofNat 0=0∧n-r-x'.i<n-r-x.i)∧o+r=o+r∧n-r=n-r∧Int.ofNat s=Int.ofNat s∧Int.ofNat (n-r)=Int.ofNat (n-r)∧IntKind.i64.wrap (Int.ofNat x.i+1)=Int.ofNat x'.i∧82=82∧1=1∧((V x.us).set (o+r+(Int.ofNat x.i).toNat) [Ch.v (Value.int IntKind.u64 (shrI IntKind.u64 d (Int.ofNat s)))]=V x'.us∨RowLE ((V x.us).set (o+r+(Int.ofNat x.i).toNat) [Ch.v (Value.int IntKind.u64 (shrI IntKind.u64 d (Int.ofNat s)))]) (V x'.us))∧True else ∃(us_1:List Nat),V x.us=V us_1∧o+r+(n-r)≤us_1.length∧us_1.length≤2199023255552∧∃(x:List Nat),(x.length=us.length∧Win 18446744073709551616 x (o+r) (vl (v/18446744073709551616^r/2^s)) (v/18446744073709551616^r/2^s))∧o+r=o+r∧cutN us_1 (o+r) (n-r)=vl (v/18446744073709551616^r/2^s)∧82=82∧1=1∧(V us_1=V x∨RowLE (V us_1) (V x))∧True else ∃(us_1:List Nat),V us=V us_1∧o+(IntKind.i64.wrap ((Int.ofNat (64*r+s)).tdiv 64)).toNat+((Int.ofNat n).toNat-(IntKind.i64.wrap ((Int.ofNat (64*r+s)).tdiv 64)).toNat)≤us_1.length∧us_1.length≤2199023255552∧∃(x:List Nat),(x.length=us.length∧Win 18446744073709551616 x (o+r) (vl (v/18446744073709551616^r/2^s)) (v/18446744073709551616^r/2^s))∧o+(IntKind.i64.wrap ((Int.ofNat (64*r+s)).tdiv 64)).toNat=o+r∧cutN us_1 (o+(IntKind.i64.wrap ((Int.ofNat (64*r+s)).tdiv 64)).toNat) ((Int.ofNat n).toNat-(IntKind.i64.wrap ((Int.ofNat (64*r+s)).tdiv 64)).toNat)=vl (v/18446744073709551616^r/2^s)∧82=82∧1=1∧(V us_1=V x∨RowLE (V us_1) (V x))∧True) := by kernel_rfl
theorem RightI.step {us0 : List Nat} {o n v s : Nat} {x : RightX} (h : RightI us0 o n v s x) (hi : x.i < n) (hw : Win 18446744073709551616 us0 o n v) : RightI us0 o n v s ⟨x.us.set (o + x.i) (v / 2 ^ s / 18446744073709551616 ^ x.i % 18446744073709551616), x.i + 1⟩ := by
 obtain ⟨len, _, low, high⟩ := h
 have hle := hw.le
 refine ⟨by simpa using len, hi, fun j hj => ?_, fun j hj => ?_⟩
 ·simp only at hj ⊢
  by_cases e : j = x.i
  ·subst e
   rw [List.getElem?_set]; simp; omega
  ·rw [List.getElem?_set_ne (by omega)]; exact low j (by omega)
 ·simp only at hj ⊢
  rw [List.getElem?_set_ne (by omega)]; exact high j (by omega)
theorem shift_at {v s i : Nat} : v / 2 ^ s / 18446744073709551616 ^ i = v / 18446744073709551616 ^ i / 2 ^ s := by
 rw [Nat.div_div_eq_div_mul, Nat.div_div_eq_div_mul, Nat.mul_comm]
theorem shl_dig {b s : Nat} (hs : 0 < s) (h : s < 64) : shlI .u64 (b : Int) ((64 - s : Nat) : Int) = ((2 ^ (64 - s) * (b % 2 ^ s) : Nat) : Int) := by
 rw [shl_eq (by simp [IntKind.bits]), Int.toNat_natCast, wrap_u64]
 have e1 : (b : Int) * 2 ^ (64 - s) = ((b * 2 ^ (64 - s) : Nat) : Int) := by simp
 have hB : (18446744073709551616 : Nat) = 2 ^ (64 - s) * 2 ^ s := by rw [← Nat.pow_add, show 64 - s + s = 64 by omega]
 have e2 : b * 2 ^ (64 - s) % 18446744073709551616 = 2 ^ (64 - s) * (b % 2 ^ s) := by
  conv => lhs; rw [hB, Nat.mul_comm b, Nat.mul_mod_mul_left]
 rw [e1, ← e2]; omega
theorem mod_dig {w s : Nat} (h : s ≤ 64) : w % 18446744073709551616 % 2 ^ s = w % 2 ^ s := by
 apply Nat.mod_mod_of_dvd
 rw [show (18446744073709551616 : Nat) = 2 ^ 64 from rfl]
 exact Nat.pow_dvd_pow 2 h
theorem shr_dig {d s : Nat} (h : s ≤ 64) : shrI .u64 (d : Int) (s : Int) = ((d / 2 ^ s : Nat) : Int) := by
 rw [shr_eq (by simpa [IntKind.bits] using h) (by omega), Int.toNat_natCast]; simp
theorem g_right (us : List Nat) (o n v r s : Nat) (hl : us.length ≤ 1099511627776) (hw : Win 18446744073709551616 us o n v) (hr : r ≤ n) (hs : s < 64) : Holds (goal_right us o n v r s) := by
 refine ⟨?_⟩
 rw [goal_right_vc]
 simp only [Int.ofNat_eq_natCast, true_and, and_true, true_implies]
 have hle := hw.le
 have e1 : ((64 * r + s : Nat) : Int).tdiv 64 = (r : Int) := by rw [te (by omega)]; omega
 have e2 : ((64 * r + s : Nat) : Int).tmod 64 = (s : Int) := by rw [tm (by omega)]; omega
 simp only [e1, e2, w64 (n := (r : Int)) (by omega), Int.toNat_natCast, true_and]
 have hw' := hw.skip hr
 generalize v / 18446744073709551616 ^ r = w at hw' ⊢
 have hle' := hw'.le
 generalize o + r = o' at hw' hle' ⊢
 generalize n - r = n' at hw' hle' ⊢
 have fin : ∀ x : List Nat, x.length = us.length → Win 18446744073709551616 x o' n' (w / 2 ^ s) → ∃ us_1 : List Nat, V x = V us_1 ∧ o' + n' ≤ us_1.length ∧ us_1.length ≤ 2199023255552 ∧ ∃ y : List Nat, (y.length = us.length ∧ Win 18446744073709551616 y o' (vl (w / 2 ^ s)) (w / 2 ^ s)) ∧ cutN us_1 o' n' = vl (w / 2 ^ s) ∧ (V us_1 = V y ∨ RowLE (V us_1) (V y)) :=
  fun x hx hwx => ⟨x, rfl, by omega, by omega, x, ⟨hx, hwx.cut⟩, cutN_win hwx, .inl rfl⟩
 refine ⟨by omega, by omega, by omega, bif_mk (fun hp => ⟨⟨⟨us, 0⟩, ⟨rfl, by simp, fun j hj => by simp at hj, fun _ _ => rfl⟩, by simp, .inl rfl⟩, fun x hx => bif_mk (fun hq => ?_) (fun hq => ?_)⟩) (fun hp => ?_)⟩
 ·have hp : 0 < s := by have := of_decide_eq_true hp; omega
  have hq : x.i < n' := by have := of_decide_eq_true hq; omega
  have hstep := hx.step hq hw'
  have len := hx.len
  have gi : x.us[o' + x.i]? = some (w / 18446744073709551616 ^ x.i % 18446744073709551616) := by rw [hx.high _ (Nat.le_refl _)]; exact hw'.get _ hq
  have hd := Nat.mod_lt (w / 18446744073709551616 ^ x.i) (by decide : 0 < 18446744073709551616)
  have hp2 : 0 < 2 ^ s := Nat.pow_pos (by decide)
  have sd := shift_digit (w := w / 18446744073709551616 ^ x.i) (s := s) (by omega)
  have e3 : IntKind.i64.wrap ((x.i : Int) + 1) = ((x.i + 1 : Nat) : Int) := by rw [w64 (by omega)]; simp
  have e4 : IntKind.i64.wrap (64 - (s : Int)) = ((64 - s : Nat) : Int) := by rw [w64 (by omega)]; omega
  have hdiv : w / 18446744073709551616 ^ x.i % 18446744073709551616 / 2 ^ s < 2 ^ (64 - s) := by
   apply Nat.div_lt_of_lt_mul
   rw [← Nat.pow_add, show s + (64 - s) = 64 by omega]; exact hd
  simp only [e3, e4, Int.toNat_natCast]
  refine ⟨by omega, _, V_ldE gi, by omega, by omega, by rw [V_len]; omega, ?_⟩
  rw [shr_dig (by omega), V_set]
  have gs : (x.us.set (o' + x.i) (w / 18446744073709551616 ^ x.i % 18446744073709551616 / 2 ^ s))[o' + x.i]? = some (w / 18446744073709551616 ^ x.i % 18446744073709551616 / 2 ^ s) := by
   rw [List.getElem?_set]; simp; omega
  refine bif_mk (fun hk => ?_) (fun hk => ?_)
  ·have hk : x.i + 1 < n' := by have := of_decide_eq_true hk; omega
   have gn : (x.us.set (o' + x.i) (w / 18446744073709551616 ^ x.i % 18446744073709551616 / 2 ^ s))[o' + (x.i + 1)]? = some (w / 18446744073709551616 ^ (x.i + 1) % 18446744073709551616) := by
    rw [List.getElem?_set_ne (by omega), hx.high _ (by omega)]; exact hw'.get _ hk
   refine ⟨by omega, _, V_ldE gs, by omega, _, V_ldE gn, by omega, by omega, by rw [V_len, List.length_set]; omega, _, ⟨hstep, by simp only; omega⟩, rfl, .inl ?_⟩
   rw [shl_dig hp hs, orI_comm, mod_dig (by omega), orI_u64 hdiv ?_, V_set, List.set_set]
   ·have e5 : 2 ^ (64 - s) * (w / 18446744073709551616 ^ (x.i + 1) % 2 ^ s) + w / 18446744073709551616 ^ x.i % 18446744073709551616 / 2 ^ s = w / 2 ^ s / 18446744073709551616 ^ x.i % 18446744073709551616 := by
     rw [shift_at, sd, Nat.pow_succ, Nat.div_div_eq_div_mul, Nat.add_comm]
    rw [e5]
   ·have := Nat.mod_lt (w / 18446744073709551616 ^ (x.i + 1)) hp2
    have hB : (18446744073709551616 : Nat) = 2 ^ (64 - s) * 2 ^ s := by rw [← Nat.pow_add, show 64 - s + s = 64 by omega]
    have h6 : 2 ^ (64 - s) * (w / 18446744073709551616 ^ (x.i + 1) % 2 ^ s + 1) ≤ 2 ^ (64 - s) * 2 ^ s := Nat.mul_le_mul_left _ this
    rw [Nat.mul_add, ← hB] at h6
    omega
  ·have hk : ¬ x.i + 1 < n' := by have := of_decide_eq_false hk; omega
   refine ⟨_, ⟨hstep, by simp only; omega⟩, rfl, .inl ?_⟩
   have hn : x.i + 1 = n' := by omega
   have e5 : w / 18446744073709551616 ^ x.i % 18446744073709551616 / 2 ^ s = w / 2 ^ s / 18446744073709551616 ^ x.i % 18446744073709551616 := by
    rw [shift_at, sd, Nat.div_div_eq_div_mul, ← Nat.pow_succ, show x.i.succ = n' from hn, Nat.div_eq_of_lt hw'.lt, Nat.zero_mod, Nat.mul_zero, Nat.add_zero]
   rw [e5]
 ·have hq : ¬ x.i < n' := by have := of_decide_eq_false hq; omega
  have hi := hx.hi
  have len := hx.len
  exact fin x.us len ⟨Nat.lt_of_le_of_lt (Nat.div_le_self _ _) hw'.lt, by omega, fun j hj => hx.low j (by omega)⟩
 ·have hp : s = 0 := by have := of_decide_eq_false hp; omega
  subst hp
  rw [Nat.pow_zero, Nat.div_one] at fin ⊢
  exact fin us rfl hw'
def c_right : CtrM := fun as0 H _ => match as0 with
 | [.x false [.w k o n], .x false [.v (.int .i64 y)]] => match H k with
  | some (.row t 1 xs) => bif t.beq 82 then
    some fun K => ∃ us v, xs = V us ∧ us.length ≤ 1099511627776 ∧ Win 18446744073709551616 us o n v ∧ (0 ≤ y ∧ y ≤ 64 * n) ∧
     ∀ us' o', us'.length = us.length → Win 18446744073709551616 us' o' (vl (v / 2 ^ y.toNat)) (v / 2 ^ y.toNat) → K (wO k o' (vl (v / 2 ^ y.toNat))) (backH [(1000, k)] (lookH [(1000, rowV us')]) H)
    else none
  | _ => none
 | _ => none
theorem ok_right : CtrMOK Tryd.prog tabG debT 56 c_right := by
 refine ⟨enters Tryd.func56 (by kernel_rfl), fun l H d T hT K hK => ?_⟩
 unfold c_right at hT
 split at hT
 ·rename_i k o n y
  split at hT
  ·rename_i t xs e1
   cases hb : t.beq 82 with
   | false => rw [hb] at hT; cases hT
   | true =>
    rw [hb] at hT
    cases hT
    have ht := Nat.eq_of_beq_eq_true hb
    subst ht
    obtain ⟨us, v, rfl, hl, hw, ⟨hy0, hy1⟩, hK⟩ := hK
    obtain ⟨y, rfl⟩ := Int.eq_ofNat_of_zero_le hy0
    obtain ⟨r, s, rfl, hs⟩ : ∃ r s, y = 64 * r + s ∧ s < 64 := ⟨y / 64, y % 64, by omega, by omega⟩
    have hv : v / 2 ^ ((64 * r + s : Nat) : Int).toNat = v / 18446744073709551616 ^ r / 2 ^ s := by
     rw [Int.toNat_natCast, Nat.pow_add, ← Nat.div_div_eq_div_mul, Nat.pow_mul]
    rw [hv] at hK
    refine specM_of (R := [(1000, k)]) (N := []) (Hl := [(1000, rowV us)]) T14ok mixed Tryd.func56 (by kernel_rfl) (by kernel_rfl) (by rfl)
     (as0 := [wO 1000 o n, iA .i64 ((64 * r + s : Nat) : Int)]) ?_ (hand1 e1 rfl rfl) rfl (by simp) (by simp) (fun _ h => by cases h) (fun x => ⟨fun p hp => ?_, fun p hp b hb => ?_⟩) (g_right us o n v r s hl hw (by omega) hs) (fun us' hx => ?_)
    ·simp [renAs, renAV, renCh, lkB, wO, iA]
    ·simp at hp
     subst hp
     exact fun h => by have h' : some (rowV _) = none := h; cases h'
    ·simp at hp
     subst hp
     have h' : some (rowV _) = some b := hb; cases h'; rfl
    ·exact ⟨_, rfl, hK us' (o + r) hx.1 hx.2⟩
  ·cases hT
 ·cases hT
end Go.Proofs
/- Natural numbers: Mul of raw strings; halves. -/
namespace Go.Proofs
open Go Go.Eng
def goal_MulS (l k : List UInt8) (K : AV → Prop) : Prop := goalL T8 ot_Mul (inv_Mul (fd 4294967296 (wl (beNat l)) (beNat l)) (fd 4294967296 (wl (beNat k)) (beNat k))) Tryd.f20 [strA l, strA k] K
theorem goal_MulS_vc (l : List UInt8) (k : List UInt8) (K : AV → Prop) : goal_MulS l k K = (bif decide (IntKind.i64.wrap (Int.ofNat (natBytes (beNat (Array.mk l).toList)).length+Int.ofNat (natBytes (beNat (Array.mk k).toList)).length)≤8) then beNat (Array.mk l).toList<18446744073709551616∧beNat (Array.mk k).toList<18446744073709551616∧(0≤IntKind.u64.wrap (Int.ofNat (beNat (Array.mk l).toList)*Int.ofNat (beNat (Array.mk k).toList))∧IntKind.u64.wrap (Int.ofNat (beNat (Array.mk l).toList)*Int.ofNat (beNat (Array.mk k).toList))<18446744073709551616)∧K (AV.x false [Ch.b (IntKind.u64.wrap (Int.ofNat (beNat (Array.mk l).toList)*Int.ofNat (beNat (Array.mk k).toList))).toNat 64]) else 8*(Array.mk l).toList.length≤1099511627776∧8*(Array.mk k).toList.length≤1099511627776∧(0≤IntKind.i64.wrap (Int.ofNat (wl (beNat (Array.mk l).toList))+Int.ofNat (wl (beNat (Array.mk k).toList)))∧IntKind.i64.wrap (Int.ofNat (wl (beNat (Array.mk l).toList))+Int.ofNat (wl (beNat (Array.mk k).toList)))≤IntKind.i64.wrap (Int.ofNat (wl (beNat (Array.mk l).toList))+Int.ofNat (wl (beNat (Array.mk k).toList)))∧4*IntKind.i64.wrap (Int.ofNat (wl (beNat (Array.mk l).toList))+Int.ofNat (wl (beNat (Array.mk k).toList)))≤281474976710656∧IntKind.i64.wrap (Int.ofNat (wl (beNat (Array.mk l).toList))+Int.ofNat (wl (beNat (Array.mk k).toList)))≤9223372036854775807)∧(∃(x:MulX),(MulI (fd 4294967296 (wl (beNat l)) (beNat l)) (fd 4294967296 (wl (beNat k)) (beNat k)) x∧OfNat.ofNat 0=0)∧0=0∧wl (beNat (Array.mk l).toList)=(fd 4294967296 (wl (beNat l)) (beNat l)).length∧0=0∧wl (beNat (Array.mk k).toList)=(fd 4294967296 (wl (beNat k)) (beNat k)).length∧0=0∧(IntKind.i64.wrap (Int.ofNat (wl (beNat (Array.mk l).toList))+Int.ofNat (wl (beNat (Array.mk k).toList)))).toNat=(fd 4294967296 (wl (beNat l)) (beNat l)).length+(fd 4294967296 (wl (beNat k)) (beNat k)).length∧0=0∧wl (beNat (Array.mk l).toList)=(fd 4294967296 (wl (beNat l)) (beNat l)).length∧Int.ofNat (wl (beNat (Array.mk l).toList))=Int.ofNat (fd 4294967296 (wl (beNat l)) (beNat l)).length∧0=Int.ofNat x.i∧86=86∧1=1∧(W (fd 4294967296 (wl (beNat (Array.mk l).toList)) (beNat (Array.mk l).toList))=W (fd 4294967296 (wl (beNat l)) (beNat l))∨RowLE (W (fd 4294967296 (wl (beNat (Array.mk l).toList)) (beNat (Array.mk l).toList))) (W (fd 4294967296 (wl (beNat l)) (beNat l))))∧86=86∧1=1∧(W (fd 4294967296 (wl (beNat (Array.mk k).toList)) (beNat (Array.mk k).toList))=W (fd 4294967296 (wl (beNat k)) (beNat k))∨RowLE (W (fd 4294967296 (wl (beNat (Array.mk k).toList)) (beNat (Array.mk k).toList))) (W (fd 4294967296 (wl (beNat k)) (beNat k))))∧86=86∧1=1∧(List.replicate (IntKind.i64.wrap (Int.ofNat (wl (beNat (Array.mk l).toList))+Int.ofNat (wl (beNat (Array.mk k).toList)))).toNat [Ch.v (Value.int IntKind.u32 0)]=W x.out∨RowLE (List.replicate (IntKind.i64.wrap (Int.ofNat (wl (beNat (Array.mk l).toList))+Int.ofNat (wl (beNat (Array.mk k).toList)))).toNat [Ch.v (Value.int IntKind.u32 0)]) (W x.out))∧True)∧∀(x:MulX),MulI (fd 4294967296 (wl (beNat l)) (beNat l)) (fd 4294967296 (wl (beNat k)) (beNat k)) x→OfNat.ofNat 0=0→bif decide (Int.ofNat x.i<Int.ofNat (fd 4294967296 (wl (beNat l)) (beNat l)).length) then (0≤Int.ofNat x.i∧Int.ofNat x.i<Int.ofNat (fd 4294967296 (wl (beNat l)) (beNat l)).length)∧∃(d:Int),ldE (W (fd 4294967296 (wl (beNat l)) (beNat l))) (0+(Int.ofNat x.i).toNat) 0 1=some [Ch.v (Value.int IntKind.u32 d)]∧(∃(x_1:MulY),(MulJ (fd 4294967296 (wl (beNat l)) (beNat l)) (fd 4294967296 (wl (beNat k)) (beNat k)) x_1∧(fd 4294967296 (wl (beNat l)) (beNat l)).length-x_1.i=(fd 4294967296 (wl (beNat l)) (beNat l)).length-x.i)∧Int.ofNat x.i=Int.ofNat x_1.i∧d=Int.ofNat ((fd 4294967296 (wl (beNat l)) (beNat l)).getD x_1.i 0)∧0=Int.ofNat x_1.carry∧0=0∧(fd 4294967296 (wl (beNat k)) (beNat k)).length=(fd 4294967296 (wl (beNat k)) (beNat k)).length∧Int.ofNat (fd 4294967296 (wl (beNat k)) (beNat k)).length=Int.ofNat (fd 4294967296 (wl (beNat k)) (beNat k)).length∧0=Int.ofNat x_1.k∧0=0∧(fd 4294967296 (wl (beNat l)) (beNat l)).length=(fd 4294967296 (wl (beNat l)) (beNat l)).length∧0=0∧(fd 4294967296 (wl (beNat k)) (beNat k)).length=(fd 4294967296 (wl (beNat k)) (beNat k)).length∧0=0∧(fd 4294967296 (wl (beNat l)) (beNat l)).length+(fd 4294967296 (wl (beNat k)) (beNat k)).length=(fd 4294967296 (wl (beNat l)) (beNat l)).length+(fd 4294967296 (wl (beNat k)) (beNat k)).length∧0=0∧(fd 4294967296 (wl (beNat l)) (beNat l)).length=(fd 4294967296 (wl (beNat l)) (beNat l)).length∧Int.ofNat (fd 4294967296 (wl (beNat l)) (beNat l)).length=Int.ofNat (fd 4294967296 (wl (beNat l)) (beNat l)).length∧Int.ofNat x.i=Int.ofNat x_1.i∧86=86∧1=1∧(W (fd 4294967296 (wl (beNat l)) (beNat l))=W (fd 4294967296 (wl (beNat l)) (beNat l))∨RowLE (W (fd 4294967296 (wl (beNat l)) (beNat l))) (W (fd 4294967296 (wl (beNat l)) (beNat l))))∧86=86∧1=1∧(W (fd 4294967296 (wl (beNat k)) (beNat k))=W (fd 4294967296 (wl (beNat k)) (beNat k))∨RowLE (W (fd 4294967296 (wl (beNat k)) (beNat k))) (W (fd 4294967296 (wl (beNat k)) (beNat k))))∧86=86∧1=1∧(W x.out=W x_1.out∨RowLE (W x.out) (W x_1.out))∧True)∧∀(x_1:MulY),MulJ (fd 4294967296 (wl (beNat l)) (beNat l)) (fd 4294967296 (wl (beNat k)) (beNat k)) x_1→(fd 4294967296 (wl (beNat l)) (beNat l)).length-x_1.i=(fd 4294967296 (wl (beNat l)) (beNat l)).length-x.i→bif decide (Int.ofNat x_1.k<Int.ofNat (fd 4294967296 (wl (beNat k)) (beNat k)).length) then (0≤Int.ofNat x_1.k∧Int.ofNat x_1.k<Int.ofNat (fd 4294967296 (wl (beNat k)) (beNat k)).length)∧∃(d:Int),ldE (W (fd 4294967296 (wl (beNat k)) (beNat k))) (0+(Int.ofNat x_1.k).toNat) 0 1=some [Ch.v (Value.int IntKind.u32 d)]∧(0≤IntKind.i64.wrap (Int.ofNat x_1.i+Int.ofNat x_1.k)∧IntKind.i64.wrap (Int.ofNat x_1.i+Int.ofNat x_1.k)<Int.ofNat ((fd 4294967296 (wl (beNat l)) (beNat l)).length+(fd 4294967296 (wl (beNat k)) (beNat k)).length))∧∃(d_1:Int),ldE (W x_1.out) (0+(IntKind.i64.wrap (Int.ofNat x_1.i+Int.ofNat x_1.k)).toNat) 0 1=some [Ch.v (Value.int IntKind.u32 d_1)]∧(0≤IntKind.i64.wrap (Int.ofNat x_1.i+Int.ofNat x_1.k)∧IntKind.i64.wrap (Int.ofNat x_1.i+Int.ofNat x_1.k)<Int.ofNat ((fd 4294967296 (wl (beNat l)) (beNat l)).length+(fd 4294967296 (wl (beNat k)) (beNat k)).length))∧0+(IntKind.i64.wrap (Int.ofNat x_1.i+Int.ofNat x_1.k)).toNat<(W x_1.out).length∧(0:Int)≤32∧∃(x':MulY),(MulJ (fd 4294967296 (wl (beNat l)) (beNat l)) (fd 4294967296 (wl (beNat k)) (beNat k)) x'∧(fd 4294967296 (wl (beNat l)) (beNat l)).length-x'.i=(fd 4294967296 (wl (beNat l)) (beNat l)).length-x.i∧(fd 4294967296 (wl (beNat k)) (beNat k)).length-x'.k<(fd 4294967296 (wl (beNat k)) (beNat k)).length-x_1.k)∧Int.ofNat x_1.i=Int.ofNat x'.i∧Int.ofNat ((fd 4294967296 (wl (beNat l)) (beNat l)).getD x_1.i 0)=Int.ofNat ((fd 4294967296 (wl (beNat l)) (beNat l)).getD x'.i 0)∧shrI IntKind.u64 (IntKind.u64.wrap (Int.ofNat x_1.carry+IntKind.u64.wrap (IntKind.u64.wrap (IntKind.u64.wrap (Int.ofNat ((fd 4294967296 (wl (beNat l)) (beNat l)).getD x_1.i 0))*IntKind.u64.wrap d)+IntKind.u64.wrap d_1))) 32=Int.ofNat x'.carry∧0=0∧(fd 4294967296 (wl (beNat k)) (beNat k)).length=(fd 4294967296 (wl (beNat k)) (beNat k)).length∧Int.ofNat (fd 4294967296 (wl (beNat k)) (beNat k)).length=Int.ofNat (fd 4294967296 (wl (beNat k)) (beNat k)).length∧IntKind.i64.wrap (Int.ofNat x_1.k+1)=Int.ofNat x'.k∧0=0∧(fd 4294967296 (wl (beNat l)) (beNat l)).length=(fd 4294967296 (wl (beNat l)) (beNat l)).length∧0=0∧(fd 4294967296 (wl (beNat k)) (beNat k)).length=(fd 4294967296 (wl (beNat k)) (beNat k)).length∧0=0∧(fd 4294967296 (wl (beNat l)) (beNat l)).length+(fd 4294967296 (wl (beNat k)) (beNat k)).length=(fd 4294967296 (wl (beNat l)) (beNat l)).length+(fd 4294967296 (wl (beNat k)) (beNat k)).length∧0=0∧(fd 4294967296 (wl (beNat l)) (beNat l)).length=(fd 4294967296 (wl (beNat l)) (beNat l)).length∧Int.ofNat (fd 4294967296 (wl (beNat l)) (beNat l)).length=Int.ofNat (fd 4294967296 (wl (beNat l)) (beNat l)).length∧Int.ofNat x_1.i=Int.ofNat x'.i∧86=86∧1=1∧(W (fd 4294967296 (wl (beNat l)) (beNat l))=W (fd 4294967296 (wl (beNat l)) (beNat l))∨RowLE (W (fd 4294967296 (wl (beNat l)) (beNat l))) (W (fd 4294967296 (wl (beNat l)) (beNat l))))∧86=86∧1=1∧(W (fd 4294967296 (wl (beNat k)) (beNat k))=W (fd 4294967296 (wl (beNat k)) (beNat k))∨RowLE (W (fd 4294967296 (wl (beNat k)) (beNat k))) (W (fd 4294967296 (wl (beNat k)) (beNat k))))∧86=86∧1=1∧((W x_1.out).set (0+(IntKind.i64.wrap (Int.ofNat x_1.i+Int.ofNat x_1.k)).toNat) [Ch.v (Value.int IntKind.u32 (IntKind.u32.wrap (IntKind.u64.wrap (Int.ofNat x_1.carry+IntKind.u64.wrap (IntKind.u64.wrap (IntKind.u64.wrap (Int.ofNat ((fd 4294967296 (wl (beNat l)) (beNat l)).getD x_1.i 0))*IntKind.u64.wrap d)+IntKind.u64.wrap d_1)))))]=W x'.out∨RowLE ((W x_1.out).set (0+(IntKind.i64.wrap (Int.ofNat x_1.i+Int.ofNat x_1.k)).toNat) [Ch.v (Value.int IntKind.u32 (IntKind.u32.wrap (IntKind.u64.wrap (Int.ofNat x_1.carry+IntKind.u64.wrap (IntKind.u64.wrap (IntKind.u64.wrap (Int.ofNat ((fd 4294967296 (wl (beNat l)) (beNat l)).getD x_1.i 0))*IntKind.u64.wrap d)+IntKind.u64.wrap d_1)))))]) (W x'.out))∧True else (0≤IntKind.i64.wrap (Int.ofNat x_1.i+Int.ofNat (fd 4294967296 (wl (beNat k)) (beNat k)).length)∧IntKind.i64.wrap (Int.ofNat x_1.i+Int.ofNat (fd 4294967296 (wl (beNat k)) (beNat k)).length)<Int.ofNat ((fd 4294967296 (wl (beNat l)) (beNat l)).length+(fd 4294967296 (wl (beNat k)) (beNat k)).length))∧0+(IntKind.i64.wrap (Int.ofNat x_1.i+Int.ofNat (fd 4294967296 (wl (beNat k)) (beNat k)).length)).toNat<(W x_1.out).length∧∃(x':MulX),(MulI (fd 4294967296 (wl (beNat l)) (beNat l)) (fd 4294967296 (wl (beNat k)) (beNat k)) x'∧OfNat.ofNat 0=0∧(fd 4294967296 (wl (beNat l)) (beNat l)).length-x'.i<(fd 4294967296 (wl (beNat l)) (beNat l)).length-x.i)∧0=0∧(fd 4294967296 (wl (beNat l)) (beNat l)).length=(fd 4294967296 (wl (beNat l)) (beNat l)).length∧0=0∧(fd 4294967296 (wl (beNat k)) (beNat k)).length=(fd 4294967296 (wl (beNat k)) (beNat k)).length∧0=0∧(fd 4294967296 (wl (beNat l)) (beNat l)).length+(fd 4294967296 (wl (beNat k)) (beNat k)).length=(fd 4294967296 (wl (beNat l)) (beNat l)).length+(fd 4294967296 (wl (beNat k)) (beNat k)).length∧0=0∧(fd 4294967296 (wl (beNat l)) (beNat l)).length=(fd 4294967296 (wl (beNat l)) (beNat l)).length∧Int.ofNat (fd 4294967296 (wl (beNat l)) (beNat l)).length=Int.ofNat (fd 4294967296 (wl (beNat l)) (beNat l)).length∧IntKind.i64.wrap (Int.ofNat x_1.i+1)=Int.ofNat x'.i∧86=86∧1=1∧(W (fd 4294967296 (wl (beNat l)) (beNat l))=W (fd 4294967296 (wl (beNat l)) (beNat l))∨RowLE (W (fd 4294967296 (wl (beNat l)) (beNat l))) (W (fd 4294967296 (wl (beNat l)) (beNat l))))∧86=86∧1=1∧(W (fd 4294967296 (wl (beNat k)) (beNat k))=W (fd 4294967296 (wl (beNat k)) (beNat k))∨RowLE (W (fd 4294967296 (wl (beNat k)) (beNat k))) (W (fd 4294967296 (wl (beNat k)) (beNat k))))∧86=86∧1=1∧((W x_1.out).set (0+(IntKind.i64.wrap (Int.ofNat x_1.i+Int.ofNat (fd 4294967296 (wl (beNat k)) (beNat k)).length)).toNat) [Ch.v (Value.int IntKind.u32 (IntKind.u32.wrap (Int.ofNat x_1.carry)))]=W x'.out∨RowLE ((W x_1.out).set (0+(IntKind.i64.wrap (Int.ofNat x_1.i+Int.ofNat (fd 4294967296 (wl (beNat k)) (beNat k)).length)).toNat) [Ch.v (Value.int IntKind.u32 (IntKind.u32.wrap (Int.ofNat x_1.carry)))]) (W x'.out))∧True else ∃(ds:List Nat),List.take ((fd 4294967296 (wl (beNat l)) (beNat l)).length+(fd 4294967296 (wl (beNat k)) (beNat k)).length) (List.drop 0 (W x.out))=W ds∧(∀(d:Nat),d ∈ ds→d<4294967296)∧ds.length≤1099511627776∧K (AV.x false [Ch.b (leNat 4294967296 ds) (32*ds.length)])) := by kernel_rfl
theorem goal_MulS_eq (l k : List UInt8) (K : AV → Prop) : goal_MulS l k K = goal_Mul (beNat l) (8 * l.length) (beNat k) (8 * k.length) K := (goal_MulS_vc l k K).trans (goal_Mul_vc (beNat l) (8 * l.length) (beNat k) (8 * k.length) K).symm
def c_Mul2 : Ctr := fun as0 => match as0 with
 | [.x false [.v (.string s)], .x false [.v (.string t)]] => some fun K => (s.data.toList.length ≤ 34359738368 ∧ t.data.toList.length ≤ 34359738368) ∧ K (bA (beNat s.data.toList * beNat t.data.toList) (8 * s.data.toList.length + 8 * t.data.toList.length))
 | as0 => c_Mul as0
theorem ok_Mul2 {g : Nat} {tab : List Value} : CtrOK Tryd.prog g tab 20 c_Mul2 := by
 refine ⟨enters Tryd.func20 (by kernel_rfl), fun l T hT K hK => ?_⟩
 unfold c_Mul2 at hT
 split at hT
 ·rename_i s t
  cases hT
  have hG := g_Mul (beNat s.data.toList) (8 * s.data.toList.length) (beNat t.data.toList) (8 * t.data.toList.length) (NatIs (beNat s.data.toList * beNat t.data.toList) (8 * s.data.toList.length + 8 * t.data.toList.length)) (by omega) (by omega) (beNat_bits _) (beNat_bits _) fun _ h => h
  rw [← goal_MulS_eq] at hG
  exact spec_nat (spec_ofL T8ok mixed Tryd.func20 (by kernel_rfl) (by kernel_rfl) (by rfl) hG) hK.2
 ·exact ok_Mul.sound _ _ hT K hK
def L15 : List (Nat × Ctr) := (55, c_evens) :: (57, c_below) :: (20, c_Mul2) :: L14
def M15 : List (Nat × CtrM) := (58, c_minus) :: (56, c_right) :: M14
noncomputable def T15 : Tabs := mkT L15 M15 X4
theorem L15ok : CtrsOK Tryd.prog tabG debT L15 := .cons ok_evens (.cons ok_below (.cons ok_Mul2 L14ok))
theorem M15ok : CtrMsOK Tryd.prog tabG debT M15 := .cons ok_minus (.cons ok_right M14ok)
theorem T15ok : TabsOK Tryd.prog tabG debT T15 := mkTok L15ok M15ok X4ok
structure HalX where
 xs : List Nat
 ys : List Nat
 ox : Nat
 oy : Nat
 x : Nat
 y : Nat
structure HalI (g : Nat) (z : HalX) : Prop where
 wx : Win 18446744073709551616 z.xs z.ox (vl z.x) z.x
 wy : Win 18446744073709551616 z.ys z.oy (vl z.y) z.y
 lx : z.xs.length ≤ 1099511627776
 ly : z.ys.length ≤ 1099511627776
 ex : z.x % 2 = 1
 ey : z.y % 2 = 1
 hg : Nat.gcd z.x z.y = g
structure HalC (g : Nat) (z : HalX) : Prop where
 wx : Win 18446744073709551616 z.xs z.ox (vl z.x) z.x
 wy : Win 18446744073709551616 z.ys z.oy (vl z.y) z.y
 lx : z.xs.length ≤ 1099511627776
 ly : z.ys.length ≤ 1099511627776
 h : (z.x = 0 ∧ z.y = g) ∨ (vl z.x = 1 ∧ vl z.y = 1 ∧ Nat.gcd z.x z.y = g)
def halS (n m : Nat) (z : HalX) : SL := ⟨[(5, wO 15 z.ox (vl z.x)), (6, wO 17 z.oy (vl z.y)), (7, iA .i64 n), (8, iA .i64 m)], [(15, rowV z.xs), (17, rowV z.ys)]⟩
structure HalY where
 ys : List Nat
 oy : Nat
structure HalD (g : Nat) (z : HalY) : Prop where
 wy : Win 18446744073709551616 z.ys z.oy (vl g) g
 ly : z.ys.length ≤ 1099511627776
/-- the byte at place p from the end -/
def Bt (bs : List UInt8) (g p : Nat) : Prop := bs[bs.length - 1 - p]? = some (UInt8.ofNat (g / 256 ^ p))
structure HalO (g : Nat) (z : HalY × List UInt8 × Nat) : Prop where
 d : HalD g z.1
 len : z.2.1.length = 8 * vl g
 hi : z.2.2 ≤ vl g
 low : ∀ p, p < 8 * z.2.2 → Bt z.2.1 g p
structure HalJ (g : Nat) (z : HalY × List UInt8 × Nat × Nat) : Prop where
 d : HalD g z.1
 len : z.2.1.length = 8 * vl g
 hi : z.2.2.1 < vl g
 hk : z.2.2.2 ≤ 8
 low : ∀ p, p < 8 * z.2.2.1 → Bt z.2.1 g p
 new : ∀ p, 8 * z.2.2.1 + 8 - z.2.2.2 ≤ p → p < 8 * z.2.2.1 + 8 → Bt z.2.1 g p
def rowB (bs : List UInt8) : Blk := .row 5 1 (bs.map byteEl)
def inv_halves (n m g : Nat) : LI := fun id => bif id.beq 4 then .inv ⟨HalX, halS n m, HalI g, fun z => z.x + z.y, fun _ => 0⟩
 else bif id.beq 5 then .cut ⟨HalX, halS n m, HalI g, fun _ => 0, fun z => z.x + z.y⟩
 else bif id.beq 7 then .cut ⟨HalX, halS n m, fun z => HalI g z ∧ z.y ≤ z.x, fun _ => 0, fun z => z.x + z.y⟩
 else bif id.beq 10 then .cut ⟨HalX, halS n m, HalC g, fun _ => 0, fun _ => 0⟩
 else bif id.beq 12 then .cut ⟨HalY, fun z => ⟨[(6, wO 17 z.oy (vl g)), (7, iA .i64 n), (8, iA .i64 m)], [(17, rowV z.ys)]⟩, HalD g, fun _ => 0, fun _ => 0⟩
 else bif id.beq 14 then .inv ⟨HalY × List UInt8 × Nat, fun z => ⟨[(6, wO 17 z.1.oy (vl g)), (7, iA .i64 n), (8, iA .i64 m), (9, .x false [.w 71 0 (8 * vl g)]), (72, wO 17 z.1.oy (vl g)), (73, iA .i64 (vl g)), (74, iA .i64 z.2.2)], [(17, rowV z.1.ys), (71, rowB z.2.1)]⟩, HalO g, fun z => vl g - z.2.2, fun _ => 0⟩
 else .inv ⟨HalY × List UInt8 × Nat × Nat, fun z => ⟨[(6, wO 17 z.1.oy (vl g)), (7, iA .i64 n), (8, iA .i64 m), (9, .x false [.w 71 0 (8 * vl g)]), (10, iA .i64 z.2.2.1), (11, iA .u64 (g / 18446744073709551616 ^ z.2.2.1 % 18446744073709551616 : Nat)), (72, wO 17 z.1.oy (vl g)), (73, iA .i64 (vl g)), (74, iA .i64 z.2.2.1), (79, iA .i64 z.2.2.2)], [(17, rowV z.1.ys), (71, rowB z.2.1)]⟩, HalJ g, fun z => 8 - z.2.2.2, fun z => vl g - z.2.2.1⟩
def ot_halves : OT := fun id => bif id.beq 11 then ([0, 1, 2, 3, 4, 5, 6, 7, 8, 9], [[], [], [1], [2, 1], [], [4], [5, 4], [3, 2, 1, 6, 5, 4], [0, 1, 2, 3, 4, 5, 6, 7], [8, 0, 1, 2, 3, 4, 5, 6, 7]]) else ([], [])
def goal_halves (m a n b r s : Nat) (g : Nat) (K : AV → Prop) : Prop := goalL T15 ot_halves (inv_halves r s g) Tryd.f50 [bA m a, bA n b] K
theorem goal_halves_vc (m : Nat) (a : Nat) (n : Nat) (b : Nat) (r : Nat) (s : Nat) (g : Nat) (K : AV → Prop) : goal_halves m a n b r s g K = (a≤1099511627776∧b≤1099511627776∧∃(n_1:Nat),∃(v:Nat),List.take (vl m) (List.drop 0 (V (fd 18446744073709551616 (vl m) m)))=V (fd 18446744073709551616 n_1 v)∧v<18446744073709551616^n_1∧v≠0∧n_1≤1099511627776∧∀(r_1:Nat),IsEv v r_1→r_1<64*n_1→∃(n_2:Nat),∃(v:Nat),List.take (vl n) (List.drop 0 (V (fd 18446744073709551616 (vl n) n)))=V (fd 18446744073709551616 n_2 v)∧v<18446744073709551616^n_2∧v≠0∧n_2≤1099511627776∧∀(r_2:Nat),IsEv v r_2→r_2<64*n_2→∃(us:List Nat),∃(v:Nat),V (fd 18446744073709551616 (vl m) m)=V us∧us.length≤1099511627776∧Win 18446744073709551616 us 0 (vl m) v∧(0≤Int.ofNat r_1∧Int.ofNat r_1≤64*Int.ofNat (vl m))∧∀(us':List Nat) (o':Nat),us'.length=us.length→Win 18446744073709551616 us' o' (vl (v/2^(Int.ofNat r_1).toNat)) (v/2^(Int.ofNat r_1).toNat)→∃(us:List Nat),∃(v_1:Nat),V (fd 18446744073709551616 (vl n) n)=V us∧us.length≤1099511627776∧Win 18446744073709551616 us 0 (vl n) v_1∧(0≤Int.ofNat r_2∧Int.ofNat r_2≤64*Int.ofNat (vl n))∧∀(us'_1:List Nat) (o'_1:Nat),us'_1.length=us.length→Win 18446744073709551616 us'_1 o'_1 (vl (v_1/2^(Int.ofNat r_2).toNat)) (v_1/2^(Int.ofNat r_2).toNat)→((∃(x:HalX),(HalI g x∧OfNat.ofNat 0=0)∧o'=x.ox∧vl (v/2^(Int.ofNat r_1).toNat)=vl x.x∧o'_1=x.oy∧vl (v_1/2^(Int.ofNat r_2).toNat)=vl x.y∧Int.ofNat r_1=Int.ofNat r∧Int.ofNat r_2=Int.ofNat s∧82=82∧1=1∧(V us'=V x.xs∨RowLE (V us') (V x.xs))∧82=82∧1=1∧(V us'_1=V x.ys∨RowLE (V us'_1) (V x.ys))∧True)∧∀(x:HalX),HalI g x→OfNat.ofNat 0=0→(bif decide (Int.ofNat (vl x.x)>1) then ∃(x_1:HalX),(HalI g x_1∧x_1.x+x_1.y=x.x+x.y)∧x.ox=x_1.ox∧vl x.x=vl x_1.x∧x.oy=x_1.oy∧vl x.y=vl x_1.y∧Int.ofNat r=Int.ofNat r∧Int.ofNat s=Int.ofNat s∧82=82∧1=1∧(V x.xs=V x_1.xs∨RowLE (V x.xs) (V x_1.xs))∧82=82∧1=1∧(V x.ys=V x_1.ys∨RowLE (V x.ys) (V x_1.ys))∧True else bif decide (Int.ofNat (vl x.y)>1) then ∃(x_1:HalX),(HalI g x_1∧x_1.x+x_1.y=x.x+x.y)∧x.ox=x_1.ox∧vl x.x=vl x_1.x∧x.oy=x_1.oy∧vl x.y=vl x_1.y∧Int.ofNat r=Int.ofNat r∧Int.ofNat s=Int.ofNat s∧82=82∧1=1∧(V x.xs=V x_1.xs∨RowLE (V x.xs) (V x_1.xs))∧82=82∧1=1∧(V x.ys=V x_1.ys∨RowLE (V x.ys) (V x_1.ys))∧True else ∃(x_1:HalX),(HalC g x_1∧OfNat.ofNat 0=0)∧x.ox=x_1.ox∧vl x.x=vl x_1.x∧x.oy=x_1.oy∧vl x.y=vl x_1.y∧Int.ofNat r=Int.ofNat r∧Int.ofNat s=Int.ofNat s∧82=82∧1=1∧(V x.xs=V x_1.xs∨RowLE (V x.xs) (V x_1.xs))∧82=82∧1=1∧(V x.ys=V x_1.ys∨RowLE (V x.ys) (V x_1.ys))∧True)∧∀(x_1:HalX),HalI g x_1→x_1.x+x_1.y=x.x+x.y→(∃(v:Nat),∃(u:Nat),List.take (vl x_1.x) (List.drop x_1.ox (V x_1.xs))=V (fd 18446744073709551616 (vl v) v)∧List.take (vl x_1.y) (List.drop x_1.oy (V x_1.ys))=V (fd 18446744073709551616 (vl u) u)∧vl v≤1099511627776∧bif decide (v<u) then ∃(x_2:HalX),((HalI g x_2∧x_2.y≤x_2.x)∧x_2.x+x_2.y=x.x+x.y)∧x_1.oy=x_2.ox∧vl x_1.y=vl x_2.x∧x_1.ox=x_2.oy∧vl x_1.x=vl x_2.y∧Int.ofNat r=Int.ofNat r∧Int.ofNat s=Int.ofNat s∧82=82∧1=1∧(V x_1.ys=V x_2.xs∨RowLE (V x_1.ys) (V x_2.xs))∧82=82∧1=1∧(V x_1.xs=V x_2.ys∨RowLE (V x_1.xs) (V x_2.ys))∧True else ∃(x_2:HalX),((HalI g x_2∧x_2.y≤x_2.x)∧x_2.x+x_2.y=x.x+x.y)∧x_1.ox=x_2.ox∧vl x_1.x=vl x_2.x∧x_1.oy=x_2.oy∧vl x_1.y=vl x_2.y∧Int.ofNat r=Int.ofNat r∧Int.ofNat s=Int.ofNat s∧82=82∧1=1∧(V x_1.xs=V x_2.xs∨RowLE (V x_1.xs) (V x_2.xs))∧82=82∧1=1∧(V x_1.ys=V x_2.ys∨RowLE (V x_1.ys) (V x_2.ys))∧True)∧∀(x_2:HalX),HalI g x_2∧x_2.y≤x_2.x→x_2.x+x_2.y=x.x+x.y→∃(us:List Nat),∃(ws:List Nat),∃(v:Nat),∃(u:Nat),V x_2.xs=V us∧V x_2.ys=V ws∧(us.length≤1099511627776∧ws.length≤1099511627776)∧Win 18446744073709551616 us x_2.ox (vl x_2.x) v∧Win 18446744073709551616 ws x_2.oy (vl x_2.y) u∧u≤v∧∀(us':List Nat),us'.length=us.length→Win 18446744073709551616 us' x_2.ox (vl (v-u)) (v-u)→bif Int.ofNat (vl (v-u))==0 then ∃(x:HalX),(HalC g x∧OfNat.ofNat 0=0)∧x_2.ox=x.ox∧vl (v-u)=vl x.x∧x_2.oy=x.oy∧vl x_2.y=vl x.y∧Int.ofNat r=Int.ofNat r∧Int.ofNat s=Int.ofNat s∧82=82∧1=1∧(V us'=V x.xs∨RowLE (V us') (V x.xs))∧82=82∧1=1∧(V ws=V x.ys∨RowLE (V ws) (V x.ys))∧True else ∃(n:Nat),∃(v_2:Nat),List.take (vl (v-u)) (List.drop x_2.ox (V us'))=V (fd 18446744073709551616 n v_2)∧v_2<18446744073709551616^n∧v_2≠0∧n≤1099511627776∧∀(r_3:Nat),IsEv v_2 r_3→r_3<64*n→∃(us:List Nat),∃(v_3:Nat),V us'=V us∧us.length≤1099511627776∧Win 18446744073709551616 us x_2.ox (vl (v-u)) v_3∧(0≤Int.ofNat r_3∧Int.ofNat r_3≤64*Int.ofNat (vl (v-u)))∧∀(us':List Nat) (o':Nat),us'.length=us.length→Win 18446744073709551616 us' o' (vl (v_3/2^(Int.ofNat r_3).toNat)) (v_3/2^(Int.ofNat r_3).toNat)→∃(x':HalX),(HalI g x'∧OfNat.ofNat 0=0∧x'.x+x'.y<x.x+x.y)∧o'=x'.ox∧vl (v_3/2^(Int.ofNat r_3).toNat)=vl x'.x∧x_2.oy=x'.oy∧vl x_2.y=vl x'.y∧Int.ofNat r=Int.ofNat r∧Int.ofNat s=Int.ofNat s∧82=82∧1=1∧(V us'=V x'.xs∨RowLE (V us') (V x'.xs))∧82=82∧1=1∧(V ws=V x'.ys∨RowLE (V ws) (V x'.ys))∧True)∧∀(x:HalX),HalC g x→OfNat.ofNat 0=0→(bif Int.ofNat (vl x.x)==1 then bif Int.ofNat (vl x.y)==1 then ((0:Int)≤0∧0<Int.ofNat (vl x.x))∧∃(d:Int),ldE (V x.xs) (x.ox+0) 0 1=some [Ch.v (Value.int IntKind.u64 d)]∧((0:Int)≤0∧0<Int.ofNat (vl x.y))∧∃(d_1:Int),ldE (V x.ys) (x.oy+0) 0 1=some [Ch.v (Value.int IntKind.u64 d_1)]∧((0≤d∧d<18446744073709551616)∧0≤d_1∧d_1<18446744073709551616)∧((0:Int)≤0∧0<Int.ofNat (vl x.y))∧x.oy+0<(V x.ys).length∧∃(x_1:HalY),(HalD g x_1∧OfNat.ofNat 0=0)∧x.oy=x_1.oy∧vl x.y=vl g∧Int.ofNat r=Int.ofNat r∧Int.ofNat s=Int.ofNat s∧82=82∧1=1∧((V x.ys).set (x.oy+0) [Ch.v (Value.int IntKind.u64 (Int.ofNat (d.toNat.gcd d_1.toNat)))]=V x_1.ys∨RowLE ((V x.ys).set (x.oy+0) [Ch.v (Value.int IntKind.u64 (Int.ofNat (d.toNat.gcd d_1.toNat)))]) (V x_1.ys))∧True else ∃(x_1:HalY),(HalD g x_1∧OfNat.ofNat 0=0)∧x.oy=x_1.oy∧vl x.y=vl g∧Int.ofNat r=Int.ofNat r∧Int.ofNat s=Int.ofNat s∧82=82∧1=1∧(V x.ys=V x_1.ys∨RowLE (V x.ys) (V x_1.ys))∧True else ∃(x_1:HalY),(HalD g x_1∧OfNat.ofNat 0=0)∧x.oy=x_1.oy∧vl x.y=vl g∧Int.ofNat r=Int.ofNat r∧Int.ofNat s=Int.ofNat s∧82=82∧1=1∧(V x.ys=V x_1.ys∨RowLE (V x.ys) (V x_1.ys))∧True)∧∀(x:HalY),HalD g x→OfNat.ofNat 0=0→(0≤IntKind.i64.wrap (8*Int.ofNat (vl g))∧IntKind.i64.wrap (8*Int.ofNat (vl g))≤IntKind.i64.wrap (8*Int.ofNat (vl g))∧1*IntKind.i64.wrap (8*Int.ofNat (vl g))≤281474976710656∧IntKind.i64.wrap (8*Int.ofNat (vl g))≤9223372036854775807)∧(∃(x_1:HalY × List UInt8 × Nat),(HalO g x_1∧OfNat.ofNat 0=0)∧x.oy=x_1.fst.oy∧vl g=vl g∧Int.ofNat r=Int.ofNat r∧Int.ofNat s=Int.ofNat s∧0=0∧(IntKind.i64.wrap (8*Int.ofNat (vl g))).toNat=8*vl g∧x.oy=x_1.fst.oy∧vl g=vl g∧Int.ofNat (vl g)=Int.ofNat (vl g)∧0=Int.ofNat x_1.snd.snd∧82=82∧1=1∧(V x.ys=V x_1.fst.ys∨RowLE (V x.ys) (V x_1.fst.ys))∧5=5∧1=1∧(List.replicate (IntKind.i64.wrap (8*Int.ofNat (vl g))).toNat [Ch.v (Value.int IntKind.u8 0)]=List.map byteEl x_1.snd.fst∨RowLE (List.replicate (IntKind.i64.wrap (8*Int.ofNat (vl g))).toNat [Ch.v (Value.int IntKind.u8 0)]) (List.map byteEl x_1.snd.fst))∧True)∧∀(x:HalY × List UInt8 × Nat),HalO g x→OfNat.ofNat 0=0→bif decide (Int.ofNat x.snd.snd<Int.ofNat (vl g)) then (0≤Int.ofNat x.snd.snd∧Int.ofNat x.snd.snd<Int.ofNat (vl g))∧∃(d:Int),ldE (V x.fst.ys) (x.fst.oy+(Int.ofNat x.snd.snd).toNat) 0 1=some [Ch.v (Value.int IntKind.u64 d)]∧(∃(x_1:HalY × List UInt8 × Nat × Nat),(HalJ g x_1∧vl g-x_1.snd.snd.fst=vl g-x.snd.snd)∧x.fst.oy=x_1.fst.oy∧vl g=vl g∧Int.ofNat r=Int.ofNat r∧Int.ofNat s=Int.ofNat s∧0=0∧8*vl g=8*vl g∧Int.ofNat x.snd.snd=Int.ofNat x_1.snd.snd.fst∧d=Int.ofNat (g/18446744073709551616^x_1.snd.snd.fst%18446744073709551616)∧x.fst.oy=x_1.fst.oy∧vl g=vl g∧Int.ofNat (vl g)=Int.ofNat (vl g)∧Int.ofNat x.snd.snd=Int.ofNat x_1.snd.snd.fst∧0=Int.ofNat x_1.snd.snd.snd∧82=82∧1=1∧(V x.fst.ys=V x_1.fst.ys∨RowLE (V x.fst.ys) (V x_1.fst.ys))∧5=5∧1=1∧(List.map byteEl x.snd.fst=List.map byteEl x_1.snd.fst∨RowLE (List.map byteEl x.snd.fst) (List.map byteEl x_1.snd.fst))∧True)∧∀(x_1:HalY × List UInt8 × Nat × Nat),HalJ g x_1→vl g-x_1.snd.snd.fst=vl g-x.snd.snd→bif decide (Int.ofNat x_1.snd.snd.snd<8) then 0≤IntKind.i64.wrap (56-IntKind.i64.wrap (8*Int.ofNat x_1.snd.snd.snd))∧(0≤IntKind.i64.wrap (IntKind.i64.wrap (8*IntKind.i64.wrap (IntKind.i64.wrap (Int.ofNat (vl g)-1)-Int.ofNat x_1.snd.snd.fst))+Int.ofNat x_1.snd.snd.snd)∧IntKind.i64.wrap (IntKind.i64.wrap (8*IntKind.i64.wrap (IntKind.i64.wrap (Int.ofNat (vl g)-1)-Int.ofNat x_1.snd.snd.fst))+Int.ofNat x_1.snd.snd.snd)<Int.ofNat (8*vl g))∧0+(IntKind.i64.wrap (IntKind.i64.wrap (8*IntKind.i64.wrap (IntKind.i64.wrap (Int.ofNat (vl g)-1)-Int.ofNat x_1.snd.snd.fst))+Int.ofNat x_1.snd.snd.snd)).toNat<(List.map byteEl x_1.snd.fst).length∧∃(x':HalY × List UInt8 × Nat × Nat),(HalJ g x'∧vl g-x'.snd.snd.fst=vl g-x.snd.snd∧8-x'.snd.snd.snd<8-x_1.snd.snd.snd)∧x_1.fst.oy=x'.fst.oy∧vl g=vl g∧Int.ofNat r=Int.ofNat r∧Int.ofNat s=Int.ofNat s∧0=0∧8*vl g=8*vl g∧Int.ofNat x_1.snd.snd.fst=Int.ofNat x'.snd.snd.fst∧Int.ofNat (g/18446744073709551616^x_1.snd.snd.fst%18446744073709551616)=Int.ofNat (g/18446744073709551616^x'.snd.snd.fst%18446744073709551616)∧x_1.fst.oy=x'.fst.oy∧vl g=vl g∧Int.ofNat (vl g)=Int.ofNat (vl g)∧Int.ofNat x_1.snd.snd.fst=Int.ofNat x'.snd.snd.fst∧IntKind.i64.wrap (Int.ofNat x_1.snd.snd.snd+1)=Int.ofNat x'.snd.snd.snd∧82=82∧1=1∧(V x_1.fst.ys=V x'.fst.ys∨RowLE (V x_1.fst.ys) (V x'.fst.ys))∧5=5∧1=1∧((List.map byteEl x_1.snd.fst).set (0+(IntKind.i64.wrap (IntKind.i64.wrap (8*IntKind.i64.wrap (IntKind.i64.wrap (Int.ofNat (vl g)-1)-Int.ofNat x_1.snd.snd.fst))+Int.ofNat x_1.snd.snd.snd)).toNat) [Ch.v (Value.int IntKind.u8 (IntKind.u8.wrap (shrI IntKind.u64 (Int.ofNat (g/18446744073709551616^x_1.snd.snd.fst%18446744073709551616)) (IntKind.i64.wrap (56-IntKind.i64.wrap (8*Int.ofNat x_1.snd.snd.snd))))))]=List.map byteEl x'.snd.fst∨RowLE ((List.map byteEl x_1.snd.fst).set (0+(IntKind.i64.wrap (IntKind.i64.wrap (8*IntKind.i64.wrap (IntKind.i64.wrap (Int.ofNat (vl g)-1)-Int.ofNat x_1.snd.snd.fst))+Int.ofNat x_1.snd.snd.snd)).toNat) [Ch.v (Value.int IntKind.u8 (IntKind.u8.wrap (shrI IntKind.u64 (Int.ofNat (g/18446744073709551616^x_1.snd.snd.fst%18446744073709551616)) (IntKind.i64.wrap (56-IntKind.i64.wrap (8*Int.ofNat x_1.snd.snd.snd))))))]) (List.map byteEl x'.snd.fst))∧True else ∃(x':HalY × List UInt8 × Nat),(HalO g x'∧OfNat.ofNat 0=0∧vl g-x'.snd.snd<vl g-x.snd.snd)∧x_1.fst.oy=x'.fst.oy∧vl g=vl g∧Int.ofNat r=Int.ofNat r∧Int.ofNat s=Int.ofNat s∧0=0∧8*vl g=8*vl g∧x_1.fst.oy=x'.fst.oy∧vl g=vl g∧Int.ofNat (vl g)=Int.ofNat (vl g)∧IntKind.i64.wrap (Int.ofNat x_1.snd.snd.fst+1)=Int.ofNat x'.snd.snd∧82=82∧1=1∧(V x_1.fst.ys=V x'.fst.ys∨RowLE (V x_1.fst.ys) (V x'.fst.ys))∧5=5∧1=1∧(List.map byteEl x_1.snd.fst=List.map byteEl x'.snd.fst∨RowLE (List.map byteEl x_1.snd.fst) (List.map byteEl x'.snd.fst))∧True else (8:Int)≠0∧(0≤IntKind.i64.wrap (IntKind.i64.wrap ((bif false then if Int.ofNat s>Int.ofNat r then Int.ofNat s else Int.ofNat r else if Int.ofNat s<Int.ofNat r then Int.ofNat s else Int.ofNat r).tdiv 8)+1)∧IntKind.i64.wrap (IntKind.i64.wrap ((bif false then if Int.ofNat s>Int.ofNat r then Int.ofNat s else Int.ofNat r else if Int.ofNat s<Int.ofNat r then Int.ofNat s else Int.ofNat r).tdiv 8)+1)≤IntKind.i64.wrap (IntKind.i64.wrap ((bif false then if Int.ofNat s>Int.ofNat r then Int.ofNat s else Int.ofNat r else if Int.ofNat s<Int.ofNat r then Int.ofNat s else Int.ofNat r).tdiv 8)+1)∧1*IntKind.i64.wrap (IntKind.i64.wrap ((bif false then if Int.ofNat s>Int.ofNat r then Int.ofNat s else Int.ofNat r else if Int.ofNat s<Int.ofNat r then Int.ofNat s else Int.ofNat r).tdiv 8)+1)≤281474976710656∧IntKind.i64.wrap (IntKind.i64.wrap ((bif false then if Int.ofNat s>Int.ofNat r then Int.ofNat s else Int.ofNat r else if Int.ofNat s<Int.ofNat r then Int.ofNat s else Int.ofNat r).tdiv 8)+1)≤9223372036854775807)∧(8:Int)≠0∧0≤(bif false then if Int.ofNat s>Int.ofNat r then Int.ofNat s else Int.ofNat r else if Int.ofNat s<Int.ofNat r then Int.ofNat s else Int.ofNat r).tmod 8∧((0:Int)≤0∧0<Int.ofNat (IntKind.i64.wrap (IntKind.i64.wrap ((bif false then if Int.ofNat s>Int.ofNat r then Int.ofNat s else Int.ofNat r else if Int.ofNat s<Int.ofNat r then Int.ofNat s else Int.ofNat r).tdiv 8)+1)).toNat)∧0<(List.replicate (IntKind.i64.wrap (IntKind.i64.wrap ((bif false then if Int.ofNat s>Int.ofNat r then Int.ofNat s else Int.ofNat r else if Int.ofNat s<Int.ofNat r then Int.ofNat s else Int.ofNat r).tdiv 8)+1)).toNat [Ch.v (Value.int IntKind.u8 0)]).length∧∃(bs:List UInt8),List.take (8*vl g) (List.drop 0 (List.map byteEl x.snd.fst))=List.map byteEl bs∧∃(bs_1:List UInt8),List.take (IntKind.i64.wrap (IntKind.i64.wrap ((bif false then if Int.ofNat s>Int.ofNat r then Int.ofNat s else Int.ofNat r else if Int.ofNat s<Int.ofNat r then Int.ofNat s else Int.ofNat r).tdiv 8)+1)).toNat (List.drop 0 ((List.replicate (IntKind.i64.wrap (IntKind.i64.wrap ((bif false then if Int.ofNat s>Int.ofNat r then Int.ofNat s else Int.ofNat r else if Int.ofNat s<Int.ofNat r then Int.ofNat s else Int.ofNat r).tdiv 8)+1)).toNat [Ch.v (Value.int IntKind.u8 0)]).set 0 [Ch.v (Value.int IntKind.u8 (shlI IntKind.u8 1 ((bif false then if Int.ofNat s>Int.ofNat r then Int.ofNat s else Int.ofNat r else if Int.ofNat s<Int.ofNat r then Int.ofNat s else Int.ofNat r).tmod 8)))]))=List.map byteEl bs_1∧((Array.mk bs).toList.length≤34359738368∧(Array.mk bs_1).toList.length≤34359738368)∧K (AV.x false [Ch.b (beNat (Array.mk bs).toList*beNat (Array.mk bs_1).toList) (8*(Array.mk bs).toList.length+8*(Array.mk bs_1).toList.length)])) := by kernel_rfl
theorem IsEv.le_of {v r s : Nat} (h : IsEv v r) (k : IsEv v s) : s ≤ r := by
 obtain ⟨q, hq⟩ := h
 obtain ⟨p, hp⟩ := k
 rcases Nat.lt_or_ge r s with h' | h'
 ·exfalso
  rw [show s = r + (s - r - 1 + 1) by omega, Nat.pow_add, Nat.pow_succ'] at hp
  have e : 2 ^ r * (2 * q + 1) = 2 ^ r * (2 * (2 ^ (s - r - 1) * (2 * p + 1))) := by rw [← hq, hp]; simp only [Nat.mul_assoc]
  have := Nat.eq_of_mul_eq_mul_left (Nat.pow_pos (by decide)) e
  omega
 ·exact h'
theorem IsEv.uniq {v r s : Nat} (h : IsEv v r) (k : IsEv v s) : r = s := Nat.le_antisymm (k.le_of h) (h.le_of k)
theorem HalI.swap {g : Nat} {z : HalX} (h : HalI g z) : HalI g ⟨z.ys, z.xs, z.oy, z.ox, z.y, z.x⟩ := ⟨h.wy, h.wx, h.ly, h.lx, h.ey, h.ex, by simp only; rw [Nat.gcd_comm]; exact h.hg⟩
theorem byte_set (bs : List UInt8) (i : Nat) (b : UInt8) (n : Int) (h : n = (b.toNat : Int)) : (bs.map byteEl).set i [.v (.int .u8 n)] = (bs.set i b).map byteEl := by rw [List.map_set, h]; rfl
theorem byte_of_dig {w j : Nat} (h : j ≤ 7) : UInt8.ofNat (w % 18446744073709551616 / 2 ^ (8 * j)) = UInt8.ofNat (w / 256 ^ j) := by
 have e1 : (18446744073709551616 : Nat) = 256 ^ j * 256 ^ (8 - j) := by rw [← Nat.pow_add, show j + (8 - j) = 8 by omega]
 rw [← pow256]
 have e2 : w % 18446744073709551616 / 256 ^ j = w / 256 ^ j % 256 ^ (8 - j) := by
  conv => lhs; rw [e1]
  rw [Nat.mod_mul_right_div_self]
 rw [e2]
 apply UInt8.toNat_inj.1
 rw [UInt8.toNat_ofNat', UInt8.toNat_ofNat']
 apply Nat.mod_mod_of_dvd
 exact ⟨256 ^ (7 - j), by rw [show 8 - j = (7 - j) + 1 by omega, Nat.pow_succ' (m := 256)]⟩
theorem be_of_bt {bs : List UInt8} : ∀ {g : Nat}, (∀ p, p < bs.length → Bt bs g p) → beNat bs = g % 256 ^ bs.length := by
 induction bs using snocInd with
 | h0 => intro g _; simp [beNat_nil, Nat.mod_one]
 | h1 l b ih =>
  intro g h
  have hb := h 0 (by simp)
  unfold Bt at hb
  simp at hb
  have hl : ∀ p, p < l.length → Bt l (g / 256) p := by
   intro p hp
   have := h (p + 1) (by simp; omega)
   unfold Bt at this ⊢
   rw [List.length_append, List.length_singleton, show l.length + 1 - 1 - (p + 1) = l.length - 1 - p by omega, List.getElem?_append_left (by omega)] at this
   rw [this, Nat.div_div_eq_div_mul, ← Nat.pow_succ']
  rw [beNat_snoc, ih hl, List.length_append, List.length_singleton, hb, UInt8.toNat_ofNat', Nat.pow_succ' (m := 256) (n := l.length), Nat.mod_mul]
  omega
theorem be_zeros (q : Nat) : beNat (List.replicate q 0) = 0 := by
 induction q with
 | zero => rfl
 | succ q ih => rw [List.replicate_succ, beNat_cons, ih]; simp
theorem power_row (q x : Nat) (hx : x < 256) : (List.replicate (q + 1) [Ch.v (.int .u8 0)]).set 0 [.v (.int .u8 (x : Int))] = (UInt8.ofNat x :: List.replicate q 0).map byteEl := by
 rw [List.replicate_succ, List.set_cons_zero, List.map_cons, List.map_replicate]
 congr 1
 show [Ch.v (.int .u8 (x : Int))] = [Ch.v (.int .u8 ((UInt8.ofNat x).toNat : Int))]
 rw [UInt8.toNat_ofNat', Nat.mod_eq_of_lt hx]
theorem power_val (q t : Nat) (ht : t < 8) : beNat (UInt8.ofNat (2 ^ t) :: List.replicate q 0) = 2 ^ (8 * q + t) := by
 have : (2 : Nat) ^ t ≤ 2 ^ 7 := Nat.pow_le_pow_right (by decide) (by omega)
 rw [beNat_cons, be_zeros, List.length_replicate, UInt8.toNat_ofNat', Nat.mod_eq_of_lt (by omega), Nat.add_zero, Nat.pow_add, Nat.mul_comm, pow256]
theorem Bt.set {bs : List UInt8} {g p q : Nat} {b : UInt8} (h : Bt bs g p) (hb : q = bs.length - 1 - p → False) : Bt (bs.set q b) g p := by
 unfold Bt at h ⊢
 rw [List.length_set, List.getElem?_set_ne hb]; exact h
theorem Bt.new {bs : List UInt8} {g p : Nat} (h : p < bs.length) : Bt (bs.set (bs.length - 1 - p) (UInt8.ofNat (g / 256 ^ p))) g p := by
 unfold Bt
 rw [List.length_set, List.getElem?_set]
 simp; omega
theorem HalJ.step {g : Nat} {ys : HalY} {bs : List UInt8} {i k : Nat} (h : HalJ g (ys, bs, i, k)) (hk : k < 8) : HalJ g (ys, bs.set (8 * (vl g - 1 - i) + k) (UInt8.ofNat (g / 256 ^ (8 * i + 7 - k))), i, k + 1) := by
 obtain ⟨d, len, hi, _, low, new⟩ := h
 simp only at len hi low new
 have e : 8 * (vl g - 1 - i) + k = bs.length - 1 - (8 * i + 7 - k) := by omega
 refine ⟨d, by simpa using len, hi, by simp only; omega, fun p hp => ?_, fun p h1 h2 => ?_⟩
 ·simp only at hp ⊢
  exact (low p hp).set (by omega)
 ·simp only at h1 h2 ⊢
  by_cases e2 : p = 8 * i + 7 - k
  ·rw [e, e2]; exact Bt.new (by omega)
  ·exact (new p (by omega) h2).set (by omega)
theorem g_halves (m a n b r s : Nat) (ha : a ≤ 8589934592) (hb : b ≤ 8589934592) (hm : m < 2 ^ a) (hn : n < 2 ^ b) (er : IsEv m r) (es : IsEv n s) : Holds (goal_halves m a n b r s (Nat.gcd (m / 2 ^ r) (n / 2 ^ s)) (NatIs (Nat.gcd m n) a)) := by
 refine ⟨?_⟩
 rw [goal_halves_vc]
 have m0 := er.ne
 have n0 := es.ne
 have lm := natBytes_len hm
 have ln := natBytes_len hn
 have vm : vl m ≤ 1073741825 := by unfold vl; omega
 have vn : vl n ≤ 1073741825 := by unfold vl; omega
 have om := er.odd
 have on := es.odd
 have hgcd : Nat.gcd m n = 2 ^ min r s * Nat.gcd (m / 2 ^ r) (n / 2 ^ s) := by
  conv => lhs; rw [er.back, es.back]
  exact gcd_pow_two om on
 have g0 : Nat.gcd (m / 2 ^ r) (n / 2 ^ s) ≠ 0 := by
  intro e
  have := Nat.gcd_eq_zero_iff.1 e
  omega
 have hpos : 0 < m / 2 ^ r := Nat.pos_of_ne_zero fun e => by rw [e] at om; cases om
 have gle : Nat.gcd (m / 2 ^ r) (n / 2 ^ s) ≤ m := Nat.le_trans (Nat.gcd_le_left _ hpos) (Nat.div_le_self _ _)
 have hga : Nat.gcd m n < 2 ^ a := Nat.lt_of_le_of_lt (Nat.gcd_le_left _ (by omega)) hm
 have hr : r < 64 * vl m := er.lt (by have := vl_lt m; rwa [show (18446744073709551616 : Nat) = 2 ^ 64 from rfl, ← Nat.pow_mul] at this)
 have hs : s < 64 * vl n := es.lt (by have := vl_lt n; rwa [show (18446744073709551616 : Nat) = 2 ^ 64 from rfl, ← Nat.pow_mul] at this)
 have vg : vl (Nat.gcd (m / 2 ^ r) (n / 2 ^ s)) ≤ 1073741825 := Nat.le_trans (vl_mono gle) vm
 simp only [Int.ofNat_eq_natCast, true_and, and_true, Nat.zero_add, true_implies]
 have wm : Win 18446744073709551616 (fd 18446744073709551616 (vl m) m) 0 (vl m) m := .of_fd (vl_lt m) rfl
 have wn : Win 18446744073709551616 (fd 18446744073709551616 (vl n) n) 0 (vl n) n := .of_fd (vl_lt n) rfl
 have fm : (fd 18446744073709551616 (vl m) m).length = vl m := fd_len
 have fn : (fd 18446744073709551616 (vl n) n).length = vl n := fd_len
 have tm' : List.take (vl m) (List.drop 0 (V (fd 18446744073709551616 (vl m) m))) = V (fd 18446744073709551616 (vl m) m) := by rw [List.drop_zero, V_take, List.take_of_length_le (by omega)]
 have tn' : List.take (vl n) (List.drop 0 (V (fd 18446744073709551616 (vl n) n))) = V (fd 18446744073709551616 (vl n) n) := by rw [List.drop_zero, V_take, List.take_of_length_le (by omega)]
 refine ⟨by omega, by omega, vl m, m, tm', vl_lt m, m0, by omega, fun r1 h1 _ => ?_⟩
 have := er.uniq h1
 subst this
 refine ⟨vl n, n, tn', vl_lt n, n0, by omega, fun s1 h1 _ => ?_⟩
 have := es.uniq h1
 subst this
 refine ⟨_, m, rfl, by omega, wm, by omega, fun us ox lus wus => ⟨_, n, rfl, by omega, wn, by omega, fun ws oy lws wws => ?_⟩⟩
 simp only [Int.toNat_natCast, true_and] at wus wws ⊢
 have hq1 : m / 2 ^ r ≤ m := Nat.div_le_self _ _
 have hq2 : n / 2 ^ s ≤ n := Nat.div_le_self _ _
 generalize hgg : Nat.gcd (m / 2 ^ r) (n / 2 ^ s) = g at *
 generalize m / 2 ^ r = m1 at *
 generalize n / 2 ^ s = n1 at *
 refine ⟨⟨⟨⟨us, ws, ox, oy, m1, n1⟩, ⟨wus, wws, by simp only; omega, by simp only; omega, om, on, hgg⟩, rfl, rfl, rfl, rfl, .inl rfl, .inl rfl⟩, fun z hz => ⟨?_, fun z1 hz1 e1 => ⟨?_, fun z2 hz2 e2 => ?_⟩⟩⟩, fun z hz => ⟨?_, fun y hy => ?_⟩⟩
 ·-- the head
  refine bif_mk (fun h => ⟨z, ⟨hz, rfl⟩, rfl, rfl, rfl, rfl, .inl rfl, .inl rfl⟩) (fun h => bif_mk (fun h' => ⟨z, ⟨hz, rfl⟩, rfl, rfl, rfl, rfl, .inl rfl, .inl rfl⟩) (fun h' => ?_))
  have h := of_decide_eq_false h
  have h' := of_decide_eq_false h'
  have h1 : vl z.x ≠ 0 := fun e => by have := vl_zero.1 e; have := hz.ex; omega
  have h2 : vl z.y ≠ 0 := fun e => by have := vl_zero.1 e; have := hz.ey; omega
  exact ⟨z, ⟨hz.wx, hz.wy, hz.lx, hz.ly, .inr ⟨by omega, by omega, hz.hg⟩⟩, rfl, rfl, rfl, rfl, .inl rfl, .inl rfl⟩
 ·-- the greater one first
  have lx := hz1.wx.le
  have llx := hz1.lx
  refine ⟨z1.x, z1.y, by rw [V_drop, V_take, hz1.wx.win], by rw [V_drop, V_take, hz1.wy.win], by omega, bif_mk (fun h => ?_) (fun h => ?_)⟩
  ·have h := of_decide_eq_true h
   exact ⟨⟨z1.ys, z1.xs, z1.oy, z1.ox, z1.y, z1.x⟩, ⟨⟨hz1.swap, Nat.le_of_lt h⟩, by simp only; omega⟩, rfl, rfl, rfl, rfl, .inl rfl, .inl rfl⟩
  ·have h := of_decide_eq_false h
   exact ⟨z1, ⟨⟨hz1, by omega⟩, e1⟩, rfl, rfl, rfl, rfl, .inl rfl, .inl rfl⟩
 ·-- the difference, halved
  obtain ⟨hz2, hle⟩ := hz2
  have llx := hz2.lx
  have lly := hz2.ly
  have hey := hz2.ey
  have hex := hz2.ex
  refine ⟨z2.xs, z2.ys, z2.x, z2.y, rfl, rfl, ⟨llx, lly⟩, hz2.wx, hz2.wy, hle, fun us' lus' wus' => bif_mk (fun h => ?_) (fun h => ?_)⟩
  ·have h : vl (z2.x - z2.y) = 0 := by have := eq_of_beq h; omega
   have h0 := vl_zero.1 h
   refine ⟨⟨us', z2.ys, z2.ox, z2.oy, z2.x - z2.y, z2.y⟩, ⟨wus', hz2.wy, by simp only; omega, lly, .inl ⟨h0, ?_⟩⟩, rfl, rfl, rfl, rfl, .inl rfl, .inl rfl⟩
   simp only
   have := hz2.hg
   rw [show z2.x = z2.y by omega, Nat.gcd_self] at this
   exact this
  ·have h : vl (z2.x - z2.y) ≠ 0 := fun e => by rw [e] at h; simp at h
   have h0 : z2.x - z2.y ≠ 0 := fun e => h (vl_zero.2 e)
   have lx' := wus'.le
   refine ⟨_, z2.x - z2.y, by rw [V_drop, V_take, wus'.win], wus'.lt, h0, by omega, fun t ht htl => ⟨us', z2.x - z2.y, rfl, by omega, wus', by omega, fun us2 o2 lus2 wus2 => ?_⟩⟩
   have hodd := ht.odd
   have hback := ht.back
   have ht1 : t ≠ 0 := fun e => by
    subst e
    rw [Nat.pow_zero, Nat.div_one] at hodd
    omega
   have hp2 : 2 * ((z2.x - z2.y) / 2 ^ t) ≤ z2.x - z2.y := by
    have e : 2 ^ t = 2 * 2 ^ (t - 1) := by rw [← Nat.pow_succ']; congr 1; omega
    have h1 : 1 * ((z2.x - z2.y) / 2 ^ t) ≤ 2 ^ (t - 1) * ((z2.x - z2.y) / 2 ^ t) := Nat.mul_le_mul_right _ (Nat.pow_pos (by decide))
    have h2 : z2.x - z2.y = 2 * (2 ^ (t - 1) * ((z2.x - z2.y) / 2 ^ t)) := by
     rw [← Nat.mul_assoc, ← e]; exact hback
    omega
   refine ⟨⟨us2, z2.ys, o2, z2.oy, (z2.x - z2.y) / 2 ^ t, z2.y⟩, ⟨⟨wus2, hz2.wy, by simp only; omega, lly, hodd, hey, ?_⟩, ?_⟩, rfl, rfl, rfl, rfl, .inl rfl, .inl rfl⟩
   ·simp only
    rw [← hz2.hg, ← gcd_diff hle]
    conv => rhs; rw [hback]
    exact (gcd_odd_pow t hey).symm
   ·simp only
    omega
 ·-- behind the loop
  have wy := hz.wy
  have wx := hz.wx
  have lly := hz.ly
  have fin : z.y = g → ∃ x_1 : HalY, HalD g x_1 ∧ z.oy = x_1.oy ∧ vl z.y = vl g ∧ (V z.ys = V x_1.ys ∨ RowLE (V z.ys) (V x_1.ys)) := fun e => by
   subst e
   exact ⟨⟨z.ys, z.oy⟩, ⟨wy, lly⟩, rfl, rfl, .inl rfl⟩
  refine bif_mk (fun h => bif_mk (fun h' => ?_) (fun h' => ?_)) (fun h => ?_)
  ·have h : vl z.x = 1 := by have := eq_of_beq h; omega
   have h' : vl z.y = 1 := by have := eq_of_beq h'; omega
   have hc : Nat.gcd z.x z.y = g := by
    rcases hz.h with ⟨h0, _⟩ | ⟨_, _, h⟩
    ·rw [vl_zero.2 h0] at h; cases h
    ·exact h
   rw [h] at wx
   rw [h'] at wy
   have gx := wx.get 0 (by omega)
   have gy := wy.get 0 (by omega)
   have lx := wx.lt
   have ly := wy.lt
   have hle := wy.le
   rw [Nat.pow_one] at lx ly
   rw [Nat.pow_zero, Nat.div_one, Nat.mod_eq_of_lt lx] at gx
   rw [Nat.pow_zero, Nat.div_one, Nat.mod_eq_of_lt ly] at gy
   have y0 : 0 < z.y := Nat.pos_of_ne_zero fun e => by rw [vl_zero.2 e] at h'; cases h'
   have gy2 : g ≤ z.y := by rw [← hc]; exact Nat.gcd_le_right _ y0
   have vg1 : vl g = 1 := by
    have h1 : vl g ≤ 1 := vl_iff.2 (by rw [Nat.pow_one]; omega)
    have h2 : vl g ≠ 0 := fun e => g0 (vl_zero.1 e)
    omega
   refine ⟨by omega, _, V_ldE gx, by omega, _, V_ldE gy, by omega, by omega, by rw [V_len]; omega, ⟨z.ys.set z.oy g, z.oy⟩, ⟨?_, by simpa using lly⟩, rfl, by omega, .inl ?_⟩
   ·rw [vg1]
    refine ⟨by rw [Nat.pow_one]; omega, by simpa using hle, fun i hi => ?_⟩
    have : i = 0 := by omega
    subst this
    simp only
    rw [List.getElem?_set, Nat.pow_zero, Nat.div_one, Nat.mod_eq_of_lt (by omega)]
    simp; omega
   ·simp only
    rw [Int.toNat_natCast, Int.toNat_natCast, hc, V_set, Nat.add_zero]
  ·have h : vl z.x = 1 := by have := eq_of_beq h; omega
   have h' : ¬ vl z.y = 1 := fun e => by rw [e] at h'; simp at h'
   rcases hz.h with ⟨h0, _⟩ | ⟨_, h2, _⟩
   ·rw [vl_zero.2 h0] at h; cases h
   ·exact absurd h2 h'
  ·have h : ¬ vl z.x = 1 := fun e => by rw [e] at h; simp at h
   rcases hz.h with ⟨_, h1⟩ | ⟨h2, _⟩
   ·exact fin h1
   ·exact absurd h2 h
 ·-- bytes
  have ew : IntKind.i64.wrap (8 * (vl g : Int)) = ((8 * vl g : Nat) : Int) := by rw [w64 (by omega)]; omega
  rw [ew, Int.toNat_natCast]
  refine ⟨⟨by omega, by omega, by omega, by omega⟩, ⟨(y, List.replicate (8 * vl g) 0, 0), ⟨hy, by simp, by simp, fun p hp => by simp at hp⟩, rfl, rfl, rfl, rfl, .inl rfl, .inl ?_⟩, fun x hx => ?_⟩
  ·simp [byteEl]
  obtain ⟨y, bs, i⟩ := x
  have len := hx.len
  have hi := hx.hi
  have wy := hx.d.wy
  have lyl := hx.d.ly
  have hle := wy.le
  simp only at len hi ⊢
  refine bif_mk (fun h => ?_) (fun h => ?_)
  ·have h : i < vl g := by have := of_decide_eq_true h; omega
   refine ⟨by omega, _, V_ldE (wy.get i h), ⟨(y, bs, i, 0), ⟨⟨hx.d, len, h, by simp, hx.low, fun p h1 h2 => by simp only at h1 h2; omega⟩, rfl⟩, rfl, rfl, rfl, rfl, rfl, rfl, .inl rfl, .inl rfl⟩, fun x1 hx1 ht => ?_⟩
   obtain ⟨y1, bs1, i1, k⟩ := x1
   have len1 := hx1.len
   have hi1 := hx1.hi
   have hk1 := hx1.hk
   simp only at len1 hi1 hk1 ht ⊢
   refine bif_mk (fun hq => ?_) (fun hq => ?_)
   ·have hq : k < 8 := by have := of_decide_eq_true hq; omega
    have f1 : IntKind.i64.wrap (IntKind.i64.wrap (8 * IntKind.i64.wrap (IntKind.i64.wrap ((vl g : Int) - 1) - i1)) + k) = ((8 * (vl g - 1 - i1) + k : Nat) : Int) := by
     rw [w64 (n := (vl g : Int) - 1) (by omega), w64 (n := (vl g : Int) - 1 - i1) (by omega), w64 (n := 8 * ((vl g : Int) - 1 - i1)) (by omega), w64 (by omega)]; omega
    have f2 : IntKind.i64.wrap (56 - IntKind.i64.wrap (8 * (k : Int))) = ((8 * (7 - k) : Nat) : Int) := by
     rw [w64 (n := 8 * (k : Int)) (by omega), w64 (by omega)]; omega
    have f3 : IntKind.u8.wrap (shrI .u64 ((g / 18446744073709551616 ^ i1 % 18446744073709551616 : Nat) : Int) ((8 * (7 - k) : Nat) : Int)) = ((UInt8.ofNat (g / 256 ^ (8 * i1 + 7 - k))).toNat : Int) := by
     rw [show IntKind.u8.wrap (shrI .u64 ((g / 18446744073709551616 ^ i1 % 18446744073709551616 : Nat) : Int) ((8 * (7 - k) : Nat) : Int)) = _ from byte_shr (by omega), byte_of_dig (by omega)]
     congr 3
     rw [Nat.div_div_eq_div_mul]
     congr 1
     rw [show (18446744073709551616 : Nat) = 256 ^ 8 from rfl, ← Nat.pow_mul, ← Nat.pow_add]
     congr 1; omega
    simp only [f1, f2, f3, Int.toNat_natCast]
    refine ⟨by omega, by omega, by rw [List.length_map]; omega, (y1, bs1.set (8 * (vl g - 1 - i1) + k) (UInt8.ofNat (g / 256 ^ (8 * i1 + 7 - k))), i1, k + 1), ⟨hx1.step hq, ht, by simp only; omega⟩, rfl, rfl, rfl, rfl, rfl, by rw [w64 (by omega)]; simp, .inl rfl, .inl ?_⟩
    exact byte_set _ _ _ _ rfl
   ·have hq : k = 8 := by have := of_decide_eq_false hq; omega
    subst hq
    refine ⟨(y1, bs1, i1 + 1), ⟨⟨hx1.d, len1, hi1, fun p hp => ?_⟩, by simp only; omega⟩, rfl, rfl, by rw [w64 (by omega)]; simp, .inl rfl, .inl rfl⟩
    simp only at hp ⊢
    by_cases hp2 : p < 8 * i1
    ·exact hx1.low p hp2
    ·exact hx1.new p (by simp only; omega) (by simp only; omega)
  ·have h : i = vl g := by have := of_decide_eq_false h; omega
   subst h
   have hbe : beNat bs = g := by
    have hlow : ∀ p, p < bs.length → Bt bs g p := fun p hp => hx.low p (by show p < 8 * vl g; omega)
    rw [be_of_bt hlow, Nat.mod_eq_of_lt]
    rw [len, Nat.pow_mul]; exact vl_lt g
   have hmin : (bif false then (if (s : Int) > r then (s : Int) else r) else if (s : Int) < r then (s : Int) else r) = ((min r s : Nat) : Int) := by
    simp only [cond_false]
    split <;> omega
   rw [hmin]
   have hml : min r s < 68719476800 := by omega
   generalize min r s = e at hmin hml hgcd ⊢
   have f1 : IntKind.i64.wrap (IntKind.i64.wrap ((e : Int).tdiv 8) + 1) = ((e / 8 + 1 : Nat) : Int) := by
    rw [te (by omega), w64 (n := (e : Int) / 8) (by omega), w64 (by omega)]; omega
   have f2 : (e : Int).tmod 8 = ((e % 8 : Nat) : Int) := by rw [tm (by omega)]; omega
   have f3 : shlI .u8 1 ((e % 8 : Nat) : Int) = ((2 ^ (e % 8) : Nat) : Int) := by
    have : (2 : Nat) ^ (e % 8) ≤ 2 ^ 7 := Nat.pow_le_pow_right (by decide) (by omega)
    rw [shl_eq (by simp [IntKind.bits]; omega), Int.toNat_natCast, Int.one_mul]
    have e1 : (2 : Int) ^ (e % 8) = ((2 ^ (e % 8) : Nat) : Int) := by simp
    rw [e1]
    generalize 2 ^ (e % 8) = q at this
    exact wu8 (by omega)
   have hp7 : (2 : Nat) ^ (e % 8) ≤ 2 ^ 7 := Nat.pow_le_pow_right (by decide) (by omega)
   simp only [f1, f2, f3, Int.toNat_natCast]
   refine ⟨by omega, by omega, by omega, by omega, by omega, by rw [List.length_replicate]; omega, bs, ?_, UInt8.ofNat (2 ^ (e % 8)) :: List.replicate (e / 8) 0, ?_, ⟨by omega, by simp; omega⟩, ?_⟩
   ·rw [List.drop_zero, List.take_of_length_le (by rw [List.length_map]; omega)]
   ·rw [List.drop_zero, power_row _ _ (by omega), List.take_of_length_le (by simp)]
   ·rw [hbe, power_val _ _ (by omega), show 8 * (e / 8) + e % 8 = e by omega, Nat.mul_comm, ← hgcd]
    exact .b hga
end Go.Proofs
/- Natural numbers: halves, Gcd. -/
namespace Go.Proofs
open Go Go.Eng
def c_halves : Ctr := fun as0 => match as0 with
 | [.x false [.b m a], .x false [.b n b]] => some fun K => (a ≤ 8589934592 ∧ b ≤ 8589934592) ∧ (m ≠ 0 ∧ n ≠ 0) ∧ K (bA (Nat.gcd m n) a)
 | _ => none
theorem ok_halves : CtrOK Tryd.prog tabG debT 50 c_halves := by
 refine ⟨enters Tryd.func50 (by kernel_rfl), fun l T hT K hK => ?_⟩
 unfold c_halves at hT
 split at hT
 ·rename_i m a n b
  cases hT
  obtain ⟨⟨ha, hb⟩, ⟨hm, hn⟩, hK⟩ := hK
  obtain ⟨r, hr⟩ := IsEv.ex hm
  obtain ⟨s, hs⟩ := IsEv.ex hn
  exact spec_pre fun w O ρ vals hc => spec_nat (spec_ofL T15ok mixed Tryd.func50 (by kernel_rfl) (by kernel_rfl) (by rfl) (g_halves m a n b r s ha hb (conc_lt hc) (conc_lt2 hc) hr hs)) hK
 ·cases hT
def L16 : List (Nat × Ctr) := (50, c_halves) :: L15
noncomputable def T16 : Tabs := mkT L16 M15 X4
theorem L16ok : CtrsOK Tryd.prog tabG debT L16 := .cons ok_halves L15ok
theorem T16ok : TabsOK Tryd.prog tabG debT T16 := mkTok L16ok M15ok X4ok
structure GcdX where
 x : Nat
 y : Nat
def GcdI (m a n b : Nat) (z : GcdX) : Prop := z.x < 2 ^ (a + b) ∧ z.y < 2 ^ (a + b) ∧ Nat.gcd z.x z.y = Nat.gcd m n
def inv_Gcd (m a n b : Nat) : LI := fun id => bif id.beq 2 then .inv ⟨GcdX, fun z => ⟨[(0, bA z.x (a + b)), (1, bA z.y (a + b))], []⟩, GcdI m a n b, fun z => z.x + z.y, fun _ => 0⟩
 else bif id.beq 3 then .cut ⟨GcdX, fun z => ⟨[(0, bA z.x (a + b)), (1, bA z.y (a + b))], []⟩, fun z => GcdI m a n b z ∧ z.x ≠ 0 ∧ z.y ≠ 0, fun _ => 0, fun z => z.x + z.y⟩
 else bif id.beq 5 then .cut ⟨GcdX, fun z => ⟨[(0, bA z.x (a + b)), (1, bA z.y (a + b))], []⟩, fun z => GcdI m a n b z ∧ z.x ≠ 0 ∧ z.y ≠ 0 ∧ (natBytes z.y).length ≤ (natBytes z.x).length, fun _ => 0, fun z => z.x + z.y⟩
 else bif id.beq 11 then .cut ⟨GcdX, fun z => ⟨[(0, bA z.x (a + b)), (1, bA z.y (a + b))], []⟩, fun z => GcdI m a n b z ∧ (z.x = 0 ∨ z.y = 0), fun _ => 0, fun _ => 0⟩ else .no
def ot_Gcd : OT := fun _ => ([], [])
def goal_Gcd (m a n b : Nat) (K : AV → Prop) : Prop := goalL T16 ot_Gcd (inv_Gcd m a n b) Tryd.f43 [bA m a, bA n b] K
theorem goal_Gcd_vc (m : Nat) (a : Nat) (n : Nat) (b : Nat) (K : AV → Prop) : goal_Gcd m a n b K = (((∃(x:GcdX),((x.x<2^(a+b)∧x.y<2^(a+b)∧x.x.gcd x.y=m.gcd n)∧OfNat.ofNat 0=0)∧m=x.x∧a≤a+b∧n=x.y∧b≤a+b∧True)∧∀(x:GcdX),x.x<2^(a+b)∧x.y<2^(a+b)∧x.x.gcd x.y=m.gcd n→OfNat.ofNat 0=0→(bif !decide (natBytes x.x=(ByteArray.mk #[]).data.toList) then bif !decide (natBytes x.y=(ByteArray.mk #[]).data.toList) then ∃(x_1:GcdX),(((x_1.x<2^(a+b)∧x_1.y<2^(a+b)∧x_1.x.gcd x_1.y=m.gcd n)∧x_1.x≠0∧x_1.y≠0)∧x_1.x+x_1.y=x.x+x.y)∧x.x=x_1.x∧a+b≤a+b∧x.y=x_1.y∧a+b≤a+b∧True else ∃(x_1:GcdX),(((x_1.x<2^(a+b)∧x_1.y<2^(a+b)∧x_1.x.gcd x_1.y=m.gcd n)∧(x_1.x=0∨x_1.y=0))∧OfNat.ofNat 0=0)∧x.x=x_1.x∧a+b≤a+b∧x.y=x_1.y∧a+b≤a+b∧True else ∃(x_1:GcdX),(((x_1.x<2^(a+b)∧x_1.y<2^(a+b)∧x_1.x.gcd x_1.y=m.gcd n)∧(x_1.x=0∨x_1.y=0))∧OfNat.ofNat 0=0)∧x.x=x_1.x∧a+b≤a+b∧x.y=x_1.y∧a+b≤a+b∧True)∧∀(x_1:GcdX),(x_1.x<2^(a+b)∧x_1.y<2^(a+b)∧x_1.x.gcd x_1.y=m.gcd n)∧x_1.x≠0∧x_1.y≠0→x_1.x+x_1.y=x.x+x.y→(bif decide (Int.ofNat (natBytes x_1.x).length<Int.ofNat (natBytes x_1.y).length) then ∃(x_2:GcdX),(((x_2.x<2^(a+b)∧x_2.y<2^(a+b)∧x_2.x.gcd x_2.y=m.gcd n)∧x_2.x≠0∧x_2.y≠0∧(natBytes x_2.y).length≤(natBytes x_2.x).length)∧x_2.x+x_2.y=x.x+x.y)∧x_1.y=x_2.x∧a+b≤a+b∧x_1.x=x_2.y∧a+b≤a+b∧True else ∃(x_2:GcdX),(((x_2.x<2^(a+b)∧x_2.y<2^(a+b)∧x_2.x.gcd x_2.y=m.gcd n)∧x_2.x≠0∧x_2.y≠0∧(natBytes x_2.y).length≤(natBytes x_2.x).length)∧x_2.x+x_2.y=x.x+x.y)∧x_1.x=x_2.x∧a+b≤a+b∧x_1.y=x_2.y∧a+b≤a+b∧True)∧∀(x_2:GcdX),(x_2.x<2^(a+b)∧x_2.y<2^(a+b)∧x_2.x.gcd x_2.y=m.gcd n)∧x_2.x≠0∧x_2.y≠0∧(natBytes x_2.y).length≤(natBytes x_2.x).length→x_2.x+x_2.y=x.x+x.y→bif decide (Int.ofNat (natBytes x_2.x).length≤8) then x_2.x<18446744073709551616∧x_2.y<18446744073709551616∧((0≤Int.ofNat x_2.x∧Int.ofNat x_2.x<18446744073709551616)∧0≤Int.ofNat x_2.y∧Int.ofNat x_2.y<18446744073709551616)∧(0≤Int.ofNat ((Int.ofNat x_2.x).toNat.gcd (Int.ofNat x_2.y).toNat)∧Int.ofNat ((Int.ofNat x_2.x).toNat.gcd (Int.ofNat x_2.y).toNat)<18446744073709551616)∧K (AV.x false [Ch.b (Int.ofNat ((Int.ofNat x_2.x).toNat.gcd (Int.ofNat x_2.y).toNat)).toNat 64]) else bif decide (Int.ofNat (natBytes x_2.x).length≤IntKind.i64.wrap (Int.ofNat (natBytes x_2.y).length+8)) then (a+b≤8589934592∧a+b≤8589934592)∧(x_2.x≠0∧x_2.y≠0)∧K (AV.x false [Ch.b (x_2.x.gcd x_2.y) (a+b)]) else (a+b≤549755813888∧a+b≤549755813888)∧∃(x':GcdX),((x'.x<2^(a+b)∧x'.y<2^(a+b)∧x'.x.gcd x'.y=m.gcd n)∧OfNat.ofNat 0=0∧x'.x+x'.y<x.x+x.y)∧x_2.y=x'.x∧a+b≤a+b∧(bif decide (x_2.y=0) then 0 else x_2.x%x_2.y)=x'.y∧a+b≤a+b∧True)∧∀(x:GcdX),(x.x<2^(a+b)∧x.y<2^(a+b)∧x.x.gcd x.y=m.gcd n)∧(x.x=0∨x.y=0)→OfNat.ofNat 0=0→((x.x=0∨x.y=0)∧a+b+(a+b)≤1152921504606846976)∧K (AV.x false [Ch.b (x.x+x.y) (a+b+(a+b))])) := by kernel_rfl
theorem g_Gcd (m a n b : Nat) (ha : a ≤ 4294967296) (hb : b ≤ 4294967296) (hm : m < 2 ^ a) (hn : n < 2 ^ b) : Holds (goal_Gcd m a n b (NatIs (Nat.gcd m n) (a + b))) := by
 refine ⟨?_⟩
 rw [goal_Gcd_vc]
 have hpa : (2 : Nat) ^ a ≤ 2 ^ (a + b) := Nat.pow_le_pow_right (by decide) (by omega)
 have hpb : (2 : Nat) ^ b ≤ 2 ^ (a + b) := Nat.pow_le_pow_right (by decide) (by omega)
 have hg : Nat.gcd m n < 2 ^ (a + b) := by
  rcases Nat.eq_zero_or_pos m with rfl | h
  ·rw [Nat.gcd_zero_left]; omega
  ·have := Nat.gcd_le_left n h; omega
 have nil : ∀ x : Nat, (!decide (natBytes x = (ByteArray.mk #[]).data.toList)) = !decide (x = 0) := fun x => by
  congr 1
  rw [Bool.eq_iff_iff, decide_eq_true_eq, decide_eq_true_eq]
  exact natBytes_nil
 simp only [nil]
 simp only [Int.ofNat_eq_natCast, true_and, and_true, Nat.le_refl, true_implies]
 refine ⟨⟨⟨⟨m, n⟩, ⟨by simp only; omega, by simp only; omega, rfl⟩, rfl, by omega, rfl, by omega⟩, fun z hz => ⟨?_, fun z1 hz1 e1 => ⟨?_, fun z2 hz2 e2 => ?_⟩⟩⟩, fun z hz => ?_⟩
 ·refine bif_mk (fun h => bif_mk (fun h' => ?_) (fun h' => ?_)) (fun h => ?_)
  ·exact ⟨z, ⟨⟨hz, by simpa using h, by simpa using h'⟩, rfl⟩, rfl, rfl⟩
  ·exact ⟨z, ⟨hz, .inr (by simpa using h')⟩, rfl, rfl⟩
  ·exact ⟨z, ⟨hz, .inl (by simpa using h)⟩, rfl, rfl⟩
 ·obtain ⟨⟨h1, h2, h3⟩, h4, h5⟩ := hz1
  refine bif_mk (fun h => ?_) (fun h => ?_)
  ·have h := of_decide_eq_true h
   exact ⟨⟨z1.y, z1.x⟩, ⟨⟨⟨h2, h1, by simp only; rw [Nat.gcd_comm]; exact h3⟩, h5, h4, by simp only; omega⟩, by simp only; omega⟩, rfl, rfl⟩
  ·have h := of_decide_eq_false h
   exact ⟨z1, ⟨⟨⟨h1, h2, h3⟩, h4, h5, by omega⟩, e1⟩, rfl, rfl⟩
 ·obtain ⟨⟨h1, h2, h3⟩, h4, h5, h6⟩ := hz2
  have l1 := natBytes_len h1
  have l2 := natBytes_len h2
  refine bif_mk (fun h => ?_) (fun h => bif_mk (fun h' => ?_) (fun h' => ?_))
  ·have h := of_decide_eq_true h
   have x8 := natBytes_len_iff (m := z2.x) (k := 8) |>.1 (by omega)
   have y8 := natBytes_len_iff (m := z2.y) (k := 8) |>.1 (by omega)
   simp only [Int.toNat_natCast]
   have hgx := Nat.gcd_le_left z2.y (by omega : 0 < z2.x)
   rw [h3] at hgx ⊢
   exact ⟨by omega, by omega, by omega, by omega, .b hg⟩
  ·rw [h3]
   exact ⟨by omega, ⟨h4, h5⟩, .b hg⟩
  ·have hmod := Nat.mod_lt z2.x (by omega : 0 < z2.y)
   have hlen : ¬ (natBytes z2.x).length ≤ (natBytes z2.y).length + 8 := by
    have := of_decide_eq_false h'
    rw [w64 (by omega)] at this
    omega
   have hlt := len_lt_lt (m := z2.y) (n := z2.x) (by omega)
   simp only [h5, decide_false, cond_false]
   refine ⟨by omega, ⟨z2.y, z2.x % z2.y⟩, ⟨⟨h2, by simp only; omega, ?_⟩, by simp only; omega⟩, rfl, rfl⟩
   simp only
   rw [← h3, Nat.gcd_comm z2.y, ← Nat.gcd_rec, Nat.gcd_comm]
 ·obtain ⟨⟨h1, h2, h3⟩, h4⟩ := hz
  have e : z.x + z.y = Nat.gcd m n := by
   rw [← h3]
   rcases h4 with h | h
   ·rw [h, Nat.gcd_zero_left]; omega
   ·rw [h, Nat.gcd_zero_right]; omega
  refine ⟨⟨h4, by omega⟩, ?_⟩
  rw [e]
  exact .b hg
def c_Gcd : Ctr := fun as0 => match as0 with
 | [.x false [.b m a], .x false [.b n b]] => some fun K => (a ≤ 4294967296 ∧ b ≤ 4294967296) ∧ K (bA (Nat.gcd m n) (a + b))
 | _ => none
theorem ok_Gcd : CtrOK Tryd.prog tabG debT 43 c_Gcd := by
 refine ⟨enters Tryd.func43 (by kernel_rfl), fun l T hT K hK => ?_⟩
 unfold c_Gcd at hT
 split at hT
 ·rename_i m a n b
  cases hT
  exact spec_pre fun w O ρ vals hc => spec_nat (spec_ofL T16ok mixed Tryd.func43 (by kernel_rfl) (by kernel_rfl) (by rfl) (g_Gcd m a n b hK.1.1 hK.1.2 (conc_lt hc) (conc_lt2 hc))) hK.2
 ·cases hT
def L17 : List (Nat × Ctr) := (43, c_Gcd) :: L16
theorem L17ok : CtrsOK Tryd.prog tabG debT L17 := .cons ok_Gcd L16ok
end Go.Proofs
