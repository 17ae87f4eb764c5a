/- Natural numbers as bytes and as digits: plain facts. -/
import Derived.Test.YtagcmnmbgogljaaDoorE4
import Derived.IntWalk
/- Natural numbers as bytes and as digits: plain facts. -/
namespace Go.Eng
open Go
theorem bif_iff {b : Bool} {p q : Prop} : (bif b then p else q) ↔ (b = true → p) ∧ (b = false → q) := by cases b <;> simp
theorem bif_mk {b : Bool} {p q : Prop} (h : b = true → p) (h' : b = false → q) : bif b then p else q := bif_iff.2 ⟨h, h'⟩
/-! ### Machine integers -/

theorem wrap_u64 (n : Int) : IntKind.u64.wrap n = n % 18446744073709551616 := by simp [IntKind.wrap, IntKind.bits, IntKind.signed]
theorem wrap_u64_id {n : Int} (h0 : 0 ≤ n) (h1 : n < 18446744073709551616) : IntKind.u64.wrap n = n := by rw [wrap_u64]; omega
theorem wrap_u32_id {n : Int} (h0 : 0 ≤ n) (h1 : n < 4294967296) : IntKind.u32.wrap n = n := by rw [IntKind.wrap_u32]; omega
theorem wrap_u8_id {n : Int} (h0 : 0 ≤ n) (h1 : n < 256) : IntKind.u8.wrap n = n := by rw [IntKind.wrap_u8]; omega
theorem wrap_i64_id {n : Int} (h0 : -9223372036854775808 ≤ n) (h1 : n < 9223372036854775808) : IntKind.i64.wrap n = n := by rw [IntKind.wrap_i64]; omega
theorem w64 {n : Int} (h : -9223372036854775808 ≤ n ∧ n < 9223372036854775808) : IntKind.i64.wrap n = n := wrap_i64_id h.1 h.2
theorem wu64 {n : Int} (h : 0 ≤ n ∧ n < 18446744073709551616) : IntKind.u64.wrap n = n := wrap_u64_id h.1 h.2
theorem wu32 {n : Int} (h : 0 ≤ n ∧ n < 4294967296) : IntKind.u32.wrap n = n := wrap_u32_id h.1 h.2
theorem wu8 {n : Int} (h : 0 ≤ n ∧ n < 256) : IntKind.u8.wrap n = n := wrap_u8_id h.1 h.2
theorem te {a b : Int} (h : 0 ≤ a) : a.tdiv b = a / b := Int.tdiv_eq_ediv_of_nonneg h
theorem tm {a b : Int} (h : 0 ≤ a) : a.tmod b = a % b := Int.tmod_eq_emod_of_nonneg h
/-- A shift left by fewer bits than there are. -/
theorem shl_eq {k : IntKind} {a b : Int} (h : b.toNat ≤ k.bits) : shlI k a b = k.wrap (a * 2 ^ b.toNat) := by
  unfold shlI; rw [Nat.min_eq_left h]
theorem shr_eq {k : IntKind} {a b : Int} (h : b.toNat ≤ k.bits) (_h0 : 0 ≤ a) : shrI k a b = a / 2 ^ b.toNat := by
 unfold shrI; rw [Nat.min_eq_left h, Int.fdiv_eq_ediv_of_nonneg]
 exact Int.le_of_lt (Int.pow_pos (by omega))
theorem toNat_ofInt {n : Nat} {x : Nat} (h : x < 2 ^ n) : (BitVec.ofInt n (x : Int)).toNat = x := by
 rw [BitVec.toNat_ofInt]
 have : (x : Int) % ((2 ^ n : Nat) : Int) = x := Int.emod_eq_of_lt (by omega) (by omega)
 rw [this]; simp
theorem or_add {a b s : Nat} (h : b < 2 ^ s) : (2 ^ s * a) ||| b = 2 ^ s * a + b := (Nat.two_pow_add_eq_or_of_lt h a).symm
theorem orI_u64 {a b s : Nat} (h : b < 2 ^ s) (hl : 2 ^ s * a + b < 18446744073709551616) : orI .u64 ((2 ^ s * a : Nat) : Int) (b : Int) = ((2 ^ s * a + b : Nat) : Int) := by
 unfold orI
 have h1 : (BitVec.ofInt IntKind.u64.bits ((2 ^ s * a : Nat) : Int) ||| BitVec.ofInt IntKind.u64.bits (b : Int)).toNat = 2 ^ s * a + b := by
  rw [BitVec.toNat_or, toNat_ofInt (by show _ < 2 ^ 64; omega), toNat_ofInt (by show _ < 2 ^ 64; omega), or_add h]
 rw [h1]
 exact wrap_u64_id (by omega) (by omega)
theorem orI_u32 {a b s : Nat} (h : b < 2 ^ s) (hl : 2 ^ s * a + b < 4294967296) : orI .u32 ((2 ^ s * a : Nat) : Int) (b : Int) = ((2 ^ s * a + b : Nat) : Int) := by
 unfold orI
 have h1 : (BitVec.ofInt IntKind.u32.bits ((2 ^ s * a : Nat) : Int) ||| BitVec.ofInt IntKind.u32.bits (b : Int)).toNat = 2 ^ s * a + b := by
  rw [BitVec.toNat_or, toNat_ofInt (by show _ < 2 ^ 32; omega), toNat_ofInt (by show _ < 2 ^ 32; omega), or_add h]
 rw [h1]
 exact wrap_u32_id (by omega) (by omega)
theorem orI_comm (k : IntKind) (a b : Int) : orI k a b = orI k b a := by unfold orI; rw [BitVec.or_comm]
theorem snocInd {α : Type} {p : List α → Prop} (h0 : p []) (h1 : ∀ l a, p l → p (l ++ [a])) (l : List α) : p l := by
 have key : ∀ r : List α, p r.reverse := by
  intro r
  induction r with
  | nil => exact h0
  | cons a r ih => rw [List.reverse_cons]; exact h1 _ _ ih
 have := key l.reverse
 rwa [List.reverse_reverse] at this
/-! ### Bytes -/

def dropZ (l : List UInt8) : List UInt8 := l.dropWhile (· == 0)
theorem natBytes_nil {m : Nat} : natBytes m = [] ↔ m = 0 := by
 constructor
 ·intro h
  have := beNat_natBytes m
  rw [h] at this
  exact this.symm
 ·rintro rfl; exact natBytes_zero
theorem beNat_nil : beNat [] = 0 := rfl
/-- Bytes in a row, the most significant one first. -/
theorem beNat_append (l k : List UInt8) : beNat (l ++ k) = beNat l * 256 ^ k.length + beNat k := by
  induction k using snocInd with
  | h0 => simp [beNat_nil]
  | h1 k b ih => rw [← List.append_assoc, beNat_snoc, beNat_snoc, ih, List.length_append, List.length_singleton, Nat.pow_succ, Nat.mul_add]; 
                               rw [Nat.mul_comm 256 (beNat l * _), Nat.mul_assoc]; omega

theorem beNat_lt (l : List UInt8) : beNat l < 256 ^ l.length := by
 induction l using snocInd with
 | h0 => simp [beNat_nil]
 | h1 l b ih =>
  rw [beNat_snoc, List.length_append, List.length_singleton, Nat.pow_succ]
  have := b.toNat_lt
  omega
theorem natBytes_beNat_snoc {l : List UInt8} {b : UInt8} (h : beNat (l ++ [b]) ≠ 0) : natBytes (beNat (l ++ [b])) = natBytes (beNat l) ++ [b] := by
 rw [natBytes_succ _ h, beNat_snoc]
 have hb := b.toNat_lt
 have h1 : (256 * beNat l + b.toNat) / 256 = beNat l := by omega
 have h2 : (256 * beNat l + b.toNat) % 256 = b.toNat := by omega
 rw [h1, h2]
 simp
/-- A string of bytes without its leading zeros is the string of its number. -/
theorem natBytes_beNat (l : List UInt8) : natBytes (beNat l) = dropZ l := by
  induction l using snocInd with
  | h0 => simp [beNat_nil, natBytes_zero, dropZ]
  | h1 l b ih =>
    by_cases h : beNat (l ++ [b]) = 0
    · rw [h, natBytes_zero]
      rw [beNat_snoc] at h
      have hl : beNat l = 0 := by omega
      have hb : b.toNat = 0 := by omega
      rw [hl, natBytes_zero] at ih
      have hb0 : b = 0 := UInt8.toNat_inj.1 (by simpa using hb)
      unfold dropZ at ih ⊢
      rw [List.dropWhile_append, ← ih]
      simp [hb0]
    · rw [natBytes_beNat_snoc h, ih]
      unfold dropZ
      rw [List.dropWhile_append]
      split
      · rename_i he
        have he' : List.dropWhile (fun x => x == 0) l = [] := by simpa using he
        have hz : beNat l = 0 := by
          unfold dropZ at ih; rw [he'] at ih; exact natBytes_nil.1 ih
        rw [beNat_snoc, hz] at h
        have hb : ¬ b = 0 := fun e => h (by rw [e]; rfl)
        rw [he']
        simp [hb]
      · rfl

theorem len_natBytes_lt (m : Nat) : m < 256 ^ (natBytes m).length := by
 have := beNat_lt (natBytes m)
 rwa [beNat_natBytes] at this
theorem natBytes_len_iff {m k : Nat} : (natBytes m).length ≤ k ↔ m < 256 ^ k := by
 constructor
 ·intro h
  exact Nat.lt_of_lt_of_le (len_natBytes_lt m) (Nat.pow_le_pow_right (by omega) h)
 ·induction m using Nat.strongRecOn generalizing k with
  | _ m ih =>
   intro h
   by_cases h0 : m = 0
   ·subst h0; simp [natBytes_zero]
   ·rw [natBytes_succ m h0, List.length_append, List.length_singleton]
    cases k with
    | zero => simp at h; omega
    | succ k =>
     have : m / 256 < 256 ^ k := by
      apply Nat.div_lt_of_lt_mul
      rw [Nat.mul_comm, ← Nat.pow_succ]; exact h
     have := ih (m / 256) (by omega) this
     omega
theorem natBytes_get {m i : Nat} (h : i < (natBytes m).length) : (natBytes m)[i]? = some (UInt8.ofNat (m / 256 ^ ((natBytes m).length - 1 - i) % 256)) := by
 induction m using Nat.strongRecOn generalizing i with
 | _ m ih =>
  by_cases h0 : m = 0
  ·subst h0; simp [natBytes_zero] at h
  ·have e := natBytes_succ m h0
   have hl : (natBytes m).length = (natBytes (m / 256)).length + 1 := by rw [e]; simp
   by_cases hi : i < (natBytes (m / 256)).length
   ·have h1 := ih (m / 256) (by omega) hi
    have : (natBytes m)[i]? = (natBytes (m / 256))[i]? := by rw [e, List.getElem?_append_left hi]
    rw [this, h1, Nat.div_div_eq_div_mul, ← Nat.pow_succ', hl]
    congr 5
    omega
   ·have hi' : i = (natBytes (m / 256)).length := by omega
    rw [hl, hi']
    rw [e, List.getElem?_append_right (Nat.le_refl _)]
    simp
theorem natBytes_head {m : Nat} (h : m ≠ 0) : ∃ b : UInt8, (natBytes m)[0]? = some b ∧ b.toNat ≠ 0 := by
 have hl : 0 < (natBytes m).length := by
  rcases Nat.eq_zero_or_pos (natBytes m).length with h' | h'
  ·exact absurd (natBytes_nil.1 (List.eq_nil_of_length_eq_zero h')) h
  ·exact h'
 refine ⟨_, natBytes_get hl, ?_⟩
 have h1 : ¬ m < 256 ^ ((natBytes m).length - 1) := fun h' => by
  have := natBytes_len_iff.2 h'; omega
 have h2 := len_natBytes_lt m
 have h3 : 256 ^ (natBytes m).length = 256 * 256 ^ ((natBytes m).length - 1) := by rw [← Nat.pow_succ']; congr 1; omega
 have hp : 0 < 256 ^ ((natBytes m).length - 1) := Nat.pow_pos (by omega)
 have h4 : m / 256 ^ ((natBytes m).length - 1) < 256 := Nat.div_lt_of_lt_mul (by rw [Nat.mul_comm]; rw [h3] at h2; exact h2)
 have h5 : 0 < m / 256 ^ ((natBytes m).length - 1) := Nat.div_pos (by omega) hp
 rw [UInt8.toNat_ofNat', Nat.sub_zero, Nat.mod_eq_of_lt (by omega)]
 omega
/-! ### Digits -/

/-- So many digits, the least significant one first. -/
def fd (B L m : Nat) : List Nat := (List.range L).map fun j => m / B ^ j % B
theorem fd_len {B L m : Nat} : (fd B L m).length = L := by simp [fd]
theorem fd_get {B L m j : Nat} (h : j < L) : (fd B L m)[j]? = some (m / B ^ j % B) := by simp [fd, h]
/-- Digits as a number. -/
def leNat (B : Nat) : List Nat → Nat
  | [] => 0
  | d :: ds => d + B * leNat B ds

theorem fd_succ {B L m : Nat} : fd B (L + 1) m = m % B :: fd B L (m / B) := by
 unfold fd
 rw [List.range_succ_eq_map, List.map_cons, List.map_map]
 simp only [Nat.pow_zero, Nat.div_one, Function.comp_def, Nat.pow_succ', Nat.div_div_eq_div_mul]
theorem leNat_fd {B : Nat} : ∀ {L m : Nat}, m < B ^ L → leNat B (fd B L m) = m := by
 intro L
 induction L with
 | zero => intro m h; simp at h; subst h; rfl
 | succ L ih =>
  intro m h
  rw [fd_succ, leNat, ih (Nat.div_lt_of_lt_mul (by rw [← Nat.pow_succ']; exact h))]
  exact Nat.mod_add_div m B
end Go.Eng
/- Digits: plain facts. -/
namespace Go.Eng
open Go
/-- Digits below a base. -/
def Dig (B : Nat) (l : List Nat) : Prop := ∀ d ∈ l, d < B

theorem Dig.nil {B : Nat} : Dig B [] := fun _ h => by cases h
theorem Dig.cons {B d : Nat} {l : List Nat} (h : d < B) (hl : Dig B l) : Dig B (d :: l) := fun x hx => by
 rcases List.mem_cons.1 hx with rfl | hx
 ·exact h
 ·exact hl x hx
theorem Dig.get {B i d : Nat} {l : List Nat} (h : Dig B l) (hi : l[i]? = some d) : d < B := h d (List.mem_of_getElem? hi)
theorem Dig.getD {B i : Nat} {l : List Nat} (h : Dig B l) (hB : 0 < B) : l.getD i 0 < B := by
 rw [List.getD_eq_getElem?_getD]
 cases he : l[i]? with
 | none => simpa using hB
 | some d => simpa using h.get he
theorem Dig.set {B i v : Nat} {l : List Nat} (h : Dig B l) (hv : v < B) : Dig B (l.set i v) := fun x hx => by
 rcases List.mem_or_eq_of_mem_set hx with hx | rfl
 ·exact h x hx
 ·exact hv
theorem Dig.append {B : Nat} {l k : List Nat} (h : Dig B l) (hk : Dig B k) : Dig B (l ++ k) := fun x hx => by
 rcases List.mem_append.1 hx with hx | hx
 ·exact h x hx
 ·exact hk x hx
theorem Dig.take {B i : Nat} {l : List Nat} (h : Dig B l) : Dig B (l.take i) := fun x hx => h x (List.mem_of_mem_take hx)
theorem Dig.drop {B i : Nat} {l : List Nat} (h : Dig B l) : Dig B (l.drop i) := fun x hx => h x (List.mem_of_mem_drop hx)
theorem Dig.zeros {B n : Nat} (hB : 0 < B) : Dig B (List.replicate n 0) := fun x hx => by
 rw [(List.mem_replicate.1 hx).2]; exact hB
theorem Dig.fd {B L m : Nat} (hB : 0 < B) : Dig B (Eng.fd B L m) := fun x hx => by
 simp only [Eng.fd, List.mem_map] at hx
 obtain ⟨j, _, rfl⟩ := hx
 exact Nat.mod_lt _ hB
theorem leNat_append {B : Nat} (l k : List Nat) : leNat B (l ++ k) = leNat B l + B ^ l.length * leNat B k := by
 induction l with
 | nil => simp [leNat]
 | cons d l ih =>
  simp only [List.cons_append, leNat, ih, List.length_cons, Nat.pow_succ]
  grind
theorem leNat_zeros {B n : Nat} : leNat B (List.replicate n 0) = 0 := by
 induction n with
 | zero => rfl
 | succ n ih => simp [List.replicate_succ, leNat, ih]
theorem leNat_lt {B : Nat} {l : List Nat} (h : Dig B l) : leNat B l < B ^ l.length := by
 induction l with
 | nil => simp [leNat]
 | cons d l ih =>
  have h1 := ih (fun x hx => h x (by simp [hx]))
  have h2 := h d (by simp)
  simp only [leNat, List.length_cons, Nat.pow_succ]
  have : B * (leNat B l + 1) ≤ B * B ^ l.length := Nat.mul_le_mul_left _ h1
  rw [Nat.mul_comm (B ^ l.length) B]
  rw [Nat.mul_add] at this
  omega
theorem leNat_take_succ {B i d : Nat} {l : List Nat} (h : l[i]? = some d) : leNat B (l.take (i + 1)) = leNat B (l.take i) + B ^ i * d := by
 have hi := (List.getElem?_eq_some_iff.1 h).1
 rw [List.take_add_one, h, leNat_append]
 simp only [Option.toList_some, leNat, Nat.mul_zero, Nat.add_zero, List.length_take]
 rw [Nat.min_eq_left (by omega)]
theorem leNat_take_all {B i : Nat} {l : List Nat} (h : l.length ≤ i) : leNat B (l.take i) = leNat B l := by rw [List.take_of_length_le h]
theorem leNat_take_drop {B i : Nat} {l : List Nat} (h : i ≤ l.length) : leNat B l = leNat B (l.take i) + B ^ i * leNat B (l.drop i) := by
 conv => lhs; rw [← List.take_append_drop i l, leNat_append]
 rw [List.length_take, Nat.min_eq_left h]
theorem leNat_set {B i v d : Nat} {l : List Nat} (h : l[i]? = some d) : leNat B (l.set i v) + B ^ i * d = leNat B l + B ^ i * v := by
 induction l generalizing i with
 | nil => simp at h
 | cons a l ih =>
  cases i with
  | zero => simp at h; subst h; simp [leNat]; omega
  | succ i =>
   have := ih (i := i) (by simpa using h)
   simp only [List.set_cons_succ, leNat, Nat.pow_succ]
   have e : ∀ y, B ^ i * B * y = B * (B ^ i * y) := fun y => by rw [Nat.mul_comm (B ^ i) B, Nat.mul_assoc]
   rw [e, e]
   have : B * (leNat B (l.set i v) + B ^ i * d) = B * (leNat B l + B ^ i * v) := by rw [this]
   rw [Nat.mul_add, Nat.mul_add] at this
   omega
theorem take_set_eq {i v : Nat} {l : List Nat} : (l.set i v).take i = l.take i := by
 rw [List.take_set]
 rw [List.set_eq_of_length_le]
 simp; omega
theorem leNat_inj {B : Nat} : ∀ {l k : List Nat}, Dig B l → Dig B k → l.length = k.length → leNat B l = leNat B k → l = k := by
 intro l
 induction l with
 | nil => intro k _ _ h _; exact (List.eq_nil_of_length_eq_zero h.symm).symm
 | cons d l ih =>
  intro k hl hk hlen he
  cases k with
  | nil => cases hlen
  | cons e k =>
   simp only [leNat] at he
   have h1 := hl d (by simp)
   have h2 := hk e (by simp)
   have hB : 0 < B := by omega
   have e1 : d = e := by
    have := congrArg (· % B) he
    simp only [Nat.add_mul_mod_self_left] at this
    rwa [Nat.mod_eq_of_lt h1, Nat.mod_eq_of_lt h2] at this
   subst e1
   have e2 : leNat B l = leNat B k := by
    have : B * leNat B l = B * leNat B k := by omega
    exact Nat.eq_of_mul_eq_mul_left hB this
   rw [ih (fun x hx => hl x (by simp [hx])) (fun x hx => hk x (by simp [hx])) (by simpa using hlen) e2]
theorem fd_leNat {B : Nat} {l : List Nat} (h : Dig B l) (hB : 0 < B) : fd B l.length (leNat B l) = l :=
 leNat_inj (Dig.fd hB) h (by simp [fd_len]) (leNat_fd (leNat_lt h))
theorem leNat_ge_of_get {B i d : Nat} {l : List Nat} (h : l[i]? = some d) : B ^ i * d ≤ leNat B l := by
 have hi := (List.getElem?_eq_some_iff.1 h).1
 rw [leNat_take_drop (B := B) (i := i) (by omega)]
 have : l.drop i = d :: l.drop (i + 1) := by
  rw [List.drop_eq_getElem_cons hi]
  rw [(List.getElem?_eq_some_iff.1 h).2]
 rw [this, leNat]
 have : B ^ i * d ≤ B ^ i * (d + B * leNat B (l.drop (i + 1))) := Nat.mul_le_mul_left _ (by omega)
 omega
theorem fd_get_last {B L m : Nat} (hL : 0 < L) (h : m < B ^ L) : (fd B L m)[L - 1]? = some (m / B ^ (L - 1)) := by
 rw [fd_get (by omega), Nat.mod_eq_of_lt]
 apply Nat.div_lt_of_lt_mul
 rw [← Nat.pow_succ, show (L - 1).succ = L by omega]
 exact h
/-! ### One digit after the other -/

theorem guess_start {B q V U v1 top n1 : Nat} (hV : v1 * B ^ n1 ≤ V) (hU : U < (top + 1) * B ^ n1) (hq : q * V ≤ U) (h1 : 0 < v1) : q ≤ top / v1 := by
 rw [Nat.le_div_iff_mul_le h1]
 have h2 : q * v1 * B ^ n1 ≤ q * V := by rw [Nat.mul_assoc]; exact Nat.mul_le_mul_left _ hV
 have h3 : q * v1 * B ^ n1 < (top + 1) * B ^ n1 := by omega
 have := Nat.lt_of_mul_lt_mul_right h3
 omega
/-- A guess that is too great by the second digit is too great. -/
theorem guess_step {B q V U v1 v2 u3 top d rest n2 : Nat} (hV : (v1 * B + v2) * B ^ n2 ≤ V) (hU : U < (top * B + u3 + 1) * B ^ n2) (hq : q * V ≤ U) (hs : d * v1 + rest = top) (hd : rest * B + u3 < d * v2) : q < d := by
  rcases Nat.lt_or_ge q d with h | h
  · exact h
  · exfalso
    have h1 : top * B + u3 + 1 ≤ d * (v1 * B + v2) := by
      have : top * B = d * v1 * B + rest * B := by rw [← hs, Nat.add_mul]
      rw [Nat.mul_add, ← Nat.mul_assoc]; omega
    have h2 : (top * B + u3 + 1) * B ^ n2 ≤ d * (v1 * B + v2) * B ^ n2 := Nat.mul_le_mul_right _ h1
    have h3 : d * ((v1 * B + v2) * B ^ n2) ≤ q * V := Nat.le_trans (Nat.mul_le_mul_left _ hV) (Nat.mul_le_mul_right _ h)
    rw [← Nat.mul_assoc] at h3
    omega

/-- A guess that fits the first three digits is too great by at most 1. -/
theorem guess_end {B V U v1 v2 u3 top d rest n2 : Nat} (hV : V < (v1 * B + v2 + 1) * B ^ n2) (hU : (top * B + u3) * B ^ n2 ≤ U) (hs : d * v1 + rest = top) (hd : d * v2 ≤ rest * B + u3) (hB : d ≤ v1 * B) : (d - 1) * V ≤ U := by
  cases d with
  | zero => simp
  | succ d =>
    simp only [Nat.add_sub_cancel]
    have h1 : d * (v1 * B + v2 + 1) ≤ top * B + u3 := by
      have e1 : top * B = (d + 1) * v1 * B + rest * B := by rw [← hs, Nat.add_mul]
      have e2 : d * (v1 * B + v2 + 1) = d * v1 * B + d * v2 + d := by rw [Nat.mul_add, Nat.mul_add, Nat.mul_one, ← Nat.mul_assoc]
      have e3 : (d + 1) * v1 * B = d * v1 * B + v1 * B := by rw [Nat.add_mul, Nat.one_mul, Nat.add_mul]
      have e4 : (d + 1) * v2 = d * v2 + v2 := by rw [Nat.add_mul, Nat.one_mul]
      omega
    have h2 : d * V ≤ d * ((v1 * B + v2 + 1) * B ^ n2) := Nat.mul_le_mul_left _ (Nat.le_of_lt hV)
    rw [← Nat.mul_assoc] at h2
    exact Nat.le_trans h2 (Nat.le_trans (Nat.mul_le_mul_right _ h1) hU)

/-! ### Bytes of digits -/

theorem mod_pow_succ (m B k : Nat) : m % B ^ (k + 1) = m % B ^ k + B ^ k * (m / B ^ k % B) := by
 rw [Nat.pow_succ, Nat.mod_mul]
/-- A byte more. -/
theorem fd_byte {m x L : Nat} (hx : x < 4 * L) : (fd 4294967296 L (m % 256 ^ x)).set (x / 4) ((m % 256 ^ x) / 4294967296 ^ (x / 4) % 4294967296 + 256 ^ (x % 4) * (m / 256 ^ x % 256)) = fd 4294967296 L (m % 256 ^ (x + 1)) := by
  have hj : x / 4 < L := by omega
  have hBx : ∀ y, (4294967296 : Nat) ^ y = 256 ^ (4 * y) := fun y => by rw [show (4294967296 : Nat) = 256 ^ 4 from rfl, ← Nat.pow_mul]
  have e4 : 256 ^ x = 4294967296 ^ (x / 4) * 256 ^ (x % 4) := by
    rw [hBx, ← Nat.pow_add]; congr 1; omega
  have hm1 : m % 256 ^ x < 256 ^ x := Nat.mod_lt _ (Nat.pow_pos (by omega))
  have hm2 : m % 256 ^ (x + 1) < 256 ^ (x + 1) := Nat.mod_lt _ (Nat.pow_pos (by omega))
  have hl1 : (256 : Nat) ^ x ≤ 4294967296 ^ L := by rw [hBx]; exact Nat.pow_le_pow_right (by omega) (by omega)
  have hl2 : (256 : Nat) ^ (x + 1) ≤ 4294967296 ^ L := by rw [hBx]; exact Nat.pow_le_pow_right (by omega) (by omega)
  have hd : (m % 256 ^ x) / 4294967296 ^ (x / 4) < 256 ^ (x % 4) := by
    apply Nat.div_lt_of_lt_mul; rw [← e4]; exact hm1
  have hr : x % 4 < 4 := Nat.mod_lt _ (by omega)
  have hp : 256 ^ (x % 4) * 256 ≤ 4294967296 := by
    have : (256 : Nat) ^ (x % 4) * 256 = 256 ^ (x % 4 + 1) := by rw [Nat.pow_succ]
    rw [this, show (4294967296 : Nat) = 256 ^ 4 from rfl]
    exact Nat.pow_le_pow_right (by omega) (by omega)
  have hb : m / 256 ^ x % 256 < 256 := Nat.mod_lt _ (by omega)
  have hdm : (m % 256 ^ x) / 4294967296 ^ (x / 4) % 4294967296 = (m % 256 ^ x) / 4294967296 ^ (x / 4) := Nat.mod_eq_of_lt (by omega)
  have hv : (m % 256 ^ x) / 4294967296 ^ (x / 4) % 4294967296 + 256 ^ (x % 4) * (m / 256 ^ x % 256) < 4294967296 := by
    rw [hdm]
    have : 256 ^ (x % 4) * (m / 256 ^ x % 256 + 1) ≤ 256 ^ (x % 4) * 256 := Nat.mul_le_mul_left _ hb
    rw [Nat.mul_add] at this
    omega
  apply leNat_inj ((Dig.fd (by omega)).set hv) (Dig.fd (by omega)) (by simp [fd_len])
  have h1 := leNat_set (B := 4294967296) (v := (m % 256 ^ x) / 4294967296 ^ (x / 4) % 4294967296 + 256 ^ (x % 4) * (m / 256 ^ x % 256)) (fd_get (B := 4294967296) (m := m % 256 ^ x) hj)
  rw [leNat_fd (by omega), Nat.mul_add, ← Nat.mul_assoc, ← e4] at h1
  rw [leNat_fd (by omega), mod_pow_succ]
  omega

theorem zeros_fd {L : Nat} : fd 4294967296 L 0 = List.replicate L 0 :=
 leNat_inj (Dig.fd (by omega)) (Dig.zeros (by omega)) (by simp [fd_len]) (by rw [leNat_fd (Nat.pow_pos (by omega)), leNat_zeros])
/-! ### Rows of digits -/

def W (ds : List Nat) : List (List Ch) := ds.map fun (d : Nat) => [.v (.int .u32 (d : Int))]
theorem W_len (ds : List Nat) : (W ds).length = ds.length := by simp [W]
theorem W_get {ds : List Nat} {i d : Nat} (h : ds[i]? = some d) : (W ds)[i]? = some [.v (.int .u32 (d : Int))] := by simp [W, h]
theorem W_ldE {ds : List Nat} {i d : Nat} (h : ds[i]? = some d) : ldE (W ds) i 0 1 = some [.v (.int .u32 (d : Int))] := by simp only [ldE, W_get h]; rfl
theorem W_set (ds : List Nat) (i v : Nat) : (W ds).set i [.v (.int .u32 (v : Int))] = W (ds.set i v) := by simp [W, List.map_set]
theorem W_take (ds : List Nat) (i : Nat) : (W ds).take i = W (ds.take i) := by simp [W, List.map_take]
theorem W_zeros (n : Nat) : List.replicate n [Ch.v (.int .u32 0)] = W (List.replicate n 0) := by simp [W]
theorem pow256 (r : Nat) : (256 : Nat) ^ r = 2 ^ (8 * r) := by rw [show (256 : Nat) = 2 ^ 8 from rfl, ← Nat.pow_mul]
/-- A byte into a digit of 32 bits. -/
theorem or_byte32 {d b r : Nat} (hd : d < 256 ^ r) (hr : r < 4) (hb : b < 256) : orI .u32 (d : Int) (shlI .u32 (IntKind.u32.wrap (b : Int)) ((r : Int) * 8)) = ((d + 256 ^ r * b : Nat) : Int) := by
  have hp : (256 : Nat) ^ r * 256 ≤ 4294967296 := by
    have : (256 : Nat) ^ r * 256 = 256 ^ (r + 1) := by rw [Nat.pow_succ]
    rw [this, show (4294967296 : Nat) = 256 ^ 4 from rfl]
    exact Nat.pow_le_pow_right (by omega) (by omega)
  have h2 : 256 ^ r * (b + 1) ≤ 256 ^ r * 256 := Nat.mul_le_mul_left _ hb
  rw [Nat.mul_add] at h2
  have e1 : shlI .u32 (IntKind.u32.wrap (b : Int)) ((r : Int) * 8) = ((2 ^ (8 * r) * b : Nat) : Int) := by
    have e0 : ((r : Int) * 8).toNat = 8 * r := by omega
    rw [wu32 (by omega), shl_eq (by rw [e0]; simp only [IntKind.bits]; omega), e0]
    have : (b : Int) * 2 ^ (8 * r) = ((2 ^ (8 * r) * b : Nat) : Int) := by rw [Int.natCast_mul, Int.mul_comm]; simp
    rw [this]
    refine wu32 ⟨by omega, ?_⟩
    rw [← pow256]; omega
  rw [e1, orI_comm, orI_u32 (by rw [← pow256]; exact hd) (by rw [← pow256]; omega), ← pow256]
  congr 1; omega

/-- A byte into a digit of 64 bits. -/
theorem or_byte64 {d b r : Nat} (hd : d < 256 ^ r) (hr : r < 8) (hb : b < 256) : orI .u64 (d : Int) (shlI .u64 (IntKind.u64.wrap (b : Int)) ((r : Int) * 8)) = ((d + 256 ^ r * b : Nat) : Int) := by
  have hp : (256 : Nat) ^ r * 256 ≤ 18446744073709551616 := by
    have : (256 : Nat) ^ r * 256 = 256 ^ (r + 1) := by rw [Nat.pow_succ]
    rw [this, show (18446744073709551616 : Nat) = 256 ^ 8 from rfl]
    exact Nat.pow_le_pow_right (by omega) (by omega)
  have h2 : 256 ^ r * (b + 1) ≤ 256 ^ r * 256 := Nat.mul_le_mul_left _ hb
  rw [Nat.mul_add] at h2
  have e1 : shlI .u64 (IntKind.u64.wrap (b : Int)) ((r : Int) * 8) = ((2 ^ (8 * r) * b : Nat) : Int) := by
    have e0 : ((r : Int) * 8).toNat = 8 * r := by omega
    rw [wu64 (by omega), shl_eq (by rw [e0]; simp only [IntKind.bits]; omega), e0]
    have : (b : Int) * 2 ^ (8 * r) = ((2 ^ (8 * r) * b : Nat) : Int) := by rw [Int.natCast_mul, Int.mul_comm]; simp
    rw [this]
    refine wu64 ⟨by omega, ?_⟩
    rw [← pow256]; omega
  rw [e1, orI_comm, orI_u64 (by rw [← pow256]; exact hd) (by rw [← pow256]; omega), ← pow256]
  congr 1; omega

theorem byte_lt (m x : Nat) : m % 256 ^ x / 4294967296 ^ (x / 4) % 4294967296 < 256 ^ (x % 4) := by
 have hBx : (4294967296 : Nat) ^ (x / 4) = 256 ^ (4 * (x / 4)) := by rw [show (4294967296 : Nat) = 256 ^ 4 from rfl, ← Nat.pow_mul]
 have e4 : 256 ^ x = 4294967296 ^ (x / 4) * 256 ^ (x % 4) := by
  rw [hBx, ← Nat.pow_add]; congr 1; omega
 have hm1 : m % 256 ^ x < 256 ^ x := Nat.mod_lt _ (Nat.pow_pos (by omega))
 refine Nat.lt_of_le_of_lt (Nat.mod_le _ _) (Nat.div_lt_of_lt_mul ?_)
 rw [← e4]; exact hm1
end Go.Eng
/- Rationals as sign, numerator, denominator: plain facts. -/
namespace Go.Eng
open Go
/-- The rational of a sign, a numerator and a denominator. -/
def ratMk (neg : Bool) (n d : Nat) : Rat := mkRat (bif neg then -(n : Int) else n) d

theorem sgn_natAbs (neg : Bool) (n : Nat) : (bif neg then -(n : Int) else n).natAbs = n := by cases neg <;> simp
theorem ratMk_num (neg : Bool) (n d : Nat) (hd : d ≠ 0) : (ratMk neg n d).num = bif neg then -((n / Nat.gcd n d : Nat) : Int) else ((n / Nat.gcd n d : Nat) : Int) := by
 unfold ratMk
 rw [Rat.num_mkRat, if_neg hd, sgn_natAbs, Nat.gcd_comm d n]
 cases neg with
 | false => simp only [cond_false]; rw [Int.natCast_ediv]
 | true =>
  simp only [cond_true]
  have hdvd : ((Nat.gcd n d : Nat) : Int) ∣ (n : Int) := Int.natCast_dvd_natCast.2 (Nat.gcd_dvd_left n d)
  rw [Int.neg_ediv_of_dvd hdvd, Int.natCast_ediv]
theorem ratMk_natAbs (neg : Bool) (n d : Nat) (hd : d ≠ 0) : (ratMk neg n d).num.natAbs = n / Nat.gcd n d := by
 rw [ratMk_num neg n d hd]
 generalize n / Nat.gcd n d = k
 cases neg
 ·simp only [cond_false]; omega
 ·simp only [cond_true]; omega
theorem ratMk_den (neg : Bool) (n d : Nat) (hd : d ≠ 0) : (ratMk neg n d).den = d / Nat.gcd n d := by
 unfold ratMk
 rw [Rat.den_mkRat, if_neg hd, sgn_natAbs, Nat.gcd_comm d n]
theorem div_gcd_ne {n d : Nat} (h : n ≠ 0) : n / Nat.gcd n d ≠ 0 := by
 have h1 := Nat.gcd_le_left d (by omega : 0 < n)
 have h2 : 0 < Nat.gcd n d := Nat.gcd_pos_of_pos_left _ (by omega)
 have := Nat.div_pos h1 h2
 omega
theorem ratMk_neg (neg : Bool) (n d : Nat) (hd : d ≠ 0) (hn : n ≠ 0) : decide ((ratMk neg n d).num < 0) = neg := by
 rw [ratMk_num neg n d hd]
 have := div_gcd_ne (d := d) hn
 generalize n / Nat.gcd n d = k at this
 cases neg
 ·simp only [cond_false, decide_eq_false_iff_not]; omega
 ·simp only [cond_true, decide_eq_true_eq]; omega
theorem ratMk_zero (neg : Bool) (d : Nat) : ratMk neg 0 d = 0 := by unfold ratMk; cases neg <;> simp
theorem sgn_val (q : Rat) : (bif decide (q.num < 0) then -(q.num.natAbs : Int) else q.num.natAbs) = q.num := by
 by_cases h : q.num < 0
 ·simp only [h, decide_true, cond_true]; omega
 ·simp only [h, decide_false, cond_false]; omega
theorem ratMk_mul (a b : Rat) : ratMk (decide (a.num < 0) != decide (b.num < 0)) (a.num.natAbs * b.num.natAbs) (a.den * b.den) = a * b := by
 unfold ratMk
 rw [Rat.mul_def']
 congr 1
 rw [Int.natCast_mul]
 have e1 := sgn_val a
 have e2 := sgn_val b
 by_cases h1 : a.num < 0 <;> by_cases h2 : b.num < 0 <;> simp only [h1, h2, decide_true, decide_false, cond_true, cond_false, bne_self_eq_false, Bool.true_bne, Bool.false_bne, Bool.not_false, Bool.not_true] at e1 e2 ⊢ <;> rw [← e1, ← e2] <;> simp [Int.neg_mul, Int.mul_neg]
theorem ratMk_div (a b : Rat) (hb : b.num ≠ 0) : ratMk (decide (a.num < 0) != decide (b.num < 0)) (a.num.natAbs * b.den) (a.den * b.num.natAbs) = a / b := by
 have hb0 : b ≠ 0 := fun e => hb (by rw [e]; rfl)
 have h : a / b * b = a := Rat.div_mul_cancel hb0
 have key0 : ratMk (decide (a.num < 0) != decide (b.num < 0)) (a.num.natAbs * b.den) (a.den * b.num.natAbs) * mkRat b.num b.den = mkRat a.num a.den := by
  have h1 : b.num.natAbs ≠ 0 := by omega
  unfold ratMk
  rw [Rat.mkRat_mul_mkRat, Rat.mkRat_eq_iff (Nat.mul_ne_zero (Nat.mul_ne_zero a.den_nz h1) b.den_nz) a.den_nz]
  have e1 := sgn_val a
  have e2 := sgn_val b
  simp only [Int.natCast_mul]
  generalize (b.den : Int) = bd
  generalize (a.den : Int) = ad
  by_cases h1 : a.num < 0 <;> by_cases h2 : b.num < 0 <;> simp only [h1, h2, decide_true, decide_false, cond_true, cond_false, bne_self_eq_false, Bool.true_bne, Bool.false_bne, Bool.not_false, Bool.not_true] at e1 e2 ⊢ <;> rw [← e1, ← e2] <;> simp <;> grind
 have key : ratMk (decide (a.num < 0) != decide (b.num < 0)) (a.num.natAbs * b.den) (a.den * b.num.natAbs) * b = a := by
  rwa [Rat.mkRat_self, Rat.mkRat_self] at key0
 have : (ratMk (decide (a.num < 0) != decide (b.num < 0)) (a.num.natAbs * b.den) (a.den * b.num.natAbs) * b) * b⁻¹ = a * b⁻¹ := by rw [key]
 rw [Rat.mul_assoc, Rat.mul_inv_cancel b hb0, Rat.mul_one] at this
 rw [this, Rat.div_def]
/-- A sum of natural numbers with signs. -/
def sgnSum (n1 : Bool) (a : Nat) (n2 : Bool) (b : Nat) : Bool × Nat :=
  bif n1 == n2 then (n1, a + b) else bif decide (b ≤ a) then (n1, a - b) else (n2, b - a)
theorem sgnSum_val (n1 : Bool) (a : Nat) (n2 : Bool) (b : Nat) : (bif (sgnSum n1 a n2 b).1 then -((sgnSum n1 a n2 b).2 : Int) else (sgnSum n1 a n2 b).2) = (bif n1 then -(a : Int) else a) + (bif n2 then -(b : Int) else b) := by
 unfold sgnSum
 cases n1 <;> cases n2 <;> by_cases h : b ≤ a <;> simp [h] <;> omega
theorem ratMk_add (a b : Rat) : ratMk (sgnSum (decide (a.num < 0)) (a.num.natAbs * b.den) (decide (b.num < 0)) (b.num.natAbs * a.den)).1 (sgnSum (decide (a.num < 0)) (a.num.natAbs * b.den) (decide (b.num < 0)) (b.num.natAbs * a.den)).2 (a.den * b.den) = a + b := by
 unfold ratMk
 rw [sgnSum_val, Rat.add_def']
 congr 1
 have e1 := sgn_val a
 have e2 := sgn_val b
 simp only [Int.natCast_mul]
 by_cases h1 : a.num < 0 <;> by_cases h2 : b.num < 0 <;> simp only [h1, h2, decide_true, decide_false, cond_true, cond_false] at e1 e2 ⊢ <;> rw [← e1, ← e2] <;> simp [Int.neg_mul]
theorem ratMk_add_same (a b : Rat) (h : a.den = b.den) : ratMk (sgnSum (decide (a.num < 0)) a.num.natAbs (decide (b.num < 0)) b.num.natAbs).1 (sgnSum (decide (a.num < 0)) a.num.natAbs (decide (b.num < 0)) b.num.natAbs).2 a.den = a + b := by
 unfold ratMk
 rw [sgnSum_val, sgn_val, sgn_val, Rat.add_def', ← h]
 have : mkRat (a.num * a.den + b.num * a.den) (a.den * a.den) = mkRat (a.num + b.num) a.den := by
  rw [← Int.add_mul]
  exact Rat.mkRat_mul_right a.den_nz
 rw [this]
/-- The order of two rationals. -/
def cmpR (a b : Rat) : Int := if a < b then -1 else if a = b then 0 else 1
def cmpN (a b : Nat) : Int := if a < b then -1 else if a = b then 0 else 1
def cmpI (a b : Int) : Int := if a < b then -1 else if a = b then 0 else 1
theorem rat_eq_iff (a b : Rat) : a = b ↔ a.num * b.den = b.num * a.den := by
 constructor
 ·rintro rfl; rfl
 ·intro h
  have h1 := Rat.mkRat_self a
  have h2 := Rat.mkRat_self b
  rw [← h1, ← h2, Rat.mkRat_eq_iff a.den_nz b.den_nz]
  exact h
theorem cmpR_eq (a b : Rat) : cmpR a b = cmpI (a.num * b.den) (b.num * a.den) := by
 unfold cmpR cmpI
 simp only [Rat.lt_iff, rat_eq_iff]
theorem cmpI_pos {a b : Nat} : cmpI a b = cmpN a b := by unfold cmpI cmpN; simp only [Int.ofNat_lt, Int.natCast_inj]
theorem cmpI_neg {a b : Nat} : cmpI (-(a : Int)) (-(b : Int)) = -cmpN a b := by
 unfold cmpI cmpN
 rcases Nat.lt_trichotomy a b with h | h | h
 ·have h1 : ¬ -(a : Int) < -(b : Int) := by omega
  have h2 : ¬ -(a : Int) = -(b : Int) := by omega
  rw [if_neg h1, if_neg h2, if_pos h]; rfl
 ·subst h; simp
 ·have h1 : -(a : Int) < -(b : Int) := by omega
  have h2 : ¬ a < b := by omega
  have h3 : ¬ a = b := by omega
  rw [if_pos h1, if_neg h2, if_neg h3]
theorem cmpR_same (a b : Rat) (h : decide (a.num < 0) = decide (b.num < 0)) : cmpR a b = bif decide (a.num < 0) then -cmpN (a.num.natAbs * b.den) (b.num.natAbs * a.den) else cmpN (a.num.natAbs * b.den) (b.num.natAbs * a.den) := by
 rw [cmpR_eq]
 have e1 := sgn_val a
 have e2 := sgn_val b
 rw [← h] at e2
 by_cases h1 : a.num < 0
 ·simp only [h1, decide_true, cond_true] at e1 e2 ⊢
  rw [← cmpI_neg]
  congr 1
  ·rw [Int.natCast_mul, ← Int.neg_mul, e1]
  ·rw [Int.natCast_mul, ← Int.neg_mul, e2]
 ·simp only [h1, decide_false, cond_false] at e1 e2 ⊢
  rw [← cmpI_pos]
  congr 1
  ·rw [Int.natCast_mul, e1]
  ·rw [Int.natCast_mul, e2]
theorem cmpR_lt {a b : Rat} (ha : a.num < 0) (hb : ¬ b.num < 0) : cmpR a b = -1 := by
 unfold cmpR
 rw [if_pos]
 rw [Rat.lt_iff]
 have h1 : a.num * (b.den : Int) < 0 := Int.mul_neg_of_neg_of_pos ha (by have := b.den_nz; omega)
 have h2 : 0 ≤ b.num * (a.den : Int) := Int.mul_nonneg (by omega) (by omega)
 omega
theorem cmpR_gt {a b : Rat} (ha : ¬ a.num < 0) (hb : b.num < 0) : cmpR a b = 1 := by
 unfold cmpR
 have h1 : 0 ≤ a.num * (b.den : Int) := Int.mul_nonneg (by omega) (by omega)
 have h2 : b.num * (a.den : Int) < 0 := Int.mul_neg_of_neg_of_pos hb (by have := a.den_nz; omega)
 rw [if_neg, if_neg]
 ·rw [rat_eq_iff]; omega
 ·rw [Rat.lt_iff]; omega
end Go.Eng
namespace Go.Proofs
end Go.Proofs
namespace Go.Proofs
end Go.Proofs
