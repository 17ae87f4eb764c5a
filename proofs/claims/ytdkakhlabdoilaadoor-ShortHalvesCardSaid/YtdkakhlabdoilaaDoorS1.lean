/- Ways: plain laws. -/
import Derived.Test.YtdkakhlabdoilaaDoorE4
import Derived.Test.YtdkakhlabdoilaaDoorPl
import Derived.Test.YtdkakhlabdoilaaDoorR1
import Derived.Test.YtdkakhlabdoilaaDoorAJ
/- Ways: plain laws. -/
namespace Go.Proofs
open Go Go.Eng
/-- b lies between a and c. -/
def Btw (a b c : List Rat) : Prop := ∀ (j : Nat) (p q r : Rat), a[j]? = some p → b[j]? = some q → c[j]? = some r →
  (∀ (k : Nat) (p' q' r' : Rat), a[k]? = some p' → b[k]? = some q' → c[k]? = some r' → (q - p) * (r' - p') = (q' - p') * (r - p)) ∧ (p ≤ q ∨ r ≤ q) ∧ (q ≤ p ∨ q ≤ r)
open Classical in
noncomputable def plainR : List Rat → List (List Rat) → List (List Rat)
 | _, [] => []
 | _, [x] => [x]
 | l, x :: y :: r => if Btw l x y then plainR l (y :: r) else x :: plainR x (y :: r)
noncomputable def plainV : List (List Rat) → List (List Rat)
 | [] => []
 | x :: r => x :: plainR x r
end Go.Proofs
/- How long a way is. -/
namespace Go.Proofs
open Go Go.Eng
def dst : List Rat → List Rat → Rat
 | p :: ps, q :: qs => absR (q - p) + dst ps qs
 | _, _ => 0
def meas : List (List Rat) → Rat
 | x :: y :: r => dst x y + meas (y :: r)
 | _ => 0
end Go.Proofs
/- short: good, between, check, Measure, Plain; slices.EqualFunc on ways. -/
namespace Go.Proofs
open Go Go.Eng
def wEl (n : Nat) (q : List Rat) : List Ch := [.s 3 (lR n q)]
def wN (n : Nat) (w : List (List Rat)) : List (List Ch) := w.map (wEl n)
def sW (n : Nat) (w : List (List Rat)) : AV := .x false [.s 1 (wN n w)]
/-- Configurations of one length. -/
structure WayOK (w : List (List Rat)) (m : Nat) : Prop where
  n : 1 ≤ w.length ∧ w.length ≤ 60
  len : ∀ q ∈ w, q.length = m
  m : 1 ≤ m ∧ m ≤ 3
structure MsX where
 i : Nat
 j : Nat
 s : Rat
structure PlX where
 i : Nat
 o : List (List Rat)
structure BtwJ (a b c : List Rat) (j : Nat) : Prop where
 out : ∀ (p q r : Rat), a[j]? = some p → b[j]? = some q → c[j]? = some r →
  (∀ (k : Nat) (p' q' r' : Rat), a[k]? = some p' → b[k]? = some q' → c[k]? = some r' → (q - p) * (r' - p') = (q' - p') * (r - p)) ∧ (p ≤ q ∨ r ≤ q) ∧ (q ≤ p ∨ q ≤ r)
structure BtwK (a b c : List Rat) (j k : Nat) : Prop where
 out : ∀ (p q r p' q' r' : Rat), a[j]? = some p → b[j]? = some q → c[j]? = some r → a[k]? = some p' → b[k]? = some q' → c[k]? = some r' → (q - p) * (r' - p') = (q' - p') * (r - p)
def L99 : List (Nat × Ctr) := (15, c_equalR) :: L52
def M99 : List (Nat × CtrM) := M48
def T99 : Tabs := mkT L99 M99 X4
theorem way_ld {n : Nat} {w : List (List Rat)} {i : Nat} {q : List Rat} (h : w[i]? = some q) : ldE (wN n w) i 0 1 = some [.s 3 (lR n q)] := by
 simp only [ldE, wN, List.getElem?_map, h]; rfl
theorem sc_neg {a b : Rat} : cmpR a b < 0 ↔ a < b := by
 unfold cmpR
 by_cases h : a < b
 ·rw [if_pos h]; exact ⟨fun _ => h, fun _ => by omega⟩
 ·rw [if_neg h]; refine ⟨fun h2 => ?_, fun h2 => absurd h2 h⟩
  split at h2 <;> omega
theorem sc_pos {a b : Rat} : cmpR a b > 0 ↔ b < a := by
 unfold cmpR
 by_cases h : a < b
 ·rw [if_pos h]; refine ⟨fun h2 => by omega, fun h2 => ?_⟩; grind
 ·rw [if_neg h]
  by_cases h2 : a = b
  ·rw [if_pos h2]; refine ⟨fun h => by omega, fun h => ?_⟩; grind
  ·rw [if_neg h2]; refine ⟨fun _ => ?_, fun _ => by omega⟩; grind
theorem sc_ne {a b : Rat} : (cmpR a b != 0) = true ↔ a ≠ b := by
 unfold cmpR
 by_cases h : a < b
 ·rw [if_pos h]; refine ⟨fun _ => by grind, fun _ => by decide⟩
 ·rw [if_neg h]
  by_cases h2 : a = b
  ·rw [if_pos h2]; exact ⟨fun h => absurd h (by decide), fun h => absurd h2 h⟩
  ·rw [if_neg h2]; exact ⟨fun _ => h2, fun _ => by decide⟩
theorem lt_min {q p r : Rat} : q < minR p r ↔ ¬(p ≤ q ∨ r ≤ q) := by unfold minR; split <;> grind
theorem max_lt {q p r : Rat} : maxR p r < q ↔ ¬(q ≤ p ∨ q ≤ r) := by unfold maxR; split <;> grind
theorem wgetD {w : List (List Rat)} {i : Nat} {q : List Rat} (h : w[i]? = some q) : w.getD i [] = q := by rw [List.getD_eq_getElem?_getD, h]; rfl
theorem drop_of {w : List (List Rat)} {i : Nat} {q : List Rat} (h : w[i]? = some q) : w.drop i = q :: w.drop (i + 1) := by
 have hi := (List.getElem?_eq_some_iff.1 h).1
 rw [List.drop_eq_getElem_cons hi]
 rw [List.getElem?_eq_getElem hi] at h
 rw [Option.some.inj h]
theorem dropR_of {l : List Rat} {i : Nat} {q : Rat} (h : l[i]? = some q) : l.drop i = q :: l.drop (i + 1) := by
 have hi := (List.getElem?_eq_some_iff.1 h).1
 rw [List.drop_eq_getElem_cons hi]
 rw [List.getElem?_eq_getElem hi] at h
 rw [Option.some.inj h]
theorem meas_drop {w : List (List Rat)} {i : Nat} {p q : List Rat} (hi : 1 ≤ i) (hp : w[i - 1]? = some p) (hq : w[i]? = some q) : meas (w.drop (i - 1)) = dst p q + meas (w.drop i) := by
 rw [drop_of hp, show i - 1 + 1 = i by omega, drop_of hq]; rfl
theorem dst_drop {p q : List Rat} {j : Nat} {x y : Rat} (hp : p[j]? = some x) (hq : q[j]? = some y) : dst (p.drop j) (q.drop j) = absR (y - x) + dst (p.drop (j + 1)) (q.drop (j + 1)) := by
 rw [dropR_of hp, dropR_of hq]; rfl
theorem wN_snoc (n : Nat) (o : List (List Rat)) (q : List Rat) : List.take o.length (wN n o) ++ [[.s 3 (lR n q)]] = wN n (o ++ [q]) := by
 rw [List.take_of_length_le (by simp [wN])]; simp [wN, wEl]
theorem L99ok : CtrsOK Tryd.prog tabG debT L99 := .cons ok_equalR L52ok
theorem M99ok : CtrMsOK Tryd.prog tabG debT M99 := M48ok
theorem T99ok : TabsOK Tryd.prog tabG debT T99 := mkTok L99ok M99ok X4ok
def ot_sGood : OT := fun id => bif id.beq 5 then ([0, 1, 2, 3, 4, 5, 6], [[], [], [], [1, 2], [3, 1, 2], [0, 4, 3, 1, 2], [5, 0, 4, 3, 1, 2]]) else ([], [])
def goal_sGood (n : Nat) (qs : List Rat) (K : AV → Prop) : Prop := goalL T99 ot_sGood (fun _ => .inv ⟨Nat, fun k => ⟨[(3, .x false [.w 500 0 k]), (6, sR n qs), (7, iA .i64 qs.length), (8, iA .i64 k)], [(500, rowR (n + 65) (qs.take k))]⟩, fun k => k ≤ qs.length, fun k => qs.length - k, fun _ => 0⟩) Tryd.f69 [sR n qs] K
theorem goal_sGood_vc (n : Nat) (qs : List Rat) (K : AV → Prop) : goal_sGood n qs K = ((∃(x:Nat),(x≤qs.length∧OfNat.ofNat 0=0)∧Value.slice none 0 0=Value.slice none 0 0∧0=0∧x=0∧3=3∧lR n qs=lR n qs∧Int.ofNat (lR n qs).length=Int.ofNat qs.length∧0=Int.ofNat x∧List.map (fun(q:Rat)=>[Ch.r q (n+65)]) (List.take x qs)=[]∧True)∧∀(x:Nat),x≤qs.length→OfNat.ofNat 0=0→bif decide (Int.ofNat x<Int.ofNat qs.length) then (0≤Int.ofNat x∧Int.ofNat x<Int.ofNat (lR n qs).length)∧∃(q:Rat),∃(n_1:Nat),ldE (lR n qs) (Int.ofNat x).toNat 0 3=some [Ch.r q n_1]∧((-9223372036854775808:Int)≤0∧(0:Int)<9223372036854775808)∧n_1+64+1≤4294967296∧((x+1)*40≤140737488355328∧x+1≤9223372036854775807)∧∃(x':Nat),(x'≤qs.length∧OfNat.ofNat 0=0∧qs.length-x'<qs.length-x)∧0=0∧x+1=x'∧3=3∧lR n qs=lR n qs∧Int.ofNat qs.length=Int.ofNat qs.length∧IntKind.i64.wrap (Int.ofNat x+1)=Int.ofNat x'∧25=25∧3=3∧(List.take x (List.map (fun(q:Rat)=>[Ch.r q (n+65)]) (List.take x qs))++[[Ch.r (q+↑(0:Int)) (n_1+64+1)]]=List.map (fun(q:Rat)=>[Ch.r q (n+65)]) (List.take x' qs)∨RowLE (List.take x (List.map (fun(q:Rat)=>[Ch.r q (n+65)]) (List.take x qs))++[[Ch.r (q+↑(0:Int)) (n_1+64+1)]]) (List.map (fun(q:Rat)=>[Ch.r q (n+65)]) (List.take x' qs)))∧True else K (AV.x false [Ch.s 3 (List.take x (List.drop 0 (List.map (fun(q:Rat)=>[Ch.r q (n+65)]) (List.take x qs))))])) := by kernel_rfl
theorem g_sGood (n : Nat) (qs : List Rat) (hc : (n ≤ 1000000 ∧ qs.length ≤ 1000000)) (K : AV → Prop) (hK : K (sR (n + 65) qs)) : Holds (goal_sGood n qs K) := by
 refine ⟨?_⟩
 rw [goal_sGood_vc]
 try simp only [Int.ofNat_eq_natCast, true_and, and_true, true_implies]
 refine ⟨⟨0, by omega, rfl, by rw [lR_len], rfl, by simp⟩, fun x hx => bif_mk (fun hp => ?_) (fun hp => ?_)⟩
 ·have hp : x < qs.length := by have := of_decide_eq_true hp; omega
  obtain ⟨q, hq⟩ : ∃ q, qs[x]? = some q := ⟨_, List.getElem?_eq_getElem hp⟩
  refine ⟨by rw [lR_len]; omega, _, _, lR_ld (by simpa using hq), by omega, by omega, by omega, x + 1, ⟨by omega, by omega⟩, rfl, by rw [w64 (by omega)]; simp, .inl ?_⟩
  rw [List.take_of_length_le (by rw [List.length_map, List.length_take]; omega), List.take_add_one, hq, List.map_append]
  simp only [Option.toList, List.map_cons, List.map_nil]
  rw [show q + ((0 : Int) : Rat) = q by rw [Rat.intCast_zero, Rat.add_zero]]
 ·have hp : x = qs.length := by have := of_decide_eq_false hp; omega
  subst hp
  rw [List.drop_zero, List.take_length, List.take_of_length_le (by rw [List.length_map]; exact Nat.le_refl _)]
  exact hK
def c_sGood : Ctr := fun as0 => match as0 with
 | [.x false [.s 3 xs]] => some fun K => ∃ (n : Nat) (qs : List Rat), xs = lR n qs ∧ ((n ≤ 1000000 ∧ qs.length ≤ 1000000)) ∧ (K (sR (n + 65) qs))
 | _ => none
theorem ok_sGood : CtrOK Tryd.prog tabG debT 69 c_sGood := by
 refine ⟨enters Tryd.func69 (by kernel_rfl), fun l T hT K hK => ?_⟩
 unfold c_sGood at hT
 split at hT
 ·cases hT
  obtain ⟨n, qs, rfl, hc, hK⟩ := hK
  exact spec_ofL T99ok mixed Tryd.func69 (by kernel_rfl) (by kernel_rfl) (by rfl) (g_sGood _ _ hc K hK)
 ·cases hT
def L100 : List (Nat × Ctr) := (69, c_sGood) :: L99
def T100 : Tabs := mkT L100 M99 X4
theorem L100ok : CtrsOK Tryd.prog tabG debT L100 := .cons ok_sGood L99ok
theorem T100ok : TabsOK Tryd.prog tabG debT T100 := mkTok L100ok M99ok X4ok
def ot_sBetween : OT := fun id => bif id.beq 7 then ([0, 1, 2, 3, 4, 5, 6, 7, 9, 10, 11, 12, 13, 14, 15, 16, 19, 8, 17, 18, 20], [[], [], [0, 1], [2, 0, 1], [], [], [4, 5], [6, 4, 5], [3, 2, 0, 1, 7, 6, 4, 5], [], [], [9, 10], [11, 9, 10], [], [], [13, 14], [15, 13, 14], [12, 11, 9, 10, 16, 15, 13, 14, 8, 3, 2, 0, 1, 7, 6, 4, 5], [8, 3, 2, 0, 1, 7, 6, 4, 5, 17, 12, 11, 9, 10, 16, 15, 13, 14], [], [19, 18, 8, 3, 2, 0, 1, 7, 6, 4, 5, 17, 12, 11, 9, 10, 16, 15, 13, 14]]) else bif id.beq 8 then ([0, 1, 2, 3, 4, 5, 6, 7, 9, 10, 11, 12, 13, 14, 15, 16, 19, 8, 17, 18, 20], [[], [], [0, 1], [2, 0, 1], [], [], [4, 5], [6, 4, 5], [3, 2, 0, 1, 7, 6, 4, 5], [], [], [9, 10], [11, 9, 10], [], [], [13, 14], [15, 13, 14], [12, 11, 9, 10, 16, 15, 13, 14, 8, 3, 2, 0, 1, 7, 6, 4, 5], [8, 3, 2, 0, 1, 7, 6, 4, 5, 17, 12, 11, 9, 10, 16, 15, 13, 14], [], [19, 18, 8, 3, 2, 0, 1, 7, 6, 4, 5, 17, 12, 11, 9, 10, 16, 15, 13, 14]]) else bif id.beq 12 then ([0, 1, 2, 3, 4, 5, 6, 7, 8, 9, 10, 11, 12, 13, 14, 15, 16, 17, 18, 19, 20, 21, 22, 23, 24, 25, 26, 27, 28, 29, 30, 31], [[], [], [0, 1], [2, 0, 1], [], [], [4, 5], [6, 4, 5], [], [], [8, 9], [10, 8, 9], [7, 6, 4, 5, 11, 10, 8, 9], [3, 2, 0, 1, 12, 7, 6, 4, 5, 11, 10, 8, 9], [13, 3, 2, 0, 1, 12, 7, 6, 4, 5, 11, 10, 8, 9], [14, 13, 3, 2, 0, 1, 12, 7, 6, 4, 5, 11, 10, 8, 9], [15, 14, 13, 3, 2, 0, 1, 12, 7, 6, 4, 5, 11, 10, 8, 9], [15, 14, 13, 3, 2, 0, 1, 12, 7, 6, 4, 5, 11, 10, 8, 9], [16, 15, 14, 13, 3, 2, 0, 1, 12, 7, 6, 4, 5, 11, 10, 8, 9, 17], [18, 16, 15, 14, 13, 3, 2, 0, 1, 12, 7, 6, 4, 5, 11, 10, 8, 9, 17], [15, 14, 13, 3, 2, 0, 1, 12, 7, 6, 4, 5, 11, 10, 8, 9], [15, 14, 13, 3, 2, 0, 1, 12, 7, 6, 4, 5, 11, 10, 8, 9], [20, 15, 14, 13, 3, 2, 0, 1, 12, 7, 6, 4, 5, 11, 10, 8, 9, 21], [22, 20, 15, 14, 13, 3, 2, 0, 1, 12, 7, 6, 4, 5, 11, 10, 8, 9, 21], [15, 14, 13, 3, 2, 0, 1, 12, 7, 6, 4, 5, 11, 10, 8, 9], [15, 14, 13, 3, 2, 0, 1, 12, 7, 6, 4, 5, 11, 10, 8, 9], [24, 15, 14, 13, 3, 2, 0, 1, 12, 7, 6, 4, 5, 11, 10, 8, 9, 25], [26, 24, 15, 14, 13, 3, 2, 0, 1, 12, 7, 6, 4, 5, 11, 10, 8, 9, 25], [23, 22, 20, 15, 14, 13, 3, 2, 0, 1, 12, 7, 6, 4, 5, 11, 10, 8, 9, 21, 27, 26, 24, 25], [19, 18, 16, 15, 14, 13, 3, 2, 0, 1, 12, 7, 6, 4, 5, 11, 10, 8, 9, 17, 28, 23, 22, 20, 21, 27, 26, 24, 25], [29, 19, 18, 16, 15, 14, 13, 3, 2, 0, 1, 12, 7, 6, 4, 5, 11, 10, 8, 9, 17, 28, 23, 22, 20, 21, 27, 26, 24, 25], [15, 14, 13, 3, 2, 0, 1, 12, 7, 6, 4, 5, 11, 10, 8, 9, 30, 29, 19, 18, 16, 17, 28, 23, 22, 20, 21, 27, 26, 24, 25]]) else ([], [])
def goal_sBetween (d : Nat) (a : List Rat) (e : Nat) (b : List Rat) (f : Nat) (c : List Rat) (m : Nat) (K : AV → Prop) : Prop := goalL T100 ot_sBetween (fun id => bif id.beq 2 then .inv ⟨Nat, fun j => ⟨[(0, sR d a), (1, sR e b), (2, sR f c), (12, iA .i64 m), (13, iA .i64 j)], []⟩, fun j => j ≤ m ∧ ∀ i, i < j → BtwJ a b c i, fun j => m - j, fun _ => 0⟩ else .inv ⟨Nat × Nat, fun x => ⟨[(0, sR d a), (1, sR e b), (2, sR f c), (7, iA .i64 x.1), (12, iA .i64 m), (13, iA .i64 x.1), (17, iA .i64 m), (18, iA .i64 x.2)], []⟩, fun x => (x.1 < m ∧ ∀ i, i < x.1 → BtwJ a b c i) ∧ x.2 ≤ m ∧ ∀ k, k < x.2 → BtwK a b c x.1 k, fun x => m - x.2, fun x => m - x.1⟩) Tryd.f70 [sR d a, sR e b, sR f c] K
theorem goal_sBetween_vc (d : Nat) (a : List Rat) (e : Nat) (b : List Rat) (f : Nat) (c : List Rat) (m : Nat) (K : AV → Prop) : goal_sBetween d a e b f c m K = ((∃(x:Nat),((x≤m∧∀(i:Nat),i<x→BtwJ a b c i)∧OfNat.ofNat 0=0)∧3=3∧lR d a=lR d a∧3=3∧lR e b=lR e b∧3=3∧lR f c=lR f c∧Int.ofNat (lR d a).length=Int.ofNat m∧0=Int.ofNat x∧True)∧∀(x:Nat),(x≤m∧∀(i:Nat),i<x→BtwJ a b c i)→OfNat.ofNat 0=0→bif decide (Int.ofNat x<Int.ofNat m) then (∃(x_1:Nat × Nat),(((x_1.fst<m∧∀(i:Nat),i<x_1.fst→BtwJ a b c i)∧x_1.snd≤m∧∀(k:Nat),k<x_1.snd→BtwK a b c x_1.fst k)∧m-x_1.fst=m-x)∧3=3∧lR d a=lR d a∧3=3∧lR e b=lR e b∧3=3∧lR f c=lR f c∧Int.ofNat x=Int.ofNat x_1.fst∧Int.ofNat m=Int.ofNat m∧Int.ofNat x=Int.ofNat x_1.fst∧Int.ofNat (lR d a).length=Int.ofNat m∧0=Int.ofNat x_1.snd∧True)∧∀(x_1:Nat × Nat),((x_1.fst<m∧∀(i:Nat),i<x_1.fst→BtwJ a b c i)∧x_1.snd≤m∧∀(k:Nat),k<x_1.snd→BtwK a b c x_1.fst k)→m-x_1.fst=m-x→bif decide (Int.ofNat x_1.snd<Int.ofNat m) then (0≤Int.ofNat x_1.fst∧Int.ofNat x_1.fst<Int.ofNat (lR e b).length)∧∃(q:Rat),∃(n:Nat),ldE (lR e b) (Int.ofNat x_1.fst).toNat 0 3=some [Ch.r q n]∧(0≤Int.ofNat x_1.fst∧Int.ofNat x_1.fst<Int.ofNat (lR d a).length)∧∃(q_1:Rat),∃(n_1:Nat),ldE (lR d a) (Int.ofNat x_1.fst).toNat 0 3=some [Ch.r q_1 n_1]∧(0≤Int.ofNat x_1.snd∧Int.ofNat x_1.snd<Int.ofNat (lR f c).length)∧∃(q_2:Rat),∃(n_2:Nat),ldE (lR f c) (Int.ofNat x_1.snd).toNat 0 3=some [Ch.r q_2 n_2]∧(0≤Int.ofNat x_1.snd∧Int.ofNat x_1.snd<Int.ofNat (lR d a).length)∧∃(q_3:Rat),∃(n_3:Nat),ldE (lR d a) (Int.ofNat x_1.snd).toNat 0 3=some [Ch.r q_3 n_3]∧n+n_1+1≤4294967296∧n_2+n_3+1≤4294967296∧n+n_1+1+(n_2+n_3+1)≤4294967296∧(0≤Int.ofNat x_1.snd∧Int.ofNat x_1.snd<Int.ofNat (lR e b).length)∧∃(q_4:Rat),∃(n_4:Nat),ldE (lR e b) (Int.ofNat x_1.snd).toNat 0 3=some [Ch.r q_4 n_4]∧(0≤Int.ofNat x_1.snd∧Int.ofNat x_1.snd<Int.ofNat (lR d a).length)∧∃(q_5:Rat),∃(n_5:Nat),ldE (lR d a) (Int.ofNat x_1.snd).toNat 0 3=some [Ch.r q_5 n_5]∧(0≤Int.ofNat x_1.fst∧Int.ofNat x_1.fst<Int.ofNat (lR f c).length)∧∃(q_6:Rat),∃(n_6:Nat),ldE (lR f c) (Int.ofNat x_1.fst).toNat 0 3=some [Ch.r q_6 n_6]∧(0≤Int.ofNat x_1.fst∧Int.ofNat x_1.fst<Int.ofNat (lR d a).length)∧∃(q_7:Rat),∃(n_7:Nat),ldE (lR d a) (Int.ofNat x_1.fst).toNat 0 3=some [Ch.r q_7 n_7]∧n_4+n_5+1≤4294967296∧n_6+n_7+1≤4294967296∧n_4+n_5+1+(n_6+n_7+1)≤4294967296∧n+n_1+1+(n_2+n_3+1)+(n_4+n_5+1+(n_6+n_7+1))≤4294967296∧bif cmpR ((q-q_1)*(q_2-q_3)) ((q_4-q_5)*(q_6-q_7)) != 0 then K (AV.x false [Ch.v (Value.bool false)]) else ∃(x':Nat × Nat),(((x'.fst<m∧∀(i:Nat),i<x'.fst→BtwJ a b c i)∧x'.snd≤m∧∀(k:Nat),k<x'.snd→BtwK a b c x'.fst k)∧m-x'.fst=m-x∧m-x'.snd<m-x_1.snd)∧3=3∧lR d a=lR d a∧3=3∧lR e b=lR e b∧3=3∧lR f c=lR f c∧Int.ofNat x_1.fst=Int.ofNat x'.fst∧Int.ofNat m=Int.ofNat m∧Int.ofNat x_1.fst=Int.ofNat x'.fst∧Int.ofNat m=Int.ofNat m∧IntKind.i64.wrap (Int.ofNat x_1.snd+1)=Int.ofNat x'.snd∧True else (0≤Int.ofNat x_1.fst∧Int.ofNat x_1.fst<Int.ofNat (lR e b).length)∧∃(q:Rat),∃(n:Nat),ldE (lR e b) (Int.ofNat x_1.fst).toNat 0 3=some [Ch.r q n]∧(0≤Int.ofNat x_1.fst∧Int.ofNat x_1.fst<Int.ofNat (lR d a).length)∧∃(q_1:Rat),∃(n_1:Nat),ldE (lR d a) (Int.ofNat x_1.fst).toNat 0 3=some [Ch.r q_1 n_1]∧(0≤Int.ofNat x_1.fst∧Int.ofNat x_1.fst<Int.ofNat (lR f c).length)∧∃(q_2:Rat),∃(n_2:Nat),ldE (lR f c) (Int.ofNat x_1.fst).toNat 0 3=some [Ch.r q_2 n_2]∧n_1+n_2≤4294967296∧n+max n_1 n_2≤4294967296∧bif decide (cmpR q (minR q_1 q_2)<0) then K (AV.x false [Ch.v (Value.bool false)]) else (0≤Int.ofNat x_1.fst∧Int.ofNat x_1.fst<Int.ofNat (lR e b).length)∧∃(q:Rat),∃(n:Nat),ldE (lR e b) (Int.ofNat x_1.fst).toNat 0 3=some [Ch.r q n]∧(0≤Int.ofNat x_1.fst∧Int.ofNat x_1.fst<Int.ofNat (lR d a).length)∧∃(q_3:Rat),∃(n_3:Nat),ldE (lR d a) (Int.ofNat x_1.fst).toNat 0 3=some [Ch.r q_3 n_3]∧(0≤Int.ofNat x_1.fst∧Int.ofNat x_1.fst<Int.ofNat (lR f c).length)∧∃(q_4:Rat),∃(n_4:Nat),ldE (lR f c) (Int.ofNat x_1.fst).toNat 0 3=some [Ch.r q_4 n_4]∧n_3+n_4≤4294967296∧n+max n_3 n_4≤4294967296∧bif decide (cmpR q (maxR q_3 q_4)>0) then K (AV.x false [Ch.v (Value.bool false)]) else ∃(x':Nat),((x'≤m∧∀(i:Nat),i<x'→BtwJ a b c i)∧OfNat.ofNat 0=0∧m-x'<m-x)∧3=3∧lR d a=lR d a∧3=3∧lR e b=lR e b∧3=3∧lR f c=lR f c∧Int.ofNat m=Int.ofNat m∧IntKind.i64.wrap (Int.ofNat x_1.fst+1)=Int.ofNat x'∧True else K (AV.x false [Ch.v (Value.bool true)])) := by kernel_rfl
theorem g_sBetween (d : Nat) (a : List Rat) (e : Nat) (b : List Rat) (f : Nat) (c : List Rat) (m : Nat) (hc : (a.length = m ∧ b.length = m ∧ c.length = m) ∧ (m ≤ 1000000 ∧ d ≤ 1000000 ∧ e ≤ 1000000 ∧ f ≤ 1000000)) (K : AV → Prop) (hK : ∀ r : Bool, (r = true ↔ Btw a b c) → K (.x false [.v (.bool r)])) : Holds (goal_sBetween d a e b f c m K) := by
 refine ⟨?_⟩
 rw [goal_sBetween_vc]
 try simp only [Int.ofNat_eq_natCast, true_and, and_true, true_implies]
 obtain ⟨⟨ha, hb, hcl⟩, hm, hd, he, hf⟩ := hc
 simp only [lR_len, ha, hb, hcl]
 have get : ∀ (l : List Rat), l.length = m → ∀ i, i < m → ∃ q, l[i]? = some q := fun l hl i hi => ⟨_, List.getElem?_eq_getElem (by omega)⟩
 refine ⟨⟨0, ⟨by omega, fun i hi => absurd hi (by omega)⟩, trivial, rfl⟩, fun j ⟨hj, hJ⟩ => bif_mk (fun hp => ?_) (fun hp => ?_)⟩
 ·have hp : j < m := by have := of_decide_eq_true hp; omega
  obtain ⟨p, hpj⟩ := get a ha j hp
  obtain ⟨q, hqj⟩ := get b hb j hp
  obtain ⟨r, hrj⟩ := get c hcl j hp
  refine ⟨⟨(j, 0), ⟨⟨⟨hp, hJ⟩, by omega, fun k hk => absurd hk (by omega)⟩, rfl⟩, rfl, rfl, trivial, rfl⟩, fun x ⟨⟨hx1, hx2⟩, hx3, hx4⟩ ht => ?_⟩
  obtain ⟨j', k⟩ := x
  have hjj : j' = j := by simp only at ht hx1; omega
  subst hjj
  simp only at hx1 hx2 hx3 hx4 ⊢
  refine bif_mk (fun hk => ?_) (fun hk => ?_)
  ·have hk : k < m := by have := of_decide_eq_true hk; omega
   obtain ⟨p', hpk⟩ := get a ha k hk
   obtain ⟨q', hqk⟩ := get b hb k hk
   obtain ⟨r', hrk⟩ := get c hcl k hk
   refine ⟨by omega, q, e, lR_ld (by simpa using hqj), by omega, p, d, lR_ld (by simpa using hpj), by omega, r', f, lR_ld (by simpa using hrk), by omega, p', d, lR_ld (by simpa using hpk), by omega, by omega, by omega, by omega, q', e, lR_ld (by simpa using hqk), by omega, p', d, lR_ld (by simpa using hpk), by omega, r, f, lR_ld (by simpa using hrj), by omega, p, d, lR_ld (by simpa using hpj), by omega, by omega, by omega, by omega, ?_⟩
   refine bif_mk (fun h => hK false ⟨fun h => (by cases h), fun hB => absurd ((hB j' p q r hpj hqj hrj).1 k p' q' r' hpk hqk hrk) (sc_ne.1 h)⟩) (fun h => ⟨(j', k + 1), ⟨⟨⟨hp, hJ⟩, by omega, fun i hi => ?_⟩, rfl, by simp only; omega⟩, rfl, rfl, by rw [w64 (by omega)]; simp⟩)
   by_cases e : i < k
   ·exact hx4 i e
   ·have e : i = k := by simp only at hi; omega
    subst e
    refine ⟨fun p1 q1 r1 p2 q2 r2 h1 h2 h3 h4 h5 h6 => ?_⟩
    rw [hpj] at h1; rw [hqj] at h2; rw [hrj] at h3; rw [hpk] at h4; rw [hqk] at h5; rw [hrk] at h6
    cases h1; cases h2; cases h3; cases h4; cases h5; cases h6
    apply Classical.byContradiction
    intro hne
    rw [sc_ne.2 hne] at h
    cases h
  ·have hk : k = m := by have := of_decide_eq_false hk; omega
   refine ⟨by omega, q, e, lR_ld (by simpa using hqj), by omega, p, d, lR_ld (by simpa using hpj), by omega, r, f, lR_ld (by simpa using hrj), by omega, by omega, bif_mk (fun h => ?_) (fun h1 => ⟨by omega, q, e, lR_ld (by simpa using hqj), by omega, p, d, lR_ld (by simpa using hpj), by omega, r, f, lR_ld (by simpa using hrj), by omega, by omega, bif_mk (fun h => ?_) (fun h2 => ?_)⟩)⟩
   ·exact hK false ⟨fun h => (by cases h), fun hB => absurd (hB j' p q r hpj hqj hrj).2.1 (lt_min.1 (sc_neg.1 (of_decide_eq_true h)))⟩
   ·exact hK false ⟨fun h => (by cases h), fun hB => absurd (hB j' p q r hpj hqj hrj).2.2 (max_lt.1 (sc_pos.1 (of_decide_eq_true h)))⟩
   ·have h1 := of_decide_eq_false h1
    have h2 := of_decide_eq_false h2
    rw [sc_neg, lt_min, Classical.not_not] at h1
    rw [sc_pos, max_lt, Classical.not_not] at h2
    refine ⟨j' + 1, ⟨⟨by omega, fun i hi => ?_⟩, by omega⟩, by rw [w64 (by omega)]; simp⟩
    by_cases e : i < j'
    ·exact hJ i e
    ·have e : i = j' := by omega
     subst e
     refine ⟨fun p1 q1 r1 g1 g2 g3 => ?_⟩
     rw [hpj] at g1; rw [hqj] at g2; rw [hrj] at g3
     cases g1; cases g2; cases g3
     exact ⟨fun k' p2 q2 r2 g4 g5 g6 => (hx4 k' (by have := (List.getElem?_eq_some_iff.1 g4).1; omega)).out p q r p2 q2 r2 hpj hqj hrj g4 g5 g6, h1, h2⟩
 ·have hp : j = m := by have := of_decide_eq_false hp; omega
  refine hK true ⟨fun _ j' p q r h1 h2 h3 => ?_, fun _ => rfl⟩
  exact (hJ j' (by have := (List.getElem?_eq_some_iff.1 h1).1; omega)).out p q r h1 h2 h3
def c_sBetween : Ctr := fun as0 => match as0 with
 | [.x false [.s 3 xs], .x false [.s 3 ys], .x false [.s 3 zs]] => some fun K => ∃ (d : Nat) (a : List Rat) (e : Nat) (b : List Rat) (f : Nat) (c : List Rat) (m : Nat), xs = lR d a ∧ ys = lR e b ∧ zs = lR f c ∧ ((a.length = m ∧ b.length = m ∧ c.length = m) ∧ (m ≤ 1000000 ∧ d ≤ 1000000 ∧ e ≤ 1000000 ∧ f ≤ 1000000)) ∧ (∀ r : Bool, (r = true ↔ Btw a b c) → K (.x false [.v (.bool r)]))
 | _ => none
theorem ok_sBetween : CtrOK Tryd.prog tabG debT 70 c_sBetween := by
 refine ⟨enters Tryd.func70 (by kernel_rfl), fun l T hT K hK => ?_⟩
 unfold c_sBetween at hT
 split at hT
 ·cases hT
  obtain ⟨d, a, e, b, f, c, m, rfl, rfl, rfl, hc, hK⟩ := hK
  exact spec_ofL T100ok mixed Tryd.func70 (by kernel_rfl) (by kernel_rfl) (by rfl) (g_sBetween _ _ _ _ _ _ _ hc K hK)
 ·cases hT
def L101 : List (Nat × Ctr) := (70, c_sBetween) :: L100
def T101 : Tabs := mkT L101 M99 X4
theorem L101ok : CtrsOK Tryd.prog tabG debT L101 := .cons ok_sBetween L100ok
theorem T101ok : TabsOK Tryd.prog tabG debT T101 := mkTok L101ok M99ok X4ok
def ot_sCheck : OT := fun _ => ([], [])
def goal_sCheck (a : ArmV) (n : Nat) (w : List (List Rat)) (K : AV → Prop) : Prop := goalL T101 ot_sCheck (fun _ => .inv ⟨Nat, fun i => ⟨[(2, .x false [.p 2 0]), (20, sW n w), (21, iA .i64 w.length), (22, iA .i64 i)], [(2, .box 34 (armCh a))]⟩, fun i => i ≤ w.length, fun i => w.length - i, fun _ => 0⟩) Tryd.f68 [armA a, sW n w] K
theorem goal_sCheck_vc (a : ArmV) (n : Nat) (w : List (List Rat)) (K : AV → Prop) : goal_sCheck a n w K = (∃(a_1:ArmV),[Ch.v (Value.string a.name),Ch.r a.x 63,Ch.r a.y 63,Ch.v (Value.bool a.half),Ch.r a.t 63,Ch.s 16 (List.map linkCh a.links)]=[Ch.v (Value.string a_1.name),Ch.r a_1.x 63,Ch.r a_1.y 63,Ch.v (Value.bool a_1.half),Ch.r a_1.t 63,Ch.s 16 (List.map linkCh a_1.links)]∧GoodArm a_1∧bif Int.ofNat (wN n w).length==0 then K (AV.x false [Ch.v (Value.int IntKind.i64 14)]) else bif decide (Int.ofNat (wN n w).length>60) then K (AV.x false [Ch.v (Value.int IntKind.i64 2)]) else (∃(x:Nat),(x≤w.length∧OfNat.ofNat 0=0)∧0=0∧1=1∧wN n w=wN n w∧Int.ofNat (wN n w).length=Int.ofNat w.length∧0=Int.ofNat x∧34=34∧a.name=a.name∧a.x=a.x∧63≤63∧a.y=a.y∧63≤63∧a.half=a.half∧a.t=a.t∧63≤63∧16=16∧List.map linkCh a.links=List.map linkCh a.links∧True)∧∀(x:Nat),x≤w.length→OfNat.ofNat 0=0→bif decide (Int.ofNat x<Int.ofNat w.length) then (0≤Int.ofNat x∧Int.ofNat x<Int.ofNat (wN n w).length)∧∃(ys:List (List Ch)),ldE (wN n w) (Int.ofNat x).toNat 0 1=some [Ch.s 3 ys]∧∃(a_4:ArmV),[Ch.v (Value.string a.name),Ch.r a.x 63,Ch.r a.y 63,Ch.v (Value.bool a.half),Ch.r a.t 63,Ch.s 16 (List.map linkCh a.links)]=[Ch.v (Value.string a_4.name),Ch.r a_4.x 63,Ch.r a_4.y 63,Ch.v (Value.bool a_4.half),Ch.r a_4.t 63,Ch.s 16 (List.map linkCh a_4.links)]∧(GoodArm a_4∧Int.ofNat ys.length=Int.ofNat a_4.links.length)∧∃(x':Nat),(x'≤w.length∧OfNat.ofNat 0=0∧w.length-x'<w.length-x)∧0=0∧1=1∧wN n w=wN n w∧Int.ofNat w.length=Int.ofNat w.length∧IntKind.i64.wrap (Int.ofNat x+1)=Int.ofNat x'∧34=34∧a.name=a.name∧a.x=a.x∧63≤63∧a.y=a.y∧63≤63∧a.half=a.half∧a.t=a.t∧63≤63∧16=16∧List.map linkCh a.links=List.map linkCh a.links∧True else K (AV.x false [Ch.v (Value.int IntKind.i64 0)])) := by kernel_rfl
theorem g_sCheck (a : ArmV) (n : Nat) (w : List (List Rat)) (hc : (GoodArm a) ∧ (WayOK w a.links.length)) (K : AV → Prop) (hK : K (iA .i64 0)) : Holds (goal_sCheck a n w K) := by
 refine ⟨?_⟩
 rw [goal_sCheck_vc]
 try simp only [Int.ofNat_eq_natCast, true_and, and_true, Nat.le_refl, true_implies]
 obtain ⟨ha, hw⟩ := hc
 have hn := hw.n
 have hm := ha.n
 have hlw : (wN n w).length = w.length := by simp [wN]
 rw [hlw]
 refine ⟨a, rfl, ha, bif_mk (fun h => by have h := eq_of_beq h; omega) (fun _ => bif_mk (fun h => by have := of_decide_eq_true h; omega) (fun _ => ⟨⟨0, by omega, rfl, rfl⟩, fun x hx => bif_mk (fun hp => ?_) (fun _ => hK)⟩))⟩
 have hp : x < w.length := by have := of_decide_eq_true hp; omega
 obtain ⟨q, hq⟩ : ∃ q, w[x]? = some q := ⟨_, List.getElem?_eq_getElem hp⟩
 exact ⟨by omega, _, way_ld (by simpa using hq), a, rfl, ⟨ha, by rw [lR_len, hw.len q (List.mem_of_getElem? hq)]⟩, x + 1, ⟨by omega, by omega⟩, by rw [w64 (by omega)]; simp⟩
def c_sCheck : Ctr := fun as0 => match as0 with
 | [.x true xs, .x false [.s 1 ys]] => some fun K => ∃ (a : ArmV) (n : Nat) (w : List (List Rat)), xs = armCh a ∧ ys = wN n w ∧ ((GoodArm a) ∧ (WayOK w a.links.length)) ∧ (K (iA .i64 0))
 | _ => none
theorem ok_sCheck : CtrOK Tryd.prog tabG debT 68 c_sCheck := by
 refine ⟨enters Tryd.func68 (by kernel_rfl), fun l T hT K hK => ?_⟩
 unfold c_sCheck at hT
 split at hT
 ·cases hT
  obtain ⟨a, n, w, rfl, rfl, hc, hK⟩ := hK
  exact spec_ofL T101ok mixed Tryd.func68 (by kernel_rfl) (by kernel_rfl) (by rfl) (g_sCheck _ _ _ hc K hK)
 ·cases hT
def L102 : List (Nat × Ctr) := (68, c_sCheck) :: L101
def T102 : Tabs := mkT L102 M99 X4
theorem L102ok : CtrsOK Tryd.prog tabG debT L102 := .cons ok_sCheck L101ok
theorem T102ok : TabsOK Tryd.prog tabG debT T102 := mkTok L102ok M99ok X4ok
def ot_sMeasure : OT := fun id => bif id.beq 11 then ([0, 1, 2, 3, 4, 5, 6, 7, 8, 9, 10, 11, 12, 13, 14, 15, 16, 17, 18, 19], [[], [], [], [1, 2], [3, 1, 2], [], [4, 3, 1, 2, 5], [6, 4, 3, 1, 2, 5], [], [], [9], [8, 10, 9], [11, 8, 10, 9], [], [12, 11, 8, 10, 9, 13], [14, 12, 11, 8, 10, 9, 13], [7, 6, 4, 3, 1, 2, 5, 15, 14, 12, 11, 8, 10, 9, 13], [16, 7, 6, 4, 3, 1, 2, 5, 15, 14, 12, 11, 8, 10, 9, 13], [0, 17, 16, 7, 6, 4, 3, 1, 2, 5, 15, 14, 12, 11, 8, 10, 9, 13], [18, 0, 17, 16, 7, 6, 4, 3, 1, 2, 5, 15, 14, 12, 11, 8, 10, 9, 13]]) else ([], [])
def goal_sMeasure (a : ArmV) (n : Nat) (w : List (List Rat)) (K : AV → Prop) : Prop := goalL T102 ot_sMeasure (fun id => bif id.beq 6 then .inv ⟨MsX, fun x => ⟨[(1, sW n w), (2, .x false [.p 2 0]), (4, .x false [.p 4 0]), (7, .x false [.p 7 0]), (8, iA .i64 x.i)], [(2, .box 34 (armCh a)), (4, .box 25 zeroR), (7, .box 25 [.r x.s (64 + (2 * n + 2) * (3 * (x.i - 1)))])]⟩, fun x => (1 ≤ x.i ∧ x.i ≤ w.length) ∧ x.s + meas (w.drop (x.i - 1)) = meas w, fun x => w.length - x.i, fun _ => 0⟩ else .inv ⟨MsX, fun x => ⟨[(1, sW n w), (2, .x false [.p 2 0]), (4, .x false [.p 4 0]), (7, .x false [.p 7 0]), (8, iA .i64 x.i), (28, iA .i64 a.links.length), (29, iA .i64 x.j)], [(2, .box 34 (armCh a)), (4, .box 25 zeroR), (7, .box 25 [.r x.s (64 + (2 * n + 2) * (3 * (x.i - 1) + x.j))])]⟩, fun x => ((1 ≤ x.i ∧ x.i < w.length) ∧ x.j ≤ a.links.length) ∧ x.s + dst ((w.getD (x.i - 1) []).drop x.j) ((w.getD x.i []).drop x.j) + meas (w.drop x.i) = meas w, fun x => a.links.length - x.j, fun x => w.length - x.i⟩) Tryd.f40 [armA a, sW n w] K
theorem goal_sMeasure_vc (a : ArmV) (n : Nat) (w : List (List Rat)) (K : AV → Prop) : goal_sMeasure a n w K = (∃(a_1:ArmV),∃(n_1:Nat),∃(w_1:List (List Rat)),[Ch.v (Value.string a.name),Ch.r a.x 63,Ch.r a.y 63,Ch.v (Value.bool a.half),Ch.r a.t 63,Ch.s 16 (List.map linkCh a.links)]=[Ch.v (Value.string a_1.name),Ch.r a_1.x 63,Ch.r a_1.y 63,Ch.v (Value.bool a_1.half),Ch.r a_1.t 63,Ch.s 16 (List.map linkCh a_1.links)]∧wN n w=wN n_1 w_1∧(GoodArm a_1∧WayOK w_1 a_1.links.length)∧((-9223372036854775808:Int)≤0∧(0:Int)<9223372036854775808)∧(∃(x:MsX),(((1≤x.i∧x.i≤w.length)∧x.s+meas (List.drop (x.i-1) w)=meas w)∧OfNat.ofNat 0=0)∧1=1∧wN n w=wN n w∧0=0∧0=0∧0=0∧1=Int.ofNat x.i∧34=34∧a.name=a.name∧a.x=a.x∧63≤63∧a.y=a.y∧63≤63∧a.half=a.half∧a.t=a.t∧63≤63∧16=16∧List.map linkCh a.links=List.map linkCh a.links∧25=25∧false=false∧ByteArray.mk (Array.mk [])=ByteArray.mk (Array.mk [])∧ByteArray.mk (Array.mk [])=ByteArray.mk (Array.mk [])∧25=25∧↑(0:Int)=x.s∧64≤64+(2*n+2)*(3*(x.i-1))∧True)∧∀(x:MsX),(1≤x.i∧x.i≤w.length)∧x.s+meas (List.drop (x.i-1) w)=meas w→OfNat.ofNat 0=0→bif decide (Int.ofNat x.i<Int.ofNat (wN n w).length) then (0≤Int.ofNat x.i∧Int.ofNat x.i<Int.ofNat (wN n w).length)∧∃(ys:List (List Ch)),ldE (wN n w) (Int.ofNat x.i).toNat 0 1=some [Ch.s 3 ys]∧(∃(x_1:MsX),((((1≤x_1.i∧x_1.i<w.length)∧x_1.j≤a.links.length)∧x_1.s+dst (List.drop x_1.j (w.getD (x_1.i-1) [])) (List.drop x_1.j (w.getD x_1.i []))+meas (List.drop x_1.i w)=meas w)∧w.length-x_1.i=w.length-x.i)∧1=1∧wN n w=wN n w∧0=0∧0=0∧0=0∧Int.ofNat x.i=Int.ofNat x_1.i∧Int.ofNat ys.length=Int.ofNat a.links.length∧0=Int.ofNat x_1.j∧34=34∧a.name=a.name∧a.x=a.x∧63≤63∧a.y=a.y∧63≤63∧a.half=a.half∧a.t=a.t∧63≤63∧16=16∧List.map linkCh a.links=List.map linkCh a.links∧25=25∧false=false∧ByteArray.mk (Array.mk [])=ByteArray.mk (Array.mk [])∧ByteArray.mk (Array.mk [])=ByteArray.mk (Array.mk [])∧25=25∧x.s=x_1.s∧64+(2*n+2)*(3*(x.i-1))≤64+(2*n+2)*(3*(x_1.i-1)+x_1.j)∧True)∧∀(x_1:MsX),((1≤x_1.i∧x_1.i<w.length)∧x_1.j≤a.links.length)∧x_1.s+dst (List.drop x_1.j (w.getD (x_1.i-1) [])) (List.drop x_1.j (w.getD x_1.i []))+meas (List.drop x_1.i w)=meas w→w.length-x_1.i=w.length-x.i→bif decide (Int.ofNat x_1.j<Int.ofNat a.links.length) then (0≤Int.ofNat x_1.i∧Int.ofNat x_1.i<Int.ofNat (wN n w).length)∧∃(ys:List (List Ch)),ldE (wN n w) (Int.ofNat x_1.i).toNat 0 1=some [Ch.s 3 ys]∧(0≤Int.ofNat x_1.j∧Int.ofNat x_1.j<Int.ofNat ys.length)∧∃(q:Rat),∃(n_2:Nat),ldE ys (Int.ofNat x_1.j).toNat 0 3=some [Ch.r q n_2]∧(0≤IntKind.i64.wrap (Int.ofNat x_1.i-1)∧IntKind.i64.wrap (Int.ofNat x_1.i-1)<Int.ofNat (wN n w).length)∧∃(ys:List (List Ch)),ldE (wN n w) (IntKind.i64.wrap (Int.ofNat x_1.i-1)).toNat 0 1=some [Ch.s 3 ys]∧(0≤Int.ofNat x_1.j∧Int.ofNat x_1.j<Int.ofNat ys.length)∧∃(q_1:Rat),∃(n_3:Nat),ldE ys (Int.ofNat x_1.j).toNat 0 3=some [Ch.r q_1 n_3]∧n_2+n_3+1≤4294967296∧n_2+n_3+1≤4294967296∧64+(2*n+2)*(3*(x_1.i-1)+x_1.j)+(n_2+n_3+1)+1≤4294967296∧∃(x':MsX),((((1≤x'.i∧x'.i<w.length)∧x'.j≤a.links.length)∧x'.s+dst (List.drop x'.j (w.getD (x'.i-1) [])) (List.drop x'.j (w.getD x'.i []))+meas (List.drop x'.i w)=meas w)∧w.length-x'.i=w.length-x.i∧a.links.length-x'.j<a.links.length-x_1.j)∧1=1∧wN n w=wN n w∧0=0∧0=0∧0=0∧Int.ofNat x_1.i=Int.ofNat x'.i∧Int.ofNat a.links.length=Int.ofNat a.links.length∧IntKind.i64.wrap (Int.ofNat x_1.j+1)=Int.ofNat x'.j∧34=34∧a.name=a.name∧a.x=a.x∧63≤63∧a.y=a.y∧63≤63∧a.half=a.half∧a.t=a.t∧63≤63∧16=16∧List.map linkCh a.links=List.map linkCh a.links∧25=25∧false=false∧ByteArray.mk (Array.mk [])=ByteArray.mk (Array.mk [])∧ByteArray.mk (Array.mk [])=ByteArray.mk (Array.mk [])∧25=25∧x_1.s+absR (q-q_1)=x'.s∧64+(2*n+2)*(3*(x_1.i-1)+x_1.j)+(n_2+n_3+1)+1≤64+(2*n+2)*(3*(x'.i-1)+x'.j)∧True else ∃(x':MsX),(((1≤x'.i∧x'.i≤w.length)∧x'.s+meas (List.drop (x'.i-1) w)=meas w)∧OfNat.ofNat 0=0∧w.length-x'.i<w.length-x.i)∧1=1∧wN n w=wN n w∧0=0∧0=0∧0=0∧IntKind.i64.wrap (Int.ofNat x_1.i+1)=Int.ofNat x'.i∧34=34∧a.name=a.name∧a.x=a.x∧63≤63∧a.y=a.y∧63≤63∧a.half=a.half∧a.t=a.t∧63≤63∧16=16∧List.map linkCh a.links=List.map linkCh a.links∧25=25∧false=false∧ByteArray.mk (Array.mk [])=ByteArray.mk (Array.mk [])∧ByteArray.mk (Array.mk [])=ByteArray.mk (Array.mk [])∧25=25∧x_1.s=x'.s∧64+(2*n+2)*(3*(x_1.i-1)+x_1.j)≤64+(2*n+2)*(3*(x'.i-1))∧True else K (AV.t [(true,[Ch.r x.s (64+(2*n+2)*(3*(x.i-1)))]),(false,[Ch.v (Value.int IntKind.i64 0)])])) := by kernel_rfl
theorem g_sMeasure (a : ArmV) (n : Nat) (w : List (List Rat)) (hc : (GoodArm a) ∧ (WayOK w a.links.length ∧ n ≤ 100000)) (K : AV → Prop) (hK : K (.t [(true, [.r (meas w) (64 + (2 * n + 2) * (3 * (w.length - 1)))]), (false, [.v (.int .i64 0)])])) : Holds (goal_sMeasure a n w K) := by
 refine ⟨?_⟩
 rw [goal_sMeasure_vc]
 try simp only [Int.ofNat_eq_natCast, true_and, and_true, Nat.le_refl, true_implies]
 obtain ⟨ha, hw, hn⟩ := hc
 have hwn := hw.n
 have hm := ha.n
 have hlw : (wN n w).length = w.length := by simp [wN]
 rw [hlw]
 refine ⟨a, n, w, rfl, rfl, ⟨ha, hw⟩, by omega, ⟨⟨1, 0, 0⟩, ⟨by simp only; omega, ?_⟩, rfl, rfl, by simp⟩, fun x ⟨⟨hi1, hi2⟩, hs⟩ => bif_mk (fun hp => ?_) (fun hp => ?_)⟩
 ·show (0 : Rat) + meas (w.drop 0) = meas w
  rw [List.drop_zero]; exact Rat.zero_add _
 ·have hp : x.i < w.length := by have := of_decide_eq_true hp; omega
  obtain ⟨q, hq⟩ : ∃ q, w[x.i]? = some q := ⟨_, List.getElem?_eq_getElem hp⟩
  obtain ⟨p, hpp⟩ : ∃ p, w[x.i - 1]? = some p := ⟨_, List.getElem?_eq_getElem (by omega)⟩
  have lq := hw.len q (List.mem_of_getElem? hq)
  have lp := hw.len p (List.mem_of_getElem? hpp)
  refine ⟨by omega, _, way_ld (by simpa using hq), ⟨⟨x.i, 0, x.s⟩, ⟨⟨⟨⟨hi1, hp⟩, by simp⟩, ?_⟩, rfl⟩, rfl, by rw [lR_len, lq], rfl, rfl, by simp⟩, fun y ⟨⟨⟨hy1, hy2⟩, hy3⟩, hy4⟩ ht => ?_⟩
  ·simp only [List.drop_zero]
   rw [wgetD hq, wgetD hpp]
   rw [meas_drop hi1 hpp hq] at hs
   rw [Rat.add_assoc]; exact hs
  have hyi : y.i = x.i := by omega
  rw [hyi] at hy4 ⊢
  rw [wgetD hq, wgetD hpp] at hy4
  have hB : (2 * n + 2) * (3 * (x.i - 1) + y.j) ≤ 200002 * 183 := Nat.mul_le_mul (by omega) (by omega)
  refine bif_mk (fun hj => ?_) (fun hj => ?_)
  ·have hj : y.j < a.links.length := by have := of_decide_eq_true hj; omega
   obtain ⟨u, hu⟩ : ∃ u, q[y.j]? = some u := ⟨_, List.getElem?_eq_getElem (by omega)⟩
   obtain ⟨v, hv⟩ : ∃ v, p[y.j]? = some v := ⟨_, List.getElem?_eq_getElem (by omega)⟩
   rw [w64 (n := (x.i : Int) - 1) (by omega), show ((x.i : Int) - 1).toNat = x.i - 1 by omega]
   have hB2 : (2 * n + 2) * (3 * (x.i - 1) + (y.j + 1)) = (2 * n + 2) * (3 * (x.i - 1) + y.j) + (2 * n + 2) := by rw [← Nat.add_assoc, Nat.mul_succ]
   refine ⟨by omega, _, way_ld (by simpa using hq), by rw [lR_len]; omega, u, n, lR_ld (by simpa using hu), by omega, _, way_ld hpp, by rw [lR_len]; omega, v, n, lR_ld (by simpa using hv), by omega, by omega, by omega, ⟨x.i, y.j + 1, y.s + absR (u - v)⟩, ⟨⟨⟨⟨hi1, hp⟩, hj⟩, ?_⟩, rfl, by simp only; omega⟩, rfl, by rw [w64 (by omega)]; simp, rfl, by simp only; omega⟩
   simp only
   rw [wgetD hq, wgetD hpp]
   rw [dst_drop hv hu] at hy4
   rw [← hy4]
   grind
  ·have hj : y.j = a.links.length := by have := of_decide_eq_false hj; omega
   refine ⟨⟨x.i + 1, 0, y.s⟩, ⟨⟨⟨by simp only; omega, by simp only; omega⟩, ?_⟩, by simp only; omega⟩, by rw [w64 (by omega)]; simp, rfl, ?_⟩
   ·simp only
    rw [List.drop_eq_nil_of_le (by omega : p.length ≤ y.j)] at hy4
    rw [show x.i + 1 - 1 = x.i by omega]
    have e : dst [] (q.drop y.j) = 0 := by unfold dst; rfl
    rw [e, Rat.add_zero] at hy4
    exact hy4
   ·simp only
    exact Nat.add_le_add_left (Nat.mul_le_mul_left _ (by omega)) _
 ·have hp : x.i = w.length := by have := of_decide_eq_false hp; omega
  obtain ⟨p, hpp⟩ : ∃ p, w[x.i - 1]? = some p := ⟨_, List.getElem?_eq_getElem (by omega)⟩
  rw [drop_of hpp, show x.i - 1 + 1 = x.i by omega, hp, List.drop_length] at hs
  rw [show meas [p] = 0 from rfl, Rat.add_zero] at hs
  rw [hs, hp]
  exact hK
def c_sMeasure : Ctr := fun as0 => match as0 with
 | [.x true xs, .x false [.s 1 ys]] => some fun K => ∃ (a : ArmV) (n : Nat) (w : List (List Rat)), xs = armCh a ∧ ys = wN n w ∧ ((GoodArm a) ∧ (WayOK w a.links.length ∧ n ≤ 100000)) ∧ (K (.t [(true, [.r (meas w) (64 + (2 * n + 2) * (3 * (w.length - 1)))]), (false, [.v (.int .i64 0)])]))
 | _ => none
theorem ok_sMeasure : CtrOK Tryd.prog tabG debT 40 c_sMeasure := by
 refine ⟨enters Tryd.func40 (by kernel_rfl), fun l T hT K hK => ?_⟩
 unfold c_sMeasure at hT
 split at hT
 ·cases hT
  obtain ⟨a, n, w, rfl, rfl, hc, hK⟩ := hK
  exact spec_ofL T102ok mixed Tryd.func40 (by kernel_rfl) (by kernel_rfl) (by rfl) (g_sMeasure _ _ _ hc K hK)
 ·cases hT
def L103 : List (Nat × Ctr) := (40, c_sMeasure) :: L102
def T103 : Tabs := mkT L103 M99 X4
theorem L103ok : CtrsOK Tryd.prog tabG debT L103 := .cons ok_sMeasure L102ok
theorem T103ok : TabsOK Tryd.prog tabG debT T103 := mkTok L103ok M99ok X4ok
def ot_sPlain : OT := fun id => bif id.beq 8 then ([0, 1, 2, 3, 4, 5, 6, 7, 8, 9, 10, 11, 12, 13, 14, 15, 16, 17, 18, 19, 20, 21, 22, 23], [[], [], [1], [2, 1], [0, 3, 2, 1], [4, 0, 3, 2, 1], [5, 4, 0, 3, 2, 1], [5, 4, 0, 3, 2, 1], [7, 5, 4, 0, 3, 2, 1], [8, 7, 5, 4, 0, 3, 2, 1], [6, 5, 4, 0, 3, 2, 1, 9, 8, 7], [10, 6, 5, 4, 0, 3, 2, 1, 9, 8, 7], [5, 4, 0, 3, 2, 1], [5, 4, 0, 3, 2, 1], [12, 5, 4, 0, 3, 2, 1, 13], [14, 12, 5, 4, 0, 3, 2, 1, 13], [5, 4, 0, 3, 2, 1], [5, 4, 0, 3, 2, 1], [17, 5, 4, 0, 3, 2, 1], [16, 5, 4, 0, 3, 2, 1, 18, 17], [19, 16, 5, 4, 0, 3, 2, 1, 18, 17], [11, 10, 6, 5, 4, 0, 3, 2, 1, 9, 8, 7, 15, 14, 12, 13, 20, 19, 16, 18, 17], [21, 11, 10, 6, 5, 4, 0, 3, 2, 1, 9, 8, 7, 15, 14, 12, 13, 20, 19, 16, 18, 17], [5, 4, 0, 3, 2, 1, 22, 21, 11, 10, 6, 9, 8, 7, 15, 14, 12, 13, 20, 19, 16, 18, 17]]) else ([], [])
def goal_sPlain (a : ArmV) (n : Nat) (w : List (List Rat)) (K : AV → Prop) : Prop := goalL T103 ot_sPlain (fun _ => .inv ⟨PlX, fun x => ⟨[(1, sW n w), (2, .x false [.p 2 0]), (7, .x false [.w 500 0 x.o.length]), (8, iA .i64 x.i)], [(2, .box 34 (armCh a)), (500, .row 45 1 (wN (n + 65) x.o))]⟩, fun x => (1 ≤ x.i ∧ x.i ≤ w.length ∧ x.o.length ≤ x.i) ∧ x.o ≠ [] ∧ (∀ q ∈ x.o, q.length = a.links.length) ∧ x.o ++ plainR (x.o.getD (x.o.length - 1) []) (w.drop x.i) = plainV w, fun x => w.length - x.i, fun _ => 0⟩) Tryd.f39 [armA a, sW n w] K
theorem goal_sPlain_vc (a : ArmV) (n : Nat) (w : List (List Rat)) (K : AV → Prop) : goal_sPlain a n w K = (∃(a_1:ArmV),∃(n_1:Nat),∃(w_1:List (List Rat)),[Ch.v (Value.string a.name),Ch.r a.x 63,Ch.r a.y 63,Ch.v (Value.bool a.half),Ch.r a.t 63,Ch.s 16 (List.map linkCh a.links)]=[Ch.v (Value.string a_1.name),Ch.r a_1.x 63,Ch.r a_1.y 63,Ch.v (Value.bool a_1.half),Ch.r a_1.t 63,Ch.s 16 (List.map linkCh a_1.links)]∧wN n w=wN n_1 w_1∧(GoodArm a_1∧WayOK w_1 a_1.links.length)∧((0:Int)≤0∧0<Int.ofNat (wN n w).length)∧∃(ys:List (List Ch)),ldE (wN n w) 0 0 1=some [Ch.s 3 ys]∧∃(n_2:Nat),∃(qs:List Rat),ys=lR n_2 qs∧(n_2≤1000000∧qs.length≤1000000)∧(∃(x:PlX),(((1≤x.i∧x.i≤w.length∧x.o.length≤x.i)∧x.o≠[]∧(∀(q:List Rat),q ∈ x.o→q.length=a.links.length)∧x.o++plainR (x.o.getD (x.o.length-1) []) (List.drop x.i w)=plainV w)∧OfNat.ofNat 0=0)∧1=1∧wN n w=wN n w∧0=0∧0=0∧1=x.o.length∧1=Int.ofNat x.i∧34=34∧a.name=a.name∧a.x=a.x∧63≤63∧a.y=a.y∧63≤63∧a.half=a.half∧a.t=a.t∧63≤63∧16=16∧List.map linkCh a.links=List.map linkCh a.links∧45=45∧1=1∧([[Ch.s 3 (lR (n_2+65) qs)]]=wN (n+65) x.o∨RowLE [[Ch.s 3 (lR (n_2+65) qs)]] (wN (n+65) x.o))∧True)∧∀(x:PlX),(1≤x.i∧x.i≤w.length∧x.o.length≤x.i)∧x.o≠[]∧(∀(q:List Rat),q ∈ x.o→q.length=a.links.length)∧x.o++plainR (x.o.getD (x.o.length-1) []) (List.drop x.i w)=plainV w→OfNat.ofNat 0=0→bif decide (Int.ofNat x.i<Int.ofNat (wN n w).length) then bif Int.ofNat x.i==IntKind.i64.wrap (Int.ofNat (wN n w).length-1) then (0≤Int.ofNat x.i∧Int.ofNat x.i<Int.ofNat (wN n w).length)∧∃(ys:List (List Ch)),ldE (wN n w) (Int.ofNat x.i).toNat 0 1=some [Ch.s 3 ys]∧∃(n_3:Nat),∃(qs:List Rat),ys=lR n_3 qs∧(n_3≤1000000∧qs.length≤1000000)∧((x.o.length+1)*24≤140737488355328∧x.o.length+1≤9223372036854775807)∧∃(x':PlX),(((1≤x'.i∧x'.i≤w.length∧x'.o.length≤x'.i)∧x'.o≠[]∧(∀(q:List Rat),q ∈ x'.o→q.length=a.links.length)∧x'.o++plainR (x'.o.getD (x'.o.length-1) []) (List.drop x'.i w)=plainV w)∧OfNat.ofNat 0=0∧w.length-x'.i<w.length-x.i)∧1=1∧wN n w=wN n w∧0=0∧0=0∧x.o.length+1=x'.o.length∧IntKind.i64.wrap (Int.ofNat x.i+1)=Int.ofNat x'.i∧34=34∧a.name=a.name∧a.x=a.x∧63≤63∧a.y=a.y∧63≤63∧a.half=a.half∧a.t=a.t∧63≤63∧16=16∧List.map linkCh a.links=List.map linkCh a.links∧45=45∧1=1∧(List.take x.o.length (wN (n+65) x.o)++[[Ch.s 3 (lR (n_3+65) qs)]]=wN (n+65) x'.o∨RowLE (List.take x.o.length (wN (n+65) x.o)++[[Ch.s 3 (lR (n_3+65) qs)]]) (wN (n+65) x'.o))∧True else (0≤IntKind.i64.wrap (Int.ofNat x.o.length-1)∧IntKind.i64.wrap (Int.ofNat x.o.length-1)<Int.ofNat x.o.length)∧∃(ys:List (List Ch)),ldE (wN (n+65) x.o) (0+(IntKind.i64.wrap (Int.ofNat x.o.length-1)).toNat) 0 1=some [Ch.s 3 ys]∧(0≤Int.ofNat x.i∧Int.ofNat x.i<Int.ofNat (wN n w).length)∧∃(ys_1:List (List Ch)),ldE (wN n w) (Int.ofNat x.i).toNat 0 1=some [Ch.s 3 ys_1]∧(0≤IntKind.i64.wrap (Int.ofNat x.i+1)∧IntKind.i64.wrap (Int.ofNat x.i+1)<Int.ofNat (wN n w).length)∧∃(ys_2:List (List Ch)),ldE (wN n w) (IntKind.i64.wrap (Int.ofNat x.i+1)).toNat 0 1=some [Ch.s 3 ys_2]∧∃(d:Nat),∃(a_4:List Rat),∃(e:Nat),∃(b:List Rat),∃(f:Nat),∃(c:List Rat),∃(m:Nat),ys=lR d a_4∧ys_1=lR e b∧ys_2=lR f c∧((a_4.length=m∧b.length=m∧c.length=m)∧m≤1000000∧d≤1000000∧e≤1000000∧f≤1000000)∧∀(r:Bool),(r=true↔Btw a_4 b c)→bif !r then (0≤Int.ofNat x.i∧Int.ofNat x.i<Int.ofNat (wN n w).length)∧∃(ys:List (List Ch)),ldE (wN n w) (Int.ofNat x.i).toNat 0 1=some [Ch.s 3 ys]∧∃(n_3:Nat),∃(qs:List Rat),ys=lR n_3 qs∧(n_3≤1000000∧qs.length≤1000000)∧((x.o.length+1)*24≤140737488355328∧x.o.length+1≤9223372036854775807)∧∃(x':PlX),(((1≤x'.i∧x'.i≤w.length∧x'.o.length≤x'.i)∧x'.o≠[]∧(∀(q:List Rat),q ∈ x'.o→q.length=a.links.length)∧x'.o++plainR (x'.o.getD (x'.o.length-1) []) (List.drop x'.i w)=plainV w)∧OfNat.ofNat 0=0∧w.length-x'.i<w.length-x.i)∧1=1∧wN n w=wN n w∧0=0∧0=0∧x.o.length+1=x'.o.length∧IntKind.i64.wrap (Int.ofNat x.i+1)=Int.ofNat x'.i∧34=34∧a.name=a.name∧a.x=a.x∧63≤63∧a.y=a.y∧63≤63∧a.half=a.half∧a.t=a.t∧63≤63∧16=16∧List.map linkCh a.links=List.map linkCh a.links∧45=45∧1=1∧(List.take x.o.length (wN (n+65) x.o)++[[Ch.s 3 (lR (n_3+65) qs)]]=wN (n+65) x'.o∨RowLE (List.take x.o.length (wN (n+65) x.o)++[[Ch.s 3 (lR (n_3+65) qs)]]) (wN (n+65) x'.o))∧True else ∃(x':PlX),(((1≤x'.i∧x'.i≤w.length∧x'.o.length≤x'.i)∧x'.o≠[]∧(∀(q:List Rat),q ∈ x'.o→q.length=a.links.length)∧x'.o++plainR (x'.o.getD (x'.o.length-1) []) (List.drop x'.i w)=plainV w)∧OfNat.ofNat 0=0∧w.length-x'.i<w.length-x.i)∧1=1∧wN n w=wN n w∧0=0∧0=0∧x.o.length=x'.o.length∧IntKind.i64.wrap (Int.ofNat x.i+1)=Int.ofNat x'.i∧34=34∧a.name=a.name∧a.x=a.x∧63≤63∧a.y=a.y∧63≤63∧a.half=a.half∧a.t=a.t∧63≤63∧16=16∧List.map linkCh a.links=List.map linkCh a.links∧45=45∧1=1∧(wN (n+65) x.o=wN (n+65) x'.o∨RowLE (wN (n+65) x.o) (wN (n+65) x'.o))∧True else K (AV.t [(false,[Ch.s 1 (List.take x.o.length (List.drop 0 (wN (n+65) x.o)))]),(false,[Ch.v (Value.int IntKind.i64 0)])])) := by kernel_rfl
theorem g_sPlain (a : ArmV) (n : Nat) (w : List (List Rat)) (hc : (GoodArm a) ∧ (WayOK w a.links.length ∧ n ≤ 100000)) (K : AV → Prop) (hK : K (.t [(false, [.s 1 (wN (n + 65) (plainV w))]), (false, [.v (.int .i64 0)])])) : Holds (goal_sPlain a n w K) := by
 refine ⟨?_⟩
 rw [goal_sPlain_vc]
 try simp only [Int.ofNat_eq_natCast, true_and, and_true, Nat.zero_add, Nat.le_refl, true_implies]
 obtain ⟨ha, hw, hn⟩ := hc
 have hwn := hw.n
 have hm := ha.n
 have hlw : (wN n w).length = w.length := by simp [wN]
 rw [hlw]
 obtain ⟨q0, h0⟩ : ∃ q, w[0]? = some q := ⟨_, List.getElem?_eq_getElem (by omega)⟩
 have hl : ∀ (i : Nat) (q : List Rat), w[i]? = some q → q.length = a.links.length := fun i q h => hw.len q (List.mem_of_getElem? h)
 have hl0 := hl 0 q0 h0
 have ew : w = q0 :: w.drop 1 := by have := drop_of h0; simpa using this
 refine ⟨a, n, w, rfl, rfl, ⟨ha, hw⟩, by omega, _, way_ld h0, n, q0, rfl, by omega, ⟨⟨1, [q0]⟩, ⟨by simp only [List.length_singleton]; omega, by simp, ?_, ?_⟩, rfl, rfl, .inl rfl⟩, fun x ⟨⟨hi1, hi2, hi3⟩, ho, hol, he⟩ => bif_mk (fun hp => ?_) (fun hp => ?_)⟩
 ·intro q hq; rw [List.mem_singleton.1 hq]; exact hl0
 ·show [q0] ++ plainR q0 (w.drop 1) = plainV w
  conv => rhs; rw [ew]
  rfl
 ·have hp : x.i < w.length := by have := of_decide_eq_true hp; omega
  have holn : 1 ≤ x.o.length := by
   have : x.o.length ≠ 0 := fun e => ho (List.length_eq_zero_iff.1 e)
   omega
  obtain ⟨q, hq⟩ : ∃ q, w[x.i]? = some q := ⟨_, List.getElem?_eq_getElem hp⟩
  obtain ⟨z, hz⟩ : ∃ z, x.o[x.o.length - 1]? = some z := ⟨_, List.getElem?_eq_getElem (by omega)⟩
  have lq := hl _ q hq
  have lz := hol z (List.mem_of_getElem? hz)
  have hob : x.o.length ≤ 61 := by omega
  have snoc : ∀ q : List Rat, (x.o ++ [q]).getD ((x.o ++ [q]).length - 1) [] = q := fun q => by
   refine wgetD ?_
   rw [List.length_append, List.length_singleton, Nat.add_sub_cancel, List.getElem?_append_right (Nat.le_refl _), Nat.sub_self]; rfl
  rw [wgetD hz] at he
  rw [drop_of hq] at he
  rw [w64 (n := (w.length : Int) - 1) (by omega), w64 (n := (x.o.length : Int) - 1) (by omega), w64 (n := (x.i : Int) + 1) (by omega)]
  have allq : ∀ y ∈ x.o ++ [q], y.length = a.links.length := fun y hy => by
   rcases List.mem_append.1 hy with hy | hy
   ·exact hol y hy
   ·rw [List.mem_singleton.1 hy]; exact lq
  refine bif_mk (fun hlast => ?_) (fun hlast => ?_)
  ·have hlast := eq_of_beq hlast
   refine ⟨by omega, _, way_ld (by simpa using hq), n, q, rfl, by omega, by omega, ⟨x.i + 1, x.o ++ [q]⟩, ⟨⟨by simp only [List.length_append, List.length_singleton]; omega, by simp, allq, ?_⟩, by simp only; omega⟩, by simp, by simp, .inl (wN_snoc _ _ _)⟩
   simp only
   rw [snoc, List.drop_eq_nil_of_le (by omega : w.length ≤ x.i + 1)]
   rw [List.drop_eq_nil_of_le (by omega : w.length ≤ x.i + 1)] at he
   rw [← he]
   simp [plainR]
  ·have hlast : ¬ (x.i : Int) = (w.length : Int) - 1 := fun e => by rw [e] at hlast; simp at hlast
   obtain ⟨r, hr⟩ : ∃ r, w[x.i + 1]? = some r := ⟨_, List.getElem?_eq_getElem (by omega)⟩
   have lr := hl _ r hr
   rw [show ((x.o.length : Int) - 1).toNat = x.o.length - 1 by omega]
   rw [drop_of hr, plainR] at he
   refine ⟨by omega, _, way_ld hz, by omega, _, way_ld (by simpa using hq), by omega, _, way_ld (by simpa using hr), n + 65, z, n, q, n, r, a.links.length, rfl, rfl, rfl, ⟨⟨lz, lq, lr⟩, by omega⟩, fun b hb => ?_⟩
   cases b with
   | true =>
    rw [if_pos (hb.1 rfl)] at he
    refine ⟨⟨x.i + 1, x.o⟩, ⟨⟨by simp only; omega, ho, hol, ?_⟩, by simp only; omega⟩, rfl, by simp, .inl rfl⟩
    simp only
    rw [wgetD hz, drop_of hr]; exact he
   | false =>
    rw [if_neg (fun h => by have := hb.2 h; cases this)] at he
    refine ⟨by omega, _, way_ld (by simpa using hq), n, q, rfl, by omega, by omega, ⟨x.i + 1, x.o ++ [q]⟩, ⟨⟨by simp only [List.length_append, List.length_singleton]; omega, by simp, allq, ?_⟩, by simp only; omega⟩, by simp, by simp, .inl (wN_snoc _ _ _)⟩
    simp only
    rw [snoc, drop_of hr, ← he]
    simp
 ·have hp : x.i = w.length := by have := of_decide_eq_false hp; omega
  rw [hp, List.drop_length] at he
  rw [show plainR (x.o.getD (x.o.length - 1) []) [] = [] from by simp [plainR], List.append_nil] at he
  rw [List.drop_zero, List.take_of_length_le (by simp [wN]), he]
  exact hK
def c_sPlain : Ctr := fun as0 => match as0 with
 | [.x true xs, .x false [.s 1 ys]] => some fun K => ∃ (a : ArmV) (n : Nat) (w : List (List Rat)), xs = armCh a ∧ ys = wN n w ∧ ((GoodArm a) ∧ (WayOK w a.links.length ∧ n ≤ 100000)) ∧ (K (.t [(false, [.s 1 (wN (n + 65) (plainV w))]), (false, [.v (.int .i64 0)])]))
 | _ => none
theorem ok_sPlain : CtrOK Tryd.prog tabG debT 39 c_sPlain := by
 refine ⟨enters Tryd.func39 (by kernel_rfl), fun l T hT K hK => ?_⟩
 unfold c_sPlain at hT
 split at hT
 ·cases hT
  obtain ⟨a, n, w, rfl, rfl, hc, hK⟩ := hK
  exact spec_ofL T103ok mixed Tryd.func39 (by kernel_rfl) (by kernel_rfl) (by rfl) (g_sPlain _ _ _ hc K hK)
 ·cases hT
def L104 : List (Nat × Ctr) := (39, c_sPlain) :: L103
def T104 : Tabs := mkT L104 M99 X4
theorem L104ok : CtrsOK Tryd.prog tabG debT L104 := .cons ok_sPlain L103ok
end Go.Proofs
