/- Rationals, first part: constants as numbers; a rational out of its parts. -/
import Derived.Test.YtagcmnmbgogljaaDoorN3
import Derived.Test.YtagcmnmbgogljaaDoorPl
/- Rationals, first part: constants as numbers; a rational out of its parts. -/
namespace Go.Proofs
open Go Go.Eng
/-- A short constant string as a number. -/
def normN (a : AV) : AV := match a with
  | .x false [.v (.string ⟨⟨l⟩⟩)] => match l with
    | [] => .x false [.b 0 0]
    | [x] => bif Nat.beq x.toNat 0 then a else .x false [.b x.toNat 8]
    | _ => a
  | _ => a
theorem normN_conc {w : World} {O : Nat → Prop} {ρ : Env} {a : AV} {v : Value} (h : ConcV w O ρ a v) : ConcV w O ρ (normN a) v := by
 unfold normN
 split
 ·split
  ·exact conc_str_b (m := 0) (n := 0) (by rw [natBytes_zero]; exact h) (by decide)
  ·rename_i x
   cases hb : Nat.beq x.toNat 0 with
   | true => exact h
   | false =>
    have h0 : x.toNat ≠ 0 := fun e => by rw [e] at hb; cases hb
    have hx := x.toNat_lt
    refine conc_str_b (m := x.toNat) ?_ (by simpa using hx)
    have e : natBytes x.toNat = [x] := by
     rw [natBytes_succ _ h0, show x.toNat / 256 = 0 by omega, natBytes_zero]
     simp
    rw [e]; exact h
  ·exact h
 ·exact h
def normL : List AV → List AV
 | [] => []
 | a :: l => normN a :: normL l
theorem normL_conc {w : World} {O : Nat → Prop} {ρ : Env} {l : List AV} {vs : List Value} (h : ConcAs w O ρ l vs) : ConcAs w O ρ (normL l) vs := by
 induction h with
 | nil => exact .nil
 | cons h _ ih => exact .cons (normN_conc h) ih
def nrm (c : Ctr) : Ctr := fun l => c (normL l)
theorem _root_.Go.Eng.CtrOK.nrm {P : Program} {g : Nat} {tab : List Value} {f : Nat} {c : Ctr} (h : CtrOK P g tab f c) : CtrOK P g tab f (Proofs.nrm c) :=
 ⟨h.enter, fun _ T hT K hK => Spec.args (h.sound _ T hT K hK) fun _ _ _ hc => normL_conc hc⟩
/-- A rational as a struct, however it is told. -/
def RatIs (q : Rat) (n : Nat) (av : AV) : Prop := ∃ s x y, av = .x true [.v (.bool s), x, y] ∧ s = decide (q.num < 0) ∧ NatIs q.num.natAbs n (.x false [x]) ∧ NatIs q.den n (.x false [y])
theorem RatIs.conc {w : World} {O : Nat → Prop} {ρ : Env} {q : Rat} {n : Nat} {av : AV} {v : Value} (h : RatIs q n av) (hc : ConcV w O ρ av v) : ConcV w O ρ (.x true [.r q n]) v := by
 obtain ⟨s, x, y, rfl, rfl, hx, hy⟩ := h
 obtain ⟨vals, h1, h2⟩ := hc
 cases h1 with
 | v _ h1 =>
  obtain ⟨us, rest, rfl, _, k1, k2⟩ := h1.cons
  obtain ⟨vs, rest2, rfl, _, k3, k4⟩ := k2.cons
  cases k4
  have one : ∀ {m : Nat} {c : Ch} {us : List Value}, NatIs m n (.x false [c]) → CC w O ρ [c] us → us = [strOf (natBytes m)] := by
   intro m c us hn hcc
   obtain ⟨_, ⟨n', e⟩ | ⟨l, e, rfl⟩⟩ := hn
   ·cases e; cases hcc with | b _ h => cases h; rfl
   ·cases e; cases hcc with | v _ h => cases h; rfl
  have e1 := one hx k1
  have e2 := one hy k3
  subst e1 e2
  exact ⟨_, .r ⟨hx.1, hy.1⟩ .nil, h2⟩
theorem spec_rat {P : Program} {g : Nat} {tab : List Value} {f : Nat} {l : List AV} {q : Rat} {n : Nat} {K : AV → Prop} (h : Eng.Spec P g tab f l (RatIs q n)) (hk : K (.x true [.r q n])) : Eng.Spec P g tab f l K :=
 Eng.Spec.res h fun _ _ _ _ hn hc => ⟨_, hk, hn.conc hc⟩
theorem conc_bd {w : World} {O : Nat → Prop} {ρ : Env} {q : Rat} {n : Nat} {l : List AV} {vals : List Value} (h : ConcAs w O ρ (.x true [.r q n] :: l) vals) : Bd n q := by
 cases h with
 | cons h _ => obtain ⟨vs, h1, _⟩ := h; cases h1 with | r hb _ => exact hb
theorem Bd.num {n : Nat} {q : Rat} (h : Bd n q) : q.num.natAbs < 2 ^ n := h.1
theorem Bd.den {n : Nat} {q : Rat} (h : Bd n q) : q.den < 2 ^ n := h.2
def L18 : List (Nat × Ctr) := (43, nrm c_Gcd) :: (42, nrm c_Add) :: (75, nrm c_Sub) :: (20, nrm c_Mul) :: (48, nrm c_Div) :: (19, nrm c_Cmp) :: L17
noncomputable def T18 : Tabs := mkT L18 M15 X4
theorem L18ok : CtrsOK Tryd.prog tabG debT L18 := .cons ok_Gcd.nrm (.cons ok_Add.nrm (.cons ok_Sub.nrm (.cons ok_Mul.nrm (.cons ok_Div.nrm (.cons ok_Cmp.nrm L17ok)))))
theorem T18ok : TabsOK Tryd.prog tabG debT T18 := mkTok L18ok M15ok X4ok
def goal_Good (q : Rat) (n : Nat) (K : AV → Prop) : Prop := goalL T18 noO noL Tryd.f27 [.x true [.r q n]] K
theorem goal_Good_vc (q : Rat) (n : Nat) (K : AV → Prop) : goal_Good q n K = (bif decide (natBytes q.den=[]) then K (AV.x false [Ch.v (Value.bool false)]) else ∃(b:UInt8),((0:Int)≤0∧(natBytes q.den)[0]?=some b)∧bif Int.ofNat b.toNat==0 then K (AV.x false [Ch.v (Value.bool false)]) else bif decide (natBytes q.num.natAbs=[]) then bif decide (q.num<0) then K (AV.x false [Ch.v (Value.bool false)]) else bif !decide (natBytes q.den=(ByteArray.mk #[1]).data.toList) then K (AV.x false [Ch.v (Value.bool false)]) else bif !decide (natBytes q.num.natAbs=(ByteArray.mk #[]).data.toList) then ∃(b:UInt8),((0:Int)≤0∧(natBytes q.num.natAbs)[0]?=some b)∧bif Int.ofNat b.toNat==0 then K (AV.x false [Ch.v (Value.bool false)]) else bif decide (natBytes q.den=[OfNat.ofNat 1]) then K (AV.x false [Ch.v (Value.bool true)]) else (n≤4294967296∧n≤4294967296)∧K (AV.x false [Ch.v (Value.bool (decide (natBytes (q.num.natAbs.gcd q.den)=(ByteArray.mk #[1]).data.toList)))]) else bif decide (natBytes q.den=[OfNat.ofNat 1]) then K (AV.x false [Ch.v (Value.bool true)]) else (n≤4294967296∧n≤4294967296)∧K (AV.x false [Ch.v (Value.bool (decide (natBytes (q.num.natAbs.gcd q.den)=(ByteArray.mk #[1]).data.toList)))]) else bif !decide (natBytes q.num.natAbs=(ByteArray.mk #[]).data.toList) then ∃(b:UInt8),((0:Int)≤0∧(natBytes q.num.natAbs)[0]?=some b)∧bif Int.ofNat b.toNat==0 then K (AV.x false [Ch.v (Value.bool false)]) else bif decide (natBytes q.den=[OfNat.ofNat 1]) then K (AV.x false [Ch.v (Value.bool true)]) else (n≤4294967296∧n≤4294967296)∧K (AV.x false [Ch.v (Value.bool (decide (natBytes (q.num.natAbs.gcd q.den)=(ByteArray.mk #[1]).data.toList)))]) else bif decide (natBytes q.den=[OfNat.ofNat 1]) then K (AV.x false [Ch.v (Value.bool true)]) else (n≤4294967296∧n≤4294967296)∧K (AV.x false [Ch.v (Value.bool (decide (natBytes (q.num.natAbs.gcd q.den)=(ByteArray.mk #[1]).data.toList)))])) := by kernel_rfl
def goal_zero (K : AV → Prop) : Prop := goalL T18 noO noL Tryd.f28 [] K
theorem goal_zero_vc (K : AV → Prop) : goal_zero K = (K (AV.x true [Ch.v (Value.bool false),Ch.v (Value.string (ByteArray.mk (Array.mk []))),Ch.v (Value.string (ByteArray.mk (Array.mk [OfNat.ofNat 1])))])) := by kernel_rfl
theorem nb_one : natBytes 1 = [1] := rfl
theorem one_iff {m : Nat} : natBytes m = [1] ↔ m = 1 := ⟨fun h => natBytes_inj (by rw [h]; rfl), fun h => by rw [h]; rfl⟩
theorem g_Good (q : Rat) (n : Nat) (K : AV → Prop) (hn : n ≤ 4294967296) (hK : K (.x false [.v (.bool true)])) : Holds (goal_Good q n K) := by
 refine ⟨?_⟩
 rw [goal_Good_vc]
 have hd := q.den_nz
 obtain ⟨b, hb, hb0⟩ := natBytes_head hd
 have hbb : ((b.toNat : Int) == 0) = false := by simp; omega
 have hg : Nat.gcd q.num.natAbs q.den = 1 := q.reduced
 have e1 : ((ByteArray.mk #[(1 : UInt8)]).data.toList) = [1] := rfl
 have e2 : ((ByteArray.mk #[]).data.toList) = ([] : List UInt8) := rfl
 have tail : bif decide (natBytes q.den = [1]) then K (.x false [.v (.bool true)]) else (n ≤ 4294967296 ∧ n ≤ 4294967296) ∧ K (.x false [.v (.bool (decide (natBytes (Nat.gcd q.num.natAbs q.den) = [1])))]) := by
  refine bif_mk (fun _ => hK) (fun _ => ⟨⟨hn, hn⟩, ?_⟩)
  rw [hg, nb_one]; exact hK
 simp only []
 refine bif_mk (fun h => absurd (natBytes_nil.1 (of_decide_eq_true h)) hd) (fun _ => ⟨b, ⟨by omega, hb⟩, ?_⟩)
 simp only [Int.ofNat_eq_natCast, hbb, cond_false]
 refine bif_mk (fun h => ?_) (fun h => ?_)
 ·have h := natBytes_nil.1 (of_decide_eq_true h)
  have h0 : ¬ q.num < 0 := by omega
  have h1 : q.den = 1 := by rw [h, Nat.gcd_zero_left] at hg; exact hg
  have h2 : natBytes q.num.natAbs = [] := natBytes_nil.2 h
  simp only [h0, decide_false, cond_false, h1, h2, nb_one, decide_true, Bool.not_true]
  rw [h1, nb_one] at tail
  exact tail
 ·have h := of_decide_eq_false h
  have hz : q.num.natAbs ≠ 0 := fun e => h (natBytes_nil.2 e)
  obtain ⟨c, hc, hc0⟩ := natBytes_head hz
  have hcc : ((c.toNat : Int) == 0) = false := by simp; omega
  simp only [h, decide_false, cond_true, Bool.not_false]
  refine ⟨c, ⟨by omega, hc⟩, ?_⟩
  simp only [hcc, cond_false]
  exact tail
theorem g_zero : Holds (goal_zero (RatIs 0 1)) := by
 refine ⟨?_⟩
 rw [goal_zero_vc]
 exact ⟨_, _, _, rfl, rfl, ⟨by decide, .inr ⟨[], rfl, rfl⟩⟩, ⟨by decide, .inr ⟨[1], rfl, rfl⟩⟩⟩
def c_Good : Ctr := fun as0 => match as0 with
 | [.x true [.r _ n]] => some fun K => n ≤ 4294967296 ∧ K (.x false [.v (.bool true)])
 | _ => none
def c_zero : Ctr := fun as0 => match as0 with
 | [] => some fun K => K (.x true [.r 0 1])
 | _ => none
theorem ok_Good : CtrOK Tryd.prog tabG debT 27 c_Good := by
 refine ⟨enters Tryd.func27 (by kernel_rfl), fun l T hT K hK => ?_⟩
 unfold c_Good at hT
 split at hT
 ·cases hT
  exact spec_ofL T18ok mixed Tryd.func27 (by kernel_rfl) (by kernel_rfl) (by rfl) (g_Good _ _ K hK.1 hK.2)
 ·cases hT
theorem ok_zero : CtrOK Tryd.prog tabG debT 28 c_zero := by
 refine ⟨enters Tryd.func28 (by kernel_rfl), fun l T hT K hK => ?_⟩
 unfold c_zero at hT
 split at hT
 ·cases hT
  exact spec_rat (spec_ofL T18ok mixed Tryd.func28 (by kernel_rfl) (by kernel_rfl) (by rfl) g_zero) hK
 ·cases hT
def L19 : List (Nat × Ctr) := (27, c_Good) :: (28, c_zero) :: L18
noncomputable def T19 : Tabs := mkT L19 M15 X4
theorem L19ok : CtrsOK Tryd.prog tabG debT L19 := .cons ok_Good (.cons ok_zero L18ok)
theorem T19ok : TabsOK Tryd.prog tabG debT T19 := mkTok L19ok M15ok X4ok
def goal_fit (q : Rat) (n : Nat) (K : AV → Prop) : Prop := goalL T19 noO noL Tryd.f18 [.x true [.r q n]] K
theorem goal_fit_vc (q : Rat) (n : Nat) (K : AV → Prop) : goal_fit q n K = (n≤4294967296∧K (AV.x true [Ch.r q n])) := by kernel_rfl
def goal_made (s : Bool) (n a d b : Nat) (K : AV → Prop) : Prop := goalL T19 noO noL Tryd.f40 [.x false [.v (.bool s)], bA n a, bA d b] K
theorem goal_made_vc (s : Bool) (n : Nat) (a : Nat) (d : Nat) (b : Nat) (K : AV → Prop) : goal_made s n a d b K = (bif decide (natBytes n=[]) then K (AV.x true [Ch.r (OfNat.ofNat 0) 1]) else bif !decide (natBytes d=(ByteArray.mk #[1]).data.toList) then (a≤4294967296∧b≤4294967296)∧bif !decide (natBytes (n.gcd d)=(ByteArray.mk #[1]).data.toList) then (a≤549755813888∧a+b≤549755813888)∧(b≤549755813888∧a+b≤549755813888)∧K (AV.x true [Ch.v (Value.bool s),Ch.b (n/n.gcd d) a,Ch.b (d/n.gcd d) b]) else K (AV.x true [Ch.v (Value.bool s),Ch.b n a,Ch.b d b]) else K (AV.x true [Ch.v (Value.bool s),Ch.b n a,Ch.b d b])) := by kernel_rfl
def goal_signed (s : Bool) (m a : Nat) (t : Bool) (n b : Nat) (K : AV → Prop) : Prop := goalL T19 noO noL Tryd.f74 [.x false [.v (.bool s)], bA m a, .x false [.v (.bool t)], bA n b] K
theorem goal_signed_vc (s : Bool) (m : Nat) (a : Nat) (t : Bool) (n : Nat) (b : Nat) (K : AV → Prop) : goal_signed s m a t n b K = (True∧bif s==t then (a≤(549755813888:Nat)∧b≤(549755813888:Nat))∧K (AV.t [(false,[Ch.v (Value.bool s)]),(false,[Ch.b (m+n) (max a b+(1:Nat))])]) else (a≤(549755813888:Nat)∧b≤(549755813888:Nat))∧bif (bif decide (m<n) then (1:Int) else (0:Int))==(0:Int) then K (AV.t [(false,[Ch.v (Value.bool s)]),(false,[Ch.b (bif decide (m<n) then (0:Nat) else m-n) a])]) else (b≤(549755813888:Nat)∧a≤(549755813888:Nat))∧K (AV.t [(false,[Ch.v (Value.bool t)]),(false,[Ch.b (bif decide (n<m) then (0:Nat) else n-m) b])])) := by kernel_rfl
/-- A rational, told in one or in three. -/
def RatR (q : Rat) (n : Nat) (av : AV) : Prop := RatIs q n av ∨ ∃ m, m ≤ n ∧ av = .x true [.r q m]
theorem RatR.conc {w : World} {O : Nat → Prop} {ρ : Env} {q : Rat} {n : Nat} {av : AV} {v : Value} (h : RatR q n av) (hc : ConcV w O ρ av v) : ConcV w O ρ (.x true [.r q n]) v := by
 rcases h with h | ⟨m, hm, rfl⟩
 ·exact h.conc hc
 ·obtain ⟨vs, h1, h2⟩ := hc
  cases h1 with
  | r hb h => exact ⟨_, .r (hb.mono hm) h, h2⟩
theorem spec_ratR {P : Program} {g : Nat} {tab : List Value} {f : Nat} {l : List AV} {q : Rat} {n : Nat} {K : AV → Prop} (h : Eng.Spec P g tab f l (RatR q n)) (hk : K (.x true [.r q n])) : Eng.Spec P g tab f l K :=
 Eng.Spec.res h fun _ _ _ _ hn hc => ⟨_, hk, hn.conc hc⟩
theorem RatR.of {q : Rat} {n m : Nat} (h : m ≤ n) : RatR q n (.x true [.r q m]) := .inr ⟨m, h, rfl⟩
theorem g_fit (q : Rat) (n : Nat) (K : AV → Prop) (hn : n ≤ 4294967296) (hK : K (.x true [.r q n])) : Holds (goal_fit q n K) := by
 refine ⟨?_⟩
 rw [goal_fit_vc]
 exact ⟨hn, hK⟩
theorem ratMk_is {s : Bool} {n d a b : Nat} (hd : d ≠ 0) (hn0 : n ≠ 0) (hn : n < 2 ^ a) (hdb : d < 2 ^ b) : RatIs (ratMk s n d) (max a b) (.x true [.v (.bool s), .b (n / Nat.gcd n d) a, .b (d / Nat.gcd n d) b]) := by
 have h1 := pow_le (Nat.le_max_left a b)
 have h2 := pow_le (Nat.le_max_right a b)
 refine ⟨_, _, _, rfl, (ratMk_neg s n d hd hn0).symm, ?_, ?_⟩
 ·rw [ratMk_natAbs s n d hd]
  have := Nat.div_le_self n (Nat.gcd n d)
  exact .b (by omega)
 ·rw [ratMk_den s n d hd]
  have := Nat.div_le_self d (Nat.gcd n d)
  exact .b (by omega)
theorem g_made (s : Bool) (n a d b : Nat) (ha : a ≤ 4294967296) (hb : b ≤ 4294967296) (hn : n < 2 ^ a) (hdb : d < 2 ^ b) (hd : d ≠ 0) : Holds (goal_made s n a d b (RatR (ratMk s n d) (max a b))) := by
 refine ⟨?_⟩
 rw [goal_made_vc]
 have hb1 : 1 ≤ b := by
  rcases Nat.eq_zero_or_pos b with h | h
  ·subst h; rw [Nat.pow_zero] at hdb; omega
  ·exact h
 have e1 : ((ByteArray.mk #[(1 : UInt8)]).data.toList) = [1] := rfl
 simp only []
 refine bif_mk (fun h => ?_) (fun h => ?_)
 ·have h := natBytes_nil.1 (of_decide_eq_true h)
  subst h
  rw [ratMk_zero]
  exact .of (by omega)
 ·have hn0 : n ≠ 0 := fun e => of_decide_eq_false h (natBytes_nil.2 e)
  have main := ratMk_is (s := s) hd hn0 hn hdb
  refine bif_mk (fun h1 => ⟨⟨ha, hb⟩, bif_mk (fun h2 => ?_) (fun h2 => ?_)⟩) (fun h1 => ?_)
  ·exact ⟨by omega, by omega, .inl main⟩
  ·have h2 : Nat.gcd n d = 1 := one_iff.1 (by simpa using h2)
   rw [h2, Nat.div_one, Nat.div_one] at main
   exact .inl main
  ·have h1 : d = 1 := one_iff.1 (by simpa using h1)
   subst h1
   rw [Nat.gcd_one_right, Nat.div_one, Nat.div_one] at main
   exact .inl main
def SgnR (r : Bool × Nat) (c : Nat) (av : AV) : Prop := ∃ x, av = .t [(false, [.v (.bool r.1)]), (false, [x])] ∧ NatIs r.2 c (.x false [x])
theorem SgnR.conc {w : World} {O : Nat → Prop} {ρ : Env} {r : Bool × Nat} {c : Nat} {av : AV} {v : Value} (h : SgnR r c av) (hc : ConcV w O ρ av v) : ConcV w O ρ (.t [(false, [.v (.bool r.1)]), (false, [.b r.2 c])]) v := by
 obtain ⟨x, rfl, hx⟩ := h
 obtain ⟨vs, h1, h2⟩ := hc
 cases h1 with
 | cons h1 h3 => cases h3 with
  | cons h3 h4 => exact ⟨_, .cons h1 (.cons (hx.conc (av := .x false [x]) h3) h4), h2⟩
theorem g_signed (s : Bool) (m a : Nat) (t : Bool) (n b : Nat) (ha : a ≤ 549755813888) (hb : b ≤ 549755813888) (hm : m < 2 ^ a) (hn : n < 2 ^ b) : Holds (goal_signed s m a t n b (SgnR (sgnSum s m t n) (max a b + 1))) := by
 refine ⟨?_⟩
 rw [goal_signed_vc]
 have h1 := pow_le (Nat.le_max_left a b)
 have h2 := pow_le (Nat.le_max_right a b)
 have h3 : 2 ^ (max a b + 1) = 2 * 2 ^ max a b := Nat.pow_succ'
 unfold sgnSum
 refine ⟨trivial, bif_mk (fun h => ?_) (fun h => ?_)⟩
 ·rw [h, cond_true]
  exact ⟨⟨ha, hb⟩, _, rfl, .b (by simp only; omega)⟩
 ·rw [h, cond_false]
  by_cases hlt : m < n
  ·have e1 : decide (n ≤ m) = false := by simp; omega
   have e2 : decide (n < m) = false := by simp; omega
   have e3 : decide (m < n) = true := by simp; omega
   simp only [e1, e2, e3, cond_true, cond_false]
   exact ⟨⟨ha, hb⟩, ⟨hb, ha⟩, _, rfl, .b (by simp only; omega)⟩
  ·have e1 : decide (n ≤ m) = true := by simp; omega
   have e3 : decide (m < n) = false := by simp; omega
   simp only [e1, e3, cond_true, cond_false]
   exact ⟨⟨ha, hb⟩, _, rfl, .b (by simp only; omega)⟩
def c_fit : Ctr := fun as0 => match as0 with
 | [.x true [.r q n]] => some fun K => n ≤ 4294967296 ∧ K (.x true [.r q n])
 | _ => none
def c_made : Ctr := fun as0 => match as0 with
 | [.x false [.v (.bool s)], .x false [.b n a], .x false [.b d b]] => some fun K => ((a ≤ 4294967296 ∧ b ≤ 4294967296) ∧ d ≠ 0) ∧ K (.x true [.r (ratMk s n d) (max a b)])
 | _ => none
def c_signed : Ctr := fun as0 => match as0 with
 | [.x false [.v (.bool s)], .x false [.b m a], .x false [.v (.bool t)], .x false [.b n b]] => some fun K => (a ≤ 549755813888 ∧ b ≤ 549755813888) ∧ K (.t [(false, [.v (.bool (sgnSum s m t n).1)]), (false, [.b (sgnSum s m t n).2 (max a b + 1)])])
 | _ => none
theorem ok_fit : CtrOK Tryd.prog tabG debT 18 c_fit := by
 refine ⟨enters Tryd.func18 (by kernel_rfl), fun l T hT K hK => ?_⟩
 unfold c_fit at hT
 split at hT
 ·cases hT
  exact spec_ofL T19ok mixed Tryd.func18 (by kernel_rfl) (by kernel_rfl) (by rfl) (g_fit _ _ K hK.1 hK.2)
 ·cases hT
theorem conc_2of {w : World} {O : Nat → Prop} {ρ : Env} {a c : AV} {m n : Nat} {l : List AV} {vals : List Value} (h : ConcAs w O ρ (c :: a :: .x false [.b m n] :: l) vals) : m < 2 ^ n := by
 cases h with
 | cons _ h => exact conc_lt2 h
theorem ok_made : CtrOK Tryd.prog tabG debT 40 c_made := by
 refine ⟨enters Tryd.func40 (by kernel_rfl), fun l T hT K hK => ?_⟩
 unfold c_made at hT
 split at hT
 ·rename_i s n a d b
  cases hT
  exact spec_pre fun w O ρ vals hc => spec_ratR (spec_ofL T19ok mixed Tryd.func40 (by kernel_rfl) (by kernel_rfl) (by rfl) (g_made s n a d b hK.1.1.1 hK.1.1.2 (conc_lt2 hc) (conc_2of hc) hK.1.2)) hK.2
 ·cases hT
theorem ok_signed : CtrOK Tryd.prog tabG debT 74 c_signed := by
 refine ⟨enters Tryd.func74 (by kernel_rfl), fun l T hT K hK => ?_⟩
 unfold c_signed at hT
 split at hT
 ·rename_i s m a t n b
  cases hT
  refine spec_pre fun w O ρ vals hc => Eng.Spec.res (spec_ofL T19ok mixed Tryd.func74 (by kernel_rfl) (by kernel_rfl) (by rfl) (g_signed s m a t n b hK.1.1 hK.1.2 (conc_lt2 hc) ?_)) fun _ _ _ _ hn hc => ⟨_, hK.2, hn.conc hc⟩
  cases hc with
  | cons _ h => exact conc_2of h
 ·cases hT
def L20 : List (Nat × Ctr) := (18, c_fit) :: (40, nrm c_made) :: (74, c_signed) :: L19
noncomputable def T20 : Tabs := mkT L20 M15 X4
theorem L20ok : CtrsOK Tryd.prog tabG debT L20 := .cons ok_fit (.cons ok_made.nrm (.cons ok_signed L19ok))
theorem T20ok : TabsOK Tryd.prog tabG debT T20 := mkTok L20ok M15ok X4ok
end Go.Proofs
/- Rationals, second part: Of, Add, Mul, Div, Neg, Abs, Sign, Cmp. -/
namespace Go.Proofs
open Go Go.Eng
def rA (q : Rat) (n : Nat) : AV := .x true [.r q n]
def goal_rOf (n : Int) (K : AV → Prop) : Prop := goalL T20 noO noL Tryd.f26 [iA .i64 n] K
theorem goal_rOf_vc (n : Int) (K : AV → Prop) : goal_rOf n K = (bif decide (n≥0) then n<9223372036854775808∧((63≤4294967296∧8≤4294967296)∧1≠0)∧K (AV.x true [Ch.r (ratMk false n.toNat 1) 63]) else IntKind.i64.wrap (0-IntKind.i64.wrap (n+1))<9223372036854775808∧(63≤549755813888∧8≤549755813888)∧((64≤4294967296∧8≤4294967296)∧1≠0)∧K (AV.x true [Ch.r (ratMk true ((IntKind.i64.wrap (0-IntKind.i64.wrap (n+1))).toNat+1) 1) 64])) := by kernel_rfl
def ot_rAdd : OT := fun id => bif id.beq 1 then ([0, 2, 1, 3, 4, 5], [[], [0], [], [2, 1, 0], [1, 0, 3, 2], [3, 2, 1, 0, 4]]) else bif id.beq 5 then ([0, 1, 2, 3, 4, 5, 7, 8, 9, 10, 11, 12, 6, 13, 14, 15, 16, 17, 18, 19], [[], [0], [], [2], [], [4], [3, 2, 5, 4], [], [7], [], [9], [], [11], [10, 9, 12, 11, 6, 3, 2, 5, 4], [1, 0, 6, 3, 2, 5, 4, 8, 7, 13, 10, 9, 12, 11], [14, 1, 0, 6, 3, 2, 5, 4, 8, 7, 13, 10, 9, 12, 11], [15, 14, 1, 0, 6, 3, 2, 5, 4, 8, 7, 13, 10, 9, 12, 11], [15, 14, 1, 0, 6, 3, 2, 5, 4, 8, 7, 13, 10, 9, 12, 11], [16, 15, 14, 1, 0, 6, 3, 2, 5, 4, 8, 7, 13, 10, 9, 12, 11], [17, 15, 14, 1, 0, 6, 3, 2, 5, 4, 8, 7, 13, 10, 9, 12, 11, 18, 16]]) else ([], [])
def goal_rAdd (p : Rat) (a : Nat) (q : Rat) (b : Nat) (K : AV → Prop) : Prop := goalL T20 ot_rAdd noL Tryd.f72 [rA p a, rA q b] K
theorem goal_rAdd_vc (p : Rat) (a : Nat) (q : Rat) (b : Nat) (K : AV → Prop) : goal_rAdd p a q b K = (a≤4294967296∧b≤4294967296∧bif decide (p.den=q.den) then (a≤549755813888∧b≤549755813888)∧((max a b+1≤4294967296∧a≤4294967296)∧p.den≠0)∧K (AV.x true [Ch.r (ratMk (sgnSum (decide (p.num<0)) p.num.natAbs (decide (q.num<0)) q.num.natAbs).fst (sgnSum (decide (p.num<0)) p.num.natAbs (decide (q.num<0)) q.num.natAbs).snd p.den) (max (max a b+1) a)]) else (a≤274877906944∧b≤274877906944)∧(b≤274877906944∧a≤274877906944)∧(a+b≤549755813888∧b+a≤549755813888)∧(a≤274877906944∧b≤274877906944)∧((max (a+b) (b+a)+1≤4294967296∧a+b≤4294967296)∧p.den*q.den≠0)∧K (AV.x true [Ch.r (ratMk (sgnSum (decide (p.num<0)) (p.num.natAbs*q.den) (decide (q.num<0)) (q.num.natAbs*p.den)).fst (sgnSum (decide (p.num<0)) (p.num.natAbs*q.den) (decide (q.num<0)) (q.num.natAbs*p.den)).snd (p.den*q.den)) (max (max (a+b) (b+a)+1) (a+b))])) := by kernel_rfl
def ot_rMul : OT := fun id => bif id.beq 1 then ([0, 2, 1, 3, 4, 5], [[], [0], [], [2, 1, 0], [1, 0, 3, 2], [3, 2, 1, 0, 4]]) else bif id.beq 2 then ([0, 1, 2, 3, 4, 5, 6, 7, 8, 10, 11, 12, 13, 9, 14, 15, 16], [[], [0], [], [2], [1, 0, 3, 2], [], [5], [], [7], [6, 5, 8, 7], [], [10], [], [12], [11, 10, 13, 12, 9, 6, 5, 8, 7], [4, 1, 0, 3, 2, 9, 6, 5, 8, 7, 14, 11, 10, 13, 12], [15, 4, 1, 0, 3, 2, 9, 6, 5, 8, 7, 14, 11, 10, 13, 12]]) else ([], [])
def goal_rMul (p : Rat) (a : Nat) (q : Rat) (b : Nat) (K : AV → Prop) : Prop := goalL T20 ot_rMul noL Tryd.f71 [rA p a, rA q b] K
theorem goal_rMul_vc (p : Rat) (a : Nat) (q : Rat) (b : Nat) (K : AV → Prop) : goal_rMul p a q b K = (a≤4294967296∧b≤4294967296∧True∧(a≤274877906944∧b≤274877906944)∧(a≤274877906944∧b≤274877906944)∧((a+b≤4294967296∧a+b≤4294967296)∧p.den*q.den≠0)∧K (AV.x true [Ch.r (ratMk (!decide (p.num<0)==decide (q.num<0)) (p.num.natAbs*q.num.natAbs) (p.den*q.den)) (max (a+b) (a+b))])) := by kernel_rfl
def ot_rDiv : OT := fun id => bif id.beq 1 then ([0, 2, 1, 3, 4, 5], [[], [0], [], [2, 1, 0], [1, 0, 3, 2], [3, 2, 1, 0, 4]]) else bif id.beq 4 then ([0, 1, 2, 3, 4, 5, 6, 7, 8, 10, 11, 12, 13, 9, 14, 15, 16, 17], [[], [0], [], [2], [1, 0, 3, 2], [], [5], [], [7], [6, 5, 8, 7], [], [10], [], [12], [11, 10, 13, 12, 9, 6, 5, 8, 7], [4, 1, 0, 3, 2, 9, 6, 5, 8, 7, 14, 11, 10, 13, 12], [15, 4, 1, 0, 3, 2, 9, 6, 5, 8, 7, 14, 11, 10, 13, 12], [16, 15, 4, 1, 0, 3, 2, 9, 6, 5, 8, 7, 14, 11, 10, 13, 12]]) else ([], [])
def goal_rDiv (p : Rat) (a : Nat) (q : Rat) (b : Nat) (K : AV → Prop) : Prop := goalL T20 ot_rDiv noL Tryd.f25 [rA p a, rA q b] K
theorem goal_rDiv_vc (p : Rat) (a : Nat) (q : Rat) (b : Nat) (K : AV → Prop) : goal_rDiv p a q b K = (a≤4294967296∧b≤4294967296∧bif decide (natBytes q.num.natAbs=[]) then K (AV.t [(true,[Ch.v (Value.bool false),Ch.v (Value.string (ByteArray.mk (Array.mk []))),Ch.v (Value.string (ByteArray.mk (Array.mk [])))]),(false,[Ch.v (Value.int IntKind.i64 12)])]) else True∧(a≤274877906944∧b≤274877906944)∧(a≤274877906944∧b≤274877906944)∧((a+b≤4294967296∧a+b≤4294967296)∧p.den*q.num.natAbs≠0)∧K (AV.t [(true,[Ch.r (ratMk (!decide (p.num<0)==decide (q.num<0)) (p.num.natAbs*q.den) (p.den*q.num.natAbs)) (max (a+b) (a+b))]),(false,[Ch.v (Value.int IntKind.i64 0)])])) := by kernel_rfl
def goal_rNeg (p : Rat) (a : Nat) (K : AV → Prop) : Prop := goalL T20 noO noL Tryd.f73 [rA p a] K
theorem goal_rNeg_vc (p : Rat) (a : Nat) (K : AV → Prop) : goal_rNeg p a K = (a≤4294967296∧bif !decide (p.num<0) then K (AV.x true [Ch.v (Value.bool !decide (natBytes p.num.natAbs=(ByteArray.mk #[]).data.toList)),Ch.b p.num.natAbs a,Ch.b p.den a]) else K (AV.x true [Ch.v (Value.bool false),Ch.b p.num.natAbs a,Ch.b p.den a])) := by kernel_rfl
def goal_rSign (p : Rat) (a : Nat) (K : AV → Prop) : Prop := goalL T20 noO noL Tryd.f38 [rA p a] K
theorem goal_rSign_vc (p : Rat) (a : Nat) (K : AV → Prop) : goal_rSign p a K = (a≤4294967296∧bif decide (natBytes p.num.natAbs=[]) then K (AV.x false [Ch.v (Value.int IntKind.i64 0)]) else bif decide (p.num<0) then K (AV.x false [Ch.v (Value.int IntKind.i64 (-1))]) else K (AV.x false [Ch.v (Value.int IntKind.i64 1)])) := by kernel_rfl
def ot_rCmp : OT := fun id => bif id.beq 1 then ([0, 2, 1, 3, 4, 5], [[], [0], [], [2, 1, 0], [1, 0, 3, 2], [3, 2, 1, 0, 4]]) else bif id.beq 6 then ([0, 1, 2, 3, 5, 6, 7, 8, 4, 9, 10, 11], [[], [0], [], [2], [1, 0, 3, 2], [], [5], [], [7], [6, 5, 8, 7, 4, 1, 0, 3, 2], [4, 1, 0, 3, 2, 9, 6, 5, 8, 7], [10, 4, 1, 0, 3, 2, 9, 6, 5, 8, 7]]) else ([], [])
def goal_rCmp (p : Rat) (a : Nat) (q : Rat) (b : Nat) (K : AV → Prop) : Prop := goalL T20 ot_rCmp noL Tryd.f11 [rA p a, rA q b] K
theorem goal_rCmp_vc (p : Rat) (a : Nat) (q : Rat) (b : Nat) (K : AV → Prop) : goal_rCmp p a q b K = (a≤4294967296∧b≤4294967296∧True∧bif !decide (p.num<0)==decide (q.num<0) then bif decide (p.num<0) then K (AV.x false [Ch.v (Value.int IntKind.i64 (-1))]) else K (AV.x false [Ch.v (Value.int IntKind.i64 1)]) else (a≤274877906944∧b≤274877906944)∧(b≤274877906944∧a≤274877906944)∧bif decide (p.num<0) then K (AV.x false [Ch.v (Value.int IntKind.i64 (IntKind.i64.wrap (0-cmpN (p.num.natAbs*q.den) (q.num.natAbs*p.den))))]) else K (AV.x false [Ch.v (Value.int IntKind.i64 (cmpN (p.num.natAbs*q.den) (q.num.natAbs*p.den)))])) := by kernel_rfl
def sgnR (q : Rat) : Int := if q.num = 0 then 0 else if q.num < 0 then -1 else 1
theorem g_rOf (n : Int) (h0 : -9223372036854775808 ≤ n) (h1 : n < 9223372036854775808) : Holds (goal_rOf n (RatR (n : Rat) 64)) := by
 refine ⟨?_⟩
 rw [goal_rOf_vc]
 have key : ∀ m : Int, mkRat m 1 = (m : Rat) := fun m => by
  rw [Rat.mkRat_one]
 refine bif_mk (fun h => ?_) (fun h => ?_)
 ·have h := of_decide_eq_true h
  have e : ratMk false n.toNat 1 = (n : Rat) := by
   unfold ratMk
   rw [cond_false, key]
   congr 1
   omega
  rw [e]
  exact ⟨h1, by omega, .of (by omega)⟩
 ·have h := of_decide_eq_false h
  rw [w64 (n := n + 1) (by omega), w64 (by omega)]
  have e : ratMk true ((0 - (n + 1)).toNat + 1) 1 = (n : Rat) := by
   unfold ratMk
   rw [cond_true, key]
   congr 1
   omega
  rw [e]
  exact ⟨by omega, by omega, by omega, .of (by omega)⟩
theorem g_rAdd (p : Rat) (a : Nat) (q : Rat) (b : Nat) (h : a + b + 1 ≤ 4294967296) : Holds (goal_rAdd p a q b (RatR (p + q) (a + b + 1))) := by
 refine ⟨?_⟩
 rw [goal_rAdd_vc]
 have hp := p.den_nz
 have hq := q.den_nz
 refine ⟨by omega, by omega, bif_mk (fun hd => ?_) (fun hd => ?_)⟩
 ·have hd := of_decide_eq_true hd
  rw [ratMk_add_same p q hd]
  exact ⟨by omega, by omega, .of (by omega)⟩
 ·rw [ratMk_add]
  exact ⟨by omega, by omega, by omega, by omega, ⟨by omega, Nat.mul_ne_zero hp hq⟩, .of (by omega)⟩
theorem g_rMul (p : Rat) (a : Nat) (q : Rat) (b : Nat) (h : a + b ≤ 4294967296) : Holds (goal_rMul p a q b (RatR (p * q) (a + b))) := by
 refine ⟨?_⟩
 rw [goal_rMul_vc]
 refine ⟨by omega, by omega, trivial, by omega, by omega, ⟨by omega, Nat.mul_ne_zero p.den_nz q.den_nz⟩, ?_⟩
 have e := ratMk_mul p q
 rw [show (!(decide (p.num < 0) == decide (q.num < 0))) = (decide (p.num < 0) != decide (q.num < 0)) from rfl, e]
 exact .of (by omega)
/-- A rational and an error. -/
def RatE (q : Rat) (n : Nat) (e : Int) (av : AV) : Prop := ∃ b cs, av = .t [(b, cs), (false, [.v (.int .i64 e)])] ∧ RatR q n (.x b cs)
theorem RatE.conc {w : World} {O : Nat → Prop} {ρ : Env} {q : Rat} {n : Nat} {e : Int} {av : AV} {v : Value} (h : RatE q n e av) (hc : ConcV w O ρ av v) : ConcV w O ρ (.t [(true, [.r q n]), (false, [.v (.int .i64 e)])]) v := by
 obtain ⟨b, cs, rfl, hx⟩ := h
 obtain ⟨vs, h1, h2⟩ := hc
 cases h1 with
 | cons h1 h3 => cases h3 with
  | cons h3 h4 => exact ⟨_, .cons (hx.conc (av := .x b cs) h1) (.cons h3 h4), h2⟩
theorem g_rDiv (p : Rat) (a : Nat) (q : Rat) (b : Nat) (h : a + b ≤ 4294967296) (hq : q ≠ 0) : Holds (goal_rDiv p a q b (RatE (p / q) (a + b) 0)) := by
 refine ⟨?_⟩
 rw [goal_rDiv_vc]
 have hn : q.num ≠ 0 := fun e => hq (Rat.num_eq_zero.1 e)
 refine ⟨by omega, by omega, bif_mk (fun h0 => ?_) (fun _ => ⟨trivial, by omega, by omega, ⟨by omega, Nat.mul_ne_zero p.den_nz (by omega)⟩, ?_⟩)⟩
 ·have := natBytes_nil.1 (of_decide_eq_true h0)
  omega
 ·rw [show (!(decide (p.num < 0) == decide (q.num < 0))) = (decide (p.num < 0) != decide (q.num < 0)) from rfl, ratMk_div p q hn]
  exact ⟨_, _, rfl, .of (by omega)⟩
theorem g_rDiv0 (p : Rat) (a b : Nat) (h : a + b ≤ 4294967296) (K : AV → Prop) (hK : K (.t [(true, [.v (.bool false), .v (.string ⟨⟨[]⟩⟩), .v (.string ⟨⟨[]⟩⟩)]), (false, [.v (.int .i64 12)])])) : Holds (goal_rDiv p a 0 b K) := by
 refine ⟨?_⟩
 rw [goal_rDiv_vc]
 refine ⟨by omega, by omega, bif_mk (fun _ => hK) (fun h0 => ?_)⟩
 exact absurd (natBytes_nil.2 (by rfl)) (of_decide_eq_false h0)
theorem g_rNeg (p : Rat) (a : Nat) (h : a ≤ 4294967296) (hb : Bd a p) : Holds (goal_rNeg p a (RatR (-p) a)) := by
 refine ⟨?_⟩
 rw [goal_rNeg_vc]
 have hn : (-p).num = -p.num := rfl
 have hd : (-p).den = p.den := rfl
 have e2 : ((ByteArray.mk #[]).data.toList) = ([] : List UInt8) := rfl
 have mk : ∀ s : Bool, s = decide ((-p).num < 0) → RatR (-p) a (.x true [.v (.bool s), .b p.num.natAbs a, .b p.den a]) := fun s hs =>
  .inl ⟨s, _, _, rfl, hs, by rw [hn, Int.natAbs_neg]; exact .b hb.1, by rw [hd]; exact .b hb.2⟩
 refine ⟨h, bif_mk (fun h1 => mk _ ?_) (fun h1 => mk _ ?_)⟩
 ·have h1 : ¬ p.num < 0 := by simpa using h1
  show (!decide (natBytes p.num.natAbs = [])) = decide (-p.num < 0)
  rw [Bool.eq_iff_iff, decide_eq_true_eq, Bool.not_eq_true', decide_eq_false_iff_not, natBytes_nil]
  omega
 ·have h1 : p.num < 0 := by simpa using h1
  rw [hn, eq_comm, decide_eq_false_iff_not]
  omega
theorem g_rSign (p : Rat) (a : Nat) (h : a ≤ 4294967296) (K : AV → Prop) (hK : K (iA .i64 (sgnR p))) : Holds (goal_rSign p a K) := by
 refine ⟨?_⟩
 rw [goal_rSign_vc]
 unfold sgnR at hK
 refine ⟨h, bif_mk (fun h1 => ?_) (fun h1 => bif_mk (fun h2 => ?_) (fun h2 => ?_))⟩
 ·have h1 := natBytes_nil.1 (of_decide_eq_true h1)
  rw [if_pos (by omega)] at hK; exact hK
 ·have h1 : ¬ p.num.natAbs = 0 := fun e => of_decide_eq_false h1 (natBytes_nil.2 e)
  rw [if_neg (by omega), if_pos (of_decide_eq_true h2)] at hK; exact hK
 ·have h1 : ¬ p.num.natAbs = 0 := fun e => of_decide_eq_false h1 (natBytes_nil.2 e)
  rw [if_neg (by omega), if_neg (of_decide_eq_false h2)] at hK; exact hK
theorem cmpN_lim (m n : Nat) : -1 ≤ cmpN m n ∧ cmpN m n ≤ 1 := by unfold cmpN; split <;> (try split) <;> omega
theorem g_rCmp (p : Rat) (a : Nat) (q : Rat) (b : Nat) (h : a + b ≤ 4294967296) (K : AV → Prop) (hK : K (iA .i64 (cmpR p q))) : Holds (goal_rCmp p a q b K) := by
 refine ⟨?_⟩
 rw [goal_rCmp_vc]
 refine ⟨by omega, by omega, trivial, bif_mk (fun h1 => ?_) (fun h1 => ⟨by omega, by omega, ?_⟩)⟩
 ·refine bif_mk (fun h2 => ?_) (fun h2 => ?_)
  ·have h2 := of_decide_eq_true h2
   have h3 : ¬ q.num < 0 := fun h3 => by simp [h2, h3] at h1
   rw [cmpR_lt h2 h3] at hK; exact hK
  ·have h2 := of_decide_eq_false h2
   have h3 : q.num < 0 := by
    apply Classical.byContradiction
    intro h3
    simp [h2, h3] at h1
   rw [cmpR_gt h2 h3] at hK; exact hK
 ·have h1 : decide (p.num < 0) = decide (q.num < 0) := by simpa using h1
  rw [cmpR_same p q h1] at hK
  have hl := cmpN_lim (p.num.natAbs * q.den) (q.num.natAbs * p.den)
  refine bif_mk (fun h2 => ?_) (fun h2 => ?_)
  ·rw [h2, cond_true] at hK
   rw [w64 (by omega), Int.zero_sub]; exact hK
  ·rw [h2, cond_false] at hK; exact hK
def c_rOf : Ctr := fun as0 => match as0 with
 | [.x false [.v (.int .i64 n)]] => some fun K => (-9223372036854775808 ≤ n ∧ n < 9223372036854775808) ∧ K (rA (n : Rat) 64)
 | _ => none
def c_rAdd : Ctr := fun as0 => match as0 with
 | [.x true [.r p a], .x true [.r q b]] => some fun K => a + b + 1 ≤ 4294967296 ∧ K (rA (p + q) (a + b + 1))
 | _ => none
def c_rMul : Ctr := fun as0 => match as0 with
 | [.x true [.r p a], .x true [.r q b]] => some fun K => a + b ≤ 4294967296 ∧ K (rA (p * q) (a + b))
 | _ => none
def c_rDiv : Ctr := fun as0 => match as0 with
 | [.x true [.r p a], .x true [.r q b]] => some fun K => a + b ≤ 4294967296 ∧ (q ≠ 0 → K (.t [(true, [.r (p / q) (a + b)]), (false, [.v (.int .i64 0)])])) ∧ (q = 0 → K (.t [(true, [.v (.bool false), .v (.string ⟨⟨[]⟩⟩), .v (.string ⟨⟨[]⟩⟩)]), (false, [.v (.int .i64 12)])]))
 | _ => none
def c_rNeg : Ctr := fun as0 => match as0 with
 | [.x true [.r p a]] => some fun K => a ≤ 4294967296 ∧ K (rA (-p) a)
 | _ => none
def c_rSign : Ctr := fun as0 => match as0 with
 | [.x true [.r p a]] => some fun K => a ≤ 4294967296 ∧ K (iA .i64 (sgnR p))
 | _ => none
def c_rCmp : Ctr := fun as0 => match as0 with
 | [.x true [.r p a], .x true [.r q b]] => some fun K => a + b ≤ 4294967296 ∧ K (iA .i64 (cmpR p q))
 | _ => none
theorem ok_rOf : CtrOK Tryd.prog tabG debT 26 c_rOf := by
 refine ⟨enters Tryd.func26 (by kernel_rfl), fun l T hT K hK => ?_⟩
 unfold c_rOf at hT
 split at hT
 ·cases hT
  exact spec_ratR (spec_ofL T20ok mixed Tryd.func26 (by kernel_rfl) (by kernel_rfl) (by rfl) (g_rOf _ hK.1.1 hK.1.2)) hK.2
 ·cases hT
theorem ok_rAdd : CtrOK Tryd.prog tabG debT 72 c_rAdd := by
 refine ⟨enters Tryd.func72 (by kernel_rfl), fun l T hT K hK => ?_⟩
 unfold c_rAdd at hT
 split at hT
 ·cases hT
  exact spec_ratR (spec_ofL T20ok mixed Tryd.func72 (by kernel_rfl) (by kernel_rfl) (by rfl) (g_rAdd _ _ _ _ hK.1)) hK.2
 ·cases hT
theorem ok_rMul : CtrOK Tryd.prog tabG debT 71 c_rMul := by
 refine ⟨enters Tryd.func71 (by kernel_rfl), fun l T hT K hK => ?_⟩
 unfold c_rMul at hT
 split at hT
 ·cases hT
  exact spec_ratR (spec_ofL T20ok mixed Tryd.func71 (by kernel_rfl) (by kernel_rfl) (by rfl) (g_rMul _ _ _ _ hK.1)) hK.2
 ·cases hT
theorem ok_rDiv : CtrOK Tryd.prog tabG debT 25 c_rDiv := by
 refine ⟨enters Tryd.func25 (by kernel_rfl), fun l T hT K hK => ?_⟩
 unfold c_rDiv at hT
 split at hT
 ·rename_i p a q b
  cases hT
  by_cases hq : q = 0
  ·subst hq
   exact spec_ofL T20ok mixed Tryd.func25 (by kernel_rfl) (by kernel_rfl) (by rfl) (g_rDiv0 p a b hK.1 K (hK.2.2 rfl))
  ·exact Eng.Spec.res (spec_ofL T20ok mixed Tryd.func25 (by kernel_rfl) (by kernel_rfl) (by rfl) (g_rDiv p a q b hK.1 hq)) fun _ _ _ _ hn hc => ⟨_, hK.2.1 hq, hn.conc hc⟩
 ·cases hT
theorem ok_rNeg : CtrOK Tryd.prog tabG debT 73 c_rNeg := by
 refine ⟨enters Tryd.func73 (by kernel_rfl), fun l T hT K hK => ?_⟩
 unfold c_rNeg at hT
 split at hT
 ·cases hT
  exact spec_pre fun w O ρ vals hc => spec_ratR (spec_ofL T20ok mixed Tryd.func73 (by kernel_rfl) (by kernel_rfl) (by rfl) (g_rNeg _ _ hK.1 (conc_bd hc))) hK.2
 ·cases hT
theorem ok_rSign : CtrOK Tryd.prog tabG debT 38 c_rSign := by
 refine ⟨enters Tryd.func38 (by kernel_rfl), fun l T hT K hK => ?_⟩
 unfold c_rSign at hT
 split at hT
 ·cases hT
  exact spec_ofL T20ok mixed Tryd.func38 (by kernel_rfl) (by kernel_rfl) (by rfl) (g_rSign _ _ hK.1 K hK.2)
 ·cases hT
theorem ok_rCmp : CtrOK Tryd.prog tabG debT 11 c_rCmp := by
 refine ⟨enters Tryd.func11 (by kernel_rfl), fun l T hT K hK => ?_⟩
 unfold c_rCmp at hT
 split at hT
 ·cases hT
  exact spec_ofL T20ok mixed Tryd.func11 (by kernel_rfl) (by kernel_rfl) (by rfl) (g_rCmp _ _ _ _ hK.1 K hK.2)
 ·cases hT
def L21 : List (Nat × Ctr) := (26, c_rOf) :: (72, c_rAdd) :: (71, c_rMul) :: (25, c_rDiv) :: (73, c_rNeg) :: (38, c_rSign) :: (11, c_rCmp) :: L20
noncomputable def T21 : Tabs := mkT L21 M15 X4
theorem L21ok : CtrsOK Tryd.prog tabG debT L21 := .cons ok_rOf (.cons ok_rAdd (.cons ok_rMul (.cons ok_rDiv (.cons ok_rNeg (.cons ok_rSign (.cons ok_rCmp L20ok))))))
theorem T21ok : TabsOK Tryd.prog tabG debT T21 := mkTok L21ok M15ok X4ok
end Go.Proofs
/- Rationals, third part: Sub, Min, Max; numbers of the drawn inputs. -/
namespace Go.Proofs
open Go Go.Eng
def ot_rSub : OT := fun id => bif id.beq 1 then ([0, 1, 2, 3, 4], [[], [], [1], [0, 2, 1], [3, 0, 2, 1]]) else ([], [])
def goal_rSub (p : Rat) (a : Nat) (q : Rat) (b : Nat) (K : AV → Prop) : Prop := goalL T21 ot_rSub noL Tryd.f70 [rA p a, rA q b] K
theorem goal_rSub_vc (p : Rat) (a : Nat) (q : Rat) (b : Nat) (K : AV → Prop) : goal_rSub p a q b K = (b≤4294967296∧a+b+1≤4294967296∧K (AV.x true [Ch.r (p+ -q) (a+b+1)])) := by kernel_rfl
def goal_Below (x n : Int) (K : AV → Prop) : Prop := goalL T21 noO noL Tryd.f6 [iA .i64 x, iA .i64 n] K
theorem goal_Below_vc (x : Int) (n : Int) (K : AV → Prop) : goal_Below x n K = (n≠0∧bif decide (x.tmod n<0) then K (AV.x false [Ch.v (Value.int IntKind.i64 (IntKind.i64.wrap (x.tmod n+n)))]) else K (AV.x false [Ch.v (Value.int IntKind.i64 (x.tmod n))])) := by kernel_rfl
theorem cmp_le (p q : Rat) : cmpR p q ≤ 0 ↔ p ≤ q := by
 unfold cmpR
 split
 ·rename_i h; exact ⟨fun _ => Rat.le_of_lt h, fun _ => by decide⟩
 ·rename_i h
  split
  ·rename_i h2; subst h2; exact ⟨fun _ => Rat.le_refl, fun _ => by decide⟩
  ·rename_i h2
   constructor
   ·intro h3; exact absurd h3 (by decide)
   ·intro h3
    exfalso
    rcases Rat.le_iff_lt_or_eq.1 h3 with h4 | h4
    ·exact h h4
    ·exact h2 h4
theorem cmp_ge (p q : Rat) : cmpR p q ≥ 0 ↔ q ≤ p := by
 unfold cmpR
 split
 ·rename_i h
  constructor
  ·intro h3; exact absurd h3 (by decide)
  ·intro h3; exact absurd h (Rat.not_lt.2 h3)
 ·rename_i h
  exact ⟨fun _ => Rat.not_lt.1 h, fun _ => by split <;> decide⟩
theorem g_rSub (p : Rat) (a : Nat) (q : Rat) (b : Nat) (h : a + b + 1 ≤ 4294967296) (K : AV → Prop) (hK : K (rA (p - q) (a + b + 1))) : Holds (goal_rSub p a q b K) := by
 refine ⟨?_⟩
 rw [goal_rSub_vc]
 rw [Rat.sub_eq_add_neg] at hK
 exact ⟨by omega, by omega, hK⟩
theorem g_Below (x n : Int) (hn : 0 < n ∧ n < 9223372036854775808) (K : AV → Prop) (hK : K (iA .i64 (x % n))) : Holds (goal_Below x n K) := by
 refine ⟨?_⟩
 rw [goal_Below_vc]
 have h1 := Int.emod_nonneg x (by omega : n ≠ 0)
 have h2 := Int.emod_lt_of_pos x hn.1
 have hb : Int.tmod x n < n := by
  have := Int.tmod_lt_of_pos x hn.1
  exact this
 refine ⟨by omega, bif_mk (fun h => ?_) (fun h => ?_)⟩
 ·have h := of_decide_eq_true h
  have e : Int.tmod x n + n = x % n := by
   rw [Int.emod_eq_tmod]
   rw [if_neg]
   ·omega
   ·intro h'
    rcases h' with h' | h'
    ·have := Int.tmod_nonneg n h'; omega
    ·rw [Int.tmod_eq_zero_of_dvd h'] at h; omega
  rw [e, w64 (by omega)]
  exact hK
 ·have h := of_decide_eq_false h
  have e : Int.tmod x n = x % n := by
   rw [Int.tmod_eq_emod]
   split
   ·omega
   ·rename_i h'
    exfalso
    have h3 : x < 0 := by omega
    have h4 : ¬ n ∣ x := by omega
    have := Int.tmod_eq_emod (a := x) (b := n)
    rw [if_neg h'] at this
    omega
  rw [e]
  exact hK
def c_rSub : Ctr := fun as0 => match as0 with
 | [.x true [.r p a], .x true [.r q b]] => some fun K => a + b + 1 ≤ 4294967296 ∧ K (rA (p - q) (a + b + 1))
 | _ => none
def c_Below : Ctr := fun as0 => match as0 with
 | [.x false [.v (.int .i64 x)], .x false [.v (.int .i64 n)]] => some fun K => (0 < n ∧ n < 9223372036854775808) ∧ K (iA .i64 (x % n))
 | _ => none
theorem ok_rSub : CtrOK Tryd.prog tabG debT 70 c_rSub := by
 refine ⟨enters Tryd.func70 (by kernel_rfl), fun l T hT K hK => ?_⟩
 unfold c_rSub at hT
 split at hT
 ·cases hT
  exact spec_ofL T21ok mixed Tryd.func70 (by kernel_rfl) (by kernel_rfl) (by rfl) (g_rSub _ _ _ _ hK.1 K hK.2)
 ·cases hT
theorem ok_Below : CtrOK Tryd.prog tabG debT 6 c_Below := by
 refine ⟨enters Tryd.func6 (by kernel_rfl), fun l T hT K hK => ?_⟩
 unfold c_Below at hT
 split at hT
 ·cases hT
  exact spec_ofL T21ok mixed Tryd.func6 (by kernel_rfl) (by kernel_rfl) (by rfl) (g_Below _ _ hK.1 K hK.2)
 ·cases hT
def L22 : List (Nat × Ctr) := (70, c_rSub) :: (6, c_Below) :: L21
noncomputable def T22 : Tabs := mkT L22 M15 X4
theorem L22ok : CtrsOK Tryd.prog tabG debT L22 := .cons ok_rSub (.cons ok_Below L21ok)
theorem T22ok : TabsOK Tryd.prog tabG debT T22 := mkTok L22ok M15ok X4ok
end Go.Proofs
/- Numbers of the drawn inputs: slices.Reverse, digits, gantmake.Of. -/
namespace Go.Proofs
open Go Go.Eng
structure RevX (α : Type) where
 xs : List α
 i : Nat
/-- So many elements at both ends are in their places. -/
structure RevI {α : Type} (l : List α) (x : RevX α) : Prop where
  len : x.xs.length = l.length
  hi : 2 * x.i ≤ l.length + 1
  get : ∀ p, x.xs[p]? = if p < x.i ∨ l.length - x.i ≤ p then l.reverse[p]? else l[p]?
def inv_revB (l : List UInt8) : LI := fun _ => .inv ⟨RevX UInt8, fun x => ⟨[(0, .x false [.w 1000 0 l.length]), (2, iA .i64 x.i), (3, iA .i64 ((l.length : Int) - 1 - x.i))], [(1000, rowB x.xs)]⟩, RevI l, fun x => l.length - x.i, fun _ => 0⟩
def ot_revB : OT := fun id => bif id.beq 3 then ([0, 1, 2, 3, 4, 5, 6, 7, 8, 9, 10, 11, 12, 13, 14, 15], [[], [], [], [], [], [], [4, 5], [6, 4, 5], [], [], [8, 9], [10, 8, 9], [0, 1, 4, 5, 6, 7, 11, 10, 8, 9], [12, 0, 1, 4, 5, 6, 7, 11, 10, 8, 9], [2, 3, 0, 1, 4, 5, 6, 7, 8, 9, 10, 11, 12, 13], [14, 2, 3, 0, 1, 4, 5, 6, 7, 8, 9, 10, 11, 12, 13]]) else ([], [])
def goal_revB (l : List UInt8) : Prop := goalM (X := Unit) T22 ot_revB (inv_revB l) Tryd.f45 [.x false [.w 1000 0 l.length]] [(1000, rowB l)] (fun _ => True) (fun _ => ⟨[], [(1000, rowB l.reverse)]⟩)
theorem goal_revB_vc (l : List UInt8) : goal_revB l = ((∃(x:RevX UInt8),(RevI l x∧OfNat.ofNat 0=0)∧0=0∧l.length=l.length∧0=Int.ofNat x.i∧IntKind.i64.wrap (Int.ofNat l.length-1)=Int.ofNat l.length-1-Int.ofNat x.i∧5=5∧1=1∧(List.map byteEl l=List.map byteEl x.xs∨RowLE (List.map byteEl l) (List.map byteEl x.xs))∧True)∧∀(x:RevX UInt8),RevI l x→OfNat.ofNat 0=0→bif decide (Int.ofNat x.i<Int.ofNat l.length-1-Int.ofNat x.i) then (0≤Int.ofNat l.length-1-Int.ofNat x.i∧Int.ofNat l.length-1-Int.ofNat x.i<Int.ofNat l.length)∧∃(d:Int),ldE (List.map byteEl x.xs) (0+(Int.ofNat l.length-1-Int.ofNat x.i).toNat) 0 1=some [Ch.v (Value.int IntKind.u8 d)]∧(0≤Int.ofNat x.i∧Int.ofNat x.i<Int.ofNat l.length)∧∃(d_1:Int),ldE (List.map byteEl x.xs) (0+(Int.ofNat x.i).toNat) 0 1=some [Ch.v (Value.int IntKind.u8 d_1)]∧(0≤Int.ofNat x.i∧Int.ofNat x.i<Int.ofNat l.length)∧0+(Int.ofNat x.i).toNat<(List.map byteEl x.xs).length∧(0≤Int.ofNat l.length-1-Int.ofNat x.i∧Int.ofNat l.length-1-Int.ofNat x.i<Int.ofNat l.length)∧0+(Int.ofNat l.length-1-Int.ofNat x.i).toNat<((List.map byteEl x.xs).set (0+(Int.ofNat x.i).toNat) [Ch.v (Value.int IntKind.u8 d)]).length∧∃(x':RevX UInt8),(RevI l x'∧OfNat.ofNat 0=0∧l.length-x'.i<l.length-x.i)∧0=0∧l.length=l.length∧IntKind.i64.wrap (Int.ofNat x.i+1)=Int.ofNat x'.i∧IntKind.i64.wrap (Int.ofNat l.length-1-Int.ofNat x.i-1)=Int.ofNat l.length-1-Int.ofNat x'.i∧5=5∧1=1∧(((List.map byteEl x.xs).set (0+(Int.ofNat x.i).toNat) [Ch.v (Value.int IntKind.u8 d)]).set (0+(Int.ofNat l.length-1-Int.ofNat x.i).toNat) [Ch.v (Value.int IntKind.u8 d_1)]=List.map byteEl x'.xs∨RowLE (((List.map byteEl x.xs).set (0+(Int.ofNat x.i).toNat) [Ch.v (Value.int IntKind.u8 d)]).set (0+(Int.ofNat l.length-1-Int.ofNat x.i).toNat) [Ch.v (Value.int IntKind.u8 d_1)]) (List.map byteEl x'.xs))∧True else ∃(_x_1:Unit),True∧5=5∧1=1∧(List.map byteEl x.xs=List.map byteEl l.reverse∨RowLE (List.map byteEl x.xs) (List.map byteEl l.reverse))∧True) := by kernel_rfl
def rowR (n : Nat) (qs : List Rat) : Blk := .row 27 3 (qs.map fun q => [Ch.r q n])
theorem RevI.step {α : Type} {l : List α} {x : RevX α} (h : RevI l x) (hi : x.i < l.length - 1 - x.i) {a b : α} (ha : x.xs[l.length - 1 - x.i]? = some a) (hb : x.xs[x.i]? = some b) : RevI l ⟨(x.xs.set x.i a).set (l.length - 1 - x.i) b, x.i + 1⟩ := by
 obtain ⟨len, _, get⟩ := h
 refine ⟨by simpa using len, by simp only; omega, fun p => ?_⟩
 simp only
 by_cases h1 : p = l.length - 1 - x.i
 ·subst h1
  rw [List.getElem?_set, if_pos rfl, if_pos (by rw [List.length_set]; omega), if_pos (by omega), List.getElem?_reverse (by omega), ← hb, get, if_neg (by omega)]
  congr 1; omega
 ·rw [List.getElem?_set_ne (by omega)]
  by_cases h2 : p = x.i
  ·subst h2
   rw [List.getElem?_set, if_pos rfl, if_pos (by omega), if_pos (by omega), List.getElem?_reverse (by omega), ← ha, get, if_neg (by omega)]
  ·rw [List.getElem?_set_ne (by omega), get]
   by_cases h3 : p < x.i ∨ l.length - x.i ≤ p
   ·rw [if_pos h3, if_pos (by omega)]
   ·rw [if_neg h3, if_neg (by omega)]
theorem RevI.done {α : Type} {l : List α} {x : RevX α} (h : RevI l x) (hi : ¬ (x.i : Int) < (l.length : Int) - 1 - x.i) : x.xs = l.reverse := by
 obtain ⟨len, h1, get⟩ := h
 apply List.ext_getElem?
 intro p
 rw [get]
 split
 ·rfl
 ·rename_i h3
  have hp : p < l.length := by omega
  rw [List.getElem?_reverse hp]
  congr 1; omega
theorem RevI.start {α : Type} (l : List α) : RevI l ⟨l, 0⟩ := ⟨rfl, by simp, fun p => by
 simp only
 split
 ·rename_i h
  rw [List.getElem?_eq_none (by omega), List.getElem?_eq_none (by rw [List.length_reverse]; omega)]
 ·rfl⟩
theorem g_revB (l : List UInt8) (hl : l.length ≤ 1099511627776) : Holds (goal_revB l) := by
 refine ⟨?_⟩
 rw [goal_revB_vc]
 simp only [Int.ofNat_eq_natCast, true_and, and_true, Nat.zero_add, true_implies]
 refine ⟨⟨⟨l, 0⟩, .start l, rfl, by rw [w64 (by omega)]; simp, .inl rfl⟩, fun x hx => bif_mk (fun hp => ?_) (fun hp => ?_)⟩
 ·have hp := of_decide_eq_true hp
  have len := hx.len
  have hi := hx.hi
  obtain ⟨a, ha⟩ : ∃ a, x.xs[l.length - 1 - x.i]? = some a := ⟨_, List.getElem?_eq_getElem (by omega)⟩
  obtain ⟨b, hb⟩ : ∃ b, x.xs[x.i]? = some b := ⟨_, List.getElem?_eq_getElem (by omega)⟩
  have e1 : ((l.length : Int) - 1 - x.i).toNat = l.length - 1 - x.i := by omega
  have ld : ∀ {j : Nat} {c : UInt8}, x.xs[j]? = some c → ldE (x.xs.map byteEl) j 0 1 = some [.v (.int .u8 (c.toNat : Int))] := fun h => by
   simp only [ldE, List.getElem?_map, h]; rfl
  simp only [e1, Int.toNat_natCast]
  refine ⟨by omega, _, ld ha, by omega, _, ld hb, by omega, by rw [List.length_map]; omega, by omega, by rw [List.length_set, List.length_map]; omega, _, ⟨hx.step (by omega) ha hb, by simp only; omega⟩, ?_, ?_, .inl ?_⟩
  ·rw [w64 (by omega)]; simp
  ·rw [w64 (by omega)]; simp only; omega
  ·rw [byte_set _ _ _ _ rfl, byte_set _ _ _ _ rfl]
 ·have hp := of_decide_eq_false hp
  rw [hx.done hp]
  exact ⟨(), .inl rfl⟩
def c_revB : CtrM := fun as0 H _ => match as0 with
 | [.x false [.w k 0 n]] => match H k with
  | some (.row t 1 xs) => bif t.beq 5 then
    some fun K => ∃ bs : List UInt8, xs = bs.map byteEl ∧ n = bs.length ∧ bs.length ≤ 1099511627776 ∧ K (.t []) (backH [(1000, k)] (lookH [(1000, rowB bs.reverse)]) H)
    else none
  | _ => none
 | _ => none
theorem ok_revB : CtrMOK Tryd.prog tabG debT 45 c_revB := by
 refine ⟨enters Tryd.func45 (by kernel_rfl), fun l H d T hT K hK => ?_⟩
 unfold c_revB at hT
 split at hT
 ·rename_i k n
  split at hT
  ·rename_i t xs e1
   cases hb : t.beq 5 with
   | false => rw [hb] at hT; cases hT
   | true =>
    rw [hb] at hT
    cases hT
    have ht := Nat.eq_of_beq_eq_true hb
    subst ht
    obtain ⟨bs, rfl, rfl, hl, hK⟩ := hK
    refine specM_of (R := [(1000, k)]) (N := []) (Hl := [(1000, rowB bs)]) T22ok mixed Tryd.func45 (by kernel_rfl) (by kernel_rfl) (by rfl)
     (as0 := [.x false [.w 1000 0 bs.length]]) ?_ (hand1 e1 rfl rfl) rfl (by simp) (by simp) (fun _ h => by cases h) (fun x => ⟨fun p hp => ?_, fun p hp b hb => ?_⟩) (g_revB bs hl) (fun _ _ => ?_)
    ·simp [renAs, renAV, renCh, lkB]
    ·simp at hp
     subst hp
     exact fun h => by have h' : some (rowB _) = none := h; cases h'
    ·simp at hp
     subst hp
     have h' : some (rowB _) = some b := hb; cases h'; rfl
    ·exact ⟨_, rfl, hK⟩
  ·cases hT
 ·cases hT
def M23 : List (Nat × CtrM) := (45, c_revB) :: M15
noncomputable def T23 : Tabs := mkT L22 M23 X4
theorem M23ok : CtrMsOK Tryd.prog tabG debT M23 := .cons ok_revB M15ok
theorem T23ok : TabsOK Tryd.prog tabG debT T23 := mkTok L22ok M23ok X4ok
structure DigX where
 m : Nat
 bs : List UInt8
def inv_digits (n : Nat) : LI := fun _ => .inv ⟨DigX, fun x => ⟨[(0, iA .i64 x.m), (3, .x false [.w 500 0 x.bs.length])], [(500, rowB x.bs)]⟩, fun x => natBytes n = natBytes x.m ++ x.bs.reverse ∧ x.m ≤ n, fun x => x.m, fun _ => 0⟩
def ot_digits : OT := fun _ => ([], [])
def goal_digits (n : Nat) (K : AV → Prop) : Prop := goalL T23 ot_digits (inv_digits n) Tryd.f35 [iA .i64 n] K
theorem goal_digits_vc (n : Nat) (K : AV → Prop) : goal_digits n K = ((∃(x:DigX),((natBytes n=natBytes x.m++x.bs.reverse∧x.m≤n)∧OfNat.ofNat 0=0)∧Int.ofNat n=Int.ofNat x.m∧Value.slice none 0 0=Value.slice none 0 0∧0=0∧x.bs.length=0∧List.map byteEl x.bs=[]∧True)∧∀(x:DigX),natBytes n=natBytes x.m++x.bs.reverse∧x.m≤n→OfNat.ofNat 0=0→bif decide (Int.ofNat x.m>0) then (256:Int)≠0∧((x.bs.length+1)*1≤140737488355328∧x.bs.length+1≤9223372036854775807)∧(256:Int)≠0∧∃(x':DigX),((natBytes n=natBytes x'.m++x'.bs.reverse∧x'.m≤n)∧OfNat.ofNat 0=0∧x'.m<x.m)∧IntKind.i64.wrap ((Int.ofNat x.m).tdiv 256)=Int.ofNat x'.m∧0=0∧x.bs.length+1=x'.bs.length∧5=5∧1=1∧(List.take x.bs.length (List.map byteEl x.bs)++[[Ch.v (Value.int IntKind.u8 (IntKind.u8.wrap ((Int.ofNat x.m).tmod 256)))]]=List.map byteEl x'.bs∨RowLE (List.take x.bs.length (List.map byteEl x.bs)++[[Ch.v (Value.int IntKind.u8 (IntKind.u8.wrap ((Int.ofNat x.m).tmod 256)))]]) (List.map byteEl x'.bs))∧True else ∃(bs:List UInt8),List.map byteEl x.bs=List.map byteEl bs∧x.bs.length=bs.length∧bs.length≤1099511627776∧∃(bs_1:List UInt8),List.take x.bs.length (List.drop 0 (List.map byteEl bs.reverse))=List.map byteEl bs_1∧K (AV.x false [Ch.v (Value.string (ByteArray.mk (Array.mk bs_1)))])) := by kernel_rfl
theorem g_digits (n : Nat) (hn : n < 9223372036854775808) : Holds (goal_digits n (NatIs n 63)) := by
 refine ⟨?_⟩
 rw [goal_digits_vc]
 simp only [Int.ofNat_eq_natCast, true_and, and_true, true_implies]
 have hlen : (natBytes n).length ≤ 63 := natBytes_len (show n < 2 ^ 63 from hn)
 refine ⟨⟨⟨n, []⟩, ⟨by simp, Nat.le_refl _⟩, rfl, rfl, rfl⟩, fun x hx => bif_mk (fun hp => ?_) (fun hp => ?_)⟩
 ·obtain ⟨m, bs⟩ := x
  obtain ⟨h1, h2⟩ := hx
  simp only at h1 h2 hp ⊢
  have hp := of_decide_eq_true hp
  have hl := congrArg List.length h1
  rw [List.length_append, List.length_reverse] at hl
  have e1 : (m : Int).tdiv 256 = ((m / 256 : Nat) : Int) := by rw [te (by omega)]; omega
  have e2 : IntKind.u8.wrap ((m : Int).tmod 256) = ((UInt8.ofNat (m % 256)).toNat : Int) := by
   rw [tm (by omega), UInt8.toNat_ofNat', wu8 (by omega)]; omega
  rw [e1, e2, w64 (by omega)]
  refine ⟨by omega, by omega, by omega, ⟨m / 256, bs ++ [UInt8.ofNat (m % 256)]⟩, ⟨⟨?_, by simp only; omega⟩, by simp only; omega⟩, rfl, by simp, .inl ?_⟩
  ·simp only
   rw [h1, natBytes_succ m (by omega)]
   simp
  ·simp only
   rw [List.take_of_length_le (by simp), List.map_append]; rfl
 ·obtain ⟨m, bs⟩ := x
  obtain ⟨h1, h2⟩ := hx
  simp only at h1 h2 hp ⊢
  have hp := of_decide_eq_false hp
  have hm : m = 0 := by omega
  subst hm
  have hl := congrArg List.length h1
  rw [List.length_append, List.length_reverse] at hl
  rw [natBytes_zero, List.nil_append] at h1
  refine ⟨bs, rfl, rfl, by omega, bs.reverse, ?_, hn, .inr ⟨_, rfl, h1.symm⟩⟩
  rw [List.drop_zero, List.take_of_length_le (by simp)]
def c_digits : Ctr := fun as0 => match as0 with
 | [.x false [.v (.int .i64 n)]] => some fun K => (0 ≤ n ∧ n < 9223372036854775808) ∧ K (bA n.toNat 63)
 | _ => none
theorem ok_digits : CtrOK Tryd.prog tabG debT 35 c_digits := by
 refine ⟨enters Tryd.func35 (by kernel_rfl), fun l T hT K hK => ?_⟩
 unfold c_digits at hT
 split at hT
 ·cases hT
  obtain ⟨⟨h0, h1⟩, hK⟩ := hK
  rename_i n
  obtain ⟨n, rfl⟩ := Int.eq_ofNat_of_zero_le h0
  exact spec_nat (spec_ofL T23ok mixed Tryd.func35 (by kernel_rfl) (by kernel_rfl) (by rfl) (g_digits n (by omega))) hK
 ·cases hT
def L24 : List (Nat × Ctr) := (35, c_digits) :: L22
noncomputable def T24 : Tabs := mkT L24 M23 X4
theorem L24ok : CtrsOK Tryd.prog tabG debT L24 := .cons ok_digits L22ok
theorem T24ok : TabsOK Tryd.prog tabG debT T24 := mkTok L24ok M23ok X4ok
structure OfX where
 a : Nat
 b : Nat
def zeroR : List Ch := [.v (.bool false), .v (.string ⟨⟨[]⟩⟩), .v (.string ⟨⟨[]⟩⟩)]
def inv_mOf (num den : Int) : LI := fun _ => .inv ⟨OfX, fun x => ⟨[(0, iA .i64 num), (1, iA .i64 den), (4, .x false [.p 4 0]), (5, iA .i64 x.a), (6, iA .i64 x.b)], [(4, .box 27 zeroR)]⟩, fun x => Nat.gcd x.a x.b = Nat.gcd num.natAbs den.natAbs ∧ x.a < 9223372036854775808 ∧ x.b < 9223372036854775808, fun x => x.b, fun _ => 0⟩
def ot_mOf : OT := fun id => bif id.beq 3 then ([0, 1, 2, 3, 4, 5], [[], [], [], [1, 2], [0, 1], [3, 1, 2, 4, 0]]) else bif id.beq 4 then ([0, 1, 2, 3, 4, 5, 6, 7], [[], [], [0, 1], [], [], [3, 4], [2, 0, 1], [5, 3, 4, 6, 2, 0, 1]]) else ([], [])
def goal_mOf (num den : Int) (K : AV → Prop) : Prop := goalL T24 ot_mOf (inv_mOf num den) Tryd.f22 [iA .i64 num, iA .i64 den] K
theorem goal_mOf_vc (num : Int) (den : Int) (K : AV → Prop) : goal_mOf num den K = ((∃(x:OfX),((x.a.gcd x.b=num.natAbs.gcd den.natAbs∧x.a<9223372036854775808∧x.b<9223372036854775808)∧OfNat.ofNat 0=0)∧num=num∧den=den∧0=0∧(bif true then if IntKind.i64.wrap (0-num)>num then IntKind.i64.wrap (0-num) else num else if IntKind.i64.wrap (0-num)<num then IntKind.i64.wrap (0-num) else num)=Int.ofNat x.a∧den=Int.ofNat x.b∧27=27∧false=false∧ByteArray.mk (Array.mk [])=ByteArray.mk (Array.mk [])∧ByteArray.mk (Array.mk [])=ByteArray.mk (Array.mk [])∧True)∧∀(x:OfX),x.a.gcd x.b=num.natAbs.gcd den.natAbs∧x.a<9223372036854775808∧x.b<9223372036854775808→OfNat.ofNat 0=0→bif decide (Int.ofNat x.b>0) then Int.ofNat x.b≠0∧∃(x':OfX),((x'.a.gcd x'.b=num.natAbs.gcd den.natAbs∧x'.a<9223372036854775808∧x'.b<9223372036854775808)∧OfNat.ofNat 0=0∧x'.b<x.b)∧num=num∧den=den∧0=0∧Int.ofNat x.b=Int.ofNat x'.a∧(Int.ofNat x.a).tmod (Int.ofNat x.b)=Int.ofNat x'.b∧27=27∧false=false∧ByteArray.mk (Array.mk [])=ByteArray.mk (Array.mk [])∧ByteArray.mk (Array.mk [])=ByteArray.mk (Array.mk [])∧True else Int.ofNat x.a≠0∧Int.ofNat x.a≠0∧((0≤bif true then if IntKind.i64.wrap (0-IntKind.i64.wrap (num.tdiv (Int.ofNat x.a)))>IntKind.i64.wrap (num.tdiv (Int.ofNat x.a)) then IntKind.i64.wrap (0-IntKind.i64.wrap (num.tdiv (Int.ofNat x.a))) else IntKind.i64.wrap (num.tdiv (Int.ofNat x.a)) else if IntKind.i64.wrap (0-IntKind.i64.wrap (num.tdiv (Int.ofNat x.a)))<IntKind.i64.wrap (num.tdiv (Int.ofNat x.a)) then IntKind.i64.wrap (0-IntKind.i64.wrap (num.tdiv (Int.ofNat x.a))) else IntKind.i64.wrap (num.tdiv (Int.ofNat x.a)))∧(bif true then if IntKind.i64.wrap (0-IntKind.i64.wrap (num.tdiv (Int.ofNat x.a)))>IntKind.i64.wrap (num.tdiv (Int.ofNat x.a)) then IntKind.i64.wrap (0-IntKind.i64.wrap (num.tdiv (Int.ofNat x.a))) else IntKind.i64.wrap (num.tdiv (Int.ofNat x.a)) else if IntKind.i64.wrap (0-IntKind.i64.wrap (num.tdiv (Int.ofNat x.a)))<IntKind.i64.wrap (num.tdiv (Int.ofNat x.a)) then IntKind.i64.wrap (0-IntKind.i64.wrap (num.tdiv (Int.ofNat x.a))) else IntKind.i64.wrap (num.tdiv (Int.ofNat x.a)))<9223372036854775808)∧(0≤IntKind.i64.wrap (den.tdiv (Int.ofNat x.a))∧IntKind.i64.wrap (den.tdiv (Int.ofNat x.a))<9223372036854775808)∧K (AV.x true [Ch.v (Value.bool (decide (IntKind.i64.wrap (num.tdiv (Int.ofNat x.a))<0))),Ch.b (bif true then if IntKind.i64.wrap (0-IntKind.i64.wrap (num.tdiv (Int.ofNat x.a)))>IntKind.i64.wrap (num.tdiv (Int.ofNat x.a)) then IntKind.i64.wrap (0-IntKind.i64.wrap (num.tdiv (Int.ofNat x.a))) else IntKind.i64.wrap (num.tdiv (Int.ofNat x.a)) else if IntKind.i64.wrap (0-IntKind.i64.wrap (num.tdiv (Int.ofNat x.a)))<IntKind.i64.wrap (num.tdiv (Int.ofNat x.a)) then IntKind.i64.wrap (0-IntKind.i64.wrap (num.tdiv (Int.ofNat x.a))) else IntKind.i64.wrap (num.tdiv (Int.ofNat x.a))).toNat 63,Ch.b (IntKind.i64.wrap (den.tdiv (Int.ofNat x.a))).toNat 63])) := by kernel_rfl
theorem max_abs {n : Int} (h0 : -9223372036854775808 < n) (h1 : n < 9223372036854775808) : (bif true then if IntKind.i64.wrap (0 - n) > n then IntKind.i64.wrap (0 - n) else n else if IntKind.i64.wrap (0 - n) < n then IntKind.i64.wrap (0 - n) else n) = (n.natAbs : Int) := by
 simp only [cond_true]
 rw [w64 (by omega)]
 split <;> omega
theorem mk_ratMk (num : Int) (d : Nat) : mkRat num d = ratMk (decide (num < 0)) num.natAbs d := by
 unfold ratMk
 congr 1
 by_cases h : num < 0
 ·simp only [h, decide_true, cond_true]; omega
 ·simp only [h, decide_false, cond_false]; omega
theorem mk_num (num : Int) (d : Nat) (hd : d ≠ 0) : (mkRat num d).num = num.tdiv (Nat.gcd num.natAbs d : Nat) := by
 rw [mk_ratMk, ratMk_num _ _ _ hd]
 by_cases h : num < 0
 ·simp only [h, decide_true, cond_true]
  have e : num = -(num.natAbs : Int) := by omega
  conv => rhs; rw [e, Int.neg_tdiv]
  simp
 ·simp only [h, decide_false, cond_false]
  have e : num = (num.natAbs : Int) := by omega
  conv => rhs; rw [e]
  rw [te (by omega)]
  simp
theorem mk_den (num : Int) (d : Nat) (hd : d ≠ 0) : (mkRat num d).den = d / Nat.gcd num.natAbs d := by
 rw [mk_ratMk, ratMk_den _ _ _ hd]
theorem g_mOf (num : Int) (den : Nat) (h0 : -9223372036854775808 < num ∧ num < 9223372036854775808) (h1 : 0 < den ∧ den < 9223372036854775808) : Holds (goal_mOf num den (RatIs (mkRat num den) 63)) := by
 refine ⟨?_⟩
 rw [goal_mOf_vc]
 rw [max_abs h0.1 h0.2]
 simp only [Int.ofNat_eq_natCast, true_and, and_true, true_implies]
 refine ⟨⟨⟨num.natAbs, den⟩, ⟨by simp, by simp only; omega, by simp only; omega⟩, rfl, rfl⟩, fun x hx => bif_mk (fun hp => ?_) (fun hp => ?_)⟩
 ·obtain ⟨hg, ha, hb⟩ := hx
  have hp := of_decide_eq_true hp
  have hm := Nat.mod_lt x.a (by omega : 0 < x.b)
  refine ⟨by omega, ⟨x.b, x.a % x.b⟩, ⟨⟨?_, hb, by simp only; omega⟩, hm⟩, rfl, by rw [tm (by omega)]; simp⟩
  rw [← hg, Nat.gcd_comm x.b, ← Nat.gcd_rec, Nat.gcd_comm]
 ·obtain ⟨hg, ha, hb⟩ := hx
  have hp := of_decide_eq_false hp
  have hb0 : x.b = 0 := by omega
  rw [hb0, Nat.gcd_zero_right, Int.natAbs_natCast] at hg
  have hd : den ≠ 0 := by omega
  have hpos : 0 < Nat.gcd num.natAbs den := Nat.gcd_pos_of_pos_right _ (by omega)
  rw [hg]
  have en := mk_num num den hd
  have ed := mk_den num den hd
  have e1 : (den : Int).tdiv (Nat.gcd num.natAbs den : Nat) = ((den / Nat.gcd num.natAbs den : Nat) : Int) := by rw [te (by omega)]; simp
  have hle : den / Nat.gcd num.natAbs den ≤ den := Nat.div_le_self _ _
  have hle2 : (num.tdiv (Nat.gcd num.natAbs den : Nat)).natAbs ≤ num.natAbs := by
   rw [Int.natAbs_tdiv, Int.natAbs_natCast]; exact Nat.div_le_self _ _
  rw [e1]
  generalize num.tdiv (Nat.gcd num.natAbs den : Nat) = t at en hle2 ⊢
  generalize den / Nat.gcd num.natAbs den = d at ed hle ⊢
  rw [w64 (n := t) (by omega), w64 (n := (d : Int)) (by omega), max_abs (by omega) (by omega), Int.toNat_natCast, Int.toNat_natCast]
  refine ⟨by omega, by omega, by omega, by omega, _, _, _, rfl, by rw [en], ?_, ?_⟩
  ·rw [en]; exact .b (by show _ < 9223372036854775808; omega)
  ·rw [ed]; exact .b (by show _ < 9223372036854775808; omega)
def c_mOf : Ctr := fun as0 => match as0 with
 | [.x false [.v (.int .i64 n)], .x false [.v (.int .i64 d)]] => some fun K => ((-9223372036854775808 < n ∧ n < 9223372036854775808) ∧ 0 < d ∧ d < 9223372036854775808) ∧ K (rA (mkRat n d.toNat) 63)
 | _ => none
theorem ok_mOf : CtrOK Tryd.prog tabG debT 22 c_mOf := by
 refine ⟨enters Tryd.func22 (by kernel_rfl), fun l T hT K hK => ?_⟩
 unfold c_mOf at hT
 split at hT
 ·cases hT
  obtain ⟨⟨h0, h1, h2⟩, hK⟩ := hK
  rename_i n d
  obtain ⟨d, rfl⟩ := Int.eq_ofNat_of_zero_le (by omega : 0 ≤ d)
  exact spec_rat (spec_ofL T24ok mixed Tryd.func22 (by kernel_rfl) (by kernel_rfl) (by rfl) (g_mOf n d h0 (by omega))) hK
 ·cases hT
def L25 : List (Nat × Ctr) := (22, c_mOf) :: L24
theorem L25ok : CtrsOK Tryd.prog tabG debT L25 := .cons ok_mOf L24ok
def L26 : List (Nat × Ctr) := L25
noncomputable def T26 : Tabs := mkT L26 M23 X4
theorem L26ok : CtrsOK Tryd.prog tabG debT L26 := L25ok
theorem T26ok : TabsOK Tryd.prog tabG debT T26 := mkTok L26ok M23ok X4ok
end Go.Proofs
/- Lists of numbers: slices.Clone, slices.Equal. -/
namespace Go.Proofs
open Go Go.Eng
def lR (n : Nat) (qs : List Rat) : List (List Ch) := qs.map fun q => [Ch.r q n]
theorem mkRat_nn {n : Int} {d : Nat} (h : 0 ≤ n) : 0 ≤ mkRat n d := Rat.num_nonneg.1 (by
 by_cases hd : d = 0
 ·subst hd; simp
 ·rw [mk_num _ _ hd]; exact Int.tdiv_nonneg h (Int.natCast_nonneg _))
theorem mkRat_pos {n : Int} {d : Nat} (h : 0 < n) (hd : d ≠ 0) : 0 < mkRat n d := by
 refine Rat.lt_iff_le_and_ne.2 ⟨mkRat_nn (by omega), fun e => ?_⟩
 have := (Rat.mkRat_eq_zero hd).1 e.symm
 omega
theorem lR_len (n : Nat) (qs : List Rat) : (lR n qs).length = qs.length := by simp [lR]
theorem lR_ld {n : Nat} {qs : List Rat} {i : Nat} {q : Rat} (h : qs[i]? = some q) : ldE (lR n qs) i 0 3 = some [.r q n] := by
 simp only [ldE, lR, List.getElem?_map, h]; rfl
end Go.Proofs
