/- rat.whole, nat.Int, rat.Floor. -/
import Derived.Test.YtglebancgilfdaaGreatDoorA1
import Derived.Test.YtglebancgilfdaaGreatDoorFC
import Derived.Test.YtglebancgilfdaaGreatDoorPA
open Int renaming ofNat_eq_natCast → Za, ofNat → Ze, mul_comm → Zj, neg_mul → Zk
open ByteArray renaming mk → Zb
open Nat renaming zero_add → Zc, le_refl → Zd
open Array renaming mk → Zf
open Go.Eng.Ch renaming r → Zg
open List renaming drop → Zh, tail_cons → Zi
/- rat.whole, nat.Int, rat.Floor. -/
namespace Go.Proofs
open Go Go.Eng
theorem ediv_of {a d q : Int} (hd : 0 < d) (h1 : q * d ≤ a) (h2 : a < (q + 1) * d) : a / d = q :=
 Int.le_antisymm (Int.le_of_lt_add_one (Int.ediv_lt_of_lt_mul hd h2)) (Int.le_ediv_of_mul_le hd h1)
theorem mk_int (n : Int) : mkRat n 1 = (n : Rat) := by rw [Rat.mkRat_one]
theorem floor_eq (p : Rat) : p.floor = p.num / (p.den : Int) := Rat.floor_def p
theorem whole_nn {p : Rat} (h : ¬ p.num < 0) : ratMk (decide (p.num < 0)) (p.num.natAbs / p.den) 1 = ((p.floor : Int) : Rat) := by
 unfold ratMk
 rw [decide_eq_false h, cond_false, mk_int, floor_eq]
 congr 1
 rw [Int.natCast_ediv]
 congr 1
 omega
theorem whole_neg {p : Rat} (h : p.num < 0) : ratMk (decide (p.num < 0)) (p.num.natAbs / p.den + (if p.num.natAbs % p.den = 0 then 0 else 1)) 1 = ((p.floor : Int) : Rat) := by
 unfold ratMk
 rw [decide_eq_true h, cond_true, mk_int, floor_eq]
 congr 1
 have hd : 0 < p.den := Nat.pos_of_ne_zero p.den_nz
 have e := Nat.div_add_mod p.num.natAbs p.den
 have hm := Nat.mod_lt p.num.natAbs hd
 have hk : p.num = -(p.num.natAbs : Int) := by omega
 symm
 generalize p.num.natAbs = k at *
 generalize p.den = d at *
 rw [hk]
 generalize k / d = q at *
 generalize k % d = r at *
 have e' : (d : Int) * q + r = k := by exact_mod_cast e
 refine ediv_of (by omega) ?_ ?_
 ·split
  ·have : -((q + 0 : Nat) : Int) * (d : Int) = -((d : Int) * q) := by rw [Nat.add_zero, Zk, Zj]
   rw [this]; omega
  ·have : -((q + 1 : Nat) : Int) * (d : Int) = -((d : Int) * q) - d := by rw [Zk, Int.natCast_add, Int.add_mul, Zj (q : Int)]; omega
   rw [this]; omega
 ·split
  ·have : (-((q + 0 : Nat) : Int) + 1) * (d : Int) = -((d : Int) * q) + d := by rw [Nat.add_zero, Int.add_mul, Zk, Zj (q : Int)]; omega
   rw [this]; omega
  ·have : (-((q + 1 : Nat) : Int) + 1) * (d : Int) = -((d : Int) * q) := by
    have : -((q + 1 : Nat) : Int) + 1 = -(q : Int) := by omega
    rw [this, Zk, Zj]
   rw [this]; omega
def ot_rWhole : OT := fun _ => ([], [])
def goal_rWhole (p : Rat) (a : Nat) (K : AV → Prop) : Prop := goalL T49 ot_rWhole noL Tryz.f177 [rA p a] K
theorem goal_rWhole_vc (p : Rat) (a : Nat) (K : AV → Prop) : goal_rWhole p a K = ((a≤549755813888∧a≤549755813888)∧bif decide (p.num<0) then bif !decide (natBytes (bif decide (p.den=0) then 0 else p.num.natAbs%p.den)=(Zb #[]).data.toList) then (a≤549755813888∧8≤549755813888)∧((max a 8+1≤4294967296∧8≤4294967296)∧1≠0)∧K (AV.x true [Zg (ratMk (decide (p.num<0)) (p.num.natAbs/p.den+1) 1) (max (max a 8+1) 8)]) else ((a≤4294967296∧8≤4294967296)∧1≠0)∧K (AV.x true [Zg (ratMk (decide (p.num<0)) (p.num.natAbs/p.den) 1) (max a 8)]) else ((a≤4294967296∧8≤4294967296)∧1≠0)∧K (AV.x true [Zg (ratMk (decide (p.num<0)) (p.num.natAbs/p.den) 1) (max a 8)])) := by kernel_rfl
theorem g_rWhole (p : Rat) (a : Nat) (hc : (a ≤ 2000000000)) (K : AV → Prop) (hK : ∀ m, m ≤ a + 16 → K (rA ((p.floor : Int) : Rat) m)) : Holds (goal_rWhole p a K) := by
 refine ⟨?_⟩
 rw [goal_rWhole_vc]
 try simp only [Za, true_and, and_true, Zc, Zd, true_implies, true_or, or_true]
 have hd : p.den ≠ 0 := p.den_nz
 rw [decide_eq_false hd, cond_false]
 refine ⟨by omega, bif_mk (fun h => ?_) (fun h => ?_)⟩
 ·have h := of_decide_eq_true h
  have e := whole_neg h
  refine bif_mk (fun h2 => ⟨by omega, by omega, ?_⟩) (fun h2 => ⟨by omega, ?_⟩)
  ·have h2 : ¬ natBytes (p.num.natAbs % p.den) = [] := by simpa using h2
   rw [if_neg (fun e => h2 (natBytes_nil.2 e))] at e
   rw [e]
   exact hK _ (by omega)
  ·have h2 : natBytes (p.num.natAbs % p.den) = [] := by simpa using h2
   rw [if_pos (natBytes_nil.1 h2), Nat.add_zero] at e
   rw [e]
   exact hK _ (by omega)
 ·refine ⟨by omega, ?_⟩
  rw [whole_nn (of_decide_eq_false h)]
  exact hK _ (by omega)
def c_rWhole : Ctr := fun as0 => match as0 with
 | [.x true [.r p a]] => some fun K => ((a ≤ 2000000000)) ∧ (∀ m, m ≤ a + 16 → K (rA ((p.floor : Int) : Rat) m))
 | _ => none
theorem ok_rWhole : CtrOK Tryz.prog tabG debT 177 c_rWhole := by
 refine ⟨enters Tryz.func177 (by kernel_rfl), fun l T hT K hK => ?_⟩
 unfold c_rWhole at hT
 split at hT
 ·cases hT
  obtain ⟨hc, hK⟩ := hK
  exact spec_ofL T49ok mixed Tryz.func177 (by kernel_rfl) (by kernel_rfl) (by rfl) (g_rWhole _ _ hc K hK)
 ·cases hT
def L50f : List (Nat × Ctr) := (177, c_rWhole) :: L49
def L51f : List (Nat × Ctr) := L50f
def L52f : List (Nat × Ctr) := L51f
def T52f : Tabs := mkT L52f M48 X4
end Go.Proofs
/- Spans: contracts. -/
namespace Go.Proofs
open Go Go.Eng
theorem conc_whole {w : World} {O : Nat → Prop} {ρ : Env} {m n : Nat} {v : Value} (h : ConcV w O ρ (.x true [.v (.bool false), .b m n, .v (.string ⟨⟨[1]⟩⟩)]) v) : ConcV w O ρ (.x true [.r (m : Rat) (n + 1)]) v := by
 obtain ⟨vals, h1, h2⟩ := h
 cases h1 with
 | v _ h1 => cases h1 with
  | b hm h1 => cases h1 with
   | v _ h1 =>
    cases h1
    refine ⟨_, ?_, h2⟩
    have hn : ((m : Nat) : Rat).num = m := rfl
    have hd : ((m : Nat) : Rat).den = 1 := rfl
    have e : [Value.bool false, strOf (natBytes m), Value.string ⟨⟨[1]⟩⟩] = [negV (m : Rat), numV (m : Rat), denV (m : Rat)] := by
     unfold negV numV denV
     rw [hn, hd]
     have : decide ((m : Int) < 0) = false := decide_eq_false (by omega)
     rw [this]
     rfl
    rw [e]
    refine .r ⟨?_, ?_⟩ .nil
    ·rw [hn]; have : 2 ^ n ≤ 2 ^ (n + 1) := Nat.pow_le_pow_right (by decide) (by omega); show (m : Int).natAbs < _; rw [Int.natAbs_natCast]; omega
    ·rw [hd]; exact Nat.one_lt_two_pow (by omega)
def c_rMulW : Ctr := fun as0 => match as0 with
 | [.x true [.r p a], .x true [.v (.bool false), .b m n, .v (.string ⟨⟨[1]⟩⟩)]] => some fun K => a + n + 1 ≤ 4294967296 ∧ K (rA (p * (m : Rat)) (a + n + 1))
 | as0 => c_rMul as0
theorem ok_rMulW : CtrOK Tryz.prog tabG debT 125 c_rMulW := by
 refine ⟨ok_rMul.enter, fun l T hT K hK => ?_⟩
 unfold c_rMulW at hT
 split at hT
 ·rename_i p a m n
  cases hT
  refine Eng.Spec.args (ok_rMul.sound [.x true [.r p a], .x true [.r (m : Rat) (n + 1)]] _ rfl K hK) fun w O vals hc => ?_
  cases hc with
  | cons h1 h2 => cases h2 with
   | cons h2 h3 => exact .cons h1 (.cons (conc_whole h2) h3)
 ·exact ok_rMul.sound _ T hT K hK
def L130 : List (Nat × Ctr) := (125, c_rMulW) :: L95
theorem L130ok : CtrsOK Tryz.prog tabG debT L130 := .cons ok_rMulW L95ok
def L131 : List (Nat × Ctr) := (177, c_rWhole) :: L130
def T131 : Tabs := mkT L131 M79 X4
theorem L131ok : CtrsOK Tryz.prog tabG debT L131 := .cons ok_rWhole L130ok
theorem T131ok : TabsOK Tryz.prog tabG debT T131 := mkTok L131ok M79ok X4ok
def ot_rDown : OT := fun _ => ([], [])
def goal_rDown (p : Rat) (a : Nat) (d : Int) (K : AV → Prop) : Prop := goalL T131 ot_rDown noL Tryz.f200 [rA p a, iA .i64 d] K
theorem goal_rDown_vc (p : Rat) (a : Nat) (d : Int) (K : AV → Prop) : goal_rDown p a d K = ((bif true then if (1:Int)>d then (1:Int) else d else if (1:Int)<d then (1:Int) else d)<(9223372036854775808:Int)∧a+(63:Nat)+(1:Nat)≤(4294967296:Nat)∧a+(63:Nat)+(1:Nat)≤(2000000000:Nat)∧∀(m:Nat),m≤a+(63:Nat)+(1:Nat)+(16:Nat)→((m≤(4294967296:Nat)∧(63:Nat)≤(4294967296:Nat))∧Int.toNat (bif true then if (1:Int)>d then (1:Int) else d else if (1:Int)<d then (1:Int) else d)≠(0:Nat))∧K (AV.x true [Zg (ratMk (decide (Rat.num ↑(Rat.floor (p*↑(Int.toNat (bif true then if (1:Int)>d then (1:Int) else d else if (1:Int)<d then (1:Int) else d))))<(0:Int))) (Int.natAbs (Rat.num ↑(Rat.floor (p*↑(Int.toNat (bif true then if (1:Int)>d then (1:Int) else d else if (1:Int)<d then (1:Int) else d)))))) (Int.toNat (bif true then if (1:Int)>d then (1:Int) else d else if (1:Int)<d then (1:Int) else d))) (max m (63:Nat))])) := by kernel_rfl
theorem g_rDown (p : Rat) (a : Nat) (d : Int) (hc : (a ≤ 1000000000) ∧ (1 ≤ d ∧ d < 9223372036854775808)) (K : AV → Prop) (hK : ∀ m, m ≤ a + 200 → K (rA (downR p d.toNat) m)) : Holds (goal_rDown p a d K) := by
 refine ⟨?_⟩
 rw [goal_rDown_vc]
 try simp only [Za, true_and, and_true, Zc, Zd, true_implies, true_or, or_true]
 have e : (bif true then if 1 > d then 1 else d else if 1 < d then 1 else d) = d := by
  show (if 1 > d then 1 else d) = d
  rw [if_neg (by omega)]
 rw [e]
 refine ⟨by omega, by omega, by omega, fun m hm => ⟨by omega, ?_⟩⟩
 have e2 : ∀ f : Int, ratMk (decide (((f : Int) : Rat).num < 0)) ((f : Int) : Rat).num.natAbs d.toNat = mkRat f d.toNat := fun f => by
  rw [Rat.num_intCast]
  unfold ratMk
  by_cases h : f < 0
  ·rw [decide_eq_true h, cond_true]; congr 1; omega
  ·rw [decide_eq_false h, cond_false]; congr 1; omega
 rw [e2]
 exact hK _ (by omega)
def c_rDown : Ctr := fun as0 => match as0 with
 | [.x true [.r p a], .x false [.v (.int .i64 d)]] => some fun K => ((a ≤ 1000000000) ∧ (1 ≤ d ∧ d < 9223372036854775808)) ∧ (∀ m, m ≤ a + 200 → K (rA (downR p d.toNat) m))
 | _ => none
theorem ok_rDown : CtrOK Tryz.prog tabG debT 200 c_rDown := by
 refine ⟨enters Tryz.func200 (by kernel_rfl), fun l T hT K hK => ?_⟩
 unfold c_rDown at hT
 split at hT
 ·cases hT
  obtain ⟨hc, hK⟩ := hK
  exact spec_ofL T131ok mixed Tryz.func200 (by kernel_rfl) (by kernel_rfl) (by rfl) (g_rDown _ _ _ hc K hK)
 ·cases hT
def L132 : List (Nat × Ctr) := (200, c_rDown) :: L131
def T132 : Tabs := mkT L132 M79 X4
theorem L132ok : CtrsOK Tryz.prog tabG debT L132 := .cons ok_rDown L131ok
theorem T132ok : TabsOK Tryz.prog tabG debT T132 := mkTok L132ok M79ok X4ok
def ot_rUp : OT := fun _ => ([], [])
def goal_rUp (p : Rat) (a : Nat) (d : Int) (K : AV → Prop) : Prop := goalL T132 ot_rUp noL Tryz.f201 [rA p a, iA .i64 d] K
theorem goal_rUp_vc (p : Rat) (a : Nat) (d : Int) (K : AV → Prop) : goal_rUp p a d K = (a≤4294967296∧(a≤1000000000∧1≤d∧d<9223372036854775808)∧∀(m:Nat),m≤a+200→m≤4294967296∧K (AV.x true [Zg (-downR (-p) d.toNat) m])) := by kernel_rfl
theorem g_rUp (p : Rat) (a : Nat) (d : Int) (hc : (a ≤ 1000000000) ∧ (1 ≤ d ∧ d < 9223372036854775808)) (K : AV → Prop) (hK : ∀ m, m ≤ a + 200 → K (rA (upR p d.toNat) m)) : Holds (goal_rUp p a d K) := by
 refine ⟨?_⟩
 rw [goal_rUp_vc]
 try simp only [Za, true_and, and_true, Zc, Zd, true_implies, true_or, or_true]
 exact ⟨by omega, by omega, fun m hm => ⟨by omega, hK m hm⟩⟩
def c_rUp : Ctr := fun as0 => match as0 with
 | [.x true [.r p a], .x false [.v (.int .i64 d)]] => some fun K => ((a ≤ 1000000000) ∧ (1 ≤ d ∧ d < 9223372036854775808)) ∧ (∀ m, m ≤ a + 200 → K (rA (upR p d.toNat) m))
 | _ => none
theorem ok_rUp : CtrOK Tryz.prog tabG debT 201 c_rUp := by
 refine ⟨enters Tryz.func201 (by kernel_rfl), fun l T hT K hK => ?_⟩
 unfold c_rUp at hT
 split at hT
 ·cases hT
  obtain ⟨hc, hK⟩ := hK
  exact spec_ofL T132ok mixed Tryz.func201 (by kernel_rfl) (by kernel_rfl) (by rfl) (g_rUp _ _ _ hc K hK)
 ·cases hT
def L133 : List (Nat × Ctr) := (201, c_rUp) :: L132
def T133 : Tabs := mkT L133 M79 X4
theorem L133ok : CtrsOK Tryz.prog tabG debT L133 := .cons ok_rUp L132ok
theorem T133ok : TabsOK Tryz.prog tabG debT T133 := mkTok L133ok M79ok X4ok
def ot_pGood : OT := fun _ => ([], [])
def goal_pGood (l : Rat) (a : Nat) (h : Rat) (b : Nat) (K : AV → Prop) : Prop := goalL T133 ot_pGood noL Tryz.f120 [.x true [.r l a, .r h b]] K
theorem goal_pGood_vc (l : Rat) (a : Nat) (h : Rat) (b : Nat) (K : AV → Prop) : goal_pGood l a h b K = (a≤4294967296∧b≤4294967296∧a+b≤4294967296∧K (AV.x false [Ch.v (Value.bool (decide (cmpR l h≤0)))])) := by kernel_rfl
theorem g_pGood (l : Rat) (a : Nat) (h : Rat) (b : Nat) (hc : (a + b ≤ 4294967296) ∧ (l ≤ h)) (K : AV → Prop) (hK : K (.x false [.v (.bool true)])) : Holds (goal_pGood l a h b K) := by
 refine ⟨?_⟩
 rw [goal_pGood_vc]
 try simp only [Za, true_and, and_true, Zc, Zd, true_implies, true_or, or_true]
 rw [decide_eq_true ((cmp_le l h).2 hc.2)]
 exact ⟨by omega, by omega, hc.1, hK⟩
def c_pGood : Ctr := fun as0 => match as0 with
 | [.x true [.r l a, .r h b]] => some fun K => ((a + b ≤ 4294967296) ∧ (l ≤ h)) ∧ (K (.x false [.v (.bool true)]))
 | _ => none
theorem ok_pGood : CtrOK Tryz.prog tabG debT 120 c_pGood := by
 refine ⟨enters Tryz.func120 (by kernel_rfl), fun l T hT K hK => ?_⟩
 unfold c_pGood at hT
 split at hT
 ·cases hT
  obtain ⟨hc, hK⟩ := hK
  exact spec_ofL T133ok mixed Tryz.func120 (by kernel_rfl) (by kernel_rfl) (by rfl) (g_pGood _ _ _ _ hc K hK)
 ·cases hT
def L134 : List (Nat × Ctr) := (120, c_pGood) :: L133
def T134 : Tabs := mkT L134 M79 X4
theorem L134ok : CtrsOK Tryz.prog tabG debT L134 := .cons ok_pGood L133ok
theorem T134ok : TabsOK Tryz.prog tabG debT T134 := mkTok L134ok M79ok X4ok
def ot_pFit : OT := fun _ => ([], [])
def goal_pFit (l : Rat) (a : Nat) (h : Rat) (b : Nat) (K : AV → Prop) : Prop := goalL T134 ot_pFit noL Tryz.f69 [.x true [.r l a, .r h b]] K
theorem goal_pFit_vc (l : Rat) (a : Nat) (h : Rat) (b : Nat) (K : AV → Prop) : goal_pFit l a h b K = ((a+b≤4294967296∧l≤h)∧K (AV.x true [Zg l a,Zg h b])) := by kernel_rfl
theorem g_pFit (l : Rat) (a : Nat) (h : Rat) (b : Nat) (hc : (a + b ≤ 4294967296) ∧ (l ≤ h)) (K : AV → Prop) (hK : K (.x true [.r l a, .r h b])) : Holds (goal_pFit l a h b K) := by
 refine ⟨?_⟩
 rw [goal_pFit_vc]
 try simp only [Za, true_and, and_true, Zc, Zd, true_implies, true_or, or_true]
 exact ⟨hc, hK⟩
def c_pFit : Ctr := fun as0 => match as0 with
 | [.x true [.r l a, .r h b]] => some fun K => ((a + b ≤ 4294967296) ∧ (l ≤ h)) ∧ (K (.x true [.r l a, .r h b]))
 | _ => none
theorem ok_pFit : CtrOK Tryz.prog tabG debT 69 c_pFit := by
 refine ⟨enters Tryz.func69 (by kernel_rfl), fun l T hT K hK => ?_⟩
 unfold c_pFit at hT
 split at hT
 ·cases hT
  obtain ⟨hc, hK⟩ := hK
  exact spec_ofL T134ok mixed Tryz.func69 (by kernel_rfl) (by kernel_rfl) (by rfl) (g_pFit _ _ _ _ hc K hK)
 ·cases hT
def L135 : List (Nat × Ctr) := (69, c_pFit) :: L134
def T135 : Tabs := mkT L135 M79 X4
theorem L135ok : CtrsOK Tryz.prog tabG debT L135 := .cons ok_pFit L134ok
theorem T135ok : TabsOK Tryz.prog tabG debT T135 := mkTok L135ok M79ok X4ok
def ot_pOf : OT := fun _ => ([], [])
def goal_pOf (p : Rat) (a : Nat) (K : AV → Prop) : Prop := goalL T135 ot_pOf noL Tryz.f121 [rA p a] K
theorem goal_pOf_vc (p : Rat) (a : Nat) (K : AV → Prop) : goal_pOf p a K = (a+a≤4294967296∧K (AV.x true [Zg (minR p p) (max a a),Zg (minR p p) (max a a)])) := by kernel_rfl
theorem g_pOf (p : Rat) (a : Nat) (hc : (a ≤ 2000000000)) (K : AV → Prop) (hK : K (.x true [.r p a, .r p a])) : Holds (goal_pOf p a K) := by
 refine ⟨?_⟩
 rw [goal_pOf_vc]
 try simp only [Za, true_and, and_true, Zc, Zd, true_implies, true_or, or_true]
 rw [minR_self, Nat.max_self]
 exact ⟨by omega, hK⟩
def c_pOf : Ctr := fun as0 => match as0 with
 | [.x true [.r p a]] => some fun K => ((a ≤ 2000000000)) ∧ (K (.x true [.r p a, .r p a]))
 | _ => none
theorem ok_pOf : CtrOK Tryz.prog tabG debT 121 c_pOf := by
 refine ⟨enters Tryz.func121 (by kernel_rfl), fun l T hT K hK => ?_⟩
 unfold c_pOf at hT
 split at hT
 ·cases hT
  obtain ⟨hc, hK⟩ := hK
  exact spec_ofL T135ok mixed Tryz.func121 (by kernel_rfl) (by kernel_rfl) (by rfl) (g_pOf _ _ hc K hK)
 ·cases hT
def L136 : List (Nat × Ctr) := (121, c_pOf) :: L135
def T136 : Tabs := mkT L136 M79 X4
theorem L136ok : CtrsOK Tryz.prog tabG debT L136 := .cons ok_pOf L135ok
theorem T136ok : TabsOK Tryz.prog tabG debT T136 := mkTok L136ok M79ok X4ok
def ot_pAdd : OT := fun id => bif id.beq 1 then ([0, 2, 1, 3, 4, 5], [[], [0], [], [2, 1, 0], [1, 0, 3, 2], [3, 2, 1, 0, 4]]) else bif id.beq 2 then ([0, 1, 2, 3, 5, 6, 7, 8, 4, 9, 10, 11], [[], [0], [], [2], [1, 0, 3, 2], [], [5], [], [7], [6, 5, 8, 7, 4, 1, 0, 3, 2], [4, 1, 0, 3, 2, 9, 6, 5, 8, 7], [10, 4, 1, 0, 3, 2, 9, 6, 5, 8, 7]]) else ([], [])
def goal_pAdd (l : Rat) (a : Nat) (h : Rat) (b : Nat) (m : Rat) (c : Nat) (k : Rat) (d : Nat) (K : AV → Prop) : Prop := goalL T136 ot_pAdd noL Tryz.f134 [.x true [.r l a, .r h b], .x true [.r m c, .r k d]] K
theorem goal_pAdd_vc (l : Rat) (a : Nat) (h : Rat) (b : Nat) (m : Rat) (c : Nat) (k : Rat) (d : Nat) (K : AV → Prop) : goal_pAdd l a h b m c k d K = ((a+b≤4294967296∧l≤h)∧(c+d≤4294967296∧m≤k)∧a+c+1≤4294967296∧b+d+1≤4294967296∧K (AV.x true [Zg (l+m) (a+c+1),Zg (h+k) (b+d+1)])) := by kernel_rfl
theorem g_pAdd (l : Rat) (a : Nat) (h : Rat) (b : Nat) (m : Rat) (c : Nat) (k : Rat) (d : Nat) (hc : (a + b + c + d ≤ 4294967290) ∧ (l ≤ h ∧ m ≤ k)) (K : AV → Prop) (hK : K (.x true [.r (l + m) (a + c + 1), .r (h + k) (b + d + 1)])) : Holds (goal_pAdd l a h b m c k d K) := by
 refine ⟨?_⟩
 rw [goal_pAdd_vc]
 try simp only [Za, true_and, and_true, Zc, Zd, true_implies, true_or, or_true]
 obtain ⟨h1, h2, h3⟩ := hc
 exact ⟨⟨by omega, h2⟩, ⟨by omega, h3⟩, by omega, by omega, hK⟩
def c_pAdd : Ctr := fun as0 => match as0 with
 | [.x true [.r l a, .r h b], .x true [.r m c, .r k d]] => some fun K => ((a + b + c + d ≤ 4294967290) ∧ (l ≤ h ∧ m ≤ k)) ∧ (K (.x true [.r (l + m) (a + c + 1), .r (h + k) (b + d + 1)]))
 | _ => none
theorem ok_pAdd : CtrOK Tryz.prog tabG debT 134 c_pAdd := by
 refine ⟨enters Tryz.func134 (by kernel_rfl), fun l T hT K hK => ?_⟩
 unfold c_pAdd at hT
 split at hT
 ·cases hT
  obtain ⟨hc, hK⟩ := hK
  exact spec_ofL T136ok mixed Tryz.func134 (by kernel_rfl) (by kernel_rfl) (by rfl) (g_pAdd _ _ _ _ _ _ _ _ hc K hK)
 ·cases hT
def L137 : List (Nat × Ctr) := (134, c_pAdd) :: L136
def T137 : Tabs := mkT L137 M79 X4
theorem L137ok : CtrsOK Tryz.prog tabG debT L137 := .cons ok_pAdd L136ok
theorem T137ok : TabsOK Tryz.prog tabG debT T137 := mkTok L137ok M79ok X4ok
def ot_pSub : OT := fun id => bif id.beq 1 then ([0, 2, 1, 3, 4, 5], [[], [0], [], [2, 1, 0], [1, 0, 3, 2], [3, 2, 1, 0, 4]]) else bif id.beq 2 then ([0, 1, 2, 3, 5, 6, 7, 8, 4, 9, 10, 11], [[], [0], [], [2], [1, 0, 3, 2], [], [5], [], [7], [6, 5, 8, 7, 4, 1, 0, 3, 2], [4, 1, 0, 3, 2, 9, 6, 5, 8, 7], [10, 4, 1, 0, 3, 2, 9, 6, 5, 8, 7]]) else ([], [])
def goal_pSub (l : Rat) (a : Nat) (h : Rat) (b : Nat) (m : Rat) (c : Nat) (k : Rat) (d : Nat) (K : AV → Prop) : Prop := goalL T137 ot_pSub noL Tryz.f132 [.x true [.r l a, .r h b], .x true [.r m c, .r k d]] K
theorem goal_pSub_vc (l : Rat) (a : Nat) (h : Rat) (b : Nat) (m : Rat) (c : Nat) (k : Rat) (d : Nat) (K : AV → Prop) : goal_pSub l a h b m c k d K = ((a+b≤4294967296∧l≤h)∧(c+d≤4294967296∧m≤k)∧a+d+1≤4294967296∧b+c+1≤4294967296∧K (AV.x true [Zg (l-k) (a+d+1),Zg (h-m) (b+c+1)])) := by kernel_rfl
theorem g_pSub (l : Rat) (a : Nat) (h : Rat) (b : Nat) (m : Rat) (c : Nat) (k : Rat) (d : Nat) (hc : (a + b + c + d ≤ 4294967290) ∧ (l ≤ h ∧ m ≤ k)) (K : AV → Prop) (hK : K (.x true [.r (l - k) (a + d + 1), .r (h - m) (b + c + 1)])) : Holds (goal_pSub l a h b m c k d K) := by
 refine ⟨?_⟩
 rw [goal_pSub_vc]
 try simp only [Za, true_and, and_true, Zc, Zd, true_implies, true_or, or_true]
 obtain ⟨h1, h2, h3⟩ := hc
 exact ⟨⟨by omega, h2⟩, ⟨by omega, h3⟩, by omega, by omega, hK⟩
def c_pSub : Ctr := fun as0 => match as0 with
 | [.x true [.r l a, .r h b], .x true [.r m c, .r k d]] => some fun K => ((a + b + c + d ≤ 4294967290) ∧ (l ≤ h ∧ m ≤ k)) ∧ (K (.x true [.r (l - k) (a + d + 1), .r (h - m) (b + c + 1)]))
 | _ => none
theorem ok_pSub : CtrOK Tryz.prog tabG debT 132 c_pSub := by
 refine ⟨enters Tryz.func132 (by kernel_rfl), fun l T hT K hK => ?_⟩
 unfold c_pSub at hT
 split at hT
 ·cases hT
  obtain ⟨hc, hK⟩ := hK
  exact spec_ofL T137ok mixed Tryz.func132 (by kernel_rfl) (by kernel_rfl) (by rfl) (g_pSub _ _ _ _ _ _ _ _ hc K hK)
 ·cases hT
def L138 : List (Nat × Ctr) := (132, c_pSub) :: L137
def T138 : Tabs := mkT L138 M79 X4
theorem L138ok : CtrsOK Tryz.prog tabG debT L138 := .cons ok_pSub L137ok
theorem T138ok : TabsOK Tryz.prog tabG debT T138 := mkTok L138ok M79ok X4ok
structure AdX where
 lo : Rat
 hi : Rat
 i : Nat
def foldM (f : Rat → Rat → Rat) (ps : List (Rat × Nat)) (q : Rat) : Rat := (ps.map (·.1)).foldl f q
def hdR (l : List (Rat × Nat)) : Rat := match l with
 | [] => 0
 | p :: _ => p.1
def inv_around1 (l : List (Rat × Nat)) (N : Nat) : LI := fun _ => .inv ⟨AdX, fun x => ⟨[(2, .x false [.p 2 0]), (3, .x false [.p 3 0]), (11, .x false [.s 3 (lRb l.tail)]), (12, iA .i64 l.tail.length), (13, iA .i64 x.i)], [(2, .box 61 (zeroR ++ zeroR)), (3, .box 61 [.r x.lo N, .r x.hi N])]⟩,
 fun x => foldM minR (l.tail.drop x.i) x.lo = foldM minR l.tail (hdR l) ∧ foldM maxR (l.tail.drop x.i) x.hi = foldM maxR l.tail (hdR l) ∧ x.i ≤ l.tail.length, fun x => l.tail.length - x.i, fun _ => 0⟩
def ot_pAround : OT := fun id => bif id.beq 5 then ([0, 1, 2, 4, 5, 6, 3, 8, 7, 9, 10, 11], [[], [0], [], [1, 0, 2], [], [4], [], [5, 4, 6, 3, 1, 0, 2], [0, 1, 2, 3, 4, 5], [8, 0, 1, 2, 3, 4, 5, 7, 6], [0, 1, 2, 3, 4, 5, 6, 7, 8, 9], [10, 0, 1, 2, 3, 4, 5, 6, 7, 8, 9]]) else ([], [])
def goal_pAround (l : List (Rat × Nat)) (N : Nat) (K : AV → Prop) : Prop := goalL T138 ot_pAround (inv_around1 l N) Tryz.f176 [.x false [.s 3 (lRb l)]] K
theorem goal_pAround_vc (l : List (Rat × Nat)) (N : Nat) (K : AV → Prop) : goal_pAround l N K = (((0:Int)≤0∧0<Ze (lRb l).length)∧∃(q:Rat),∃(n:Nat),ldE (lRb l) 0 0 3=some [Zg q n]∧n≤2000000000∧((0:Int)≤1∧1≤Ze (lRb l).length∧Ze (lRb l).length≤Ze (lRb l).length)∧(∃(x:AdX),((foldM minR (Zh x.i l.tail) x.lo=foldM minR l.tail (hdR l)∧foldM maxR (Zh x.i l.tail) x.hi=foldM maxR l.tail (hdR l)∧x.i≤l.tail.length)∧OfNat.ofNat 0=0)∧0=0∧0=0∧3=3∧List.take ((Ze (lRb l).length).toNat-1) (Zh 1 (lRb l))=lRb l.tail∧Ze (List.take ((Ze (lRb l).length).toNat-1) (Zh 1 (lRb l))).length=Ze l.tail.length∧0=Ze x.i∧61=61∧false=false∧Zb (Zf [])=Zb (Zf [])∧Zb (Zf [])=Zb (Zf [])∧false=false∧Zb (Zf [])=Zb (Zf [])∧Zb (Zf [])=Zb (Zf [])∧61=61∧q=x.lo∧n≤N∧q=x.hi∧n≤N∧True)∧∀(x:AdX),foldM minR (Zh x.i l.tail) x.lo=foldM minR l.tail (hdR l)∧foldM maxR (Zh x.i l.tail) x.hi=foldM maxR l.tail (hdR l)∧x.i≤l.tail.length→OfNat.ofNat 0=0→bif decide (Ze x.i<Ze l.tail.length) then (0≤Ze x.i∧Ze x.i<Ze (lRb l.tail).length)∧∃(q:Rat),∃(n:Nat),ldE (lRb l.tail) (Ze x.i).toNat 0 3=some [Zg q n]∧N+n≤4294967296∧N+n≤4294967296∧∃(x':AdX),((foldM minR (Zh x'.i l.tail) x'.lo=foldM minR l.tail (hdR l)∧foldM maxR (Zh x'.i l.tail) x'.hi=foldM maxR l.tail (hdR l)∧x'.i≤l.tail.length)∧OfNat.ofNat 0=0∧l.tail.length-x'.i<l.tail.length-x.i)∧0=0∧0=0∧3=3∧lRb l.tail=lRb l.tail∧Ze l.tail.length=Ze l.tail.length∧IntKind.i64.wrap (Ze x.i+1)=Ze x'.i∧61=61∧false=false∧Zb (Zf [])=Zb (Zf [])∧Zb (Zf [])=Zb (Zf [])∧false=false∧Zb (Zf [])=Zb (Zf [])∧Zb (Zf [])=Zb (Zf [])∧61=61∧minR x.lo q=x'.lo∧max N n≤N∧maxR x.hi q=x'.hi∧max N n≤N∧True else K (AV.x true [Zg x.lo N,Zg x.hi N])) := by kernel_rfl
theorem g_pAround (l : List (Rat × Nat)) (N : Nat) (hc : (l ≠ [] ∧ l.length ≤ 100 ∧ N ≤ 2000000000) ∧ (∀ p ∈ l, p.2 ≤ N)) (K : AV → Prop) (hK : K (.x true [.r (foldM minR l.tail (hdR l)) N, .r (foldM maxR l.tail (hdR l)) N])) : Holds (goal_pAround l N K) := by
 refine ⟨?_⟩
 rw [goal_pAround_vc]
 try simp only [Za, true_and, and_true, Zc, Zd, true_implies, true_or, or_true]
 obtain ⟨⟨h0, hl, hN⟩, hb⟩ := hc
 obtain ⟨p0, ps, rfl⟩ : ∃ p ps, l = p :: ps := by
  cases l with
  | nil => exact absurd rfl h0
  | cons p ps => exact ⟨p, ps, rfl⟩
 have hb0 := hb p0 (by simp)
 have hl' : ps.length + 1 ≤ 100 := hl
 have ll : (lRb (p0 :: ps)).length = ps.length + 1 := by simp [lRb]
 rw [ll]
 have e2 : List.take ((((ps.length + 1 : Nat) : Int)).toNat - 1) (Zh 1 (lRb (p0 :: ps))) = lRb ps := by
  rw [Int.toNat_natCast, Nat.add_sub_cancel]
  exact List.take_of_length_le (by simp [lRb])
 have lps : (lRb ps).length = ps.length := by simp [lRb]
 refine ⟨by omega, p0.1, p0.2, rfl, by omega, by omega, ⟨⟨p0.1, p0.1, 0⟩, ⟨rfl, rfl, by simp⟩, e2, by rw [e2, lps]; rfl, rfl, rfl, hb0, rfl, hb0⟩, fun x hx => bif_mk (fun hp => ?_) (fun hp => ?_)⟩
 ·have hp : x.i < ps.length := by have := of_decide_eq_true hp; simp only [Zi] at this; omega
  obtain ⟨p, hpp⟩ : ∃ p, ps[x.i]? = some p := ⟨_, List.getElem?_eq_getElem hp⟩
  obtain ⟨e1, e3, hxi⟩ := hx
  simp only [Zi] at e1 e3 hxi ⊢
  have hd : ps.drop x.i = p :: ps.drop (x.i + 1) := by
   rw [List.drop_eq_getElem_cons hp]
   rw [List.getElem?_eq_getElem hp] at hpp
   rw [Option.some.inj hpp]
  rw [hd] at e1 e3
  have hbp := hb p (by simp [List.mem_of_getElem? hpp])
  exact ⟨by rw [lps]; omega, p.1, p.2, by simp only [ldE, lRb, List.getElem?_map, Int.toNat_natCast, hpp]; rfl, by omega, by omega, ⟨_, _, x.i + 1⟩, ⟨⟨e1, e3, hp⟩, by simp only; omega⟩, by rw [w64 (by omega)]; simp, rfl, by omega, rfl, by omega⟩
 ·have hp : x.i = ps.length := by have := of_decide_eq_false hp; have := hx.2.2; simp only [Zi] at *; omega
  obtain ⟨e1, e3, hxi⟩ := hx
  simp only [Zi] at e1 e3 hK
  rw [hp, List.drop_length] at e1 e3
  have e1 : x.lo = _ := e1
  have e3 : x.hi = _ := e3
  rw [e1, e3]
  exact hK
def c_pAround : Ctr := fun as0 => match as0 with
 | [.x false [.s 3 xs]] => some fun K => ∃ (l : List (Rat × Nat)) (N : Nat), xs = lRb l ∧ ((l ≠ [] ∧ l.length ≤ 100 ∧ N ≤ 2000000000) ∧ (∀ p ∈ l, p.2 ≤ N)) ∧ (K (.x true [.r (foldM minR l.tail (hdR l)) N, .r (foldM maxR l.tail (hdR l)) N]))
 | _ => none
theorem ok_pAround : CtrOK Tryz.prog tabG debT 176 c_pAround := by
 refine ⟨enters Tryz.func176 (by kernel_rfl), fun l T hT K hK => ?_⟩
 unfold c_pAround at hT
 split at hT
 ·cases hT
  obtain ⟨l, N, rfl, hc, hK⟩ := hK
  exact spec_ofL T138ok mixed Tryz.func176 (by kernel_rfl) (by kernel_rfl) (by rfl) (g_pAround _ _ hc K hK)
 ·cases hT
def L139 : List (Nat × Ctr) := (176, c_pAround) :: L138
def T139 : Tabs := mkT L139 M79 X4
theorem L139ok : CtrsOK Tryz.prog tabG debT L139 := .cons ok_pAround L138ok
theorem T139ok : TabsOK Tryz.prog tabG debT T139 := mkTok L139ok M79ok X4ok
def ot_pMul : OT := fun id => bif id.beq 1 then ([0, 2, 1, 3, 4, 5], [[], [0], [], [2, 1, 0], [1, 0, 3, 2], [3, 2, 1, 0, 4]]) else bif id.beq 2 then ([0, 1, 2, 3, 5, 6, 7, 8, 10, 11, 12, 13, 15, 16, 17, 18, 4, 9, 14, 19, 20, 21, 22], [[], [0], [], [2], [1, 0, 3, 2], [], [5], [], [7], [6, 5, 8, 7, 4, 1, 0, 3, 2], [], [10], [], [12], [11, 10, 13, 12, 9, 6, 5, 8, 7, 4, 1, 0, 3, 2], [], [15], [], [17], [16, 15, 18, 17, 14, 11, 10, 13, 12, 9, 6, 5, 8, 7, 4, 1, 0, 3, 2], [4, 1, 0, 3, 2, 9, 6, 5, 8, 7, 14, 11, 10, 13, 12, 19, 16, 15, 18, 17], [20, 4, 1, 0, 3, 2, 9, 6, 5, 8, 7, 14, 11, 10, 13, 12, 19, 16, 15, 18, 17], [21, 20, 4, 1, 0, 3, 2, 9, 6, 5, 8, 7, 14, 11, 10, 13, 12, 19, 16, 15, 18, 17]]) else ([], [])
def goal_pMul (l : Rat) (a : Nat) (h : Rat) (b : Nat) (m : Rat) (c : Nat) (k : Rat) (d : Nat) (K : AV → Prop) : Prop := goalL T139 ot_pMul noL Tryz.f133 [.x true [.r l a, .r h b], .x true [.r m c, .r k d]] K
theorem goal_pMul_vc (l : Rat) (a : Nat) (h : Rat) (b : Nat) (m : Rat) (c : Nat) (k : Rat) (d : Nat) (K : AV → Prop) : goal_pMul l a h b m c k d K = ((a+b≤4294967296∧l≤h)∧(c+d≤4294967296∧m≤k)∧a+c≤4294967296∧a+d≤4294967296∧b+c≤4294967296∧b+d≤4294967296∧∃(l_1:List (Rat × Nat)),∃(N:Nat),[[Zg (l*m) (a+c)],[Zg (l*k) (a+d)],[Zg (h*m) (b+c)],[Zg (h*k) (b+d)]]=lRb l_1∧((l_1≠[]∧l_1.length≤100∧N≤2000000000)∧∀(p:Rat × Nat),p ∈ l_1→p.snd≤N)∧K (AV.x true [Zg (foldM minR l_1.tail (hdR l_1)) N,Zg (foldM maxR l_1.tail (hdR l_1)) N])) := by kernel_rfl
theorem g_pMul (l : Rat) (a : Nat) (h : Rat) (b : Nat) (m : Rat) (c : Nat) (k : Rat) (d : Nat) (hc : (a + b + c + d ≤ 2000000000) ∧ (l ≤ h ∧ m ≤ k)) (K : AV → Prop) (hK : ∀ (s : Sp) n, s = spMul ⟨l, h⟩ ⟨m, k⟩ → n ≤ max a b + max c d → K (.x true [.r s.lo n, .r s.hi n])) : Holds (goal_pMul l a h b m c k d K) := by
 refine ⟨?_⟩
 rw [goal_pMul_vc]
 try simp only [Za, true_and, and_true, Zc, Zd, true_implies, true_or, or_true]
 obtain ⟨h1, h2, h3⟩ := hc
 refine ⟨⟨by omega, h2⟩, ⟨by omega, h3⟩, by omega, by omega, by omega, by omega, [(l * m, a + c), (l * k, a + d), (h * m, b + c), (h * k, b + d)], max a b + max c d, rfl, ⟨⟨by simp, by simp, by omega⟩, fun p hp => ?_⟩, hK _ _ rfl (Zd _)⟩
 simp only [List.mem_cons, List.not_mem_nil, or_false] at hp
 rcases hp with rfl | rfl | rfl | rfl <;> simp only <;> omega
def c_pMul : Ctr := fun as0 => match as0 with
 | [.x true [.r l a, .r h b], .x true [.r m c, .r k d]] => some fun K => ((a + b + c + d ≤ 2000000000) ∧ (l ≤ h ∧ m ≤ k)) ∧ (∀ (s : Sp) n, s = spMul ⟨l, h⟩ ⟨m, k⟩ → n ≤ max a b + max c d → K (.x true [.r s.lo n, .r s.hi n]))
 | _ => none
theorem ok_pMul : CtrOK Tryz.prog tabG debT 133 c_pMul := by
 refine ⟨enters Tryz.func133 (by kernel_rfl), fun l T hT K hK => ?_⟩
 unfold c_pMul at hT
 split at hT
 ·cases hT
  obtain ⟨hc, hK⟩ := hK
  exact spec_ofL T139ok mixed Tryz.func133 (by kernel_rfl) (by kernel_rfl) (by rfl) (g_pMul _ _ _ _ _ _ _ _ hc K hK)
 ·cases hT
def L140 : List (Nat × Ctr) := (133, c_pMul) :: L139
def T140 : Tabs := mkT L140 M79 X4
theorem L140ok : CtrsOK Tryz.prog tabG debT L140 := .cons ok_pMul L139ok
theorem T140ok : TabsOK Tryz.prog tabG debT T140 := mkTok L140ok M79ok X4ok
def ot_pJoin : OT := fun id => bif id.beq 1 then ([0, 2, 1, 3, 4, 5], [[], [0], [], [2, 1, 0], [1, 0, 3, 2], [3, 2, 1, 0, 4]]) else bif id.beq 2 then ([0, 1, 2, 3, 5, 6, 7, 8, 4, 9, 10, 11], [[], [0], [], [2], [1, 0, 3, 2], [], [5], [], [7], [6, 5, 8, 7, 4, 1, 0, 3, 2], [4, 1, 0, 3, 2, 9, 6, 5, 8, 7], [10, 4, 1, 0, 3, 2, 9, 6, 5, 8, 7]]) else ([], [])
def goal_pJoin (l : Rat) (a : Nat) (h : Rat) (b : Nat) (m : Rat) (c : Nat) (k : Rat) (d : Nat) (K : AV → Prop) : Prop := goalL T140 ot_pJoin noL Tryz.f153 [.x true [.r l a, .r h b], .x true [.r m c, .r k d]] K
theorem goal_pJoin_vc (l : Rat) (a : Nat) (h : Rat) (b : Nat) (m : Rat) (c : Nat) (k : Rat) (d : Nat) (K : AV → Prop) : goal_pJoin l a h b m c k d K = ((a+b≤4294967296∧l≤h)∧(c+d≤4294967296∧m≤k)∧a+c≤4294967296∧b+d≤4294967296∧K (AV.x true [Zg (minR l m) (max a c),Zg (maxR h k) (max b d)])) := by kernel_rfl
theorem g_pJoin (l : Rat) (a : Nat) (h : Rat) (b : Nat) (m : Rat) (c : Nat) (k : Rat) (d : Nat) (hc : (a + b + c + d ≤ 4294967290) ∧ (l ≤ h ∧ m ≤ k)) (K : AV → Prop) (hK : K (.x true [.r (minR l m) (max a c), .r (maxR h k) (max b d)])) : Holds (goal_pJoin l a h b m c k d K) := by
 refine ⟨?_⟩
 rw [goal_pJoin_vc]
 try simp only [Za, true_and, and_true, Zc, Zd, true_implies, true_or, or_true]
 obtain ⟨h1, h2, h3⟩ := hc
 exact ⟨⟨by omega, h2⟩, ⟨by omega, h3⟩, by omega, by omega, hK⟩
def c_pJoin : Ctr := fun as0 => match as0 with
 | [.x true [.r l a, .r h b], .x true [.r m c, .r k d]] => some fun K => ((a + b + c + d ≤ 4294967290) ∧ (l ≤ h ∧ m ≤ k)) ∧ (K (.x true [.r (minR l m) (max a c), .r (maxR h k) (max b d)]))
 | _ => none
theorem ok_pJoin : CtrOK Tryz.prog tabG debT 153 c_pJoin := by
 refine ⟨enters Tryz.func153 (by kernel_rfl), fun l T hT K hK => ?_⟩
 unfold c_pJoin at hT
 split at hT
 ·cases hT
  obtain ⟨hc, hK⟩ := hK
  exact spec_ofL T140ok mixed Tryz.func153 (by kernel_rfl) (by kernel_rfl) (by rfl) (g_pJoin _ _ _ _ _ _ _ _ hc K hK)
 ·cases hT
def L141 : List (Nat × Ctr) := (153, c_pJoin) :: L140
def T141 : Tabs := mkT L141 M79 X4
theorem L141ok : CtrsOK Tryz.prog tabG debT L141 := .cons ok_pJoin L140ok
theorem T141ok : TabsOK Tryz.prog tabG debT T141 := mkTok L141ok M79ok X4ok
def ot_pHas : OT := fun _ => ([], [])
def goal_pHas (l : Rat) (a : Nat) (h : Rat) (b : Nat) (q : Rat) (c : Nat) (K : AV → Prop) : Prop := goalL T141 ot_pHas noL Tryz.f28 [.x true [.r l a, .r h b], rA q c] K
theorem goal_pHas_vc (l : Rat) (a : Nat) (h : Rat) (b : Nat) (q : Rat) (c : Nat) (K : AV → Prop) : goal_pHas l a h b q c K = ((a+b≤4294967296∧l≤h)∧a+c≤4294967296∧bif decide (cmpR l q≤0) then c+b≤4294967296∧K (AV.x false [Ch.v (Value.bool (decide (cmpR q h≤0)))]) else K (AV.x false [Ch.v (Value.bool false)])) := by kernel_rfl
theorem g_pHas (l : Rat) (a : Nat) (h : Rat) (b : Nat) (q : Rat) (c : Nat) (hc : (a + b + c ≤ 4294967290) ∧ (l ≤ h)) (K : AV → Prop) (hK : K (.x false [.v (.bool (spHas ⟨l, h⟩ q))])) : Holds (goal_pHas l a h b q c K) := by
 refine ⟨?_⟩
 rw [goal_pHas_vc]
 try simp only [Za, true_and, and_true, Zc, Zd, true_implies, true_or, or_true]
 refine ⟨⟨by omega, hc.2⟩, by omega, ?_⟩
 unfold spHas at hK
 refine bif_mk (fun h1 => ⟨by omega, ?_⟩) (fun h1 => ?_)
 ·have h1 := (cmp_le _ _).1 (of_decide_eq_true h1)
  rw [decide_eq_true h1, Bool.true_and] at hK
  have e : decide (cmpR q h ≤ 0) = decide (q ≤ h) := by
   by_cases e : q ≤ h
   ·rw [decide_eq_true e, decide_eq_true ((cmp_le _ _).2 e)]
   ·rw [decide_eq_false e, decide_eq_false (fun h => e ((cmp_le _ _).1 h))]
  rw [e]
  exact hK
 ·have h1 : ¬ l ≤ q := fun e => of_decide_eq_false h1 ((cmp_le _ _).2 e)
  rw [decide_eq_false h1, Bool.false_and] at hK
  exact hK
def c_pHas : Ctr := fun as0 => match as0 with
 | [.x true [.r l a, .r h b], .x true [.r q c]] => some fun K => ((a + b + c ≤ 4294967290) ∧ (l ≤ h)) ∧ (K (.x false [.v (.bool (spHas ⟨l, h⟩ q))]))
 | _ => none
theorem ok_pHas : CtrOK Tryz.prog tabG debT 28 c_pHas := by
 refine ⟨enters Tryz.func28 (by kernel_rfl), fun l T hT K hK => ?_⟩
 unfold c_pHas at hT
 split at hT
 ·cases hT
  obtain ⟨hc, hK⟩ := hK
  exact spec_ofL T141ok mixed Tryz.func28 (by kernel_rfl) (by kernel_rfl) (by rfl) (g_pHas _ _ _ _ _ _ hc K hK)
 ·cases hT
def L142 : List (Nat × Ctr) := (28, c_pHas) :: L141
def T142 : Tabs := mkT L142 M79 X4
theorem L142ok : CtrsOK Tryz.prog tabG debT L142 := .cons ok_pHas L141ok
theorem T142ok : TabsOK Tryz.prog tabG debT T142 := mkTok L142ok M79ok X4ok
def ot_pSq : OT := fun id => bif id.beq 2 then ([0, 1, 2, 3, 5, 6, 7, 8, 12, 4, 9, 10, 11, 13], [[], [0], [], [2], [1, 0, 3, 2], [], [5], [], [7], [6, 5, 8, 7, 4, 1, 0, 3, 2], [4, 1, 0, 3, 2, 9, 6, 5, 8, 7], [10, 4, 1, 0, 3, 2, 9, 6, 5, 8, 7], [], [12, 11, 10, 4, 1, 0, 3, 2, 9, 6, 5, 8, 7]]) else bif id.beq 3 then ([0, 1, 2], [[], [], [0, 1]]) else ([], [])
def goal_pSq (l : Rat) (a : Nat) (h : Rat) (b : Nat) (K : AV → Prop) : Prop := goalL T142 ot_pSq noL Tryz.f172 [.x true [.r l a, .r h b]] K
theorem goal_pSq_vc (l : Rat) (a : Nat) (h : Rat) (b : Nat) (K : AV → Prop) : goal_pSq l a h b K = ((a+b≤4294967296∧l≤h)∧a+a≤4294967296∧b+b≤4294967296∧∃(l_1:List (Rat × Nat)),∃(N:Nat),[[Zg (l*l) (a+a)],[Zg (h*h) (b+b)]]=lRb l_1∧((l_1≠[]∧l_1.length≤100∧N≤2000000000)∧∀(p:Rat × Nat),p ∈ l_1→p.snd≤N)∧((-9223372036854775808:Int)≤0∧(0:Int)<9223372036854775808)∧(a+b+64≤4294967290∧l≤h)∧bif spHas (Sp.mk l h) ↑(0:Int) then ((-9223372036854775808:Int)≤0∧(0:Int)<9223372036854775808)∧K (AV.x true [Zg (↑(0:Int)) 64,Zg (foldM maxR l_1.tail (hdR l_1)) N]) else K (AV.x true [Zg (foldM minR l_1.tail (hdR l_1)) N,Zg (foldM maxR l_1.tail (hdR l_1)) N])) := by kernel_rfl
theorem g_pSq (l : Rat) (a : Nat) (h : Rat) (b : Nat) (hc : (a + b ≤ 1000000000) ∧ (l ≤ h)) (K : AV → Prop) (hK : ∀ (s : Sp) n m, s = spSq ⟨l, h⟩ → n ≤ 2 * (a + b) + 64 → m ≤ 2 * (a + b) → K (.x true [.r s.lo n, .r s.hi m])) : Holds (goal_pSq l a h b K) := by
 refine ⟨?_⟩
 rw [goal_pSq_vc]
 try simp only [Za, true_and, and_true, Zc, Zd, true_implies, true_or, or_true]
 obtain ⟨h1, h2⟩ := hc
 refine ⟨⟨by omega, h2⟩, by omega, by omega, [(l * l, a + a), (h * h, b + b)], 2 * (a + b), rfl, ⟨⟨by simp, by simp, by omega⟩, fun p hp => ?_⟩, by omega, ⟨by omega, h2⟩, bif_mk (fun h => ⟨by omega, ?_⟩) (fun h => ?_)⟩
 ·simp only [List.mem_cons, List.not_mem_nil, or_false] at hp
  rcases hp with rfl | rfl <;> simp only <;> omega
 ·have := hK _ 64 (2 * (a + b)) rfl (by omega) (by omega)
  have h' : spHas ⟨l, _⟩ 0 = true := h
  simp only [spSq, h', cond_true] at this
  exact this
 ·have := hK _ (2 * (a + b)) (2 * (a + b)) rfl (by omega) (by omega)
  have h' : spHas ⟨l, _⟩ 0 = false := h
  simp only [spSq, h', cond_false] at this
  exact this
def c_pSq : Ctr := fun as0 => match as0 with
 | [.x true [.r l a, .r h b]] => some fun K => ((a + b ≤ 1000000000) ∧ (l ≤ h)) ∧ (∀ (s : Sp) n m, s = spSq ⟨l, h⟩ → n ≤ 2 * (a + b) + 64 → m ≤ 2 * (a + b) → K (.x true [.r s.lo n, .r s.hi m]))
 | _ => none
theorem ok_pSq : CtrOK Tryz.prog tabG debT 172 c_pSq := by
 refine ⟨enters Tryz.func172 (by kernel_rfl), fun l T hT K hK => ?_⟩
 unfold c_pSq at hT
 split at hT
 ·cases hT
  obtain ⟨hc, hK⟩ := hK
  exact spec_ofL T142ok mixed Tryz.func172 (by kernel_rfl) (by kernel_rfl) (by rfl) (g_pSq _ _ _ _ hc K hK)
 ·cases hT
def L143 : List (Nat × Ctr) := (172, c_pSq) :: L142
def T143 : Tabs := mkT L143 M79 X4
theorem L143ok : CtrsOK Tryz.prog tabG debT L143 := .cons ok_pSq L142ok
theorem T143ok : TabsOK Tryz.prog tabG debT T143 := mkTok L143ok M79ok X4ok
def ot_pOut : OT := fun id => bif id.beq 2 then ([0, 1, 2, 4, 5, 6, 3, 7, 8, 9], [[], [0], [], [1, 0, 2], [], [4], [], [5, 4, 6, 3, 1, 0, 2], [3, 1, 0, 2, 7, 5, 4, 6], [8, 3, 1, 0, 2, 7, 5, 4, 6]]) else ([], [])
def goal_pOut (l : Rat) (a : Nat) (h : Rat) (b : Nat) (d : Int) (K : AV → Prop) : Prop := goalL T143 ot_pOut noL Tryz.f174 [.x true [.r l a, .r h b], iA .i64 d] K
theorem goal_pOut_vc (l : Rat) (a : Nat) (h : Rat) (b : Nat) (d : Int) (K : AV → Prop) : goal_pOut l a h b d K = ((a+b≤4294967296∧l≤h)∧(a≤1000000000∧1≤d∧d<9223372036854775808)∧∀(m:Nat),m≤a+200→(b≤1000000000∧1≤d∧d<9223372036854775808)∧∀(m_1:Nat),m_1≤b+200→K (AV.x true [Zg (downR l d.toNat) m,Zg (upR h d.toNat) m_1])) := by kernel_rfl
theorem g_pOut (l : Rat) (a : Nat) (h : Rat) (b : Nat) (d : Int) (hc : (a ≤ 1000000000 ∧ b ≤ 1000000000) ∧ (l ≤ h) ∧ (1 ≤ d ∧ d < 9223372036854775808)) (K : AV → Prop) (hK : ∀ n m, n ≤ a + 200 → m ≤ b + 200 → K (.x true [.r (downR l d.toNat) n, .r (upR h d.toNat) m])) : Holds (goal_pOut l a h b d K) := by
 refine ⟨?_⟩
 rw [goal_pOut_vc]
 try simp only [Za, true_and, and_true, Zc, Zd, true_implies, true_or, or_true]
 obtain ⟨h1, h2, h3⟩ := hc
 exact ⟨⟨by omega, h2⟩, ⟨by omega, h3⟩, fun n hn => ⟨⟨by omega, h3⟩, fun m hm => hK n m hn hm⟩⟩
def c_pOut : Ctr := fun as0 => match as0 with
 | [.x true [.r l a, .r h b], .x false [.v (.int .i64 d)]] => some fun K => ((a ≤ 1000000000 ∧ b ≤ 1000000000) ∧ (l ≤ h) ∧ (1 ≤ d ∧ d < 9223372036854775808)) ∧ (∀ n m, n ≤ a + 200 → m ≤ b + 200 → K (.x true [.r (downR l d.toNat) n, .r (upR h d.toNat) m]))
 | _ => none
theorem ok_pOut : CtrOK Tryz.prog tabG debT 174 c_pOut := by
 refine ⟨enters Tryz.func174 (by kernel_rfl), fun l T hT K hK => ?_⟩
 unfold c_pOut at hT
 split at hT
 ·cases hT
  obtain ⟨hc, hK⟩ := hK
  exact spec_ofL T143ok mixed Tryz.func174 (by kernel_rfl) (by kernel_rfl) (by rfl) (g_pOut _ _ _ _ _ hc K hK)
 ·cases hT
def L144 : List (Nat × Ctr) := (174, c_pOut) :: L143
def T144 : Tabs := mkT L144 M79 X4
theorem L144ok : CtrsOK Tryz.prog tabG debT L144 := .cons ok_pOut L143ok
theorem T144ok : TabsOK Tryz.prog tabG debT T144 := mkTok L144ok M79ok X4ok
def ot_uCosF : OT := fun id => bif id.beq 1 then ([1, 4, 10, 0, 2, 3, 5, 6, 7, 8, 9, 11, 12], [[], [], [0, 1], [2, 0, 1], [], [3, 2, 0, 1, 4], [2, 0, 1, 5, 3, 4], [6, 2, 0, 1, 5, 3, 4], [7, 6, 2, 0, 1, 5, 3, 4], [7, 6, 2, 0, 1, 5, 3, 4], [], [10, 8, 7, 6, 2, 0, 1, 5, 3, 4], [9, 7, 6, 2, 0, 1, 5, 3, 4, 11, 10, 8]]) else ([], [])
def goal_uCosF (p : Rat) (a : Nat) (K : AV → Prop) : Prop := goalL T144 ot_uCosF noL Tryz.f173 [rA p a] K
theorem goal_uCosF_vc (p : Rat) (a : Nat) (K : AV → Prop) : goal_uCosF p a K = (((-9223372036854775808:Int)≤1∧(1:Int)<9223372036854775808)∧64+a+1≤4294967296∧((-9223372036854775808:Int)≤1∧(1:Int)<9223372036854775808)∧64+a+1≤4294967296∧64+a+1+(64+a+1)≤4294967296∧(↑(1:Int)+p≠OfNat.ofNat 0→K (AV.x true [Zg ((↑(1:Int)-p)/(↑(1:Int)+p)) (64+a+1+(64+a+1))]))∧(↑(1:Int)+p=OfNat.ofNat 0→K (AV.x true [Ch.v (Value.bool false),Ch.v (Value.string (Zb (Zf []))),Ch.v (Value.string (Zb (Zf [])))]))) := by kernel_rfl
theorem g_uCosF (p : Rat) (a : Nat) (hc : (a ≤ 1000000000) ∧ (0 ≤ p)) (K : AV → Prop) (hK : K (rA (cosF p) (64 + a + 1 + (64 + a + 1)))) : Holds (goal_uCosF p a K) := by
 refine ⟨?_⟩
 rw [goal_uCosF_vc]
 try simp only [Za, true_and, and_true, Zc, Zd, true_implies, true_or, or_true]
 exact ⟨by omega, by omega, by omega, by omega, by omega, fun _ => hK, fun h => by
  have h : (1 : Rat) + p = 0 := h
  have := hc.2
  exfalso
  grind⟩
def c_uCosF : Ctr := fun as0 => match as0 with
 | [.x true [.r p a]] => some fun K => ((a ≤ 1000000000) ∧ (0 ≤ p)) ∧ (K (rA (cosF p) (64 + a + 1 + (64 + a + 1))))
 | _ => none
theorem ok_uCosF : CtrOK Tryz.prog tabG debT 173 c_uCosF := by
 refine ⟨enters Tryz.func173 (by kernel_rfl), fun l T hT K hK => ?_⟩
 unfold c_uCosF at hT
 split at hT
 ·cases hT
  obtain ⟨hc, hK⟩ := hK
  exact spec_ofL T144ok mixed Tryz.func173 (by kernel_rfl) (by kernel_rfl) (by rfl) (g_uCosF _ _ hc K hK)
 ·cases hT
def L145 : List (Nat × Ctr) := (173, c_uCosF) :: L144
def T145 : Tabs := mkT L145 M79 X4
theorem L145ok : CtrsOK Tryz.prog tabG debT L145 := .cons ok_uCosF L144ok
theorem T145ok : TabsOK Tryz.prog tabG debT T145 := mkTok L145ok M79ok X4ok
def ot_uCosSpan : OT := fun id => bif id.beq 3 then ([0, 1, 2, 4, 5, 6, 3, 7, 8, 9], [[], [], [1], [0, 2, 1], [], [], [5], [4, 6, 5, 3, 0, 2, 1], [3, 0, 2, 1, 7, 4, 6, 5], [8, 3, 0, 2, 1, 7, 4, 6, 5]]) else ([], [])
def goal_uCosSpan (l : Rat) (a : Nat) (h : Rat) (b : Nat) (K : AV → Prop) : Prop := goalL T145 ot_uCosSpan noL Tryz.f129 [.x true [.r l a, .r h b]] K
theorem goal_uCosSpan_vc (l : Rat) (a : Nat) (h : Rat) (b : Nat) (K : AV → Prop) : goal_uCosSpan l a h b K = ((a+b≤1000000000∧l≤h)∧∀(s:Sp) (n m:Nat),s=spSq (Sp.mk l h)→n≤2*(a+b)+64→m≤2*(a+b)→(m≤1000000000∧OfNat.ofNat 0≤s.hi)∧(n≤1000000000∧OfNat.ofNat 0≤s.lo)∧K (AV.x true [Zg (cosF s.hi) (64+m+1+(64+m+1)),Zg (cosF s.lo) (64+n+1+(64+n+1))])) := by kernel_rfl
theorem g_uCosSpan (l : Rat) (a : Nat) (h : Rat) (b : Nat) (hc : (a + b ≤ 200000000) ∧ (l ≤ h)) (K : AV → Prop) (hK : ∀ (s : Sp) n m, s = spCos ⟨l, h⟩ → n ≤ 4 * (a + b) + 400 → m ≤ 4 * (a + b) + 400 → K (.x true [.r s.lo n, .r s.hi m])) : Holds (goal_uCosSpan l a h b K) := by
 refine ⟨?_⟩
 rw [goal_uCosSpan_vc]
 try simp only [Za, true_and, and_true, Zc, Zd, true_implies, true_or, or_true]
 refine ⟨⟨by omega, hc.2⟩, fun s n m hs hn hm => ?_⟩
 subst hs
 have h0 := spSq_nn ⟨l, h⟩
 have h1 := (spSq_has (s := ⟨l, h⟩) (x := l) ⟨Rat.le_refl, hc.2⟩).ok
 exact ⟨⟨by omega, Rat.le_trans h0 h1⟩, ⟨by omega, h0⟩, hK (spCos ⟨l, h⟩) _ _ rfl (by omega) (by omega)⟩
def c_uCosSpan : Ctr := fun as0 => match as0 with
 | [.x true [.r l a, .r h b]] => some fun K => ((a + b ≤ 200000000) ∧ (l ≤ h)) ∧ (∀ (s : Sp) n m, s = spCos ⟨l, h⟩ → n ≤ 4 * (a + b) + 400 → m ≤ 4 * (a + b) + 400 → K (.x true [.r s.lo n, .r s.hi m]))
 | _ => none
theorem ok_uCosSpan : CtrOK Tryz.prog tabG debT 129 c_uCosSpan := by
 refine ⟨enters Tryz.func129 (by kernel_rfl), fun l T hT K hK => ?_⟩
 unfold c_uCosSpan at hT
 split at hT
 ·cases hT
  obtain ⟨hc, hK⟩ := hK
  exact spec_ofL T145ok mixed Tryz.func129 (by kernel_rfl) (by kernel_rfl) (by rfl) (g_uCosSpan _ _ _ _ hc K hK)
 ·cases hT
def L146 : List (Nat × Ctr) := (129, c_uCosSpan) :: L145
def T146 : Tabs := mkT L146 M79 X4
theorem L146ok : CtrsOK Tryz.prog tabG debT L146 := .cons ok_uCosSpan L145ok
theorem T146ok : TabsOK Tryz.prog tabG debT T146 := mkTok L146ok M79ok X4ok
end Go.Proofs
