/- rat.whole, nat.Int, rat.Floor. -/
import Derived.Test.YtglebancgilfdaaDoorA1
/- rat.whole, nat.Int, rat.Floor. -/
namespace Go.Proofs
open Go Go.Eng
theorem ediv_of {a d q : Int} (hd : 0 < d) (h1 : q * d ≤ a) (h2 : a < (q + 1) * d) : a / d = q :=
 Int.le_antisymm (Int.le_of_lt_add_one (Int.ediv_lt_of_lt_mul hd h2)) (Int.le_ediv_of_mul_le hd h1)
theorem mk_int (n : Int) : mkRat n 1 = (n : Rat) := by rw [Rat.mkRat_one]
theorem floor_eq (p : Rat) : p.floor = p.num / (p.den : Int) := Rat.floor_def p
theorem whole_nn {p : Rat} (h : ¬ p.num < 0) : ratMk (decide (p.num < 0)) (p.num.natAbs / p.den) 1 = ((p.floor : Int) : Rat) := by
 unfold ratMk
 rw [decide_eq_false h, cond_false, mk_int, floor_eq]
 congr 1
 rw [Int.natCast_ediv]
 congr 1
 omega
theorem whole_neg {p : Rat} (h : p.num < 0) : ratMk (decide (p.num < 0)) (p.num.natAbs / p.den + (if p.num.natAbs % p.den = 0 then 0 else 1)) 1 = ((p.floor : Int) : Rat) := by
 unfold ratMk
 rw [decide_eq_true h, cond_true, mk_int, floor_eq]
 congr 1
 have hd : 0 < p.den := Nat.pos_of_ne_zero p.den_nz
 have e := Nat.div_add_mod p.num.natAbs p.den
 have hm := Nat.mod_lt p.num.natAbs hd
 have hk : p.num = -(p.num.natAbs : Int) := by omega
 symm
 generalize p.num.natAbs = k at *
 generalize p.den = d at *
 rw [hk]
 generalize k / d = q at *
 generalize k % d = r at *
 have e' : (d : Int) * q + r = k := by exact_mod_cast e
 refine ediv_of (by omega) ?_ ?_
 ·split
  ·have : -((q + 0 : Nat) : Int) * (d : Int) = -((d : Int) * q) := by rw [Nat.add_zero, Int.neg_mul, Int.mul_comm]
   rw [this]; omega
  ·have : -((q + 1 : Nat) : Int) * (d : Int) = -((d : Int) * q) - d := by rw [Int.neg_mul, Int.natCast_add, Int.add_mul, Int.mul_comm (q : Int)]; omega
   rw [this]; omega
 ·split
  ·have : (-((q + 0 : Nat) : Int) + 1) * (d : Int) = -((d : Int) * q) + d := by rw [Nat.add_zero, Int.add_mul, Int.neg_mul, Int.mul_comm (q : Int)]; omega
   rw [this]; omega
  ·have : (-((q + 1 : Nat) : Int) + 1) * (d : Int) = -((d : Int) * q) := by
    have : -((q + 1 : Nat) : Int) + 1 = -(q : Int) := by omega
    rw [this, Int.neg_mul, Int.mul_comm]
   rw [this]; omega
def ot_rWhole : OT := fun _ => ([], [])
def goal_rWhole (p : Rat) (a : Nat) (K : AV → Prop) : Prop := goalL T49 ot_rWhole noL Tryd.f81 [rA p a] K
theorem goal_rWhole_vc (p : Rat) (a : Nat) (K : AV → Prop) : goal_rWhole p a K = ((a≤549755813888∧a≤549755813888)∧bif decide (p.num<0) then bif !decide (natBytes (bif decide (p.den=0) then 0 else p.num.natAbs%p.den)=(ByteArray.mk #[]).data.toList) then (a≤549755813888∧8≤549755813888)∧((max a 8+1≤4294967296∧8≤4294967296)∧1≠0)∧K (AV.x true [Ch.r (ratMk (decide (p.num<0)) (p.num.natAbs/p.den+1) 1) (max (max a 8+1) 8)]) else ((a≤4294967296∧8≤4294967296)∧1≠0)∧K (AV.x true [Ch.r (ratMk (decide (p.num<0)) (p.num.natAbs/p.den) 1) (max a 8)]) else ((a≤4294967296∧8≤4294967296)∧1≠0)∧K (AV.x true [Ch.r (ratMk (decide (p.num<0)) (p.num.natAbs/p.den) 1) (max a 8)])) := by kernel_rfl
theorem g_rWhole (p : Rat) (a : Nat) (hc : (a ≤ 2000000000)) (K : AV → Prop) (hK : ∀ m, m ≤ a + 16 → K (rA ((p.floor : Int) : Rat) m)) : Holds (goal_rWhole p a K) := by
 refine ⟨?_⟩
 rw [goal_rWhole_vc]
 try simp only [Int.ofNat_eq_natCast, true_and, and_true, Nat.zero_add, Nat.le_refl, true_implies, true_or, or_true]
 have hd : p.den ≠ 0 := p.den_nz
 rw [decide_eq_false hd, cond_false]
 refine ⟨by omega, bif_mk (fun h => ?_) (fun h => ?_)⟩
 ·have h := of_decide_eq_true h
  have e := whole_neg h
  refine bif_mk (fun h2 => ⟨by omega, by omega, ?_⟩) (fun h2 => ⟨by omega, ?_⟩)
  ·have h2 : ¬ natBytes (p.num.natAbs % p.den) = [] := by simpa using h2
   rw [if_neg (fun e => h2 (natBytes_nil.2 e))] at e
   rw [e]
   exact hK _ (by omega)
  ·have h2 : natBytes (p.num.natAbs % p.den) = [] := by simpa using h2
   rw [if_pos (natBytes_nil.1 h2), Nat.add_zero] at e
   rw [e]
   exact hK _ (by omega)
 ·refine ⟨by omega, ?_⟩
  rw [whole_nn (of_decide_eq_false h)]
  exact hK _ (by omega)
def c_rWhole : Ctr := fun as0 => match as0 with
 | [.x true [.r p a]] => some fun K => ((a ≤ 2000000000)) ∧ (∀ m, m ≤ a + 16 → K (rA ((p.floor : Int) : Rat) m))
 | _ => none
theorem ok_rWhole : CtrOK Tryd.prog tabG debT 81 c_rWhole := by
 refine ⟨enters Tryd.func81 (by kernel_rfl), fun l T hT K hK => ?_⟩
 unfold c_rWhole at hT
 split at hT
 ·cases hT
  obtain ⟨hc, hK⟩ := hK
  exact spec_ofL T49ok mixed Tryd.func81 (by kernel_rfl) (by kernel_rfl) (by rfl) (g_rWhole _ _ hc K hK)
 ·cases hT
def L50f : List (Nat × Ctr) := (81, c_rWhole) :: L49
noncomputable def T50f : Tabs := mkT L50f M48 X4
theorem L50fok : CtrsOK Tryd.prog tabG debT L50f := .cons ok_rWhole L49ok
theorem T50fok : TabsOK Tryd.prog tabG debT T50f := mkTok L50fok M48ok X4ok
def ot_nInt : OT := fun _ => ([], [])
def goal_nInt (m : Nat) (n : Nat) (K : AV → Prop) : Prop := goalL T50f ot_nInt noL Tryd.f82 [bA m n] K
theorem goal_nInt_vc (m : Nat) (n : Nat) (K : AV → Prop) : goal_nInt m n K = (bif decide (Int.ofNat (natBytes m).length>8) then K (AV.t [(false,[Ch.v (Value.int IntKind.i64 0)]),(false,[Ch.v (Value.int IntKind.i64 2)])]) else m<18446744073709551616∧bif decide (Int.ofNat m>9223372036854775807) then K (AV.t [(false,[Ch.v (Value.int IntKind.i64 0)]),(false,[Ch.v (Value.int IntKind.i64 2)])]) else m<18446744073709551616∧K (AV.t [(false,[Ch.v (Value.int IntKind.i64 (IntKind.i64.wrap (Int.ofNat m)))]),(false,[Ch.v (Value.int IntKind.i64 0)])])) := by kernel_rfl
theorem g_nInt (m : Nat) (n : Nat) (hc : (m < 9223372036854775808)) (K : AV → Prop) (hK : K (.t [(false, [.v (.int .i64 m)]), (false, [.v (.int .i64 0)])])) : Holds (goal_nInt m n K) := by
 refine ⟨?_⟩
 rw [goal_nInt_vc]
 try simp only [Int.ofNat_eq_natCast, true_and, and_true, Nat.zero_add, Nat.le_refl, true_implies, true_or, or_true]
 exact bif_mk (fun h => by have := of_decide_eq_true h; have : (natBytes m).length ≤ 8 := natBytes_len_iff.2 (by omega); omega) (fun _ => ⟨by omega, bif_mk (fun h => by have := of_decide_eq_true h; omega) (fun _ => ⟨by omega, by rw [w64 (by omega)]; exact hK⟩)⟩)
def c_nInt : Ctr := fun as0 => match as0 with
 | [.x false [.b m n]] => some fun K => ((m < 9223372036854775808)) ∧ (K (.t [(false, [.v (.int .i64 m)]), (false, [.v (.int .i64 0)])]))
 | _ => none
theorem ok_nInt : CtrOK Tryd.prog tabG debT 82 c_nInt := by
 refine ⟨enters Tryd.func82 (by kernel_rfl), fun l T hT K hK => ?_⟩
 unfold c_nInt at hT
 split at hT
 ·cases hT
  obtain ⟨hc, hK⟩ := hK
  exact spec_ofL T50fok mixed Tryd.func82 (by kernel_rfl) (by kernel_rfl) (by rfl) (g_nInt _ _ hc K hK)
 ·cases hT
def L51f : List (Nat × Ctr) := (82, c_nInt) :: L50f
noncomputable def T51f : Tabs := mkT L51f M48 X4
theorem L51fok : CtrsOK Tryd.prog tabG debT L51f := .cons ok_nInt L50fok
theorem T51fok : TabsOK Tryd.prog tabG debT T51f := mkTok L51fok M48ok X4ok
def ot_rFloor : OT := fun _ => ([], [])
def goal_rFloor (p : Rat) (a : Nat) (K : AV → Prop) : Prop := goalL T51f ot_rFloor noL Tryd.f54 [rA p a] K
theorem goal_rFloor_vc (p : Rat) (a : Nat) (K : AV → Prop) : goal_rFloor p a K = (a≤(4294967296:Nat)∧a≤(2000000000:Nat)∧∀(m:Nat),m≤a+(16:Nat)→Int.natAbs (Rat.num ↑(Rat.floor p))<(9223372036854775808:Nat)∧bif decide (Rat.num ↑(Rat.floor p)<(0:Int)) then K (AV.t [(false,[Ch.v (Value.int IntKind.i64 (IntKind.wrap IntKind.i64 ((0:Int)-Int.ofNat (Int.natAbs (Rat.num ↑(Rat.floor p))))))]),(false,[Ch.v (Value.int IntKind.i64 (0:Int))])]) else K (AV.t [(false,[Ch.v (Value.int IntKind.i64 (Int.ofNat (Int.natAbs (Rat.num ↑(Rat.floor p)))))]),(false,[Ch.v (Value.int IntKind.i64 (0:Int))])])) := by kernel_rfl
theorem g_rFloor (p : Rat) (a : Nat) (hc : (a ≤ 2000000000) ∧ (-9223372036854775808 < p.floor ∧ p.floor < 9223372036854775808)) (K : AV → Prop) (hK : K (.t [(false, [.v (.int .i64 p.floor)]), (false, [.v (.int .i64 0)])])) : Holds (goal_rFloor p a K) := by
 refine ⟨?_⟩
 rw [goal_rFloor_vc]
 try simp only [Int.ofNat_eq_natCast, true_and, and_true, Nat.zero_add, Nat.le_refl, true_implies, true_or, or_true]
 obtain ⟨ha, h1, h2⟩ := hc
 simp only [Rat.num_intCast]
 refine ⟨by omega, ha, fun m hm => ⟨by omega, bif_mk (fun h => ?_) (fun h => ?_)⟩⟩
 ·have h := of_decide_eq_true h
  have e : IntKind.i64.wrap (0 - (p.floor.natAbs : Int)) = p.floor := by rw [w64 (by omega)]; omega
  rw [e]
  exact hK
 ·have h := of_decide_eq_false h
  have e : ((p.floor.natAbs : Nat) : Int) = p.floor := by omega
  rw [e]
  exact hK
def c_rFloor : Ctr := fun as0 => match as0 with
 | [.x true [.r p a]] => some fun K => ((a ≤ 2000000000) ∧ (-9223372036854775808 < p.floor ∧ p.floor < 9223372036854775808)) ∧ (K (.t [(false, [.v (.int .i64 p.floor)]), (false, [.v (.int .i64 0)])]))
 | _ => none
theorem ok_rFloor : CtrOK Tryd.prog tabG debT 54 c_rFloor := by
 refine ⟨enters Tryd.func54 (by kernel_rfl), fun l T hT K hK => ?_⟩
 unfold c_rFloor at hT
 split at hT
 ·cases hT
  obtain ⟨hc, hK⟩ := hK
  exact spec_ofL T51fok mixed Tryd.func54 (by kernel_rfl) (by kernel_rfl) (by rfl) (g_rFloor _ _ hc K hK)
 ·cases hT
def L52f : List (Nat × Ctr) := (54, c_rFloor) :: L51f
noncomputable def T52f : Tabs := mkT L52f M48 X4
end Go.Proofs
