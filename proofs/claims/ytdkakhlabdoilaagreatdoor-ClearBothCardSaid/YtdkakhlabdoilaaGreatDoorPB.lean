/- Spans: contracts. -/
import Derived.Test.YtdkakhlabdoilaaGreatDoorFC
import Derived.Test.YtdkakhlabdoilaaGreatDoorPA
/- Spans: contracts. -/
namespace Go.Proofs
open Go Go.Eng
theorem conc_whole {w : World} {O : Nat → Prop} {ρ : Env} {m n : Nat} {v : Value} (h : ConcV w O ρ (.x true [.v (.bool false), .b m n, .v (.string ⟨⟨[1]⟩⟩)]) v) : ConcV w O ρ (.x true [.r (m : Rat) (n + 1)]) v := by
 obtain ⟨vals, h1, h2⟩ := h
 cases h1 with
 | v _ h1 => cases h1 with
  | b hm h1 => cases h1 with
   | v _ h1 =>
    cases h1
    refine ⟨_, ?_, h2⟩
    have hn : ((m : Nat) : Rat).num = m := rfl
    have hd : ((m : Nat) : Rat).den = 1 := rfl
    have e : [Value.bool false, strOf (natBytes m), Value.string ⟨⟨[1]⟩⟩] = [negV (m : Rat), numV (m : Rat), denV (m : Rat)] := by
     unfold negV numV denV
     rw [hn, hd]
     have : decide ((m : Int) < 0) = false := decide_eq_false (by omega)
     rw [this]
     rfl
    rw [e]
    refine .r ⟨?_, ?_⟩ .nil
    ·rw [hn]; have : 2 ^ n ≤ 2 ^ (n + 1) := Nat.pow_le_pow_right (by decide) (by omega); show (m : Int).natAbs < _; rw [Int.natAbs_natCast]; omega
    ·rw [hd]; exact Nat.one_lt_two_pow (by omega)
def c_rMulW : Ctr := fun as0 => match as0 with
 | [.x true [.r p a], .x true [.v (.bool false), .b m n, .v (.string ⟨⟨[1]⟩⟩)]] => some fun K => a + n + 1 ≤ 4294967296 ∧ K (rA (p * (m : Rat)) (a + n + 1))
 | as0 => c_rMul as0
theorem ok_rMulW : CtrOK Tryz.prog tabG debT 53 c_rMulW := by
 refine ⟨ok_rMul.enter, fun l T hT K hK => ?_⟩
 unfold c_rMulW at hT
 split at hT
 ·rename_i p a m n
  cases hT
  refine Eng.Spec.args (ok_rMul.sound [.x true [.r p a], .x true [.r (m : Rat) (n + 1)]] _ rfl K hK) fun w O vals hc => ?_
  cases hc with
  | cons h1 h2 => cases h2 with
   | cons h2 h3 => exact .cons h1 (.cons (conc_whole h2) h3)
 ·exact ok_rMul.sound _ T hT K hK
def L130 : List (Nat × Ctr) := (53, c_rMulW) :: L95
theorem L130ok : CtrsOK Tryz.prog tabG debT L130 := .cons ok_rMulW L95ok
def L131 : List (Nat × Ctr) := L130
theorem L131ok : CtrsOK Tryz.prog tabG debT L131 := L130ok
def L132 : List (Nat × Ctr) := L131
theorem L132ok : CtrsOK Tryz.prog tabG debT L132 := L131ok
def L133 : List (Nat × Ctr) := L132
theorem L133ok : CtrsOK Tryz.prog tabG debT L133 := L132ok
def L134 : List (Nat × Ctr) := L133
theorem L134ok : CtrsOK Tryz.prog tabG debT L134 := L133ok
def L135 : List (Nat × Ctr) := L134
theorem L135ok : CtrsOK Tryz.prog tabG debT L135 := L134ok
def L136 : List (Nat × Ctr) := L135
theorem L136ok : CtrsOK Tryz.prog tabG debT L136 := L135ok
def L137 : List (Nat × Ctr) := L136
theorem L137ok : CtrsOK Tryz.prog tabG debT L137 := L136ok
def L138 : List (Nat × Ctr) := L137
theorem L138ok : CtrsOK Tryz.prog tabG debT L138 := L137ok
def L139 : List (Nat × Ctr) := L138
theorem L139ok : CtrsOK Tryz.prog tabG debT L139 := L138ok
def L140 : List (Nat × Ctr) := L139
theorem L140ok : CtrsOK Tryz.prog tabG debT L140 := L139ok
def L141 : List (Nat × Ctr) := L140
theorem L141ok : CtrsOK Tryz.prog tabG debT L141 := L140ok
def L142 : List (Nat × Ctr) := L141
theorem L142ok : CtrsOK Tryz.prog tabG debT L142 := L141ok
def L143 : List (Nat × Ctr) := L142
theorem L143ok : CtrsOK Tryz.prog tabG debT L143 := L142ok
def L144 : List (Nat × Ctr) := L143
theorem L144ok : CtrsOK Tryz.prog tabG debT L144 := L143ok
def L145 : List (Nat × Ctr) := L144
theorem L145ok : CtrsOK Tryz.prog tabG debT L145 := L144ok
def L146 : List (Nat × Ctr) := L145
def T146 : Tabs := mkT L146 M79 X4
theorem L146ok : CtrsOK Tryz.prog tabG debT L146 := L145ok
end Go.Proofs
