/- SingleTwo. -/
import Derived.Test.YtdbkndfkgdbhpaaDoorSA
/- SingleTwo. -/
namespace Go.Proofs
open Go Go.Eng
def goal_stwo (l m : List Int) (K : AV → Prop) : Prop := goalL T125 noO noL Tryd.f5 [.x false [.s 1 (ints l)], .x false [.s 1 (ints m)]] K
theorem goal_stwo_vc (l : List Int) (m : List Int) (K : AV → Prop) : goal_stwo l m K = (
 ∃ (ns : List Int),
 [[Ch.v (Value.int IntKind.i64 (3 : Int))]] = ints ns ∧
 (List.length ns ≤ (3 : Nat) ∧ ∀ (n : Int), n ∈ ns → (1 : Int) ≤ n ∧ n ≤ (1000 : Int)) ∧
 (((-9223372036854775808 : Int) < (1 : Int) ∧ (1 : Int) < (9223372036854775808 : Int)) ∧
 (0 : Int) < (1 : Int) ∧ (1 : Int) < (9223372036854775808 : Int)) ∧
 ∃ (a : ArmV),
 ∃ (b : Nat),
 ∃ (qs : List Rat),
 [Ch.v (Value.string (ArmV.name (sampleV ns))), Ch.r (ArmV.x (sampleV ns)) (63 : Nat), Ch.r (ArmV.y (sampleV ns)) (63 : Nat),
 Ch.v (Value.bool false), Ch.r (ArmV.t (sampleV ns)) (63 : Nat),
 Ch.s (16 : Nat) (List.map linkCh (ArmV.links (sampleV ns)))] =
 [Ch.v (Value.string (ArmV.name a)), Ch.r (ArmV.x a) (63 : Nat), Ch.r (ArmV.y a) (63 : Nat),
 Ch.v (Value.bool (ArmV.half a)), Ch.r (ArmV.t a) (63 : Nat), Ch.s (16 : Nat) (List.map linkCh (ArmV.links a))] ∧
 [[Ch.r (mkRat (1 : Int) (1 : Nat)) (63 : Nat)]] = lR b qs ∧
 (GoodArm a ∧ b ≤ (400 : Nat) ∧ List.length qs = List.length (ArmV.links a)) ∧
 ∀ (fs : List FrV) (f : FrV),
 fs ++ [f] = framesV (baseV a) (ArmV.links a) qs →
 List.length fs = List.length (ArmV.links a) →
 bif !decide (rankV (colV f fs) < (2 : Int)) then K (AV.x false [Ch.v (Value.bool false)])
 else
 ∃ (l_1 : List Int),
 ints l = ints l_1 ∧
 List.length l_1 * (8 : Nat) ≤ (140737488351232 : Nat) ∧
 ∀ (a : ArmV),
 GoodArm a →
 List.length (ArmV.links a) = (2 : Nat) →
 ∃ (a_4 : ArmV),
 ∃ (l : List Int),
 [Ch.v (Value.string (ArmV.name a)), Ch.r (ArmV.x a) (63 : Nat), Ch.r (ArmV.y a) (63 : Nat),
 Ch.v (Value.bool (ArmV.half a)), Ch.r (ArmV.t a) (63 : Nat),
 Ch.s (16 : Nat) (List.map linkCh (ArmV.links a))] =
 [Ch.v (Value.string (ArmV.name a_4)), Ch.r (ArmV.x a_4) (63 : Nat),
 Ch.r (ArmV.y a_4) (63 : Nat), Ch.v (Value.bool (ArmV.half a_4)),
 Ch.r (ArmV.t a_4) (63 : Nat), Ch.s (16 : Nat) (List.map linkCh (ArmV.links a_4))] ∧
 ints m = ints l ∧
 (GoodArm a_4 ∧ List.length l ≤ (9223372036854775807 : Nat)) ∧
 ∀ (qs : List Rat),
 (∀ (i : Nat) (L : LinkV) (q : Rat),
 (ArmV.links a_4)[i]? = some L → qs[i]? = some q → LinkV.lo L ≤ q ∧ q ≤ LinkV.hi L) →
 List.length qs = List.length (ArmV.links a_4) →
 ∃ (a_7 : ArmV),
 ∃ (b : Nat),
 ∃ (qs_1 : List Rat),
 [Ch.v (Value.string (ArmV.name a)), Ch.r (ArmV.x a) (63 : Nat),
 Ch.r (ArmV.y a) (63 : Nat), Ch.v (Value.bool (ArmV.half a)),
 Ch.r (ArmV.t a) (63 : Nat),
 Ch.s (16 : Nat) (List.map linkCh (ArmV.links a))] =
 [Ch.v (Value.string (ArmV.name a_7)), Ch.r (ArmV.x a_7) (63 : Nat),
 Ch.r (ArmV.y a_7) (63 : Nat), Ch.v (Value.bool (ArmV.half a_7)),
 Ch.r (ArmV.t a_7) (63 : Nat),
 Ch.s (16 : Nat) (List.map linkCh (ArmV.links a_7))] ∧
 lR (63 : Nat) qs = lR b qs_1 ∧
 (GoodArm a_7 ∧
 b ≤ (400 : Nat) ∧ List.length qs_1 = List.length (ArmV.links a_7)) ∧
 ∀ (fs : List FrV) (f : FrV),
 fs ++ [f] = framesV (baseV a_7) (ArmV.links a_7) qs_1 →
 List.length fs = List.length (ArmV.links a_7) →
 ((0 : Int) ≤ (1 : Int) ∧
 (1 : Int) < Int.ofNat (List.length (lR (63 : Nat) qs))) ∧
 ∃ (q : Rat),
 ∃ (n : Nat),
 ldE (lR (63 : Nat) qs) (1 : Nat) (0 : Nat) (3 : Nat) =
 some [Ch.r q n] ∧
 n ≤ (4294967296 : Nat) ∧
 True ∧
 K
 (AV.x false
 [Ch.v
 (Value.bool
 (decide (rankV (colV f fs) < (2 : Int)) ==
 (sgnR q == (0 : Int))))])) := by kernel_rfl
theorem g_stwo (l m : List Int) (hl : l.length * 8 ≤ 140737488351232) (hm : m.length ≤ 9223372036854775807) (K : AV → Prop) (hK : K (.x false [.v (.bool true)])) : Holds (goal_stwo l m K) := by
  refine ⟨?_⟩
  rw [goal_stwo_vc]
  simp only [Int.ofNat_eq_natCast, true_and, and_true, Nat.zero_add, Nat.le_refl, true_implies, true_or, or_true]
  refine ⟨[3], rfl, ⟨by simp, by simp⟩, by omega, sampleV [3], 63, [mkRat 1 1], rfl, rfl, ⟨sample_good (by simp) (by simp), by omega, rfl⟩, fun fs f hf hfl => bif_mk (fun h => ?_) (fun _ => ⟨l, rfl, hl, fun a ha h2 => ⟨a, m, rfl, rfl, ⟨ha, hm⟩, fun qs _ hq => ⟨a, 63, qs, rfl, rfl, ⟨ha, by omega, hq⟩, fun gs g hg hgl => ?_⟩⟩⟩)⟩
  · exfalso
    obtain ⟨f0, rfl⟩ : ∃ f0, fs = [f0] := by
      match fs, (show fs.length = 1 from hfl) with
      | [f0], _ => exact ⟨_, rfl⟩
    have e : rankV (colV f [f0]) = rk false _ := rank1 _
    rw [e] at h
    generalize nzb _ = z at h
    cases z <;> simp [rk] at h
  · have hgl := hgl.trans h2
    have hq := hq.trans h2
    obtain ⟨f0, f1, rfl⟩ : ∃ f0 f1, gs = [f0, f1] := by
      match gs, hgl with
      | [f0, f1], _ => exact ⟨_, _, rfl⟩
    obtain ⟨p, q, rfl⟩ : ∃ p q, qs = [p, q] := by
      match qs, hq with
      | [p, q], _ => exact ⟨_, _, rfl⟩
    obtain ⟨L, M, hLM⟩ : ∃ L M, a.links = [L, M] := by
      match a.links, h2 with
      | [L, M], _ => exact ⟨_, _, rfl⟩
    have hL := (ha.links L (by rw [hLM]; simp)).len
    have hM := (ha.links M (by rw [hLM]; simp)).len
    rw [hLM] at hg
    have hc := two_cross (baseV a) L M p q f0 f1 g hg.symm
    refine ⟨by simp [lR], q, 63, lR_ld (i := 1) rfl, by omega, ?_⟩
    have e : rankV (colV g [f0, f1]) = rk (!(decide (crs (-(g.y - f1.y), g.x - f1.x) (-(g.y - f0.y), g.x - f0.x) = 0))) _ := rank2 _ _
    rw [e, hc, sgn_eq]
    have hz : -(L.len * M.len * sinT false q) = 0 ↔ q = 0 := by
      constructor
      · intro h
        have h : L.len * M.len * sinT false q = 0 := by grind
        rcases Rat.mul_eq_zero.1 h with h | h
        · rcases Rat.mul_eq_zero.1 h with h | h
          · rw [h] at hL; exact absurd hL Rat.lt_irrefl
          · rw [h] at hM; exact absurd hM Rat.lt_irrefl
        · exact (sin_zero q).1 h
      · rintro rfl
        rw [(sin_zero 0).2 rfl, Rat.mul_zero]; rfl
    by_cases h : q = 0
    · rw [decide_eq_true (hz.2 h), decide_eq_true h]
      generalize (nzb _ || nzb _) = z
      cases z <;> simpa [rk] using hK
    · rw [decide_eq_false (fun e => h (hz.1 e)), decide_eq_false h]
      simpa [rk] using hK
theorem spec_stwo (l m : List Int) (hl : l.length * 8 ≤ 140737488351232) (_ : ∀ n ∈ l, -9223372036854775808 ≤ n ∧ n < 9223372036854775808) (hm : m.length ≤ 9223372036854775807) : Eng.Spec Tryd.prog tabG debT 5 [.x false [.s 1 (ints l)], .x false [.s 1 (ints m)]] (fun av => av = .x false [.v (.bool true)]) :=
  spec_ofL T125ok mixed Tryd.func5 (by kernel_rfl) (by kernel_rfl) (by rfl) (g_stwo l m hl hm _ rfl)
end Go.Proofs
