/- TrackLimits. -/
import Derived.Test.YtmbpebgpiacppaaDoorK1
/- TrackLimits. -/
namespace Go.Proofs
open Go Go.Eng
structure LmX where
  a : ArmV
  b : Nat
  v : List Rat
  i : Nat
def SpOK (a : ArmV) (v : List Rat) : Prop := ∀ (j : Nat) (L : LinkV) (q : Rat), a.links[j]? = some L → v[j]? = some q → absR q ≤ L.sp
def inv_tlim : LI := fun _ => .inv ⟨LmX, fun x => ⟨[(11, sR x.b x.v), (69, .x false [.s 16 (x.a.links.map linkCh)]), (70, iA .i64 x.a.links.length), (71, iA .i64 x.i)], []⟩, fun x => (SpOK x.a x.v ∧ x.v.length = x.a.links.length ∧ x.a.links.length ≤ 3) ∧ x.b ≤ 1000000 ∧ x.i ≤ x.a.links.length, fun x => x.a.links.length - x.i, fun _ => 0⟩
def ot_tlim : OT := fun id => bif id.beq 7 then ([0, 1, 2, 3, 4, 5, 6, 7, 8, 9, 10, 11, 12, 13, 14, 15, 16, 17, 18, 19, 20, 21], [[], [0], [1, 0], [2, 1, 0], [3, 2, 1, 0], [], [], [], [7], [8, 7], [6, 9, 8, 7], [10, 6, 9, 8, 7], [11, 10, 6, 9, 8, 7], [], [13], [14, 13], [15, 14, 13], [12, 11, 10, 6, 9, 8, 7, 16, 15, 14, 13], [17, 12, 11, 10, 6, 9, 8, 7, 16, 15, 14, 13], [5, 18, 17, 12, 11, 10, 6, 9, 8, 7, 16, 15, 14, 13], [4, 3, 2, 1, 0, 19, 5, 18, 17, 12, 11, 10, 6, 9, 8, 7, 16, 15, 14, 13], [20, 4, 3, 2, 1, 0, 19, 5, 18, 17, 12, 11, 10, 6, 9, 8, 7, 16, 15, 14, 13]]) else bif id.beq 14 then ([0, 1, 2, 3, 5, 6, 4, 7, 8], [[], [], [0, 1], [2, 0, 1], [3, 2, 0, 1], [], [5], [4, 3, 2, 0, 1, 6, 5], [7, 4, 3, 2, 0, 1, 6, 5]]) else ([], [])
def goal_tlim (l m : List Int) (x : Int) (K : AV → Prop) : Prop := goalL T56 ot_tlim inv_tlim Tryd.f7 [.x false [.s 1 (ints l)], .x false [.s 1 (ints m)], iA .i64 x] K
theorem goal_tlim_vc (l : List Int) (m : List Int) (x : Int) (K : AV → Prop) : goal_tlim l m x K = (
 True ∧
 ∃ (l_1 : List Int),
 ints l = ints l_1 ∧
 List.length l_1 ≤ (9223372036854775807 : Nat) ∧
 ∀ (a : ArmV),
 Made a ∧ (1 : Nat) ≤ List.length (ArmV.links a) →
 ∃ (a_2 : ArmV),
 ∃ (l : List Int),
 [Ch.v (Value.string (ArmV.name a)), Ch.r (ArmV.x a) (63 : Nat), Ch.r (ArmV.y a) (63 : Nat), Ch.v (Value.bool (ArmV.half a)),
 Ch.r (ArmV.t a) (63 : Nat), Ch.s (16 : Nat) (List.map linkCh (ArmV.links a))] =
 [Ch.v (Value.string (ArmV.name a_2)), Ch.r (ArmV.x a_2) (63 : Nat), Ch.r (ArmV.y a_2) (63 : Nat),
 Ch.v (Value.bool (ArmV.half a_2)), Ch.r (ArmV.t a_2) (63 : Nat), Ch.s (16 : Nat) (List.map linkCh (ArmV.links a_2))] ∧
 ints m = ints l ∧
 (GoodArm a_2 ∧ List.length l ≤ (9223372036854775807 : Nat)) ∧
 ∀ (ks : List KeyV),
 MadeT a_2 ks →
 (1 : Nat) ≤ List.length ks →
 List.length ks ≤ (4 : Nat) →
 ∃ (a_6 : ArmV),
 ∃ (ks_1 : List KeyV),
 [Ch.v (Value.string (ArmV.name a)), Ch.r (ArmV.x a) (63 : Nat), Ch.r (ArmV.y a) (63 : Nat),
 Ch.v (Value.bool (ArmV.half a)), Ch.r (ArmV.t a) (63 : Nat),
 Ch.s (16 : Nat) (List.map linkCh (ArmV.links a))] =
 [Ch.v (Value.string (ArmV.name a_6)), Ch.r (ArmV.x a_6) (63 : Nat), Ch.r (ArmV.y a_6) (63 : Nat),
 Ch.v (Value.bool (ArmV.half a_6)), Ch.r (ArmV.t a_6) (63 : Nat),
 Ch.s (16 : Nat) (List.map linkCh (ArmV.links a_6))] ∧
 List.map keyCh ks = List.map keyCh ks_1 ∧
 TrackOK a_6 ks_1 ∧
 bif Int.ofNat (List.length (List.map keyCh ks)) == (0 : Int) then
 K (AV.x false [Ch.v (Value.bool false)])
 else
 ((0 : Int) ≤ (0 : Int) ∧ (0 : Int) < Int.ofNat (List.length (List.map keyCh ks))) ∧
 ∃ (d : Int),
 ldE (List.map keyCh ks) (0 : Nat) (0 : Nat) (1 : Nat) =
 some [Ch.v (Value.int IntKind.i64 d)] ∧
 ((0 : Int) ≤
 IntKind.wrap IntKind.i64 (Int.ofNat (List.length (List.map keyCh ks)) - (1 : Int)) ∧
 IntKind.wrap IntKind.i64 (Int.ofNat (List.length (List.map keyCh ks)) - (1 : Int)) <
 Int.ofNat (List.length (List.map keyCh ks))) ∧
 ∃ (d_1 : Int),
 ldE (List.map keyCh ks)
 (Int.toNat
 (IntKind.wrap IntKind.i64
 (Int.ofNat (List.length (List.map keyCh ks)) - (1 : Int))))
 (0 : Nat) (1 : Nat) =
 some [Ch.v (Value.int IntKind.i64 d_1)] ∧
 ((0 : Int) ≤ (0 : Int) ∧ (0 : Int) < Int.ofNat (List.length (List.map keyCh ks))) ∧
 ∃ (d_2 : Int),
 ldE (List.map keyCh ks) (0 : Nat) (0 : Nat) (1 : Nat) =
 some [Ch.v (Value.int IntKind.i64 d_2)] ∧
 ((0 : Int) <
 IntKind.wrap IntKind.i64
 (IntKind.wrap IntKind.i64 (d_1 - d_2) + (10 : Int)) ∧
 IntKind.wrap IntKind.i64
 (IntKind.wrap IntKind.i64 (d_1 - d_2) + (10 : Int)) <
 (9223372036854775808 : Int)) ∧
 ∃ (ks_2 : List KeyV),
 ∃ (m : Nat),
 ∃ (N : Nat),
 List.map keyCh ks = List.map keyCh ks_2 ∧
 (KeysOK ks_2 m N ∧
 (N ≤ (10000 : Nat) ∧
 m ≤ (100000 : Nat) ∧
 (1 : Nat) ≤ List.length ks_2 ∧
 List.length ks_2 ≤ (100000 : Nat)) ∧
 (-4611686018427387904 : Int) ≤
 IntKind.wrap IntKind.i64
 (IntKind.wrap IntKind.i64 (d - (5 : Int)) +
 x %
 IntKind.wrap IntKind.i64
 (IntKind.wrap IntKind.i64 (d_1 - d_2) +
 (10 : Int))) ∧
 IntKind.wrap IntKind.i64
 (IntKind.wrap IntKind.i64 (d - (5 : Int)) +
 x %
 IntKind.wrap IntKind.i64
 (IntKind.wrap IntKind.i64 (d_1 - d_2) +
 (10 : Int))) <
 (4611686018427387904 : Int)) ∧
 ∃ (ks_3 : List KeyV),
 ∃ (m : Nat),
 ∃ (N : Nat),
 List.map keyCh ks = List.map keyCh ks_3 ∧
 (KeysOK ks_3 m N ∧
 (N ≤ (10000 : Nat) ∧
 m ≤ (100000 : Nat) ∧
 (1 : Nat) ≤ List.length ks_3 ∧
 List.length ks_3 ≤ (100000 : Nat)) ∧
 (-4611686018427387904 : Int) ≤
 IntKind.wrap IntKind.i64
 (IntKind.wrap IntKind.i64 (d - (5 : Int)) +
 x %
 IntKind.wrap IntKind.i64
 (IntKind.wrap IntKind.i64 (d_1 - d_2) +
 (10 : Int))) ∧
 IntKind.wrap IntKind.i64
 (IntKind.wrap IntKind.i64 (d - (5 : Int)) +
 x %
 IntKind.wrap IntKind.i64
 (IntKind.wrap IntKind.i64 (d_1 - d_2) +
 (10 : Int))) +
 (1 : Int) <
 (4611686018427387904 : Int)) ∧
 ∃ (a_7 : ArmV),
 ∃ (n : Nat),
 ∃ (qs : List Rat),
 [Ch.v (Value.string (ArmV.name a)),
 Ch.r (ArmV.x a) (63 : Nat),
 Ch.r (ArmV.y a) (63 : Nat),
 Ch.v (Value.bool (ArmV.half a)),
 Ch.r (ArmV.t a) (63 : Nat),
 Ch.s (16 : Nat)
 (List.map linkCh (ArmV.links a))] =
 [Ch.v (Value.string (ArmV.name a_7)),
 Ch.r (ArmV.x a_7) (63 : Nat),
 Ch.r (ArmV.y a_7) (63 : Nat),
 Ch.v (Value.bool (ArmV.half a_7)),
 Ch.r (ArmV.t a_7) (63 : Nat),
 Ch.s (16 : Nat)
 (List.map linkCh (ArmV.links a_7))] ∧
 lR
 (Prod.snd
 (atR ks_2
 (IntKind.wrap IntKind.i64
 (IntKind.wrap IntKind.i64
 (d - (5 : Int)) +
 x %
 IntKind.wrap IntKind.i64
 (IntKind.wrap IntKind.i64
 (d_1 - d_2) +
 (10 : Int))))))
 (Prod.fst
 (atR ks_2
 (IntKind.wrap IntKind.i64
 (IntKind.wrap IntKind.i64
 (d - (5 : Int)) +
 x %
 IntKind.wrap IntKind.i64
 (IntKind.wrap IntKind.i64
 (d_1 - d_2) +
 (10 : Int)))))) =
 lR n qs ∧
 (GoodArm a_7 ∧
 n ≤ (1000000 : Nat) ∧
 List.length qs =
 List.length (ArmV.links a_7)) ∧
 ((∀ (i : Nat) (L : LinkV) (q : Rat),
 (ArmV.links a_7)[i]? = some L →
 qs[i]? = some q →
 LinkV.lo L ≤ q ∧ q ≤ LinkV.hi L) →
 bif
 Int.ofNat
 (List.length
 (lR
 (Prod.snd
 (atR ks_3
 (IntKind.wrap
 IntKind.i64
 (IntKind.wrap
 IntKind.i64
 (d -
 (5 : Int)) +
 x %
 IntKind.wrap
 IntKind.i64
 (IntKind.wrap
 IntKind.i64
 (d_1 -
 d_2) +
 (10 :
 Int))) +
 (1 : Int))) +
 Prod.snd
 (atR ks_3
 (IntKind.wrap
 IntKind.i64
 (IntKind.wrap
 IntKind.i64
 (d -
 (5 : Int)) +
 x %
 IntKind.wrap
 IntKind.i64
 (IntKind.wrap
 IntKind.i64
 (d_1 -
 d_2) +
 (10 :
 Int))))) +
 (1 : Nat))
 (spdR ks_3
 (IntKind.wrap IntKind.i64
 (IntKind.wrap IntKind.i64
 (d - (5 : Int)) +
 x %
 IntKind.wrap
 IntKind.i64
 (IntKind.wrap
 IntKind.i64
 (d_1 - d_2) +
 (10 :
 Int))))))) !=
 Int.ofNat
 (List.length
 (lR
 (Prod.snd
 (atR ks_2
 (IntKind.wrap IntKind.i64
 (IntKind.wrap
 IntKind.i64
 (d - (5 : Int)) +
 x %
 IntKind.wrap
 IntKind.i64
 (IntKind.wrap
 IntKind.i64
 (d_1 - d_2) +
 (10 : Int))))))
 (Prod.fst
 (atR ks_2
 (IntKind.wrap IntKind.i64
 (IntKind.wrap
 IntKind.i64
 (d - (5 : Int)) +
 x %
 IntKind.wrap
 IntKind.i64
 (IntKind.wrap
 IntKind.i64
 (d_1 - d_2) +
 (10 :
 Int)))))))) then
 K (AV.x false [Ch.v (Value.bool false)])
 else
 (∃ (x_1 : LmX),
 ((((∀ (j : Nat) (L : LinkV)
 (q : Rat),
 (ArmV.links
 (LmX.a x_1))[j]? =
 some L →
 (LmX.v x_1)[j]? =
 some q →
 absR q ≤ LinkV.sp L) ∧
 List.length (LmX.v x_1) =
 List.length
 (ArmV.links
 (LmX.a x_1)) ∧
 List.length
 (ArmV.links
 (LmX.a x_1)) ≤
 (3 : Nat)) ∧
 LmX.b x_1 ≤ (1000000 : Nat) ∧
 LmX.i x_1 ≤
 List.length
 (ArmV.links
 (LmX.a x_1))) ∧
 OfNat.ofNat (0 : Nat) =
 (0 : Nat)) ∧
 (3 : Nat) = (3 : Nat) ∧
 lR
 (Prod.snd
 (atR ks_3
 (IntKind.wrap
 IntKind.i64
 (IntKind.wrap
 IntKind.i64
 (d -
 (5 :
 Int)) +
 x %
 IntKind.wrap
 IntKind.i64
 (IntKind.wrap
 IntKind.i64
 (d_1 -
 d_2) +
 (10 :
 Int))) +
 (1 : Int))) +
 Prod.snd
 (atR ks_3
 (IntKind.wrap
 IntKind.i64
 (IntKind.wrap
 IntKind.i64
 (d -
 (5 :
 Int)) +
 x %
 IntKind.wrap
 IntKind.i64
 (IntKind.wrap
 IntKind.i64
 (d_1 -
 d_2) +
 (10 :
 Int))))) +
 (1 : Nat))
 (spdR ks_3
 (IntKind.wrap
 IntKind.i64
 (IntKind.wrap
 IntKind.i64
 (d - (5 : Int)) +
 x %
 IntKind.wrap
 IntKind.i64
 (IntKind.wrap
 IntKind.i64
 (d_1 -
 d_2) +
 (10 :
 Int))))) =
 lR (LmX.b x_1) (LmX.v x_1) ∧
 (16 : Nat) = (16 : Nat) ∧
 List.map linkCh
 (ArmV.links a) =
 List.map linkCh
 (ArmV.links
 (LmX.a x_1)) ∧
 Int.ofNat
 (List.length
 (List.map linkCh
 (ArmV.links
 a))) =
 Int.ofNat
 (List.length
 (ArmV.links
 (LmX.a x_1))) ∧
 (0 : Int) =
 Int.ofNat
 (LmX.i x_1) ∧
 True) ∧
 ∀ (x : LmX),
 ((∀ (j : Nat) (L : LinkV) (q : Rat),
 (ArmV.links (LmX.a x))[j]? =
 some L →
 (LmX.v x)[j]? = some q →
 absR q ≤ LinkV.sp L) ∧
 List.length (LmX.v x) =
 List.length
 (ArmV.links (LmX.a x)) ∧
 List.length
 (ArmV.links (LmX.a x)) ≤
 (3 : Nat)) ∧
 LmX.b x ≤ (1000000 : Nat) ∧
 LmX.i x ≤
 List.length
 (ArmV.links (LmX.a x)) →
 OfNat.ofNat (0 : Nat) =
 (0 : Nat) →
 bif
 decide
 (Int.ofNat (LmX.i x) <
 Int.ofNat
 (List.length
 (ArmV.links
 (LmX.a x)))) then
 ((0 : Int) ≤
 Int.ofNat (LmX.i x) ∧
 Int.ofNat (LmX.i x) <
 Int.ofNat
 (List.length
 (List.map linkCh
 (ArmV.links
 (LmX.a x))))) ∧
 ∃ (q : Rat),
 ∃ (n : Nat),
 ∃ (q_1 : Rat),
 ∃ (n_1 : Nat),
 ∃ (q_2 : Rat),
 ∃ (n_2 : Nat),
 ∃ (q_3 : Rat),
 ∃ (n_3 : Nat),
 ∃ (q_4 :
 Rat),
 ∃ (n_4 :
 Nat),
 ∃ (ys :
 List
 (List
 Ch)),
 ldE
 (List.map
 linkCh
 (ArmV.links
 (LmX.a
 x)))
 (Int.toNat
 (Int.ofNat
 (LmX.i
 x)))
 (0 :
 Nat)
 (16 :
 Nat) =
 some
 [Ch.r
 q
 n,
 Ch.r
 q_1
 n_1,
 Ch.r
 q_2
 n_2,
 Ch.r
 q_3
 n_3,
 Ch.r
 q_4
 n_4,
 Ch.s
 (6 :
 Nat)
 ys] ∧
 ((0 :
 Int) ≤
 Int.ofNat
 (LmX.i
 x) ∧
 Int.ofNat
 (LmX.i
 x) <
 Int.ofNat
 (List.length
 (lR
 (LmX.b
 x)
 (LmX.v
 x)))) ∧
 ∃
 (q
 :
 Rat),
 ∃
 (n
 :
 Nat),
 ldE
 (lR
 (LmX.b
 x)
 (LmX.v
 x))
 (Int.toNat
 (Int.ofNat
 (LmX.i
 x)))
 (0 :
 Nat)
 (3 :
 Nat) =
 some
 [Ch.r
 q
 n] ∧
 n ≤
 (4294967296 :
 Nat) ∧
 n +
 n_3 ≤
 (4294967296 :
 Nat) ∧
 bif
 decide
 (cmpR
 (absR
 q)
 q_3 >
 (0 :
 Int)) then
 K
 (AV.x
 false
 [Ch.v
 (Value.bool
 false)])
 else
 ∃
 (x'
 :
 LmX),
 ((((∀
 (j :
 Nat)
 (L :
 LinkV)
 (q :
 Rat),
 (ArmV.links
 (LmX.a
 x'))[j]? =
 some
 L →
 (LmX.v
 x')[j]? =
 some
 q →
 absR
 q ≤
 LinkV.sp
 L) ∧
 List.length
 (LmX.v
 x') =
 List.length
 (ArmV.links
 (LmX.a
 x')) ∧
 List.length
 (ArmV.links
 (LmX.a
 x')) ≤
 (3 :
 Nat)) ∧
 LmX.b
 x' ≤
 (1000000 :
 Nat) ∧
 LmX.i
 x' ≤
 List.length
 (ArmV.links
 (LmX.a
 x'))) ∧
 OfNat.ofNat
 (0 :
 Nat) =
 (0 :
 Nat) ∧
 List.length
 (ArmV.links
 (LmX.a
 x')) -
 LmX.i
 x' <
 List.length
 (ArmV.links
 (LmX.a
 x)) -
 LmX.i
 x) ∧
 (3 :
 Nat) =
 (3 :
 Nat) ∧
 lR
 (LmX.b
 x)
 (LmX.v
 x) =
 lR
 (LmX.b
 x')
 (LmX.v
 x') ∧
 (16 :
 Nat) =
 (16 :
 Nat) ∧
 List.map
 linkCh
 (ArmV.links
 (LmX.a
 x)) =
 List.map
 linkCh
 (ArmV.links
 (LmX.a
 x')) ∧
 Int.ofNat
 (List.length
 (ArmV.links
 (LmX.a
 x))) =
 Int.ofNat
 (List.length
 (ArmV.links
 (LmX.a
 x'))) ∧
 IntKind.wrap
 IntKind.i64
 (Int.ofNat
 (LmX.i
 x) +
 (1 :
 Int)) =
 Int.ofNat
 (LmX.i
 x') ∧
 True
 else
 K
 (AV.x false
 [Ch.v
 (Value.bool true)])) ∧
 (¬Fit a_7 qs →
 K (AV.x false [Ch.v (Value.bool false)]))) := by kernel_rfl
theorem absR_ge (p : Rat) : p ≤ absR p ∧ -p ≤ absR p := by
  unfold absR
  split
  · rename_i h
    have : ¬ 0 ≤ p := fun h' => by have := Rat.num_nonneg.2 h'; omega
    constructor <;> grind
  · rename_i h
    have : 0 ≤ p := Rat.num_nonneg.1 (by omega)
    constructor <;> grind
theorem absR_zero : absR 0 = 0 := by decide +kernel
theorem fit_mix {a : ArmV} {s : Rat} {p q : List Rat} (hl : p.length = q.length) (hp : Fit a p) (hq : Fit a q) (hs : 0 ≤ s ∧ s ≤ 1) : Fit a (mix s p q) := by
  intro i L r hL hr
  have hi := (List.getElem?_eq_some_iff.1 hr).1
  rw [mix_len hl] at hi
  obtain ⟨u, hu⟩ : ∃ u, p[i]? = some u := ⟨_, List.getElem?_eq_getElem hi⟩
  obtain ⟨v, hv⟩ : ∃ v, q[i]? = some v := ⟨_, List.getElem?_eq_getElem (by omega)⟩
  rw [mix_get hu hv] at hr
  obtain rfl := Option.some.inj hr
  obtain ⟨a1, a2⟩ := hp i L u hL hu
  obtain ⟨b1, b2⟩ := hq i L v hL hv
  have c1 := Rat.mul_nonneg hs.1 (show 0 ≤ v - L.lo by grind)
  have c2 := Rat.mul_nonneg (show 0 ≤ 1 - s by grind) (show 0 ≤ u - L.lo by grind)
  have c3 := Rat.mul_nonneg hs.1 (show 0 ≤ L.hi - v by grind)
  have c4 := Rat.mul_nonneg (show 0 ≤ 1 - s by grind) (show 0 ≤ L.hi - u by grind)
  constructor <;> grind
theorem spd_same {ks : List KeyV} {t : Int} {z : List Rat} (h1 : (atR ks t).1 = z) (h2 : (atR ks (t + 1)).1 = z) {a : ArmV} (ha : GoodArm a) : SpOK a (spdR ks t) := by
  intro j L q hL hq
  have : ∃ r, z[j]? = some r ∧ q = r - r := by
    unfold spdR at hq
    rw [h1, h2] at hq
    simp only [List.getElem?_zipWith] at hq
    cases hz : z[j]? with
    | none => rw [hz] at hq; simp at hq
    | some r => rw [hz] at hq; simp at hq; exact ⟨r, rfl, hq.symm⟩
  obtain ⟨r, _, rfl⟩ := this
  rw [show r - r = 0 by grind, absR_zero]
  exact Rat.le_of_lt (ha.links L (List.mem_of_getElem? hL)).sp
theorem frac_step {x y : KeyV} (h : x.tick < y.tick) (t : Int) : fracT x y (t + 1) - fracT x y t = ((y.tick : Rat) - (x.tick : Rat))⁻¹ := by
  have := tick_lt h
  unfold fracT
  rw [Rat.intCast_add]
  have e : ((1 : Int) : Rat) = 1 := rfl
  rw [e]
  grind
theorem spd_seg {a : ArmV} {x y : KeyV} (h : x.tick < y.tick) (hl : x.q.length = y.q.length) (hs : SlowR a x y) {ks : List KeyV} {t : Int} (h1 : (atR ks t).1 = interp x y t) (h2 : (atR ks (t + 1)).1 = interp x y (t + 1)) : SpOK a (spdR ks t) := by
  intro j L q hL hq
  unfold spdR at hq
  rw [h1, h2] at hq
  unfold interp at hq
  have hj := (List.getElem?_eq_some_iff.1 hq).1
  simp only [List.length_zipWith, mix_len hl] at hj
  obtain ⟨u, hu⟩ : ∃ u, x.q[j]? = some u := ⟨_, List.getElem?_eq_getElem (by omega)⟩
  obtain ⟨v, hv⟩ : ∃ v, y.q[j]? = some v := ⟨_, List.getElem?_eq_getElem (by omega)⟩
  simp only [List.getElem?_zipWith, mix_get hu hv] at hq
  have hq : (u + fracT x y (t + 1) * (v - u)) - (u + fracT x y t * (v - u)) = q := by simpa using hq
  have hst := frac_step h t
  have hlt := tick_lt h
  have hsl := hs j L u v hL hu hv
  rw [Rat.intCast_sub] at hsl
  obtain ⟨g1, g2⟩ := absR_ge (v - u)
  have hT : 0 < (y.tick : Rat) - (x.tick : Rat) := by grind
  generalize (y.tick : Rat) - (x.tick : Rat) = T at *
  have hi : 0 ≤ T⁻¹ := Rat.le_of_lt (Rat.inv_pos.2 hT)
  have e : T * T⁻¹ = 1 := by grind
  have m1 := Rat.mul_le_mul_of_nonneg_right (show v - u ≤ L.sp * T by grind) hi
  have m2 := Rat.mul_le_mul_of_nonneg_right (show -(v - u) ≤ L.sp * T by grind) hi
  have hq' : q = (v - u) * T⁻¹ := by rw [← hq, ← hst]; grind
  rw [hq']
  have e2 : L.sp * T * T⁻¹ = L.sp := by rw [Rat.mul_assoc, e, Rat.mul_one]
  rw [e2] at m1 m2
  rw [Rat.neg_mul] at m2
  exact abs_le m1 m2
theorem track_lim {a : ArmV} {ks : List KeyV} (h : TrackOK a ks) (t : Int) : Fit a (atR ks t).1 ∧ SpOK a (spdR ks t) := by
  obtain ⟨ha, hn, ⟨N, hN, hk⟩, hf, hs⟩ := h
  have hne : ks ≠ [] := fun e => by rw [e] at hn; simp at hn
  rcases at_three hk hne t with ⟨z, hz, _, h1, h2⟩ | ⟨i, x, y, hx, hy, h3, h4, h1, h2⟩ | ⟨z, hz, _, h1, h2⟩
  · exact ⟨by rw [h1]; exact hf z (List.mem_of_getElem? hz), spd_same h1 h2 ha⟩
  · have mx := List.mem_of_getElem? hx
    have my := List.mem_of_getElem? hy
    have hinc := hk.inc i x y hx hy
    have hl : x.q.length = y.q.length := by rw [hk.len x mx, hk.len y my]
    refine ⟨?_, spd_seg hinc hl (hs i x y hx hy) h1 h2⟩
    rw [h1]
    exact fit_mix hl (hf x mx) (hf y my) (fracT_range hinc h3 (by omega))
  · exact ⟨by rw [h1]; exact hf z (List.mem_of_getElem? hz), spd_same h1 h2 ha⟩
theorem MadeT.ok {a : ArmV} {ks : List KeyV} (ha : MadeA a) (h : MadeT a ks) (h1 : 1 ≤ ks.length) (h2 : ks.length ≤ 4) : TrackOK a ks := by
  refine ⟨ha.good, ⟨h1, by omega⟩, ⟨63, by omega, h.len, fun k hk => by rw [h.n k hk]; exact Nat.le_refl _, fun k hk => by have := h.tick k hk; omega, fun i x y hx hy => by have := h.inc i x y hx hy; omega⟩, h.fit, fun i x y hx hy j L p q hL hp hq => ?_⟩
  have hL' := List.mem_of_getElem? hL
  have hw := (ha.1.links L hL').wide
  obtain ⟨a1, a2⟩ := h.fit x (List.mem_of_getElem? hx) j L p hL hp
  obtain ⟨b1, b2⟩ := h.fit y (List.mem_of_getElem? hy) j L q hL hq
  have hinc := h.inc i x y hx hy
  have h48 : (48 : Rat) ≤ ((y.tick - x.tick : Int) : Rat) := by
    have : (48 : Int) ≤ y.tick - x.tick := by omega
    exact_mod_cast this
  have e11 : mkRat 1 11 = 1 / 11 := by decide +kernel
  have hs : (1 : Rat) / 11 ≤ L.sp := by rw [← e11]; exact hw.2
  have m := Rat.mul_le_mul_of_nonneg_left h48 (show 0 ≤ L.sp by grind)
  apply abs_le
  · grind
  · grind
theorem g_tlim (l m : List Int) (x : Int) (hl : l.length ≤ 9223372036854775807) (hm : m.length ≤ 9223372036854775807) (K : AV → Prop) (hK : K (.x false [.v (.bool true)])) : Holds (goal_tlim l m x K) := by
  refine ⟨?_⟩
  rw [goal_tlim_vc]
  simp only [Int.ofNat_eq_natCast, true_and, and_true, Nat.zero_add, Nat.le_refl, true_implies, true_or, or_true]
  refine ⟨l, rfl, hl, fun a ha => ⟨a, m, rfl, rfl, ⟨MadeA.good ha, hm⟩, fun ks hks h1 h4 => ?_⟩⟩
  have ok := hks.ok ha h1 h4
  obtain ⟨N, hN, hk⟩ := ok.keys
  have hne : ks ≠ [] := fun e => by rw [e] at h1; simp at h1
  have hal := ok.arm.n
  obtain ⟨z, hz⟩ : ∃ z, ks[0]? = some z := ⟨_, List.getElem?_eq_getElem (by omega)⟩
  obtain ⟨w, hw⟩ : ∃ w, ks[ks.length - 1]? = some w := ⟨_, List.getElem?_eq_getElem (by omega)⟩
  have hzw := hk.mono (by omega) hz hw
  have tz := hk.tick z (List.mem_of_getElem? hz)
  have tw := hk.tick w (List.mem_of_getElem? hw)
  have e1 : IntKind.i64.wrap ((ks.length : Int) - 1) = ((ks.length - 1 : Nat) : Int) := by rw [w64 (by omega)]; omega
  simp only [List.length_map, e1]
  refine ⟨a, ks, rfl, rfl, ok, bif_mk (fun h => by simp only [beq_iff_eq] at h; omega) (fun _ => ⟨by omega, _, key_ld0 hz, by omega, _, key_ld0 (by simpa using hw), by omega, _, key_ld0 hz, ?_⟩)⟩
  have e2 : IntKind.i64.wrap (IntKind.i64.wrap (w.tick - z.tick) + 10) = w.tick - z.tick + 10 := by rw [w64 (n := w.tick - z.tick) (by omega), w64 (by omega)]
  simp only [e2]
  have b1 := Int.emod_nonneg x (show w.tick - z.tick + 10 ≠ 0 by omega)
  have b2 := Int.emod_lt_of_pos x (show 0 < w.tick - z.tick + 10 by omega)
  have e3 : IntKind.i64.wrap (IntKind.i64.wrap (z.tick - 5) + x % (w.tick - z.tick + 10)) = z.tick - 5 + x % (w.tick - z.tick + 10) := by rw [w64 (n := z.tick - 5) (by omega), w64 (by omega)]
  simp only [e3]
  have ht : -5 ≤ z.tick - 5 + x % (w.tick - z.tick + 10) ∧ z.tick - 5 + x % (w.tick - z.tick + 10) ≤ 5000 := by omega
  generalize z.tick - 5 + x % (w.tick - z.tick + 10) = t at ht ⊢
  obtain ⟨f1, f2⟩ := track_lim ok t
  obtain ⟨c0, l0⟩ := at_bound (t := t) hk hne
  obtain ⟨c1, l1⟩ := at_bound (t := t + 1) hk hne
  have lz : (spdR ks t).length = a.links.length := by simp [spdR, l0, l1]
  refine ⟨by omega, ks, a.links.length, N, rfl, ⟨hk, ⟨hN, by omega, h1, by omega⟩, by omega, by omega⟩, ks, a.links.length, N, rfl, ⟨hk, ⟨hN, by omega, h1, by omega⟩, by omega, by omega⟩, a, _, _, rfl, rfl, ⟨ok.arm, by omega, l0⟩, fun _ => ?_, fun h => absurd f1 h⟩
  rw [lR_len, lR_len, lz, l0]
  refine bif_mk (fun h => by simp at h) (fun _ => ⟨⟨⟨a, (atR ks (t + 1)).2 + (atR ks t).2 + 1, spdR ks t, 0⟩, ⟨⟨f2, lz, by simp only; omega⟩, by simp only; omega, by simp⟩, rfl, rfl, rfl, rfl⟩, fun X hX => bif_mk (fun hp => ?_) (fun _ => hK)⟩)
  obtain ⟨⟨g1, g2, g3⟩, g4, g5⟩ := hX
  have hp := of_decide_eq_true hp
  obtain ⟨L, hL⟩ : ∃ L, X.a.links[X.i]? = some L := ⟨_, List.getElem?_eq_getElem (by omega)⟩
  obtain ⟨q, hq⟩ : ∃ q, X.v[X.i]? = some q := ⟨_, List.getElem?_eq_getElem (by omega)⟩
  refine ⟨by omega, _, _, _, _, _, _, _, _, _, _, _, link_ld (by simpa using hL), by rw [lR_len]; omega, _, _, lR_ld (by simpa using hq), by omega, by omega, bif_mk (fun h => ?_) (fun _ => ⟨⟨X.a, X.b, X.v, X.i + 1⟩, ⟨⟨⟨g1, g2, g3⟩, g4, by simp only; omega⟩, by simp only; omega⟩, rfl, rfl, rfl, by rw [w64 (by omega)]; simp⟩)⟩
  have := (cmp_le _ _).2 (g1 _ L q hL hq)
  have := of_decide_eq_true h
  omega
theorem spec_tlim (l m : List Int) (x : Int) (hl : l.length ≤ 9223372036854775807) (hm : m.length ≤ 9223372036854775807) : Eng.Spec Tryd.prog tabG debT 7 [.x false [.s 1 (ints l)], .x false [.s 1 (ints m)], iA .i64 x] (fun av => av = .x false [.v (.bool true)]) :=
  spec_ofL T56ok mixed Tryd.func7 (by kernel_rfl) (by kernel_rfl) (by rfl) (g_tlim l m x hl hm _ rfl)
end Go.Proofs
