/- ShapeRigid. -/
import Derived.Test.YtdbkndfkgdbhpaaDoorSE
/- ShapeRigid. -/
namespace Go.Proofs
open Go Go.Eng
structure SrX where
  a : ArmV
  fs : List FrV
  i : Nat
  k : Nat
structure SrI (x : SrX) : Prop where
  good : GoodArm x.a
  len : x.fs.length = x.a.links.length
def tS (x : SrX) : List (Rat × Rat) := (x.a.links.getD x.i ⟨0, 0, 0, 0, 0, []⟩).shape
def sS (x : SrX) : List (Rat × Rat) := (placeV x.fs x.a.links).getD x.i []
def inv_srig : LI := fun id => bif id.beq 9 then .inv ⟨SrX, fun x => ⟨[(7, .x false [.p 7 0]), (53, .x false [.s 1 (shN 115300000 (placeV x.fs x.a.links))]), (54, iA .i64 x.a.links.length), (55, iA .i64 x.i)], [(7, .box 34 (armCh x.a))]⟩, fun x => SrI x ∧ x.i ≤ x.a.links.length, fun x => x.a.links.length - x.i, fun _ => 0⟩
  else .inv ⟨SrX, fun x => ⟨[(7, .x false [.p 7 0]), (11, sVv 115300000 (sS x)), (12, sVv 63 (tS x)), (53, .x false [.s 1 (shN 115300000 (placeV x.fs x.a.links))]), (54, iA .i64 x.a.links.length), (55, iA .i64 x.i), (85, iA .i64 (tS x).length), (86, iA .i64 x.k)], [(7, .box 34 (armCh x.a))]⟩, fun x => SrI x ∧ x.i < x.a.links.length ∧ x.k ≤ (tS x).length, fun x => (tS x).length - x.k, fun x => x.a.links.length - x.i⟩
def ot_srig : OT := fun id => bif id.beq 2 then ([0, 1, 2, 3, 4, 5, 6, 7, 8], [[], [0], [1, 0], [2, 1, 0], [2, 1, 0], [4, 2, 1, 0], [4, 2, 1, 0, 5], [3, 2, 1, 0, 6, 4, 5], [2, 1, 0, 7, 3, 6, 4, 5]]) else bif id.beq 5 then ([0, 1, 2, 3, 4, 5, 6, 7, 8, 9], [[], [], [], [1, 2], [0, 3, 1, 2], [4, 0, 3, 1, 2], [5, 4, 0, 3, 1, 2], [5, 4, 0, 3, 1, 2], [6, 5, 4, 0, 3, 1, 2], [7, 5, 4, 0, 3, 1, 2, 8, 6]]) else bif id.beq 17 then ([0, 1, 2, 3, 4, 5, 6, 7, 8, 9, 10, 11, 13, 14, 15, 16, 17, 18, 19, 20, 21, 22, 23, 24, 26, 27, 12, 25, 28, 29], [[], [], [0, 1], [2, 0, 1], [], [], [5], [], [7], [6, 5, 8, 7], [4, 9, 6, 5, 8, 7], [10, 4, 9, 6, 5, 8, 7], [3, 2, 0, 1, 11, 10, 4, 9, 6, 5, 8, 7], [], [], [13, 14], [15, 13, 14], [], [], [18], [], [20], [19, 18, 21, 20], [17, 22, 19, 18, 21, 20], [23, 17, 22, 19, 18, 21, 20], [16, 15, 13, 14, 24, 23, 17, 22, 19, 18, 21, 20, 12, 3, 2, 0, 1, 11, 10, 4, 9, 6, 5, 8, 7], [], [], [26, 12, 3, 2, 0, 1, 11, 10, 4, 9, 6, 5, 8, 7, 25, 16, 15, 13, 14, 24, 23, 17, 22, 19, 18, 21, 20, 27], [27, 25, 16, 15, 13, 14, 24, 23, 17, 22, 19, 18, 21, 20, 12, 3, 2, 0, 1, 11, 10, 4, 9, 6, 5, 8, 7, 28, 26]]) else bif id.beq 18 then ([0, 1, 3, 4, 2, 5, 6, 7], [[], [], [0, 1], [], [], [3, 4, 2, 0, 1], [2, 0, 1, 5, 3, 4], [6, 2, 0, 1, 5, 3, 4]]) else ([], [])
def goal_srig (l m : List Int) (K : AV → Prop) : Prop := goalL T126 ot_srig inv_srig Tryd.f6 [.x false [.s 1 (ints l)], .x false [.s 1 (ints m)]] K
theorem goal_srig_vc (l : List Int) (m : List Int) (K : AV → Prop) : goal_srig l m K = (
 ∃ (ns : List Int),
 [[Ch.v (Value.int IntKind.i64 (3 : Int))]] = ints ns ∧
 (List.length ns ≤ (3 : Nat) ∧ ∀ (n : Int), n ∈ ns → (1 : Int) ≤ n ∧ n ≤ (1000 : Int)) ∧
 (((-9223372036854775808 : Int) < (0 : Int) ∧ (0 : Int) < (9223372036854775808 : Int)) ∧
 (0 : Int) < (1 : Int) ∧ (1 : Int) < (9223372036854775808 : Int)) ∧
 ∃ (a : ArmV),
 ∃ (b : Nat),
 ∃ (qs : List Rat),
 [Ch.v (Value.string (ArmV.name (sampleV ns))), Ch.r (ArmV.x (sampleV ns)) (63 : Nat), Ch.r (ArmV.y (sampleV ns)) (63 : Nat),
 Ch.v (Value.bool false), Ch.r (ArmV.t (sampleV ns)) (63 : Nat),
 Ch.s (16 : Nat) (List.map linkCh (ArmV.links (sampleV ns)))] =
 [Ch.v (Value.string (ArmV.name a)), Ch.r (ArmV.x a) (63 : Nat), Ch.r (ArmV.y a) (63 : Nat),
 Ch.v (Value.bool (ArmV.half a)), Ch.r (ArmV.t a) (63 : Nat), Ch.s (16 : Nat) (List.map linkCh (ArmV.links a))] ∧
 [[Ch.r (mkRat (0 : Int) (1 : Nat)) (63 : Nat)]] = lR b qs ∧
 (GoodArm a ∧ b ≤ (400 : Nat) ∧ List.length qs = List.length (ArmV.links a)) ∧
 ∀ (fs : List FrV) (f : FrV),
 fs ++ [f] = framesV (baseV a) (ArmV.links a) qs →
 List.length fs = List.length (ArmV.links a) →
 (((-9223372036854775808 : Int) < (0 : Int) ∧ (0 : Int) < (9223372036854775808 : Int)) ∧
 (-9223372036854775808 : Int) < (-1 : Int) ∧ (-1 : Int) < (9223372036854775808 : Int)) ∧
 (((-9223372036854775808 : Int) < (3 : Int) ∧ (3 : Int) < (9223372036854775808 : Int)) ∧
 (-9223372036854775808 : Int) < (1 : Int) ∧ (1 : Int) < (9223372036854775808 : Int)) ∧
 bif
 !(decide
 (BoxV.x1 (boxAll (startB (placeV fs (ArmV.links a))) (placeV fs (ArmV.links a))) =
 Prod.fst (pt1 (0 : Int) (-1 : Int))) &&
 (decide
 (BoxV.y1 (boxAll (startB (placeV fs (ArmV.links a))) (placeV fs (ArmV.links a))) =
 Prod.snd (pt1 (0 : Int) (-1 : Int))) &&
 (decide
 (BoxV.x2 (boxAll (startB (placeV fs (ArmV.links a))) (placeV fs (ArmV.links a))) =
 Prod.fst (pt1 (3 : Int) (1 : Int))) &&
 (decide
 (BoxV.y2 (boxAll (startB (placeV fs (ArmV.links a))) (placeV fs (ArmV.links a))) =
 Prod.snd (pt1 (3 : Int) (1 : Int))) &&
 true)))) then
 K (AV.x false [Ch.v (Value.bool false)])
 else
 ∃ (l_1 : List Int),
 ints l = ints l_1 ∧
 List.length l_1 ≤ (9223372036854775807 : Nat) ∧
 ∀ (a : ArmV),
 Made a ∧ (1 : Nat) ≤ List.length (ArmV.links a) →
 ∃ (a_4 : ArmV),
 ∃ (l : List Int),
 [Ch.v (Value.string (ArmV.name a)), Ch.r (ArmV.x a) (63 : Nat), Ch.r (ArmV.y a) (63 : Nat),
 Ch.v (Value.bool (ArmV.half a)), Ch.r (ArmV.t a) (63 : Nat),
 Ch.s (16 : Nat) (List.map linkCh (ArmV.links a))] =
 [Ch.v (Value.string (ArmV.name a_4)), Ch.r (ArmV.x a_4) (63 : Nat),
 Ch.r (ArmV.y a_4) (63 : Nat), Ch.v (Value.bool (ArmV.half a_4)),
 Ch.r (ArmV.t a_4) (63 : Nat), Ch.s (16 : Nat) (List.map linkCh (ArmV.links a_4))] ∧
 ints m = ints l ∧
 (GoodArm a_4 ∧ List.length l ≤ (9223372036854775807 : Nat)) ∧
 ∀ (qs : List Rat),
 (∀ (i : Nat) (L : LinkV) (q : Rat),
 (ArmV.links a_4)[i]? = some L →
 qs[i]? = some q → LinkV.lo L ≤ q ∧ q ≤ LinkV.hi L) →
 List.length qs = List.length (ArmV.links a_4) →
 ∃ (a_7 : ArmV),
 ∃ (b : Nat),
 ∃ (qs_1 : List Rat),
 [Ch.v (Value.string (ArmV.name a)), Ch.r (ArmV.x a) (63 : Nat),
 Ch.r (ArmV.y a) (63 : Nat), Ch.v (Value.bool (ArmV.half a)),
 Ch.r (ArmV.t a) (63 : Nat),
 Ch.s (16 : Nat) (List.map linkCh (ArmV.links a))] =
 [Ch.v (Value.string (ArmV.name a_7)), Ch.r (ArmV.x a_7) (63 : Nat),
 Ch.r (ArmV.y a_7) (63 : Nat), Ch.v (Value.bool (ArmV.half a_7)),
 Ch.r (ArmV.t a_7) (63 : Nat),
 Ch.s (16 : Nat) (List.map linkCh (ArmV.links a_7))] ∧
 lR (63 : Nat) qs = lR b qs_1 ∧
 (GoodArm a_7 ∧
 b ≤ (400 : Nat) ∧ List.length qs_1 = List.length (ArmV.links a_7)) ∧
 ∀ (fs : List FrV) (f : FrV),
 fs ++ [f] = framesV (baseV a_7) (ArmV.links a_7) qs_1 →
 List.length fs = List.length (ArmV.links a_7) →
 bif
 Int.ofNat
 (List.length
 (shN (115300000 : Nat)
 (placeV fs (ArmV.links a_7)))) !=
 Int.ofNat
 (List.length (List.map linkCh (ArmV.links a))) then
 K (AV.x false [Ch.v (Value.bool false)])
 else
 (∃ (x : SrX),
 ((SrI x ∧ SrX.i x ≤ List.length (ArmV.links (SrX.a x))) ∧
 OfNat.ofNat (0 : Nat) = (0 : Nat)) ∧
 (0 : Nat) = (0 : Nat) ∧
 (1 : Nat) = (1 : Nat) ∧
 shN (115300000 : Nat) (placeV fs (ArmV.links a_7)) =
 shN (115300000 : Nat)
 (placeV (SrX.fs x) (ArmV.links (SrX.a x))) ∧
 Int.ofNat
 (List.length
 (shN (115300000 : Nat)
 (placeV fs (ArmV.links a_7)))) =
 Int.ofNat
 (List.length (ArmV.links (SrX.a x))) ∧
 (0 : Int) = Int.ofNat (SrX.i x) ∧
 (34 : Nat) = (34 : Nat) ∧
 ArmV.name a = ArmV.name (SrX.a x) ∧
 ArmV.x a = ArmV.x (SrX.a x) ∧
 (63 : Nat) ≤ (63 : Nat) ∧
 ArmV.y a = ArmV.y (SrX.a x) ∧
 (63 : Nat) ≤ (63 : Nat) ∧
 ArmV.half a =
 ArmV.half (SrX.a x) ∧
 ArmV.t a = ArmV.t (SrX.a x) ∧
 (63 : Nat) ≤ (63 : Nat) ∧
 (16 : Nat) = (16 : Nat) ∧
 List.map linkCh
 (ArmV.links a) =
 List.map linkCh
 (ArmV.links
 (SrX.a x)) ∧
 True) ∧
 ∀ (x : SrX),
 SrI x ∧ SrX.i x ≤ List.length (ArmV.links (SrX.a x)) →
 OfNat.ofNat (0 : Nat) = (0 : Nat) →
 bif
 decide
 (Int.ofNat (SrX.i x) <
 Int.ofNat
 (List.length (ArmV.links (SrX.a x)))) then
 ((0 : Int) ≤ Int.ofNat (SrX.i x) ∧
 Int.ofNat (SrX.i x) <
 Int.ofNat
 (List.length
 (shN (115300000 : Nat)
 (placeV (SrX.fs x)
 (ArmV.links (SrX.a x)))))) ∧
 ∃ (ys : List (List Ch)),
 ldE
 (shN (115300000 : Nat)
 (placeV (SrX.fs x)
 (ArmV.links (SrX.a x))))
 (Int.toNat (Int.ofNat (SrX.i x)))
 (0 : Nat) (1 : Nat) =
 some [Ch.s (6 : Nat) ys] ∧
 ((0 : Int) ≤ Int.ofNat (SrX.i x) ∧
 Int.ofNat (SrX.i x) <
 Int.ofNat
 (List.length
 (List.map linkCh
 (ArmV.links (SrX.a x))))) ∧
 ∃ (ys_1 : List (List Ch)),
 ldE
 (List.map linkCh
 (ArmV.links (SrX.a x)))
 (Int.toNat (Int.ofNat (SrX.i x)))
 (15 : Nat) (1 : Nat) =
 some [Ch.s (6 : Nat) ys_1] ∧
 bif
 Int.ofNat (List.length ys) !=
 Int.ofNat (List.length ys_1) then
 K
 (AV.x false
 [Ch.v (Value.bool false)])
 else
 ∃ (n : Nat),
 ∃ (l : List (Rat × Rat)),
 ys = List.map (vecN n) l ∧
 (n ≤ (500000000 : Nat) ∧
 PolyOK l) ∧
 ∃ (n : Nat),
 ∃ (l : List (Rat × Rat)),
 ys = List.map (vecN n) l ∧
 (n ≤ (120000000 : Nat) ∧
 PolyOK l) ∧
 ∀ (m : Nat),
 m ≤
 (64 : Nat) +
 ((4 : Nat) *
 n +
 (2 :
 Nat)) *
 (8 :
 Nat) +
 (128 : Nat) →
 ∃ (n : Nat),
 ∃ (l_2 :
 List
 (Rat ×
 Rat)),
 ys_1 =
 List.map
 (vecN n)
 l_2 ∧
 (n ≤
 (120000000 :
 Nat) ∧
 PolyOK
 l_2) ∧
 ∀
 (m_1 :
 Nat),
 m_1 ≤
 (64 :
 Nat) +
 ((4 :
 Nat) *
 n +
 (2 :
 Nat)) *
 (8 :
 Nat) +
 (128 :
 Nat) →
 m +
 m_1 ≤
 (4294967296 :
 Nat) ∧
 bif
 cmpR
 ((((1 :
 Int) : Int) : Rat) /
 (((2 :
 Int) : Int) : Rat) *
 areaS
 l
 (List.length
 l))
 ((((1 :
 Int) : Int) : Rat) /
 (((2 :
 Int) : Int) : Rat) *
 areaS
 l_2
 (List.length
 l_2)) !=
 (0 :
 Int) then
 K
 (AV.x
 false
 [Ch.v
 (Value.bool
 false)])
 else
 (∃
 (x_1
 :
 SrX),
 ((SrI
 x_1 ∧
 SrX.i
 x_1 <
 List.length
 (ArmV.links
 (SrX.a
 x_1)) ∧
 SrX.k
 x_1 ≤
 List.length
 (tS
 x_1)) ∧
 List.length
 (ArmV.links
 (SrX.a
 x_1)) -
 SrX.i
 x_1 =
 List.length
 (ArmV.links
 (SrX.a
 x)) -
 SrX.i
 x) ∧
 (0 :
 Nat) =
 (0 :
 Nat) ∧
 (6 :
 Nat) =
 (6 :
 Nat) ∧
 ys =
 List.map
 (vecN
 (115300000 :
 Nat))
 (sS
 x_1) ∧
 (6 :
 Nat) =
 (6 :
 Nat) ∧
 ys_1 =
 List.map
 (vecN
 (63 :
 Nat))
 (tS
 x_1) ∧
 (1 :
 Nat) =
 (1 :
 Nat) ∧
 shN
 (115300000 :
 Nat)
 (placeV
 (SrX.fs
 x)
 (ArmV.links
 (SrX.a
 x))) =
 shN
 (115300000 :
 Nat)
 (placeV
 (SrX.fs
 x_1)
 (ArmV.links
 (SrX.a
 x_1))) ∧
 Int.ofNat
 (List.length
 (ArmV.links
 (SrX.a
 x))) =
 Int.ofNat
 (List.length
 (ArmV.links
 (SrX.a
 x_1))) ∧
 Int.ofNat
 (SrX.i
 x) =
 Int.ofNat
 (SrX.i
 x_1) ∧
 Int.ofNat
 (List.length
 ys) =
 Int.ofNat
 (List.length
 (tS
 x_1)) ∧
 (0 :
 Int) =
 Int.ofNat
 (SrX.k
 x_1) ∧
 (34 :
 Nat) =
 (34 :
 Nat) ∧
 ArmV.name
 (SrX.a
 x) =
 ArmV.name
 (SrX.a
 x_1) ∧
 ArmV.x
 (SrX.a
 x) =
 ArmV.x
 (SrX.a
 x_1) ∧
 (63 :
 Nat) ≤
 (63 :
 Nat) ∧
 ArmV.y
 (SrX.a
 x) =
 ArmV.y
 (SrX.a
 x_1) ∧
 (63 :
 Nat) ≤
 (63 :
 Nat) ∧
 ArmV.half
 (SrX.a
 x) =
 ArmV.half
 (SrX.a
 x_1) ∧
 ArmV.t
 (SrX.a
 x) =
 ArmV.t
 (SrX.a
 x_1) ∧
 (63 :
 Nat) ≤
 (63 :
 Nat) ∧
 (16 :
 Nat) =
 (16 :
 Nat) ∧
 List.map
 linkCh
 (ArmV.links
 (SrX.a
 x)) =
 List.map
 linkCh
 (ArmV.links
 (SrX.a
 x_1)) ∧
 True) ∧
 ∀
 (x_1 :
 SrX),
 SrI
 x_1 ∧
 SrX.i
 x_1 <
 List.length
 (ArmV.links
 (SrX.a
 x_1)) ∧
 SrX.k
 x_1 ≤
 List.length
 (tS
 x_1) →
 List.length
 (ArmV.links
 (SrX.a
 x_1)) -
 SrX.i
 x_1 =
 List.length
 (ArmV.links
 (SrX.a
 x)) -
 SrX.i
 x →
 bif
 decide
 (Int.ofNat
 (SrX.k
 x_1) <
 Int.ofNat
 (List.length
 (tS
 x_1))) then
 ((0 :
 Int) ≤
 Int.ofNat
 (SrX.k
 x_1) ∧
 Int.ofNat
 (SrX.k
 x_1) <
 Int.ofNat
 (List.length
 (List.map
 (vecN
 (115300000 :
 Nat))
 (sS
 x_1)))) ∧
 ∃
 (q
 :
 Rat),
 ∃
 (n
 :
 Nat),
 ∃
 (q_1
 :
 Rat),
 ∃
 (n_1
 :
 Nat),
 ldE
 (List.map
 (vecN
 (115300000 :
 Nat))
 (sS
 x_1))
 (Int.toNat
 (Int.ofNat
 (SrX.k
 x_1)))
 (0 :
 Nat)
 (6 :
 Nat) =
 some
 [Ch.r
 q
 n,
 Ch.r
 q_1
 n_1] ∧
 Int.ofNat
 (List.length
 (List.map
 (vecN
 (115300000 :
 Nat))
 (sS
 x_1))) ≠
 (0 :
 Int) ∧
 ((0 :
 Int) ≤
 Int.tmod
 (IntKind.wrap
 IntKind.i64
 (Int.ofNat
 (SrX.k
 x_1) +
 (1 :
 Int)))
 (Int.ofNat
 (List.length
 (List.map
 (vecN
 (115300000 :
 Nat))
 (sS
 x_1)))) ∧
 Int.tmod
 (IntKind.wrap
 IntKind.i64
 (Int.ofNat
 (SrX.k
 x_1) +
 (1 :
 Int)))
 (Int.ofNat
 (List.length
 (List.map
 (vecN
 (115300000 :
 Nat))
 (sS
 x_1)))) <
 Int.ofNat
 (List.length
 (List.map
 (vecN
 (115300000 :
 Nat))
 (sS
 x_1)))) ∧
 ∃
 (q_2
 :
 Rat),
 ∃
 (n_2
 :
 Nat),
 ∃
 (q_3
 :
 Rat),
 ∃
 (n_3
 :
 Nat),
 ldE
 (List.map
 (vecN
 (115300000 :
 Nat))
 (sS
 x_1))
 (Int.toNat
 (Int.tmod
 (IntKind.wrap
 IntKind.i64
 (Int.ofNat
 (SrX.k
 x_1) +
 (1 :
 Int)))
 (Int.ofNat
 (List.length
 (List.map
 (vecN
 (115300000 :
 Nat))
 (sS
 x_1))))))
 (0 :
 Nat)
 (6 :
 Nat) =
 some
 [Ch.r
 q_2
 n_2,
 Ch.r
 q_3
 n_3] ∧
 ((0 :
 Int) ≤
 Int.ofNat
 (SrX.k
 x_1) ∧
 Int.ofNat
 (SrX.k
 x_1) <
 Int.ofNat
 (List.length
 (List.map
 (vecN
 (63 :
 Nat))
 (tS
 x_1)))) ∧
 ∃
 (q_4
 :
 Rat),
 ∃
 (n_4
 :
 Nat),
 ∃
 (q_5
 :
 Rat),
 ∃
 (n_5
 :
 Nat),
 ldE
 (List.map
 (vecN
 (63 :
 Nat))
 (tS
 x_1))
 (Int.toNat
 (Int.ofNat
 (SrX.k
 x_1)))
 (0 :
 Nat)
 (6 :
 Nat) =
 some
 [Ch.r
 q_4
 n_4,
 Ch.r
 q_5
 n_5] ∧
 Int.ofNat
 (List.length
 (List.map
 (vecN
 (115300000 :
 Nat))
 (sS
 x_1))) ≠
 (0 :
 Int) ∧
 ((0 :
 Int) ≤
 Int.tmod
 (IntKind.wrap
 IntKind.i64
 (Int.ofNat
 (SrX.k
 x_1) +
 (1 :
 Int)))
 (Int.ofNat
 (List.length
 (List.map
 (vecN
 (115300000 :
 Nat))
 (sS
 x_1)))) ∧
 Int.tmod
 (IntKind.wrap
 IntKind.i64
 (Int.ofNat
 (SrX.k
 x_1) +
 (1 :
 Int)))
 (Int.ofNat
 (List.length
 (List.map
 (vecN
 (115300000 :
 Nat))
 (sS
 x_1)))) <
 Int.ofNat
 (List.length
 (List.map
 (vecN
 (63 :
 Nat))
 (tS
 x_1)))) ∧
 ∃
 (q_6
 :
 Rat),
 ∃
 (n_6
 :
 Nat),
 ∃
 (q_7
 :
 Rat),
 ∃
 (n_7
 :
 Nat),
 ldE
 (List.map
 (vecN
 (63 :
 Nat))
 (tS
 x_1))
 (Int.toNat
 (Int.tmod
 (IntKind.wrap
 IntKind.i64
 (Int.ofNat
 (SrX.k
 x_1) +
 (1 :
 Int)))
 (Int.ofNat
 (List.length
 (List.map
 (vecN
 (115300000 :
 Nat))
 (sS
 x_1))))))
 (0 :
 Nat)
 (6 :
 Nat) =
 some
 [Ch.r
 q_6
 n_6,
 Ch.r
 q_7
 n_7] ∧
 (n +
 n_2 ≤
 (4294967290 :
 Nat) ∧
 n_1 +
 n_3 ≤
 (4294967290 :
 Nat)) ∧
 (n_4 +
 n_6 ≤
 (4294967290 :
 Nat) ∧
 n_5 +
 n_7 ≤
 (4294967290 :
 Nat)) ∧
 n +
 n_2 +
 (1 :
 Nat) +
 (n_1 +
 n_3 +
 (1 :
 Nat)) +
 (n +
 n_2 +
 (1 :
 Nat)) +
 (n_1 +
 n_3 +
 (1 :
 Nat)) ≤
 (4294967290 :
 Nat) ∧
 n_4 +
 n_6 +
 (1 :
 Nat) +
 (n_5 +
 n_7 +
 (1 :
 Nat)) +
 (n_4 +
 n_6 +
 (1 :
 Nat)) +
 (n_5 +
 n_7 +
 (1 :
 Nat)) ≤
 (4294967290 :
 Nat) ∧
 n +
 n_2 +
 (1 :
 Nat) +
 (n +
 n_2 +
 (1 :
 Nat)) +
 (n_1 +
 n_3 +
 (1 :
 Nat) +
 (n_1 +
 n_3 +
 (1 :
 Nat))) +
 (1 :
 Nat) +
 (n_4 +
 n_6 +
 (1 :
 Nat) +
 (n_4 +
 n_6 +
 (1 :
 Nat)) +
 (n_5 +
 n_7 +
 (1 :
 Nat) +
 (n_5 +
 n_7 +
 (1 :
 Nat))) +
 (1 :
 Nat)) ≤
 (4294967296 :
 Nat) ∧
 bif
 cmpR
 ((q -
 q_2) *
 (q -
 q_2) +
 (q_1 -
 q_3) *
 (q_1 -
 q_3))
 ((q_4 -
 q_6) *
 (q_4 -
 q_6) +
 (q_5 -
 q_7) *
 (q_5 -
 q_7)) !=
 (0 :
 Int) then
 K
 (AV.x
 false
 [Ch.v
 (Value.bool
 false)])
 else
 ∃
 (x'
 :
 SrX),
 ((SrI
 x' ∧
 SrX.i
 x' <
 List.length
 (ArmV.links
 (SrX.a
 x')) ∧
 SrX.k
 x' ≤
 List.length
 (tS
 x')) ∧
 List.length
 (ArmV.links
 (SrX.a
 x')) -
 SrX.i
 x' =
 List.length
 (ArmV.links
 (SrX.a
 x)) -
 SrX.i
 x ∧
 List.length
 (tS
 x') -
 SrX.k
 x' <
 List.length
 (tS
 x_1) -
 SrX.k
 x_1) ∧
 (0 :
 Nat) =
 (0 :
 Nat) ∧
 (6 :
 Nat) =
 (6 :
 Nat) ∧
 List.map
 (vecN
 (115300000 :
 Nat))
 (sS
 x_1) =
 List.map
 (vecN
 (115300000 :
 Nat))
 (sS
 x') ∧
 (6 :
 Nat) =
 (6 :
 Nat) ∧
 List.map
 (vecN
 (63 :
 Nat))
 (tS
 x_1) =
 List.map
 (vecN
 (63 :
 Nat))
 (tS
 x') ∧
 (1 :
 Nat) =
 (1 :
 Nat) ∧
 shN
 (115300000 :
 Nat)
 (placeV
 (SrX.fs
 x_1)
 (ArmV.links
 (SrX.a
 x_1))) =
 shN
 (115300000 :
 Nat)
 (placeV
 (SrX.fs
 x')
 (ArmV.links
 (SrX.a
 x'))) ∧
 Int.ofNat
 (List.length
 (ArmV.links
 (SrX.a
 x_1))) =
 Int.ofNat
 (List.length
 (ArmV.links
 (SrX.a
 x'))) ∧
 Int.ofNat
 (SrX.i
 x_1) =
 Int.ofNat
 (SrX.i
 x') ∧
 Int.ofNat
 (List.length
 (tS
 x_1)) =
 Int.ofNat
 (List.length
 (tS
 x')) ∧
 IntKind.wrap
 IntKind.i64
 (Int.ofNat
 (SrX.k
 x_1) +
 (1 :
 Int)) =
 Int.ofNat
 (SrX.k
 x') ∧
 (34 :
 Nat) =
 (34 :
 Nat) ∧
 ArmV.name
 (SrX.a
 x_1) =
 ArmV.name
 (SrX.a
 x') ∧
 ArmV.x
 (SrX.a
 x_1) =
 ArmV.x
 (SrX.a
 x') ∧
 (63 :
 Nat) ≤
 (63 :
 Nat) ∧
 ArmV.y
 (SrX.a
 x_1) =
 ArmV.y
 (SrX.a
 x') ∧
 (63 :
 Nat) ≤
 (63 :
 Nat) ∧
 ArmV.half
 (SrX.a
 x_1) =
 ArmV.half
 (SrX.a
 x') ∧
 ArmV.t
 (SrX.a
 x_1) =
 ArmV.t
 (SrX.a
 x') ∧
 (63 :
 Nat) ≤
 (63 :
 Nat) ∧
 (16 :
 Nat) =
 (16 :
 Nat) ∧
 List.map
 linkCh
 (ArmV.links
 (SrX.a
 x_1)) =
 List.map
 linkCh
 (ArmV.links
 (SrX.a
 x')) ∧
 True
 else
 ∃
 (x'
 :
 SrX),
 ((SrI
 x' ∧
 SrX.i
 x' ≤
 List.length
 (ArmV.links
 (SrX.a
 x'))) ∧
 OfNat.ofNat
 (0 :
 Nat) =
 (0 :
 Nat) ∧
 List.length
 (ArmV.links
 (SrX.a
 x')) -
 SrX.i
 x' <
 List.length
 (ArmV.links
 (SrX.a
 x)) -
 SrX.i
 x) ∧
 (0 :
 Nat) =
 (0 :
 Nat) ∧
 (1 :
 Nat) =
 (1 :
 Nat) ∧
 shN
 (115300000 :
 Nat)
 (placeV
 (SrX.fs
 x_1)
 (ArmV.links
 (SrX.a
 x_1))) =
 shN
 (115300000 :
 Nat)
 (placeV
 (SrX.fs
 x')
 (ArmV.links
 (SrX.a
 x'))) ∧
 Int.ofNat
 (List.length
 (ArmV.links
 (SrX.a
 x_1))) =
 Int.ofNat
 (List.length
 (ArmV.links
 (SrX.a
 x'))) ∧
 IntKind.wrap
 IntKind.i64
 (Int.ofNat
 (SrX.i
 x_1) +
 (1 :
 Int)) =
 Int.ofNat
 (SrX.i
 x') ∧
 (34 :
 Nat) =
 (34 :
 Nat) ∧
 ArmV.name
 (SrX.a
 x_1) =
 ArmV.name
 (SrX.a
 x') ∧
 ArmV.x
 (SrX.a
 x_1) =
 ArmV.x
 (SrX.a
 x') ∧
 (63 :
 Nat) ≤
 (63 :
 Nat) ∧
 ArmV.y
 (SrX.a
 x_1) =
 ArmV.y
 (SrX.a
 x') ∧
 (63 :
 Nat) ≤
 (63 :
 Nat) ∧
 ArmV.half
 (SrX.a
 x_1) =
 ArmV.half
 (SrX.a
 x') ∧
 ArmV.t
 (SrX.a
 x_1) =
 ArmV.t
 (SrX.a
 x') ∧
 (63 :
 Nat) ≤
 (63 :
 Nat) ∧
 (16 :
 Nat) =
 (16 :
 Nat) ∧
 List.map
 linkCh
 (ArmV.links
 (SrX.a
 x_1)) =
 List.map
 linkCh
 (ArmV.links
 (SrX.a
 x')) ∧
 True
 else K (AV.x false [Ch.v (Value.bool true)])) := by kernel_rfl
theorem link_lds {l : List LinkV} {i : Nat} {L : LinkV} (h : l[i]? = some L) : ldE (l.map linkCh) i 15 1 = some [.s 6 (L.shape.map vecCh)] := by
  simp only [ldE, List.getElem?_map, h]; rfl
theorem srig_at {x : SrX} (hx : SrI x) (hi : x.i < x.a.links.length) : ∃ L g, x.a.links[x.i]? = some L ∧ x.fs[x.i]? = some g ∧ (placeV x.fs x.a.links)[x.i]? = some (L.shape.map (plV g)) ∧ sS x = L.shape.map (plV g) ∧ tS x = L.shape ∧ PolyOK L.shape := by
  have hl := hx.len
  obtain ⟨L, hL⟩ : ∃ L, x.a.links[x.i]? = some L := ⟨_, List.getElem?_eq_getElem hi⟩
  obtain ⟨g, hg⟩ : ∃ g, x.fs[x.i]? = some g := ⟨_, List.getElem?_eq_getElem (by omega)⟩
  have hp := place_get hg hL
  exact ⟨L, g, hL, hg, hp, gD_of hp, by unfold tS; rw [gD_of hL], (hx.good.links L (List.mem_of_getElem? hL)).poly⟩
theorem g_srig (l m : List Int) (hl : l.length ≤ 9223372036854775807) (hm : m.length ≤ 9223372036854775807) (K : AV → Prop) (hK : K (.x false [.v (.bool true)])) : Holds (goal_srig l m K) := by
  refine ⟨?_⟩
  rw [goal_srig_vc]
  simp only [Int.ofNat_eq_natCast, true_and, and_true, Nat.le_refl, true_implies]
  have key : (boxAll (startB (placeV ((framesV (baseV (sampleV [3])) (sampleV [3]).links [mkRat 0 1]).take 1) (sampleV [3]).links)) (placeV ((framesV (baseV (sampleV [3])) (sampleV [3]).links [mkRat 0 1]).take 1) (sampleV [3]).links)).x1 = (pt1 0 (-1)).1 ∧ (boxAll (startB (placeV ((framesV (baseV (sampleV [3])) (sampleV [3]).links [mkRat 0 1]).take 1) (sampleV [3]).links)) (placeV ((framesV (baseV (sampleV [3])) (sampleV [3]).links [mkRat 0 1]).take 1) (sampleV [3]).links)).y1 = (pt1 0 (-1)).2 ∧ (boxAll (startB (placeV ((framesV (baseV (sampleV [3])) (sampleV [3]).links [mkRat 0 1]).take 1) (sampleV [3]).links)) (placeV ((framesV (baseV (sampleV [3])) (sampleV [3]).links [mkRat 0 1]).take 1) (sampleV [3]).links)).x2 = (pt1 3 1).1 ∧ (boxAll (startB (placeV ((framesV (baseV (sampleV [3])) (sampleV [3]).links [mkRat 0 1]).take 1) (sampleV [3]).links)) (placeV ((framesV (baseV (sampleV [3])) (sampleV [3]).links [mkRat 0 1]).take 1) (sampleV [3]).links)).y2 = (pt1 3 1).2 := by decide +kernel
  have shl : ∀ ps, (shN 115300000 ps).length = ps.length := fun ps => by simp [shN]
  refine ⟨[3], rfl, ⟨by simp, by simp⟩, by omega, sampleV [3], 63, [mkRat 0 1], rfl, rfl, ⟨sample_good (by simp) (by simp), by omega, rfl⟩, fun fs f hf hfl => ⟨by omega, by omega, bif_mk (fun h => ?_) (fun _ => ⟨l, rfl, hl, fun a ha => ⟨a, m, rfl, rfl, ⟨MadeA.good ha, hm⟩, fun qs _ hq => ⟨a, 63, qs, rfl, rfl, ⟨MadeA.good ha, by omega, hq⟩, fun gs g hg hgl => ?_⟩⟩⟩)⟩⟩
  · exfalso
    obtain ⟨e1, _⟩ := snoc_of hf (show fs.length = 1 from hfl)
    rw [← e1] at key
    obtain ⟨k1, k2, k3, k4⟩ := key
    rw [k1, k2, k3, k4] at h
    simp at h
  have hpl := place_len hgl
  have hn := (MadeA.good ha).n
  simp only [List.length_map, shl]
  refine bif_mk (fun h => by simp [hpl] at h) (fun _ => ⟨⟨⟨a, gs, 0, 0⟩, ⟨⟨MadeA.good ha, hgl⟩, by simp⟩, rfl, by simp only; omega, rfl, rfl, rfl, rfl, rfl, rfl, rfl⟩, fun x hx => bif_mk (fun hp => ?_) (fun _ => hK)⟩)
  have hp : x.i < x.a.links.length := by have := of_decide_eq_true hp; omega
  obtain ⟨L, g, hL, hgx, hs, eS, eT, hpo⟩ := srig_at hx.1 hp
  have hxl := place_len hx.1.len
  have hxn := hx.1.good.n
  refine ⟨by omega, _, sh_ld (by simpa using hs), by omega, _, link_lds (by simpa using hL), bif_mk (fun h => by simp at h) (fun _ => ⟨115300000, L.shape.map (plV g), rfl, ⟨by omega, poly_pl g hpo⟩, 115300000, L.shape.map (plV g), rfl, ⟨by omega, poly_pl g hpo⟩, fun m1 hm1 => ⟨63, L.shape, rfl, ⟨by omega, hpo⟩, fun m2 hm2 => ⟨by omega, bif_mk (fun h => ?_) (fun _ => ⟨⟨⟨x.a, x.fs, x.i, 0⟩, ⟨⟨⟨hx.1.good, hx.1.len⟩, hp, by simp⟩, rfl⟩, congrArg (List.map (vecN 115300000)) eS.symm, congrArg (List.map (vecN 63)) eT.symm, rfl, rfl, rfl, ?_, rfl, rfl, rfl, rfl, rfl, rfl, rfl⟩, fun y hy hyt => bif_mk (fun hk => ?_) (fun hk => ?_)⟩)⟩⟩⟩)⟩
  · exfalso
    rw [List.length_map, area_pl, cmp_self rfl] at h
    simp at h
  · show _ = ((tS x).length : Int)
    rw [eT, List.length_map, List.length_map]
  · have hk : y.k < (tS y).length := by have := of_decide_eq_true hk; omega
    obtain ⟨M, e, hM, hey, hs', eS', eT', hpo'⟩ := srig_at hy.1 hy.2.1
    have h1 := hpo'.lo
    have h2 := hpo'.hi
    have hTl : (tS y).length = M.shape.length := by rw [eT']
    have hSl : (sS y).length = M.shape.length := by rw [eS', List.length_map]
    have e1 : (IntKind.i64.wrap ((y.k : Int) + 1)).tmod (M.shape.length : Int) = (((y.k + 1) % M.shape.length : Nat) : Int) := by
      rw [w64 (by omega), tm (by omega)]; simp
    have m1 := Nat.mod_lt (y.k + 1) (by omega : 0 < M.shape.length)
    obtain ⟨p, hpp⟩ : ∃ p, M.shape[y.k]? = some p := ⟨_, List.getElem?_eq_getElem (by omega)⟩
    obtain ⟨q, hqq⟩ : ∃ q, M.shape[(y.k + 1) % M.shape.length]? = some q := ⟨_, List.getElem?_eq_getElem m1⟩
    have s1 : (sS y)[y.k]? = some (plV e p) := by rw [eS', List.getElem?_map, hpp]; rfl
    have s2 : (sS y)[(y.k + 1) % M.shape.length]? = some (plV e q) := by rw [eS', List.getElem?_map, hqq]; rfl
    have t1 : (tS y)[y.k]? = some p := by rw [eT']; exact hpp
    have t2 : (tS y)[(y.k + 1) % M.shape.length]? = some q := by rw [eT']; exact hqq
    rw [hSl, e1, Int.toNat_natCast]
    refine ⟨by omega, _, _, _, _, vec_ld (by simpa using s1), by omega, by omega, _, _, _, _, vec_ld s2, by omega, _, _, _, _, vec_ld (by simpa using t1), by omega, by omega, _, _, _, _, vec_ld t2, by omega, by omega, by omega, by omega, by omega, bif_mk (fun h => ?_) (fun _ => ⟨⟨y.a, y.fs, y.i, y.k + 1⟩, ⟨⟨⟨hy.1.good, hy.1.len⟩, hy.2.1, hk⟩, hyt, ?_⟩, rfl, rfl, rfl, rfl, rfl, rfl, by rw [w64 (by omega)]; simp, rfl, rfl, rfl, rfl, rfl, rfl⟩)⟩
    · exfalso
      rw [cmp_self (len_pl e p q)] at h
      simp at h
    · show (tS y).length - (y.k + 1) < (tS y).length - y.k
      omega
  · have hyi := hy.2.1
    have hyn := hy.1.good.n
    exact ⟨⟨y.a, y.fs, y.i + 1, 0⟩, ⟨⟨⟨hy.1.good, hy.1.len⟩, hyi⟩, by simp only; omega⟩, rfl, rfl, by rw [w64 (by omega)]; simp, rfl, rfl, rfl, rfl, rfl, rfl⟩
theorem spec_srig (l m : List Int) (hl : l.length ≤ 9223372036854775807) (hm : m.length ≤ 9223372036854775807) : Eng.Spec Tryd.prog tabG debT 6 [.x false [.s 1 (ints l)], .x false [.s 1 (ints m)]] (fun av => av = .x false [.v (.bool true)]) :=
  spec_ofL T126ok mixed Tryd.func6 (by kernel_rfl) (by kernel_rfl) (by rfl) (g_srig l m hl hm _ rfl)
end Go.Proofs
