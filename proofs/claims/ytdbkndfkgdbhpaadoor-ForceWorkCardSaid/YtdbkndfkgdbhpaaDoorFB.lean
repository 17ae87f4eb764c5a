/- ForceSums, SingleSums, ForceWork. -/
import Derived.Test.YtdbkndfkgdbhpaaDoorFT
/- ForceSums, SingleSums, ForceWork. -/
namespace Go.Proofs
open Go Go.Eng
structure FsX where
  a : ArmV
  qs : List Rat
  fs : List FrV
  f : FrV
  p : Rat × Rat
  q : Rat × Rat
  i : Nat
structure FsI (x : FsX) : Prop where
  good : GoodArm x.a
  ql : x.qs.length = x.a.links.length
  eq : x.fs ++ [x.f] = framesV (baseV x.a) x.a.links x.qs
  len : x.fs.length = x.a.links.length
  le : x.i ≤ x.a.links.length
def inv_fsum (k : Int) : LI := fun _ => .inv ⟨FsX, fun x => ⟨[(4, iA .i64 k), (11, .x false [.p 11 0]), (12, sR 63 x.qs), (15, sR (265600010 + 63 + 63) (torqV x.f x.p.1 x.p.2 x.fs)), (17, sR (265600010 + 63 + 63) (torqV x.f x.q.1 x.q.2 x.fs)), (19, sR (265600010 + 127 + 127) (torqV x.f (x.p.1 + x.q.1) (x.p.2 + x.q.2) x.fs)), (21, .x false [.s 10 (x.fs.map frCh ++ [frN (bnd x.a.links.length) x.f])]), (115, iA .i64 x.a.links.length), (116, iA .i64 x.i)],
  [(11, .box 34 (armCh x.a))]⟩, FsI, fun x => x.a.links.length - x.i, fun _ => 0⟩
def ot_fsum : OT := fun id => bif id.beq 7 then ([0, 1, 2, 3, 4, 5, 6, 7, 8, 9, 10], [[], [], [], [], [2, 3], [0, 1, 4, 2, 3], [5, 0, 1, 4, 2, 3], [6, 5, 0, 1, 4, 2, 3], [6, 5, 0, 1, 4, 2, 3], [7, 6, 5, 0, 1, 4, 2, 3], [8, 6, 5, 0, 1, 4, 2, 3, 9, 7]]) else bif id.beq 14 then ([0, 1, 2, 3, 4, 5, 6, 7, 8, 9, 10, 11, 12, 13, 14], [[], [], [0, 1], [2, 0, 1], [], [], [4, 5], [6, 4, 5], [], [], [8, 9], [10, 8, 9], [7, 6, 4, 5, 11, 10, 8, 9], [3, 2, 0, 1, 12, 7, 6, 4, 5, 11, 10, 8, 9], [13, 3, 2, 0, 1, 12, 7, 6, 4, 5, 11, 10, 8, 9]]) else bif id.beq 18 then ([0, 1, 2, 3, 4, 5, 6, 7, 8, 9, 10, 11, 12, 13, 14, 15, 16, 17, 18, 19], [[], [], [], [], [3], [2, 4, 3], [5, 2, 4, 3], [6, 5, 2, 4, 3], [], [], [8, 9], [10, 8, 9], [11, 10, 8, 9], [7, 6, 5, 2, 4, 3, 12, 11, 10, 8, 9], [0, 1, 13, 7, 6, 5, 2, 4, 3, 12, 11, 10, 8, 9], [14, 0, 1, 13, 7, 6, 5, 2, 4, 3, 12, 11, 10, 8, 9], [15, 14, 0, 1, 13, 7, 6, 5, 2, 4, 3, 12, 11, 10, 8, 9], [15, 14, 0, 1, 13, 7, 6, 5, 2, 4, 3, 12, 11, 10, 8, 9], [16, 15, 14, 0, 1, 13, 7, 6, 5, 2, 4, 3, 12, 11, 10, 8, 9], [17, 15, 14, 0, 1, 13, 7, 6, 5, 2, 4, 3, 12, 11, 10, 8, 9, 18, 16]]) else ([], [])
def goal_fsum (l m k n : List Int) (x : Int) (K : AV → Prop) : Prop := goalL T120 ot_fsum (inv_fsum x) Tryd.f3 [.x false [.s 1 (ints l)], .x false [.s 1 (ints m)], .x false [.s 1 (ints k)], .x false [.s 1 (ints n)], iA .i64 x] K
theorem goal_fsum_vc (l : List Int) (m : List Int) (k : List Int) (n : List Int) (x : Int) (K : AV → Prop) : goal_fsum l m k n x K = (
 True ∧
 True ∧
 ∃ (l_1 : List Int),
 ints l = ints l_1 ∧
 List.length l_1 ≤ (9223372036854775807 : Nat) ∧
 ∀ (a : ArmV),
 Made a ∧ (1 : Nat) ≤ List.length (ArmV.links a) →
 ∃ (a_2 : ArmV),
 ∃ (l : List Int),
 [Ch.v (Value.string (ArmV.name a)), Ch.r (ArmV.x a) (63 : Nat), Ch.r (ArmV.y a) (63 : Nat),
 Ch.v (Value.bool (ArmV.half a)), Ch.r (ArmV.t a) (63 : Nat), Ch.s (16 : Nat) (List.map linkCh (ArmV.links a))] =
 [Ch.v (Value.string (ArmV.name a_2)), Ch.r (ArmV.x a_2) (63 : Nat), Ch.r (ArmV.y a_2) (63 : Nat),
 Ch.v (Value.bool (ArmV.half a_2)), Ch.r (ArmV.t a_2) (63 : Nat),
 Ch.s (16 : Nat) (List.map linkCh (ArmV.links a_2))] ∧
 ints m = ints l ∧
 (GoodArm a_2 ∧ List.length l ≤ (9223372036854775807 : Nat)) ∧
 ∀ (qs : List Rat),
 (∀ (i : Nat) (L : LinkV) (q : Rat),
 (ArmV.links a_2)[i]? = some L → qs[i]? = some q → LinkV.lo L ≤ q ∧ q ≤ LinkV.hi L) →
 List.length qs = List.length (ArmV.links a_2) →
 ∃ (l : List Int),
 ints k = ints l ∧
 List.length l ≤ (9223372036854775807 : Nat) ∧
 ∀ (p : Rat × Rat),
 ∃ (l : List Int),
 ints n = ints l ∧
 List.length l ≤ (9223372036854775807 : Nat) ∧
 ∀ (p_1 : Rat × Rat),
 ∃ (a_5 : ArmV),
 ∃ (b : Nat),
 ∃ (qs_1 : List Rat),
 [Ch.v (Value.string (ArmV.name a)), Ch.r (ArmV.x a) (63 : Nat),
 Ch.r (ArmV.y a) (63 : Nat), Ch.v (Value.bool (ArmV.half a)),
 Ch.r (ArmV.t a) (63 : Nat), Ch.s (16 : Nat) (List.map linkCh (ArmV.links a))] =
 [Ch.v (Value.string (ArmV.name a_5)), Ch.r (ArmV.x a_5) (63 : Nat),
 Ch.r (ArmV.y a_5) (63 : Nat), Ch.v (Value.bool (ArmV.half a_5)),
 Ch.r (ArmV.t a_5) (63 : Nat),
 Ch.s (16 : Nat) (List.map linkCh (ArmV.links a_5))] ∧
 lR (63 : Nat) qs = lR b qs_1 ∧
 (GoodArm a_5 ∧
 (b ≤ (400 : Nat) ∧ List.length qs_1 = List.length (ArmV.links a_5)) ∧
 (63 : Nat) ≤ (300000000 : Nat) ∧ (63 : Nat) ≤ (300000000 : Nat)) ∧
 ∀ (fs : List FrV) (f : FrV),
 fs ++ [f] = framesV (baseV a_5) (ArmV.links a_5) qs_1 →
 List.length fs = List.length (ArmV.links a_5) →
 ∃ (a_8 : ArmV),
 ∃ (b : Nat),
 ∃ (qs_2 : List Rat),
 [Ch.v (Value.string (ArmV.name a)), Ch.r (ArmV.x a) (63 : Nat),
 Ch.r (ArmV.y a) (63 : Nat), Ch.v (Value.bool (ArmV.half a)),
 Ch.r (ArmV.t a) (63 : Nat),
 Ch.s (16 : Nat) (List.map linkCh (ArmV.links a))] =
 [Ch.v (Value.string (ArmV.name a_8)),
 Ch.r (ArmV.x a_8) (63 : Nat), Ch.r (ArmV.y a_8) (63 : Nat),
 Ch.v (Value.bool (ArmV.half a_8)), Ch.r (ArmV.t a_8) (63 : Nat),
 Ch.s (16 : Nat) (List.map linkCh (ArmV.links a_8))] ∧
 lR (63 : Nat) qs = lR b qs_2 ∧
 (GoodArm a_8 ∧
 (b ≤ (400 : Nat) ∧
 List.length qs_2 = List.length (ArmV.links a_8)) ∧
 (63 : Nat) ≤ (300000000 : Nat) ∧
 (63 : Nat) ≤ (300000000 : Nat)) ∧
 ∀ (fs_1 : List FrV) (f_1 : FrV),
 fs_1 ++ [f_1] = framesV (baseV a_8) (ArmV.links a_8) qs_2 →
 List.length fs_1 = List.length (ArmV.links a_8) →
 ((126 : Nat) ≤ (4294967290 : Nat) ∧
 (126 : Nat) ≤ (4294967290 : Nat)) ∧
 ∃ (a_11 : ArmV),
 ∃ (b : Nat),
 ∃ (qs_3 : List Rat),
 [Ch.v (Value.string (ArmV.name a)),
 Ch.r (ArmV.x a) (63 : Nat),
 Ch.r (ArmV.y a) (63 : Nat),
 Ch.v (Value.bool (ArmV.half a)),
 Ch.r (ArmV.t a) (63 : Nat),
 Ch.s (16 : Nat)
 (List.map linkCh (ArmV.links a))] =
 [Ch.v (Value.string (ArmV.name a_11)),
 Ch.r (ArmV.x a_11) (63 : Nat),
 Ch.r (ArmV.y a_11) (63 : Nat),
 Ch.v (Value.bool (ArmV.half a_11)),
 Ch.r (ArmV.t a_11) (63 : Nat),
 Ch.s (16 : Nat)
 (List.map linkCh (ArmV.links a_11))] ∧
 lR (63 : Nat) qs = lR b qs_3 ∧
 (GoodArm a_11 ∧
 (b ≤ (400 : Nat) ∧
 List.length qs_3 =
 List.length (ArmV.links a_11)) ∧
 (127 : Nat) ≤ (300000000 : Nat) ∧
 (127 : Nat) ≤ (300000000 : Nat)) ∧
 ∀ (fs_2 : List FrV) (f_2 : FrV),
 fs_2 ++ [f_2] =
 framesV (baseV a_11) (ArmV.links a_11)
 qs_3 →
 List.length fs_2 =
 List.length (ArmV.links a_11) →
 ∃ (a_14 : ArmV),
 ∃ (b : Nat),
 ∃ (qs_4 : List Rat),
 [Ch.v
 (Value.string
 (ArmV.name a)),
 Ch.r (ArmV.x a)
 (63 : Nat),
 Ch.r (ArmV.y a)
 (63 : Nat),
 Ch.v
 (Value.bool
 (ArmV.half a)),
 Ch.r (ArmV.t a)
 (63 : Nat),
 Ch.s (16 : Nat)
 (List.map linkCh
 (ArmV.links a))] =
 [Ch.v
 (Value.string
 (ArmV.name a_14)),
 Ch.r (ArmV.x a_14)
 (63 : Nat),
 Ch.r (ArmV.y a_14)
 (63 : Nat),
 Ch.v
 (Value.bool
 (ArmV.half a_14)),
 Ch.r (ArmV.t a_14)
 (63 : Nat),
 Ch.s (16 : Nat)
 (List.map linkCh
 (ArmV.links a_14))] ∧
 lR (63 : Nat) qs = lR b qs_4 ∧
 (GoodArm a_14 ∧
 b ≤ (400 : Nat) ∧
 List.length qs_4 =
 List.length
 (ArmV.links
 a_14)) ∧
 ∀ (fs_3 : List FrV)
 (f_3 : FrV),
 fs_3 ++ [f_3] =
 framesV (baseV a_14)
 (ArmV.links a_14)
 qs_4 →
 List.length fs_3 =
 List.length
 (ArmV.links
 a_14) →
 bif
 Int.ofNat
 (List.length
 (lR
 (265600136 :
 Nat)
 (torqV f
 (Prod.fst
 p)
 (Prod.snd
 p)
 fs))) !=
 Int.ofNat
 (List.length
 (lR
 (63 :
 Nat)
 qs)) then
 K
 (AV.x false
 [Ch.v
 (Value.bool
 false)])
 else
 bif
 Int.ofNat
 (List.length
 (lR
 (265600136 :
 Nat)
 (torqV
 f_1
 (Prod.fst
 p_1)
 (Prod.snd
 p_1)
 fs_1))) !=
 Int.ofNat
 (List.length
 (lR
 (63 :
 Nat)
 qs)) then
 K
 (AV.x false
 [Ch.v
 (Value.bool
 false)])
 else
 bif
 Int.ofNat
 (List.length
 (lR
 (265600264 :
 Nat)
 (torqV
 f_2
 (Prod.fst
 p +
 Prod.fst
 p_1)
 (Prod.snd
 p +
 Prod.snd
 p_1)
 fs_2))) !=
 Int.ofNat
 (List.length
 (lR
 (63 :
 Nat)
 qs)) then
 K
 (AV.x false
 [Ch.v
 (Value.bool
 false)])
 else
 bif
 Int.ofNat
 (List.length
 (List.map
 frCh
 fs_3 ++
 [[Ch.r
 (FrV.x
 f_3)
 (bnd
 (List.length
 (ArmV.links
 a_14))),
 Ch.r
 (FrV.y
 f_3)
 (bnd
 (List.length
 (ArmV.links
 a_14))),
 Ch.v
 (Value.bool
 (FrV.h
 f_3)),
 Ch.r
 (FrV.t
 f_3)
 (bnd
 (List.length
 (ArmV.links
 a_14)))]])) !=
 IntKind.wrap
 IntKind.i64
 (Int.ofNat
 (List.length
 (lR
 (63 :
 Nat)
 qs)) +
 (1 :
 Int)) then
 K
 (AV.x
 false
 [Ch.v
 (Value.bool
 false)])
 else
 (∃ (x_1 :
 FsX),
 (FsI
 x_1 ∧
 OfNat.ofNat
 (0 :
 Nat) =
 (0 :
 Nat)) ∧
 x =
 x ∧
 (0 :
 Nat) =
 (0 :
 Nat) ∧
 (3 :
 Nat) =
 (3 :
 Nat) ∧
 lR
 (63 :
 Nat)
 qs =
 lR
 (63 :
 Nat)
 (FsX.qs
 x_1) ∧
 (3 :
 Nat) =
 (3 :
 Nat) ∧
 lR
 (265600136 :
 Nat)
 (torqV
 f
 (Prod.fst
 p)
 (Prod.snd
 p)
 fs) =
 lR
 (265600136 :
 Nat)
 (torqV
 (FsX.f
 x_1)
 (Prod.fst
 (FsX.p
 x_1))
 (Prod.snd
 (FsX.p
 x_1))
 (FsX.fs
 x_1)) ∧
 (3 :
 Nat) =
 (3 :
 Nat) ∧
 lR
 (265600136 :
 Nat)
 (torqV
 f_1
 (Prod.fst
 p_1)
 (Prod.snd
 p_1)
 fs_1) =
 lR
 (265600136 :
 Nat)
 (torqV
 (FsX.f
 x_1)
 (Prod.fst
 (FsX.q
 x_1))
 (Prod.snd
 (FsX.q
 x_1))
 (FsX.fs
 x_1)) ∧
 (3 :
 Nat) =
 (3 :
 Nat) ∧
 lR
 (265600264 :
 Nat)
 (torqV
 f_2
 (Prod.fst
 p +
 Prod.fst
 p_1)
 (Prod.snd
 p +
 Prod.snd
 p_1)
 fs_2) =
 lR
 (265600264 :
 Nat)
 (torqV
 (FsX.f
 x_1)
 (Prod.fst
 (FsX.p
 x_1) +
 Prod.fst
 (FsX.q
 x_1))
 (Prod.snd
 (FsX.p
 x_1) +
 Prod.snd
 (FsX.q
 x_1))
 (FsX.fs
 x_1)) ∧
 (10 :
 Nat) =
 (10 :
 Nat) ∧
 List.map
 frCh
 fs_3 ++
 [[Ch.r
 (FrV.x
 f_3)
 (bnd
 (List.length
 (ArmV.links
 a_14))),
 Ch.r
 (FrV.y
 f_3)
 (bnd
 (List.length
 (ArmV.links
 a_14))),
 Ch.v
 (Value.bool
 (FrV.h
 f_3)),
 Ch.r
 (FrV.t
 f_3)
 (bnd
 (List.length
 (ArmV.links
 a_14)))]] =
 List.map
 frCh
 (FsX.fs
 x_1) ++
 [[Ch.r
 (FrV.x
 (FsX.f
 x_1))
 (bnd
 (List.length
 (ArmV.links
 (FsX.a
 x_1)))),
 Ch.r
 (FrV.y
 (FsX.f
 x_1))
 (bnd
 (List.length
 (ArmV.links
 (FsX.a
 x_1)))),
 Ch.v
 (Value.bool
 (FrV.h
 (FsX.f
 x_1))),
 Ch.r
 (FrV.t
 (FsX.f
 x_1))
 (bnd
 (List.length
 (ArmV.links
 (FsX.a
 x_1))))]] ∧
 Int.ofNat
 (List.length
 (lR
 (265600264 :
 Nat)
 (torqV
 f_2
 (Prod.fst
 p +
 Prod.fst
 p_1)
 (Prod.snd
 p +
 Prod.snd
 p_1)
 fs_2))) =
 Int.ofNat
 (List.length
 (ArmV.links
 (FsX.a
 x_1))) ∧
 (0 :
 Int) =
 Int.ofNat
 (FsX.i
 x_1) ∧
 (34 :
 Nat) =
 (34 :
 Nat) ∧
 ArmV.name
 a =
 ArmV.name
 (FsX.a
 x_1) ∧
 ArmV.x
 a =
 ArmV.x
 (FsX.a
 x_1) ∧
 (63 :
 Nat) ≤
 (63 :
 Nat) ∧
 ArmV.y
 a =
 ArmV.y
 (FsX.a
 x_1) ∧
 (63 :
 Nat) ≤
 (63 :
 Nat) ∧
 ArmV.half
 a =
 ArmV.half
 (FsX.a
 x_1) ∧
 ArmV.t
 a =
 ArmV.t
 (FsX.a
 x_1) ∧
 (63 :
 Nat) ≤
 (63 :
 Nat) ∧
 (16 :
 Nat) =
 (16 :
 Nat) ∧
 List.map
 linkCh
 (ArmV.links
 a) =
 List.map
 linkCh
 (ArmV.links
 (FsX.a
 x_1)) ∧
 True) ∧
 ∀
 (x_1 :
 FsX),
 FsI
 x_1 →
 OfNat.ofNat
 (0 :
 Nat) =
 (0 :
 Nat) →
 bif
 decide
 (Int.ofNat
 (FsX.i
 x_1) <
 Int.ofNat
 (List.length
 (ArmV.links
 (FsX.a
 x_1)))) then
 ((0 :
 Int) ≤
 Int.ofNat
 (FsX.i
 x_1) ∧
 Int.ofNat
 (FsX.i
 x_1) <
 Int.ofNat
 (List.length
 (lR
 (265600264 :
 Nat)
 (torqV
 (FsX.f
 x_1)
 (Prod.fst
 (FsX.p
 x_1) +
 Prod.fst
 (FsX.q
 x_1))
 (Prod.snd
 (FsX.p
 x_1) +
 Prod.snd
 (FsX.q
 x_1))
 (FsX.fs
 x_1))))) ∧
 ∃
 (q
 :
 Rat),
 ∃
 (n
 :
 Nat),
 ldE
 (lR
 (265600264 :
 Nat)
 (torqV
 (FsX.f
 x_1)
 (Prod.fst
 (FsX.p
 x_1) +
 Prod.fst
 (FsX.q
 x_1))
 (Prod.snd
 (FsX.p
 x_1) +
 Prod.snd
 (FsX.q
 x_1))
 (FsX.fs
 x_1)))
 (Int.toNat
 (Int.ofNat
 (FsX.i
 x_1)))
 (0 :
 Nat)
 (3 :
 Nat) =
 some
 [Ch.r
 q
 n] ∧
 ((0 :
 Int) ≤
 Int.ofNat
 (FsX.i
 x_1) ∧
 Int.ofNat
 (FsX.i
 x_1) <
 Int.ofNat
 (List.length
 (lR
 (265600136 :
 Nat)
 (torqV
 (FsX.f
 x_1)
 (Prod.fst
 (FsX.p
 x_1))
 (Prod.snd
 (FsX.p
 x_1))
 (FsX.fs
 x_1))))) ∧
 ∃
 (q_1
 :
 Rat),
 ∃
 (n_1
 :
 Nat),
 ldE
 (lR
 (265600136 :
 Nat)
 (torqV
 (FsX.f
 x_1)
 (Prod.fst
 (FsX.p
 x_1))
 (Prod.snd
 (FsX.p
 x_1))
 (FsX.fs
 x_1)))
 (Int.toNat
 (Int.ofNat
 (FsX.i
 x_1)))
 (0 :
 Nat)
 (3 :
 Nat) =
 some
 [Ch.r
 q_1
 n_1] ∧
 ((0 :
 Int) ≤
 Int.ofNat
 (FsX.i
 x_1) ∧
 Int.ofNat
 (FsX.i
 x_1) <
 Int.ofNat
 (List.length
 (lR
 (265600136 :
 Nat)
 (torqV
 (FsX.f
 x_1)
 (Prod.fst
 (FsX.q
 x_1))
 (Prod.snd
 (FsX.q
 x_1))
 (FsX.fs
 x_1))))) ∧
 ∃
 (q_2
 :
 Rat),
 ∃
 (n_2
 :
 Nat),
 ldE
 (lR
 (265600136 :
 Nat)
 (torqV
 (FsX.f
 x_1)
 (Prod.fst
 (FsX.q
 x_1))
 (Prod.snd
 (FsX.q
 x_1))
 (FsX.fs
 x_1)))
 (Int.toNat
 (Int.ofNat
 (FsX.i
 x_1)))
 (0 :
 Nat)
 (3 :
 Nat) =
 some
 [Ch.r
 q_2
 n_2] ∧
 n_1 +
 n_2 +
 (1 :
 Nat) ≤
 (4294967296 :
 Nat) ∧
 n +
 (n_1 +
 n_2 +
 (1 :
 Nat)) ≤
 (4294967296 :
 Nat) ∧
 bif
 cmpR
 q
 (q_1 +
 q_2) !=
 (0 :
 Int) then
 K
 (AV.x
 false
 [Ch.v
 (Value.bool
 false)])
 else
 ∃
 (x'
 :
 FsX),
 (FsI
 x' ∧
 OfNat.ofNat
 (0 :
 Nat) =
 (0 :
 Nat) ∧
 List.length
 (ArmV.links
 (FsX.a
 x')) -
 FsX.i
 x' <
 List.length
 (ArmV.links
 (FsX.a
 x_1)) -
 FsX.i
 x_1) ∧
 x =
 x ∧
 (0 :
 Nat) =
 (0 :
 Nat) ∧
 (3 :
 Nat) =
 (3 :
 Nat) ∧
 lR
 (63 :
 Nat)
 (FsX.qs
 x_1) =
 lR
 (63 :
 Nat)
 (FsX.qs
 x') ∧
 (3 :
 Nat) =
 (3 :
 Nat) ∧
 lR
 (265600136 :
 Nat)
 (torqV
 (FsX.f
 x_1)
 (Prod.fst
 (FsX.p
 x_1))
 (Prod.snd
 (FsX.p
 x_1))
 (FsX.fs
 x_1)) =
 lR
 (265600136 :
 Nat)
 (torqV
 (FsX.f
 x')
 (Prod.fst
 (FsX.p
 x'))
 (Prod.snd
 (FsX.p
 x'))
 (FsX.fs
 x')) ∧
 (3 :
 Nat) =
 (3 :
 Nat) ∧
 lR
 (265600136 :
 Nat)
 (torqV
 (FsX.f
 x_1)
 (Prod.fst
 (FsX.q
 x_1))
 (Prod.snd
 (FsX.q
 x_1))
 (FsX.fs
 x_1)) =
 lR
 (265600136 :
 Nat)
 (torqV
 (FsX.f
 x')
 (Prod.fst
 (FsX.q
 x'))
 (Prod.snd
 (FsX.q
 x'))
 (FsX.fs
 x')) ∧
 (3 :
 Nat) =
 (3 :
 Nat) ∧
 lR
 (265600264 :
 Nat)
 (torqV
 (FsX.f
 x_1)
 (Prod.fst
 (FsX.p
 x_1) +
 Prod.fst
 (FsX.q
 x_1))
 (Prod.snd
 (FsX.p
 x_1) +
 Prod.snd
 (FsX.q
 x_1))
 (FsX.fs
 x_1)) =
 lR
 (265600264 :
 Nat)
 (torqV
 (FsX.f
 x')
 (Prod.fst
 (FsX.p
 x') +
 Prod.fst
 (FsX.q
 x'))
 (Prod.snd
 (FsX.p
 x') +
 Prod.snd
 (FsX.q
 x'))
 (FsX.fs
 x')) ∧
 (10 :
 Nat) =
 (10 :
 Nat) ∧
 List.map
 frCh
 (FsX.fs
 x_1) ++
 [[Ch.r
 (FrV.x
 (FsX.f
 x_1))
 (bnd
 (List.length
 (ArmV.links
 (FsX.a
 x_1)))),
 Ch.r
 (FrV.y
 (FsX.f
 x_1))
 (bnd
 (List.length
 (ArmV.links
 (FsX.a
 x_1)))),
 Ch.v
 (Value.bool
 (FrV.h
 (FsX.f
 x_1))),
 Ch.r
 (FrV.t
 (FsX.f
 x_1))
 (bnd
 (List.length
 (ArmV.links
 (FsX.a
 x_1))))]] =
 List.map
 frCh
 (FsX.fs
 x') ++
 [[Ch.r
 (FrV.x
 (FsX.f
 x'))
 (bnd
 (List.length
 (ArmV.links
 (FsX.a
 x')))),
 Ch.r
 (FrV.y
 (FsX.f
 x'))
 (bnd
 (List.length
 (ArmV.links
 (FsX.a
 x')))),
 Ch.v
 (Value.bool
 (FrV.h
 (FsX.f
 x'))),
 Ch.r
 (FrV.t
 (FsX.f
 x'))
 (bnd
 (List.length
 (ArmV.links
 (FsX.a
 x'))))]] ∧
 Int.ofNat
 (List.length
 (ArmV.links
 (FsX.a
 x_1))) =
 Int.ofNat
 (List.length
 (ArmV.links
 (FsX.a
 x'))) ∧
 IntKind.wrap
 IntKind.i64
 (Int.ofNat
 (FsX.i
 x_1) +
 (1 :
 Int)) =
 Int.ofNat
 (FsX.i
 x') ∧
 (34 :
 Nat) =
 (34 :
 Nat) ∧
 ArmV.name
 (FsX.a
 x_1) =
 ArmV.name
 (FsX.a
 x') ∧
 ArmV.x
 (FsX.a
 x_1) =
 ArmV.x
 (FsX.a
 x') ∧
 (63 :
 Nat) ≤
 (63 :
 Nat) ∧
 ArmV.y
 (FsX.a
 x_1) =
 ArmV.y
 (FsX.a
 x') ∧
 (63 :
 Nat) ≤
 (63 :
 Nat) ∧
 ArmV.half
 (FsX.a
 x_1) =
 ArmV.half
 (FsX.a
 x') ∧
 ArmV.t
 (FsX.a
 x_1) =
 ArmV.t
 (FsX.a
 x') ∧
 (63 :
 Nat) ≤
 (63 :
 Nat) ∧
 (16 :
 Nat) =
 (16 :
 Nat) ∧
 List.map
 linkCh
 (ArmV.links
 (FsX.a
 x_1)) =
 List.map
 linkCh
 (ArmV.links
 (FsX.a
 x')) ∧
 True
 else
 ((0 :
 Int) <
 Int.ofNat
 (List.length
 (lR
 (63 :
 Nat)
 (FsX.qs
 x_1))) ∧
 Int.ofNat
 (List.length
 (lR
 (63 :
 Nat)
 (FsX.qs
 x_1))) <
 (9223372036854775808 :
 Int)) ∧
 ((0 :
 Int) ≤
 Int.ofNat
 (List.length
 (lR
 (63 :
 Nat)
 (FsX.qs
 x_1))) ∧
 Int.ofNat
 (List.length
 (lR
 (63 :
 Nat)
 (FsX.qs
 x_1))) <
 Int.ofNat
 (List.length
 (List.map
 frCh
 (FsX.fs
 x_1) ++
 [[Ch.r
 (FrV.x
 (FsX.f
 x_1))
 (bnd
 (List.length
 (ArmV.links
 (FsX.a
 x_1)))),
 Ch.r
 (FrV.y
 (FsX.f
 x_1))
 (bnd
 (List.length
 (ArmV.links
 (FsX.a
 x_1)))),
 Ch.v
 (Value.bool
 (FrV.h
 (FsX.f
 x_1))),
 Ch.r
 (FrV.t
 (FsX.f
 x_1))
 (bnd
 (List.length
 (ArmV.links
 (FsX.a
 x_1))))]]))) ∧
 ∃
 (q
 :
 Rat),
 ∃
 (n
 :
 Nat),
 ∃
 (q_1
 :
 Rat),
 ∃
 (n_1
 :
 Nat),
 ldE
 (List.map
 frCh
 (FsX.fs
 x_1) ++
 [[Ch.r
 (FrV.x
 (FsX.f
 x_1))
 (bnd
 (List.length
 (ArmV.links
 (FsX.a
 x_1)))),
 Ch.r
 (FrV.y
 (FsX.f
 x_1))
 (bnd
 (List.length
 (ArmV.links
 (FsX.a
 x_1)))),
 Ch.v
 (Value.bool
 (FrV.h
 (FsX.f
 x_1))),
 Ch.r
 (FrV.t
 (FsX.f
 x_1))
 (bnd
 (List.length
 (ArmV.links
 (FsX.a
 x_1))))]])
 (Int.toNat
 (Int.ofNat
 (List.length
 (lR
 (63 :
 Nat)
 (FsX.qs
 x_1)))))
 (0 :
 Nat)
 (6 :
 Nat) =
 some
 [Ch.r
 q
 n,
 Ch.r
 q_1
 n_1] ∧
 ((0 :
 Int) ≤
 x %
 Int.ofNat
 (List.length
 (lR
 (63 :
 Nat)
 (FsX.qs
 x_1))) ∧
 x %
 Int.ofNat
 (List.length
 (lR
 (63 :
 Nat)
 (FsX.qs
 x_1))) <
 Int.ofNat
 (List.length
 (List.map
 frCh
 (FsX.fs
 x_1) ++
 [[Ch.r
 (FrV.x
 (FsX.f
 x_1))
 (bnd
 (List.length
 (ArmV.links
 (FsX.a
 x_1)))),
 Ch.r
 (FrV.y
 (FsX.f
 x_1))
 (bnd
 (List.length
 (ArmV.links
 (FsX.a
 x_1)))),
 Ch.v
 (Value.bool
 (FrV.h
 (FsX.f
 x_1))),
 Ch.r
 (FrV.t
 (FsX.f
 x_1))
 (bnd
 (List.length
 (ArmV.links
 (FsX.a
 x_1))))]]))) ∧
 ∃
 (q_2
 :
 Rat),
 ∃
 (n_2
 :
 Nat),
 ∃
 (q_3
 :
 Rat),
 ∃
 (n_3
 :
 Nat),
 ldE
 (List.map
 frCh
 (FsX.fs
 x_1) ++
 [[Ch.r
 (FrV.x
 (FsX.f
 x_1))
 (bnd
 (List.length
 (ArmV.links
 (FsX.a
 x_1)))),
 Ch.r
 (FrV.y
 (FsX.f
 x_1))
 (bnd
 (List.length
 (ArmV.links
 (FsX.a
 x_1)))),
 Ch.v
 (Value.bool
 (FrV.h
 (FsX.f
 x_1))),
 Ch.r
 (FrV.t
 (FsX.f
 x_1))
 (bnd
 (List.length
 (ArmV.links
 (FsX.a
 x_1))))]])
 (Int.toNat
 (x %
 Int.ofNat
 (List.length
 (lR
 (63 :
 Nat)
 (FsX.qs
 x_1)))))
 (0 :
 Nat)
 (6 :
 Nat) =
 some
 [Ch.r
 q_2
 n_2,
 Ch.r
 q_3
 n_3] ∧
 (n +
 n_2 ≤
 (4294967290 :
 Nat) ∧
 n_1 +
 n_3 ≤
 (4294967290 :
 Nat)) ∧
 ∃
 (a
 :
 ArmV),
 ∃
 (b
 :
 Nat),
 ∃
 (qs
 :
 List
 Rat),
 [Ch.v
 (Value.string
 (ArmV.name
 (FsX.a
 x_1))),
 Ch.r
 (ArmV.x
 (FsX.a
 x_1))
 (63 :
 Nat),
 Ch.r
 (ArmV.y
 (FsX.a
 x_1))
 (63 :
 Nat),
 Ch.v
 (Value.bool
 (ArmV.half
 (FsX.a
 x_1))),
 Ch.r
 (ArmV.t
 (FsX.a
 x_1))
 (63 :
 Nat),
 Ch.s
 (16 :
 Nat)
 (List.map
 linkCh
 (ArmV.links
 (FsX.a
 x_1)))] =
 [Ch.v
 (Value.string
 (ArmV.name
 a)),
 Ch.r
 (ArmV.x
 a)
 (63 :
 Nat),
 Ch.r
 (ArmV.y
 a)
 (63 :
 Nat),
 Ch.v
 (Value.bool
 (ArmV.half
 a)),
 Ch.r
 (ArmV.t
 a)
 (63 :
 Nat),
 Ch.s
 (16 :
 Nat)
 (List.map
 linkCh
 (ArmV.links
 a))] ∧
 lR
 (63 :
 Nat)
 (FsX.qs
 x_1) =
 lR
 b
 qs ∧
 (GoodArm
 a ∧
 (b ≤
 (400 :
 Nat) ∧
 List.length
 qs =
 List.length
 (ArmV.links
 a)) ∧
 n +
 n_2 +
 (1 :
 Nat) ≤
 (300000000 :
 Nat) ∧
 n_1 +
 n_3 +
 (1 :
 Nat) ≤
 (300000000 :
 Nat)) ∧
 ∀
 (fs :
 List
 FrV)
 (f :
 FrV),
 fs ++
 [f] =
 framesV
 (baseV
 a)
 (ArmV.links
 a)
 qs →
 List.length
 fs =
 List.length
 (ArmV.links
 a) →
 bif
 Int.ofNat
 (List.length
 (lR
 ((265600010 :
 Nat) +
 (n +
 n_2 +
 (1 :
 Nat)) +
 (n_1 +
 n_3 +
 (1 :
 Nat)))
 (torqV
 f
 (q -
 q_2)
 (q_1 -
 q_3)
 fs))) ==
 Int.ofNat
 (List.length
 (lR
 (63 :
 Nat)
 (FsX.qs
 x_1))) then
 ((0 :
 Int) ≤
 x %
 Int.ofNat
 (List.length
 (lR
 (63 :
 Nat)
 (FsX.qs
 x_1))) ∧
 x %
 Int.ofNat
 (List.length
 (lR
 (63 :
 Nat)
 (FsX.qs
 x_1))) <
 Int.ofNat
 (List.length
 (lR
 ((265600010 :
 Nat) +
 (n +
 n_2 +
 (1 :
 Nat)) +
 (n_1 +
 n_3 +
 (1 :
 Nat)))
 (torqV
 f
 (q -
 q_2)
 (q_1 -
 q_3)
 fs)))) ∧
 ∃
 (q_4
 :
 Rat),
 ∃
 (n_4
 :
 Nat),
 ldE
 (lR
 ((265600010 :
 Nat) +
 (n +
 n_2 +
 (1 :
 Nat)) +
 (n_1 +
 n_3 +
 (1 :
 Nat)))
 (torqV
 f
 (q -
 q_2)
 (q_1 -
 q_3)
 fs))
 (Int.toNat
 (x %
 Int.ofNat
 (List.length
 (lR
 (63 :
 Nat)
 (FsX.qs
 x_1)))))
 (0 :
 Nat)
 (3 :
 Nat) =
 some
 [Ch.r
 q_4
 n_4] ∧
 n_4 ≤
 (4294967296 :
 Nat) ∧
 K
 (AV.x
 false
 [Ch.v
 (Value.bool
 (sgnR
 q_4 ==
 (0 :
 Int)))])
 else
 K
 (AV.x
 false
 [Ch.v
 (Value.bool
 false)])) := by kernel_rfl
structure SsX where
  a : ArmV
  qs : List Rat
  vs : List Rat
  ws : List Rat
  i : Nat
structure SsI (x : SsX) : Prop where
  good : GoodArm x.a
  ql : x.qs.length = x.a.links.length
  vl : x.vs.length = x.a.links.length
  wl : x.ws.length = x.a.links.length
  le : x.i ≤ x.a.links.length
def bothV (r : Rat) (vs ws : List Rat) : List Rat := List.zipWith (fun v w => r * v + w) vs ws
def inv_ssum (k : Int) : LI := fun _ => .inv ⟨SsX, fun x => ⟨[(4, iA .i64 k), (11, .x false [.p 11 0]), (12, sR 63 x.qs), (13, sR 63 x.vs), (14, sR 63 x.ws), (15, .x false [.w 500 0 x.i]), (37, iA .i64 x.a.links.length), (38, iA .i64 x.i)],
  [(11, .box 34 (armCh x.a)), (500, rowR 200 ((bothV (ratV k) x.vs x.ws).take x.i))]⟩, SsI, fun x => x.a.links.length - x.i, fun _ => 0⟩
def ot_ssum : OT := fun id => bif id.beq 4 then ([0, 1, 3, 4, 6, 7, 2, 5, 8, 9, 10, 11], [[], [], [0, 1], [], [], [3, 4, 2, 0, 1], [], [], [6, 7, 5, 3, 4, 2, 0, 1], [2, 0, 1, 8, 6, 7, 5, 3, 4], [5, 3, 4, 2, 0, 1, 9, 8, 6, 7], [8, 6, 7, 5, 3, 4, 2, 0, 1, 10, 9]]) else bif id.beq 9 then ([0, 1, 3, 4, 5, 6, 8, 9, 10, 11, 2, 7, 12, 13, 14, 15], [[], [], [1], [], [], [3, 4], [5, 3, 4], [2, 1, 6, 5, 3, 4], [], [], [8, 9], [10, 8, 9], [7, 2, 1, 6, 5, 3, 4, 11, 10, 8, 9], [12, 7, 2, 1, 6, 5, 3, 4, 11, 10, 8, 9], [0, 13, 12, 7, 2, 1, 6, 5, 3, 4, 11, 10, 8, 9], [14, 0, 13, 12, 7, 2, 1, 6, 5, 3, 4, 11, 10, 8, 9]]) else bif id.beq 14 then ([0, 1, 2, 3, 4, 5, 6, 7, 8, 9, 10, 11, 12, 13, 16, 14, 15, 17, 18, 19, 20], [[], [0], [1, 0], [2, 1, 0], [3, 2, 1, 0], [2, 1, 0, 4, 3], [5, 2, 1, 0, 4, 3], [6, 5, 2, 1, 0, 4, 3], [7, 6, 5, 2, 1, 0, 4, 3], [6, 5, 2, 1, 0, 4, 3, 8, 7], [9, 6, 5, 2, 1, 0, 4, 3, 8, 7], [10, 9, 6, 5, 2, 1, 0, 4, 3, 8, 7], [10, 9, 6, 5, 2, 1, 0, 4, 3, 8, 7], [10, 9, 6, 5, 2, 1, 0, 4, 3, 8, 7], [13, 10, 9, 6, 5, 2, 1, 0, 4, 3, 8, 7], [12, 10, 9, 6, 5, 2, 1, 0, 4, 3, 8, 7, 14, 13], [10, 9, 6, 5, 2, 1, 0, 4, 3, 8, 7], [15, 12, 10, 9, 6, 5, 2, 1, 0, 4, 3, 8, 7, 14, 13, 16], [11, 10, 9, 6, 5, 2, 1, 0, 4, 3, 8, 7, 17, 15, 12, 14, 13, 16], [10, 9, 6, 5, 2, 1, 0, 4, 3, 8, 7, 18, 11, 17, 15, 12, 14, 13, 16], [19, 10, 9, 6, 5, 2, 1, 0, 4, 3, 8, 7, 18, 11, 17, 15, 12, 14, 13, 16]]) else ([], [])
def goal_ssum (l m k n : List Int) (x : Int) (K : AV → Prop) : Prop := goalL T120 ot_ssum (inv_ssum x) Tryd.f4 [.x false [.s 1 (ints l)], .x false [.s 1 (ints m)], .x false [.s 1 (ints k)], .x false [.s 1 (ints n)], iA .i64 x] K
theorem goal_ssum_vc (l : List Int) (m : List Int) (k : List Int) (n : List Int) (x : Int) (K : AV → Prop) : goal_ssum l m k n x K = (
 True ∧
 ∃ (l_1 : List Int),
 ints l = ints l_1 ∧
 List.length l_1 ≤ (9223372036854775807 : Nat) ∧
 ∀ (a : ArmV),
 Made a ∧ (1 : Nat) ≤ List.length (ArmV.links a) →
 ∃ (a_2 : ArmV),
 ∃ (l : List Int),
 [Ch.v (Value.string (ArmV.name a)), Ch.r (ArmV.x a) (63 : Nat), Ch.r (ArmV.y a) (63 : Nat), Ch.v (Value.bool (ArmV.half a)),
 Ch.r (ArmV.t a) (63 : Nat), Ch.s (16 : Nat) (List.map linkCh (ArmV.links a))] =
 [Ch.v (Value.string (ArmV.name a_2)), Ch.r (ArmV.x a_2) (63 : Nat), Ch.r (ArmV.y a_2) (63 : Nat),
 Ch.v (Value.bool (ArmV.half a_2)), Ch.r (ArmV.t a_2) (63 : Nat), Ch.s (16 : Nat) (List.map linkCh (ArmV.links a_2))] ∧
 ints m = ints l ∧
 (GoodArm a_2 ∧ List.length l ≤ (9223372036854775807 : Nat)) ∧
 ∀ (qs : List Rat),
 (∀ (i : Nat) (L : LinkV) (q : Rat),
 (ArmV.links a_2)[i]? = some L → qs[i]? = some q → LinkV.lo L ≤ q ∧ q ≤ LinkV.hi L) →
 List.length qs = List.length (ArmV.links a_2) →
 ∃ (a_5 : ArmV),
 ∃ (l : List Int),
 [Ch.v (Value.string (ArmV.name a)), Ch.r (ArmV.x a) (63 : Nat), Ch.r (ArmV.y a) (63 : Nat),
 Ch.v (Value.bool (ArmV.half a)), Ch.r (ArmV.t a) (63 : Nat),
 Ch.s (16 : Nat) (List.map linkCh (ArmV.links a))] =
 [Ch.v (Value.string (ArmV.name a_5)), Ch.r (ArmV.x a_5) (63 : Nat), Ch.r (ArmV.y a_5) (63 : Nat),
 Ch.v (Value.bool (ArmV.half a_5)), Ch.r (ArmV.t a_5) (63 : Nat),
 Ch.s (16 : Nat) (List.map linkCh (ArmV.links a_5))] ∧
 ints k = ints l ∧
 (GoodArm a_5 ∧ List.length l ≤ (9223372036854775807 : Nat)) ∧
 ∀ (qs_1 : List Rat),
 (∀ (i : Nat) (L : LinkV) (q : Rat),
 (ArmV.links a_5)[i]? = some L → qs_1[i]? = some q → LinkV.lo L ≤ q ∧ q ≤ LinkV.hi L) →
 List.length qs_1 = List.length (ArmV.links a_5) →
 ∃ (a_8 : ArmV),
 ∃ (l : List Int),
 [Ch.v (Value.string (ArmV.name a)), Ch.r (ArmV.x a) (63 : Nat), Ch.r (ArmV.y a) (63 : Nat),
 Ch.v (Value.bool (ArmV.half a)), Ch.r (ArmV.t a) (63 : Nat),
 Ch.s (16 : Nat) (List.map linkCh (ArmV.links a))] =
 [Ch.v (Value.string (ArmV.name a_8)), Ch.r (ArmV.x a_8) (63 : Nat),
 Ch.r (ArmV.y a_8) (63 : Nat), Ch.v (Value.bool (ArmV.half a_8)),
 Ch.r (ArmV.t a_8) (63 : Nat), Ch.s (16 : Nat) (List.map linkCh (ArmV.links a_8))] ∧
 ints n = ints l ∧
 (GoodArm a_8 ∧ List.length l ≤ (9223372036854775807 : Nat)) ∧
 ∀ (qs_2 : List Rat),
 (∀ (i : Nat) (L : LinkV) (q : Rat),
 (ArmV.links a_8)[i]? = some L →
 qs_2[i]? = some q → LinkV.lo L ≤ q ∧ q ≤ LinkV.hi L) →
 List.length qs_2 = List.length (ArmV.links a_8) →
 (∃ (x_1 : SsX),
 (SsI x_1 ∧ OfNat.ofNat (0 : Nat) = (0 : Nat)) ∧
 x = x ∧
 (0 : Nat) = (0 : Nat) ∧
 (3 : Nat) = (3 : Nat) ∧
 lR (63 : Nat) qs = lR (63 : Nat) (SsX.qs x_1) ∧
 (3 : Nat) = (3 : Nat) ∧
 lR (63 : Nat) qs_1 = lR (63 : Nat) (SsX.vs x_1) ∧
 (3 : Nat) = (3 : Nat) ∧
 lR (63 : Nat) qs_2 = lR (63 : Nat) (SsX.ws x_1) ∧
 Value.slice none (0 : Nat) (0 : Nat) =
 Value.slice none (0 : Nat) (0 : Nat) ∧
 (0 : Nat) = (0 : Nat) ∧
 SsX.i x_1 = (0 : Nat) ∧
 Int.ofNat (List.length (lR (63 : Nat) qs_1)) =
 Int.ofNat
 (List.length (ArmV.links (SsX.a x_1))) ∧
 (0 : Int) = Int.ofNat (SsX.i x_1) ∧
 (34 : Nat) = (34 : Nat) ∧
 ArmV.name a = ArmV.name (SsX.a x_1) ∧
 ArmV.x a = ArmV.x (SsX.a x_1) ∧
 (63 : Nat) ≤ (63 : Nat) ∧
 ArmV.y a = ArmV.y (SsX.a x_1) ∧
 (63 : Nat) ≤ (63 : Nat) ∧
 ArmV.half a =
 ArmV.half (SsX.a x_1) ∧
 ArmV.t a = ArmV.t (SsX.a x_1) ∧
 (63 : Nat) ≤ (63 : Nat) ∧
 (16 : Nat) = (16 : Nat) ∧
 List.map linkCh
 (ArmV.links a) =
 List.map linkCh
 (ArmV.links
 (SsX.a x_1)) ∧
 List.map
 (fun (q : Rat) =>
 [Ch.r q
 (200 : Nat)])
 (List.take
 (SsX.i x_1)
 (bothV (ratV x)
 (SsX.vs x_1)
 (SsX.ws x_1))) =
 [] ∧
 True) ∧
 ∀ (x_1 : SsX),
 SsI x_1 →
 OfNat.ofNat (0 : Nat) = (0 : Nat) →
 bif
 decide
 (Int.ofNat (SsX.i x_1) <
 Int.ofNat (List.length (ArmV.links (SsX.a x_1)))) then
 ((0 : Int) ≤ Int.ofNat (SsX.i x_1) ∧
 Int.ofNat (SsX.i x_1) <
 Int.ofNat (List.length (lR (63 : Nat) (SsX.vs x_1)))) ∧
 ∃ (q : Rat),
 ∃ (n : Nat),
 ldE (lR (63 : Nat) (SsX.vs x_1))
 (Int.toNat (Int.ofNat (SsX.i x_1))) (0 : Nat) (3 : Nat) =
 some [Ch.r q n] ∧
 ((0 : Int) ≤ Int.ofNat (SsX.i x_1) ∧
 Int.ofNat (SsX.i x_1) <
 Int.ofNat (List.length (lR (63 : Nat) (SsX.ws x_1)))) ∧
 ∃ (q_1 : Rat),
 ∃ (n_1 : Nat),
 ldE (lR (63 : Nat) (SsX.ws x_1))
 (Int.toNat (Int.ofNat (SsX.i x_1))) (0 : Nat)
 (3 : Nat) =
 some [Ch.r q_1 n_1] ∧
 ((-9223372036854775808 : Int) ≤ x ∧
 x < (9223372036854775808 : Int)) ∧
 (63 : Nat) + n ≤ (4294967296 : Nat) ∧
 (63 : Nat) + n + n_1 + (1 : Nat) ≤
 (4294967296 : Nat) ∧
 ((SsX.i x_1 + (1 : Nat)) * (40 : Nat) ≤
 (140737488355328 : Nat) ∧
 SsX.i x_1 + (1 : Nat) ≤
 (9223372036854775807 : Nat)) ∧
 ∃ (x' : SsX),
 (SsI x' ∧
 OfNat.ofNat (0 : Nat) = (0 : Nat) ∧
 List.length (ArmV.links (SsX.a x')) -
 SsX.i x' <
 List.length
 (ArmV.links (SsX.a x_1)) -
 SsX.i x_1) ∧
 x = x ∧
 (0 : Nat) = (0 : Nat) ∧
 (3 : Nat) = (3 : Nat) ∧
 lR (63 : Nat) (SsX.qs x_1) =
 lR (63 : Nat) (SsX.qs x') ∧
 (3 : Nat) = (3 : Nat) ∧
 lR (63 : Nat) (SsX.vs x_1) =
 lR (63 : Nat) (SsX.vs x') ∧
 (3 : Nat) = (3 : Nat) ∧
 lR (63 : Nat) (SsX.ws x_1) =
 lR (63 : Nat)
 (SsX.ws x') ∧
 (0 : Nat) = (0 : Nat) ∧
 SsX.i x_1 + (1 : Nat) =
 SsX.i x' ∧
 Int.ofNat
 (List.length
 (ArmV.links
 (SsX.a
 x_1))) =
 Int.ofNat
 (List.length
 (ArmV.links
 (SsX.a
 x'))) ∧
 IntKind.wrap
 IntKind.i64
 (Int.ofNat
 (SsX.i
 x_1) +
 (1 : Int)) =
 Int.ofNat
 (SsX.i x') ∧
 (34 : Nat) =
 (34 : Nat) ∧
 ArmV.name
 (SsX.a
 x_1) =
 ArmV.name
 (SsX.a
 x') ∧
 ArmV.x
 (SsX.a
 x_1) =
 ArmV.x
 (SsX.a
 x') ∧
 (63 : Nat) ≤
 (63 :
 Nat) ∧
 ArmV.y
 (SsX.a
 x_1) =
 ArmV.y
 (SsX.a
 x') ∧
 (63 :
 Nat) ≤
 (63 :
 Nat) ∧
 ArmV.half
 (SsX.a
 x_1) =
 ArmV.half
 (SsX.a
 x') ∧
 ArmV.t
 (SsX.a
 x_1) =
 ArmV.t
 (SsX.a
 x') ∧
 (63 :
 Nat) ≤
 (63 :
 Nat) ∧
 (16 :
 Nat) =
 (16 :
 Nat) ∧
 List.map
 linkCh
 (ArmV.links
 (SsX.a
 x_1)) =
 List.map
 linkCh
 (ArmV.links
 (SsX.a
 x')) ∧
 (25 :
 Nat) =
 (25 :
 Nat) ∧
 (3 :
 Nat) =
 (3 :
 Nat) ∧
 (List.take
 (SsX.i
 x_1)
 (List.map
 (fun
 (q :
 Rat) =>
 [Ch.r
 q
 (200 :
 Nat)])
 (List.take
 (SsX.i
 x_1)
 (bothV
 (ratV
 x)
 (SsX.vs
 x_1)
 (SsX.ws
 x_1)))) ++
 [[Ch.r
 (ratV
 x *
 q +
 q_1)
 ((63 :
 Nat) +
 n +
 n_1 +
 (1 :
 Nat))]] =
 List.map
 (fun
 (q :
 Rat) =>
 [Ch.r
 q
 (200 :
 Nat)])
 (List.take
 (SsX.i
 x')
 (bothV
 (ratV
 x)
 (SsX.vs
 x')
 (SsX.ws
 x'))) ∨
 RowLE
 (List.take
 (SsX.i
 x_1)
 (List.map
 (fun
 (q :
 Rat) =>
 [Ch.r
 q
 (200 :
 Nat)])
 (List.take
 (SsX.i
 x_1)
 (bothV
 (ratV
 x)
 (SsX.vs
 x_1)
 (SsX.ws
 x_1)))) ++
 [[Ch.r
 (ratV
 x *
 q +
 q_1)
 ((63 :
 Nat) +
 n +
 n_1 +
 (1 :
 Nat))]])
 (List.map
 (fun
 (q :
 Rat) =>
 [Ch.r
 q
 (200 :
 Nat)])
 (List.take
 (SsX.i
 x')
 (bothV
 (ratV
 x)
 (SsX.vs
 x')
 (SsX.ws
 x'))))) ∧
 True
 else
 ∃ (a : ArmV),
 ∃ (b : Nat),
 ∃ (qs : List Rat),
 ∃ (d : Nat),
 ∃ (vs : List Rat),
 [Ch.v (Value.string (ArmV.name (SsX.a x_1))),
 Ch.r (ArmV.x (SsX.a x_1)) (63 : Nat),
 Ch.r (ArmV.y (SsX.a x_1)) (63 : Nat),
 Ch.v (Value.bool (ArmV.half (SsX.a x_1))),
 Ch.r (ArmV.t (SsX.a x_1)) (63 : Nat),
 Ch.s (16 : Nat)
 (List.map linkCh (ArmV.links (SsX.a x_1)))] =
 [Ch.v (Value.string (ArmV.name a)),
 Ch.r (ArmV.x a) (63 : Nat),
 Ch.r (ArmV.y a) (63 : Nat),
 Ch.v (Value.bool (ArmV.half a)),
 Ch.r (ArmV.t a) (63 : Nat),
 Ch.s (16 : Nat) (List.map linkCh (ArmV.links a))] ∧
 lR (63 : Nat) (SsX.qs x_1) = lR b qs ∧
 lR (63 : Nat) (SsX.vs x_1) = lR d vs ∧
 (GoodArm a ∧
 (b ≤ (400 : Nat) ∧
 List.length qs = List.length (ArmV.links a)) ∧
 d ≤ (1000 : Nat) ∧
 List.length vs = List.length (ArmV.links a)) ∧
 ∀ (fs : List FrV) (f : FrV),
 fs ++ [f] = framesV (baseV a) (ArmV.links a) qs →
 List.length fs = List.length (ArmV.links a) →
 ∀ (n m : Nat),
 n ≤ (398415064 : Nat) →
 m ≤ (398415064 : Nat) →
 ∃ (a : ArmV),
 ∃ (b : Nat),
 ∃ (qs_3 : List Rat),
 ∃ (d : Nat),
 ∃ (vs_1 : List Rat),
 [Ch.v
 (Value.string
 (ArmV.name
 (SsX.a x_1))),
 Ch.r
 (ArmV.x (SsX.a x_1))
 (63 : Nat),
 Ch.r
 (ArmV.y (SsX.a x_1))
 (63 : Nat),
 Ch.v
 (Value.bool
 (ArmV.half
 (SsX.a x_1))),
 Ch.r
 (ArmV.t (SsX.a x_1))
 (63 : Nat),
 Ch.s (16 : Nat)
 (List.map linkCh
 (ArmV.links
 (SsX.a x_1)))] =
 [Ch.v
 (Value.string
 (ArmV.name a)),
 Ch.r (ArmV.x a)
 (63 : Nat),
 Ch.r (ArmV.y a)
 (63 : Nat),
 Ch.v
 (Value.bool
 (ArmV.half a)),
 Ch.r (ArmV.t a)
 (63 : Nat),
 Ch.s (16 : Nat)
 (List.map linkCh
 (ArmV.links a))] ∧
 lR (63 : Nat) (SsX.qs x_1) =
 lR b qs_3 ∧
 lR (63 : Nat)
 (SsX.ws x_1) =
 lR d vs_1 ∧
 (GoodArm a ∧
 (b ≤ (400 : Nat) ∧
 List.length
 qs_3 =
 List.length
 (ArmV.links
 a)) ∧
 d ≤ (1000 : Nat) ∧
 List.length
 vs_1 =
 List.length
 (ArmV.links
 a)) ∧
 ∀ (fs_1 : List FrV)
 (f_1 : FrV),
 fs_1 ++ [f_1] =
 framesV
 (baseV a)
 (ArmV.links a)
 qs_3 →
 List.length fs_1 =
 List.length
 (ArmV.links
 a) →
 ∀
 (n_1 m_1 :
 Nat),
 n_1 ≤
 (398415064 :
 Nat) →
 m_1 ≤
 (398415064 :
 Nat) →
 ∃ (a :
 ArmV),
 ∃ (b :
 Nat),
 ∃
 (qs_4
 :
 List
 Rat),
 ∃ (d
 :
 Nat),
 ∃
 (vs_2
 :
 List
 Rat),
 [Ch.v
 (Value.string
 (ArmV.name
 (SsX.a
 x_1))),
 Ch.r
 (ArmV.x
 (SsX.a
 x_1))
 (63 :
 Nat),
 Ch.r
 (ArmV.y
 (SsX.a
 x_1))
 (63 :
 Nat),
 Ch.v
 (Value.bool
 (ArmV.half
 (SsX.a
 x_1))),
 Ch.r
 (ArmV.t
 (SsX.a
 x_1))
 (63 :
 Nat),
 Ch.s
 (16 :
 Nat)
 (List.map
 linkCh
 (ArmV.links
 (SsX.a
 x_1)))] =
 [Ch.v
 (Value.string
 (ArmV.name
 a)),
 Ch.r
 (ArmV.x
 a)
 (63 :
 Nat),
 Ch.r
 (ArmV.y
 a)
 (63 :
 Nat),
 Ch.v
 (Value.bool
 (ArmV.half
 a)),
 Ch.r
 (ArmV.t
 a)
 (63 :
 Nat),
 Ch.s
 (16 :
 Nat)
 (List.map
 linkCh
 (ArmV.links
 a))] ∧
 lR
 (63 :
 Nat)
 (SsX.qs
 x_1) =
 lR
 b
 qs_4 ∧
 List.take
 (SsX.i
 x_1)
 (List.drop
 (0 :
 Nat)
 (List.map
 (fun
 (q :
 Rat) =>
 [Ch.r
 q
 (200 :
 Nat)])
 (List.take
 (SsX.i
 x_1)
 (bothV
 (ratV
 x)
 (SsX.vs
 x_1)
 (SsX.ws
 x_1))))) =
 lR
 d
 vs_2 ∧
 (GoodArm
 a ∧
 (b ≤
 (400 :
 Nat) ∧
 List.length
 qs_4 =
 List.length
 (ArmV.links
 a)) ∧
 d ≤
 (1000 :
 Nat) ∧
 List.length
 vs_2 =
 List.length
 (ArmV.links
 a)) ∧
 ∀
 (fs_2 :
 List
 FrV)
 (f_2 :
 FrV),
 fs_2 ++
 [f_2] =
 framesV
 (baseV
 a)
 (ArmV.links
 a)
 qs_4 →
 List.length
 fs_2 =
 List.length
 (ArmV.links
 a) →
 ∀
 (n_2
 m_2 :
 Nat),
 n_2 ≤
 (398415064 :
 Nat) →
 m_2 ≤
 (398415064 :
 Nat) →
 ((-9223372036854775808 :
 Int) ≤
 x ∧
 x <
 (9223372036854775808 :
 Int)) ∧
 (n +
 (63 :
 Nat) ≤
 (4294967296 :
 Nat) ∧
 m +
 (63 :
 Nat) ≤
 (4294967296 :
 Nat)) ∧
 (n +
 (63 :
 Nat) +
 n_1 ≤
 (4294967290 :
 Nat) ∧
 m +
 (63 :
 Nat) +
 m_1 ≤
 (4294967290 :
 Nat)) ∧
 (n_2 +
 (n +
 (63 :
 Nat) +
 n_1 +
 (1 :
 Nat)) ≤
 (4294967290 :
 Nat) ∧
 m_2 +
 (m +
 (63 :
 Nat) +
 m_1 +
 (1 :
 Nat)) ≤
 (4294967290 :
 Nat)) ∧
 K
 (AV.x
 false
 [Ch.v
 (Value.bool
 (decide
 (Prod.fst
 (velV
 (colV
 f_2
 fs_2)
 qs_4
 vs_2
 (0 :
 Rat)
 (0 :
 Rat)) =
 Prod.fst
 (velV
 (colV
 f
 fs)
 qs
 vs
 (0 :
 Rat)
 (0 :
 Rat)) *
 ratV
 x +
 Prod.fst
 (velV
 (colV
 f_1
 fs_1)
 qs_3
 vs_1
 (0 :
 Rat)
 (0 :
 Rat))) &&
 decide
 (Prod.snd
 (velV
 (colV
 f_2
 fs_2)
 qs_4
 vs_2
 (0 :
 Rat)
 (0 :
 Rat)) =
 Prod.snd
 (velV
 (colV
 f
 fs)
 qs
 vs
 (0 :
 Rat)
 (0 :
 Rat)) *
 ratV
 x +
 Prod.snd
 (velV
 (colV
 f_1
 fs_1)
 qs_3
 vs_1
 (0 :
 Rat)
 (0 :
 Rat)))))])) := by kernel_rfl
structure FwX where
  a : ArmV
  qs : List Rat
  vs : List Rat
  p : Rat × Rat
  i : Nat
structure FwI (x : FwX) : Prop where
  good : GoodArm x.a
  ql : x.qs.length = x.a.links.length
  vl : x.vs.length = x.a.links.length
  le : x.i ≤ x.a.links.length
def inv_fwork : LI := fun _ => .inv ⟨FwX, fun x => ⟨[(9, .x false [.p 9 0]), (10, sR 63 x.qs), (11, sR 63 x.vs), (12, .x false [.p 12 0]), (13, .x false [.w 500 0 x.i]), (36, iA .i64 x.a.links.length), (37, iA .i64 x.i)],
  [(9, .box 34 (armCh x.a)), (12, .box 27 (vecCh x.p)), (500, rowR 400 ((List.zipWith rateV x.qs x.vs).take x.i))]⟩, FwI, fun x => x.a.links.length - x.i, fun _ => 0⟩
def ot_fwork : OT := fun id => bif id.beq 4 then ([0, 1, 3, 4, 6, 8, 2, 5, 7, 9, 10, 11], [[], [], [0, 1], [], [], [3, 4, 2, 0, 1], [], [6, 5, 3, 4, 2, 0, 1], [], [2, 0, 1, 7, 6, 5, 3, 4, 8], [5, 3, 4, 2, 0, 1, 9, 7, 6, 8], [8, 7, 6, 5, 3, 4, 2, 0, 1, 10, 9]]) else bif id.beq 9 then ([0, 1, 2, 3, 4, 5, 6, 7, 8, 9, 10, 11, 12], [[], [], [], [1, 2], [3, 1, 2], [], [], [5, 6], [7, 5, 6], [4, 3, 1, 2, 8, 7, 5, 6], [9, 4, 3, 1, 2, 8, 7, 5, 6], [0, 10, 9, 4, 3, 1, 2, 8, 7, 5, 6], [11, 0, 10, 9, 4, 3, 1, 2, 8, 7, 5, 6]]) else bif id.beq 13 then ([0, 1, 2, 3, 4, 5, 6, 7, 8, 9, 10, 11, 12, 13, 14], [[], [0], [1, 0], [2, 1, 0], [3, 2, 1, 0], [2, 1, 0, 4, 3], [5, 2, 1, 0, 4, 3], [6, 5, 2, 1, 0, 4, 3], [6, 5, 2, 1, 0, 4, 3], [6, 5, 2, 1, 0, 4, 3], [8, 6, 5, 2, 1, 0, 4, 3, 9], [7, 6, 5, 2, 1, 0, 4, 3, 10, 8, 9], [11, 7, 6, 5, 2, 1, 0, 4, 3, 10, 8, 9], [6, 5, 2, 1, 0, 4, 3, 12, 11, 7, 10, 8, 9], [13, 6, 5, 2, 1, 0, 4, 3, 12, 11, 7, 10, 8, 9]]) else ([], [])
def goal_fwork (l m k n : List Int) (K : AV → Prop) : Prop := goalL T120 ot_fwork inv_fwork Tryd.f7 [.x false [.s 1 (ints l)], .x false [.s 1 (ints m)], .x false [.s 1 (ints k)], .x false [.s 1 (ints n)]] K
theorem goal_fwork_vc (l : List Int) (m : List Int) (k : List Int) (n : List Int) (K : AV → Prop) : goal_fwork l m k n K = (
 True ∧
 True ∧
 ∃ (l_1 : List Int),
 ints l = ints l_1 ∧
 List.length l_1 ≤ (9223372036854775807 : Nat) ∧
 ∀ (a : ArmV),
 Made a ∧ (1 : Nat) ≤ List.length (ArmV.links a) →
 ∃ (a_2 : ArmV),
 ∃ (l : List Int),
 [Ch.v (Value.string (ArmV.name a)), Ch.r (ArmV.x a) (63 : Nat), Ch.r (ArmV.y a) (63 : Nat),
 Ch.v (Value.bool (ArmV.half a)), Ch.r (ArmV.t a) (63 : Nat), Ch.s (16 : Nat) (List.map linkCh (ArmV.links a))] =
 [Ch.v (Value.string (ArmV.name a_2)), Ch.r (ArmV.x a_2) (63 : Nat), Ch.r (ArmV.y a_2) (63 : Nat),
 Ch.v (Value.bool (ArmV.half a_2)), Ch.r (ArmV.t a_2) (63 : Nat),
 Ch.s (16 : Nat) (List.map linkCh (ArmV.links a_2))] ∧
 ints m = ints l ∧
 (GoodArm a_2 ∧ List.length l ≤ (9223372036854775807 : Nat)) ∧
 ∀ (qs : List Rat),
 (∀ (i : Nat) (L : LinkV) (q : Rat),
 (ArmV.links a_2)[i]? = some L → qs[i]? = some q → LinkV.lo L ≤ q ∧ q ≤ LinkV.hi L) →
 List.length qs = List.length (ArmV.links a_2) →
 ∃ (a_5 : ArmV),
 ∃ (l : List Int),
 [Ch.v (Value.string (ArmV.name a)), Ch.r (ArmV.x a) (63 : Nat), Ch.r (ArmV.y a) (63 : Nat),
 Ch.v (Value.bool (ArmV.half a)), Ch.r (ArmV.t a) (63 : Nat),
 Ch.s (16 : Nat) (List.map linkCh (ArmV.links a))] =
 [Ch.v (Value.string (ArmV.name a_5)), Ch.r (ArmV.x a_5) (63 : Nat), Ch.r (ArmV.y a_5) (63 : Nat),
 Ch.v (Value.bool (ArmV.half a_5)), Ch.r (ArmV.t a_5) (63 : Nat),
 Ch.s (16 : Nat) (List.map linkCh (ArmV.links a_5))] ∧
 ints k = ints l ∧
 (GoodArm a_5 ∧ List.length l ≤ (9223372036854775807 : Nat)) ∧
 ∀ (qs_1 : List Rat),
 (∀ (i : Nat) (L : LinkV) (q : Rat),
 (ArmV.links a_5)[i]? = some L → qs_1[i]? = some q → LinkV.lo L ≤ q ∧ q ≤ LinkV.hi L) →
 List.length qs_1 = List.length (ArmV.links a_5) →
 ∃ (l : List Int),
 ints n = ints l ∧
 List.length l ≤ (9223372036854775807 : Nat) ∧
 ∀ (p : Rat × Rat),
 (∃ (x : FwX),
 (FwI x ∧ OfNat.ofNat (0 : Nat) = (0 : Nat)) ∧
 (0 : Nat) = (0 : Nat) ∧
 (3 : Nat) = (3 : Nat) ∧
 lR (63 : Nat) qs = lR (63 : Nat) (FwX.qs x) ∧
 (3 : Nat) = (3 : Nat) ∧
 lR (63 : Nat) qs_1 = lR (63 : Nat) (FwX.vs x) ∧
 (0 : Nat) = (0 : Nat) ∧
 Value.slice none (0 : Nat) (0 : Nat) =
 Value.slice none (0 : Nat) (0 : Nat) ∧
 (0 : Nat) = (0 : Nat) ∧
 FwX.i x = (0 : Nat) ∧
 Int.ofNat (List.length (lR (63 : Nat) qs)) =
 Int.ofNat (List.length (ArmV.links (FwX.a x))) ∧
 (0 : Int) = Int.ofNat (FwX.i x) ∧
 (34 : Nat) = (34 : Nat) ∧
 ArmV.name a = ArmV.name (FwX.a x) ∧
 ArmV.x a = ArmV.x (FwX.a x) ∧
 (63 : Nat) ≤ (63 : Nat) ∧
 ArmV.y a = ArmV.y (FwX.a x) ∧
 (63 : Nat) ≤ (63 : Nat) ∧
 ArmV.half a = ArmV.half (FwX.a x) ∧
 ArmV.t a = ArmV.t (FwX.a x) ∧
 (63 : Nat) ≤ (63 : Nat) ∧
 (16 : Nat) = (16 : Nat) ∧
 List.map linkCh (ArmV.links a) =
 List.map linkCh
 (ArmV.links (FwX.a x)) ∧
 (27 : Nat) = (27 : Nat) ∧
 Prod.fst p = Prod.fst (FwX.p x) ∧
 (63 : Nat) ≤ (63 : Nat) ∧
 Prod.snd p =
 Prod.snd (FwX.p x) ∧
 (63 : Nat) ≤ (63 : Nat) ∧
 List.map
 (fun (q : Rat) =>
 [Ch.r q
 (400 : Nat)])
 (List.take (FwX.i x)
 (List.zipWith
 rateV (FwX.qs x)
 (FwX.vs x))) =
 [] ∧
 True) ∧
 ∀ (x : FwX),
 FwI x →
 OfNat.ofNat (0 : Nat) = (0 : Nat) →
 bif
 decide
 (Int.ofNat (FwX.i x) <
 Int.ofNat (List.length (ArmV.links (FwX.a x)))) then
 ((0 : Int) ≤ Int.ofNat (FwX.i x) ∧
 Int.ofNat (FwX.i x) <
 Int.ofNat (List.length (lR (63 : Nat) (FwX.qs x)))) ∧
 ∃ (q : Rat),
 ∃ (n : Nat),
 ldE (lR (63 : Nat) (FwX.qs x)) (Int.toNat (Int.ofNat (FwX.i x)))
 (0 : Nat) (3 : Nat) =
 some [Ch.r q n] ∧
 ((0 : Int) ≤ Int.ofNat (FwX.i x) ∧
 Int.ofNat (FwX.i x) <
 Int.ofNat (List.length (lR (63 : Nat) (FwX.vs x)))) ∧
 ∃ (q_1 : Rat),
 ∃ (n_1 : Nat),
 ldE (lR (63 : Nat) (FwX.vs x))
 (Int.toNat (Int.ofNat (FwX.i x))) (0 : Nat) (3 : Nat) =
 some [Ch.r q_1 n_1] ∧
 (2 : Nat) * n + n_1 ≤ (4294967000 : Nat) ∧
 ∀ (n_2 : Nat),
 n_2 ≤ (2 : Nat) * n + n_1 + (200 : Nat) →
 ((FwX.i x + (1 : Nat)) * (40 : Nat) ≤
 (140737488355328 : Nat) ∧
 FwX.i x + (1 : Nat) ≤
 (9223372036854775807 : Nat)) ∧
 ∃ (x' : FwX),
 (FwI x' ∧
 OfNat.ofNat (0 : Nat) = (0 : Nat) ∧
 List.length (ArmV.links (FwX.a x')) -
 FwX.i x' <
 List.length (ArmV.links (FwX.a x)) -
 FwX.i x) ∧
 (0 : Nat) = (0 : Nat) ∧
 (3 : Nat) = (3 : Nat) ∧
 lR (63 : Nat) (FwX.qs x) =
 lR (63 : Nat) (FwX.qs x') ∧
 (3 : Nat) = (3 : Nat) ∧
 lR (63 : Nat) (FwX.vs x) =
 lR (63 : Nat) (FwX.vs x') ∧
 (0 : Nat) = (0 : Nat) ∧
 (0 : Nat) = (0 : Nat) ∧
 FwX.i x + (1 : Nat) = FwX.i x' ∧
 Int.ofNat
 (List.length
 (ArmV.links
 (FwX.a x))) =
 Int.ofNat
 (List.length
 (ArmV.links
 (FwX.a x'))) ∧
 IntKind.wrap IntKind.i64
 (Int.ofNat (FwX.i x) +
 (1 : Int)) =
 Int.ofNat (FwX.i x') ∧
 (34 : Nat) = (34 : Nat) ∧
 ArmV.name (FwX.a x) =
 ArmV.name (FwX.a x') ∧
 ArmV.x (FwX.a x) =
 ArmV.x (FwX.a x') ∧
 (63 : Nat) ≤
 (63 : Nat) ∧
 ArmV.y (FwX.a x) =
 ArmV.y
 (FwX.a x') ∧
 (63 : Nat) ≤
 (63 : Nat) ∧
 ArmV.half
 (FwX.a
 x) =
 ArmV.half
 (FwX.a
 x') ∧
 ArmV.t
 (FwX.a
 x) =
 ArmV.t
 (FwX.a
 x') ∧
 (63 : Nat) ≤
 (63 :
 Nat) ∧
 (16 :
 Nat) =
 (16 :
 Nat) ∧
 List.map
 linkCh
 (ArmV.links
 (FwX.a
 x)) =
 List.map
 linkCh
 (ArmV.links
 (FwX.a
 x')) ∧
 (27 :
 Nat) =
 (27 :
 Nat) ∧
 Prod.fst
 (FwX.p
 x) =
 Prod.fst
 (FwX.p
 x') ∧
 (63 :
 Nat) ≤
 (63 :
 Nat) ∧
 Prod.snd
 (FwX.p
 x) =
 Prod.snd
 (FwX.p
 x') ∧
 (63 :
 Nat) ≤
 (63 :
 Nat) ∧
 (25 :
 Nat) =
 (25 :
 Nat) ∧
 (3 :
 Nat) =
 (3 :
 Nat) ∧
 (List.take
 (FwX.i
 x)
 (List.map
 (fun
 (q :
 Rat) =>
 [Ch.r
 q
 (400 :
 Nat)])
 (List.take
 (FwX.i
 x)
 (List.zipWith
 rateV
 (FwX.qs
 x)
 (FwX.vs
 x)))) ++
 [[Ch.r
 (rateV
 q
 q_1)
 n_2]] =
 List.map
 (fun
 (q :
 Rat) =>
 [Ch.r
 q
 (400 :
 Nat)])
 (List.take
 (FwX.i
 x')
 (List.zipWith
 rateV
 (FwX.qs
 x')
 (FwX.vs
 x'))) ∨
 RowLE
 (List.take
 (FwX.i
 x)
 (List.map
 (fun
 (q :
 Rat) =>
 [Ch.r
 q
 (400 :
 Nat)])
 (List.take
 (FwX.i
 x)
 (List.zipWith
 rateV
 (FwX.qs
 x)
 (FwX.vs
 x)))) ++
 [[Ch.r
 (rateV
 q
 q_1)
 n_2]])
 (List.map
 (fun
 (q :
 Rat) =>
 [Ch.r
 q
 (400 :
 Nat)])
 (List.take
 (FwX.i
 x')
 (List.zipWith
 rateV
 (FwX.qs
 x')
 (FwX.vs
 x'))))) ∧
 True
 else
 ∃ (a : ArmV),
 ∃ (b : Nat),
 ∃ (qs : List Rat),
 ∃ (r : Nat),
 ∃ (rs : List Rat),
 [Ch.v (Value.string (ArmV.name (FwX.a x))),
 Ch.r (ArmV.x (FwX.a x)) (63 : Nat),
 Ch.r (ArmV.y (FwX.a x)) (63 : Nat),
 Ch.v (Value.bool (ArmV.half (FwX.a x))),
 Ch.r (ArmV.t (FwX.a x)) (63 : Nat),
 Ch.s (16 : Nat) (List.map linkCh (ArmV.links (FwX.a x)))] =
 [Ch.v (Value.string (ArmV.name a)),
 Ch.r (ArmV.x a) (63 : Nat), Ch.r (ArmV.y a) (63 : Nat),
 Ch.v (Value.bool (ArmV.half a)), Ch.r (ArmV.t a) (63 : Nat),
 Ch.s (16 : Nat) (List.map linkCh (ArmV.links a))] ∧
 lR (63 : Nat) (FwX.qs x) = lR b qs ∧
 List.take (FwX.i x)
 (List.drop (0 : Nat)
 (List.map (fun (q : Rat) => [Ch.r q (400 : Nat)])
 (List.take (FwX.i x)
 (List.zipWith rateV (FwX.qs x) (FwX.vs x))))) =
 lR r rs ∧
 (GoodArm a ∧
 (b ≤ (400 : Nat) ∧
 List.length qs = List.length (ArmV.links a)) ∧
 (r ≤ (10000 : Nat) ∧
 List.length rs = List.length (ArmV.links a)) ∧
 (63 : Nat) ≤ (1000 : Nat) ∧
 (63 : Nat) ≤ (1000 : Nat)) ∧
 ∀ (fs : List FrV) (f : FrV),
 fs ++ [f] = framesV (baseV a) (ArmV.links a) qs →
 List.length fs = List.length (ArmV.links a) →
 ∀ (n : Nat),
 n ≤ (800000000 : Nat) →
 ∃ (a : ArmV),
 ∃ (b : Nat),
 ∃ (qs : List Rat),
 ∃ (d : Nat),
 ∃ (vs : List Rat),
 [Ch.v
 (Value.string
 (ArmV.name (FwX.a x))),
 Ch.r (ArmV.x (FwX.a x))
 (63 : Nat),
 Ch.r (ArmV.y (FwX.a x))
 (63 : Nat),
 Ch.v
 (Value.bool
 (ArmV.half (FwX.a x))),
 Ch.r (ArmV.t (FwX.a x))
 (63 : Nat),
 Ch.s (16 : Nat)
 (List.map linkCh
 (ArmV.links (FwX.a x)))] =
 [Ch.v
 (Value.string (ArmV.name a)),
 Ch.r (ArmV.x a) (63 : Nat),
 Ch.r (ArmV.y a) (63 : Nat),
 Ch.v (Value.bool (ArmV.half a)),
 Ch.r (ArmV.t a) (63 : Nat),
 Ch.s (16 : Nat)
 (List.map linkCh
 (ArmV.links a))] ∧
 lR (63 : Nat) (FwX.qs x) = lR b qs ∧
 lR (63 : Nat) (FwX.vs x) =
 lR d vs ∧
 (GoodArm a ∧
 (b ≤ (400 : Nat) ∧
 List.length qs =
 List.length
 (ArmV.links a)) ∧
 d ≤ (1000 : Nat) ∧
 List.length vs =
 List.length
 (ArmV.links a)) ∧
 ∀ (fs_1 : List FrV)
 (f_1 : FrV),
 fs_1 ++ [f_1] =
 framesV (baseV a)
 (ArmV.links a) qs →
 List.length fs_1 =
 List.length
 (ArmV.links a) →
 ∀ (n_1 m : Nat),
 n_1 ≤
 (398415064 :
 Nat) →
 m ≤
 (398415064 :
 Nat) →
 (126 : Nat) +
 n_1 +
 m ≤
 (4294967290 :
 Nat) ∧
 n +
 ((63 :
 Nat) +
 n_1 +
 ((63 :
 Nat) +
 m) +
 (1 :
 Nat)) ≤
 (4294967296 :
 Nat) ∧
 K
 (AV.x false
 [Ch.v
 (Value.bool
 (cmpR
 (powV
 (torqV
 f
 (Prod.fst
 (FwX.p
 x))
 (Prod.snd
 (FwX.p
 x))
 fs)
 rs
 (OfNat.ofNat
 (0 :
 Nat)))
 (Prod.fst
 (FwX.p
 x) *
 Prod.fst
 (velV
 (colV
 f_1
 fs_1)
 qs
 vs
 (OfNat.ofNat
 (0 :
 Nat))
 (OfNat.ofNat
 (0 :
 Nat))) +
 Prod.snd
 (FwX.p
 x) *
 Prod.snd
 (velV
 (colV
 f_1
 fs_1)
 qs
 vs
 (OfNat.ofNat
 (0 :
 Nat))
 (OfNat.ofNat
 (0 :
 Nat)))) ==
 (0 :
 Int)))])) := by kernel_rfl
theorem g_fsum (l m k n : List Int) (x : Int) (hl : l.length ≤ 9223372036854775807) (hm : m.length ≤ 9223372036854775807) (hk : k.length ≤ 9223372036854775807) (hn : n.length ≤ 9223372036854775807) (K : AV → Prop) (hK : K (.x false [.v (.bool true)])) : Holds (goal_fsum l m k n x K) := by
  refine ⟨?_⟩
  rw [goal_fsum_vc]
  simp only [Int.ofNat_eq_natCast, true_and, and_true, Nat.zero_add, Nat.le_refl, true_implies, true_or, or_true]
  refine ⟨l, rfl, hl, fun a ha => ⟨a, m, rfl, rfl, ⟨MadeA.good ha, hm⟩, fun qs hfit hq => ⟨k, rfl, hk, fun p => ⟨n, rfl, hn, fun q => ⟨a, 63, qs, rfl, rfl, ⟨MadeA.good ha, ⟨by omega, hq⟩, by omega, by omega⟩, fun fs f hf hfl => ⟨a, 63, qs, rfl, rfl, ⟨MadeA.good ha, ⟨by omega, hq⟩, by omega, by omega⟩, fun fs1 f1 hf1 hfl1 => ⟨by omega, a, 63, qs, rfl, rfl, ⟨MadeA.good ha, ⟨by omega, hq⟩, by omega, by omega⟩, fun fs2 f2 hf2 hfl2 => ⟨a, 63, qs, rfl, rfl, ⟨MadeA.good ha, by omega, hq⟩, fun fs3 f3 hf3 hfl3 => ?_⟩⟩⟩⟩⟩⟩⟩⟩
  obtain ⟨e1, e2⟩ := snoc_inj (hf.trans hf1.symm)
  subst e1 e2
  obtain ⟨e1, e2⟩ := snoc_inj (hf.trans hf2.symm)
  subst e1 e2
  obtain ⟨e1, e2⟩ := snoc_inj (hf.trans hf3.symm)
  subst e1 e2
  have hg := MadeA.good ha
  have hnn := hg.n
  have tl : ∀ (f : FrV) u v (fs : List FrV), (torqV f u v fs).length = fs.length := fun _ _ _ _ => by simp [torqV]
  simp only [lR_len, tl, List.length_append, List.length_map, List.length_cons, List.length_nil, Int.toNat_natCast]
  rw [w64 (n := (qs.length : Int) + 1) (by omega)]
  refine bif_mk (fun h => by simp [hfl, hq] at h) (fun _ => bif_mk (fun h => by simp [hfl, hq] at h) (fun _ => bif_mk (fun h => by simp [hfl, hq] at h) (fun _ => bif_mk (fun h => by simp [hfl, hq] at h) (fun _ => ⟨⟨⟨a, qs, fs, f, p, q, 0⟩, ⟨hg, hq, hf, hfl, by simp⟩, rfl, rfl, rfl, rfl, rfl, by simp only; omega, rfl, rfl, rfl, rfl, rfl, rfl, rfl⟩, fun y hy => bif_mk (fun hp => ?_) (fun hp => ?_)⟩))))
  · have hp : y.i < y.a.links.length := by have := of_decide_eq_true hp; omega
    have hyl := hy.len
    have hyn := hy.good.n
    obtain ⟨g, hgx⟩ : ∃ g, y.fs[y.i]? = some g := ⟨_, List.getElem?_eq_getElem (by omega)⟩
    have ht : ∀ u v, (torqV y.f u v y.fs)[y.i]? = some ((y.f.x - g.x) * v - (y.f.y - g.y) * u) := fun u v => by simp [torqV, hgx]
    refine ⟨by omega, _, _, lR_ld (ht _ _), by omega, _, _, lR_ld (ht _ _), by omega, _, _, lR_ld (ht _ _), by omega, by omega, bif_mk (fun h => ?_) (fun _ => ⟨⟨y.a, y.qs, y.fs, y.f, y.p, y.q, y.i + 1⟩, ⟨⟨hy.good, hy.ql, hy.eq, hy.len, hp⟩, by simp only; omega⟩, rfl, rfl, rfl, rfl, rfl, rfl, by rw [w64 (by omega)]; simp, rfl, rfl, rfl, rfl, rfl, rfl⟩)⟩
    exfalso
    rw [cmp_self (by grind)] at h
    simp at h
  · have hp : y.i = y.a.links.length := by have := of_decide_eq_false hp; have := hy.le; omega
    have hyn := hy.good.n
    have hyl := hy.len
    have hyq := hy.ql
    have hb := bnd_le hyn.2
    have r0 := Int.emod_nonneg x (show (y.qs.length : Int) ≠ 0 by omega)
    have r1 := Int.emod_lt_of_pos x (show (0 : Int) < y.qs.length by omega)
    obtain ⟨r, hr⟩ : ∃ r : Nat, x % (y.qs.length : Int) = r := ⟨(x % (y.qs.length : Int)).toNat, by omega⟩
    rw [hr] at r0 r1 ⊢
    simp only [Int.toNat_natCast]
    have hg1 : (y.fs ++ [y.f])[y.qs.length]? = some y.f := by rw [hyq, ← hyl]; simp
    obtain ⟨g, hgx⟩ : ∃ g, y.fs[r]? = some g := ⟨_, List.getElem?_eq_getElem (by omega)⟩
    have hg2 : (y.fs ++ [y.f])[r]? = some g := by rw [List.getElem?_append_left (by omega)]; exact hgx
    obtain ⟨n1, hn1, ld1, _⟩ := frs_at hb hg1
    obtain ⟨n2, hn2, ld2, _⟩ := frs_at hb hg2
    refine ⟨by omega, by omega, _, _, _, _, ld1, by omega, _, _, _, _, ld2, by omega, y.a, 63, y.qs, rfl, rfl, ⟨hy.good, ⟨by omega, hyq⟩, by omega, by omega⟩, fun fs f hf hfl => ?_⟩
    obtain ⟨e1, e2⟩ := snoc_inj (hy.eq.trans hf.symm)
    rw [← e1, ← e2]
    have ht : (torqV y.f (y.f.x - g.x) (y.f.y - g.y) y.fs)[r]? = some 0 := by simp [torqV, hgx]; grind
    exact bif_mk (fun _ => ⟨by omega, _, _, lR_ld ht, by omega, by simpa [sgnR] using hK⟩) (fun h => by simp [hyl, hyq] at h)
theorem spec_fsum (l m k n : List Int) (x : Int) (hl : l.length ≤ 9223372036854775807) (hm : m.length ≤ 9223372036854775807) (hk : k.length ≤ 9223372036854775807) (hn : n.length ≤ 9223372036854775807) : Eng.Spec Tryd.prog tabG debT 3 [.x false [.s 1 (ints l)], .x false [.s 1 (ints m)], .x false [.s 1 (ints k)], .x false [.s 1 (ints n)], iA .i64 x] (fun av => av = .x false [.v (.bool true)]) :=
  spec_ofL T120ok mixed Tryd.func3 (by kernel_rfl) (by kernel_rfl) (by rfl) (g_fsum l m k n x hl hm hk hn _ rfl)
theorem g_ssum (l m k n : List Int) (x : Int) (hl : l.length ≤ 9223372036854775807) (hm : m.length ≤ 9223372036854775807) (hk : k.length ≤ 9223372036854775807) (hn : n.length ≤ 9223372036854775807) (hx : -9223372036854775808 ≤ x ∧ x < 9223372036854775808) (K : AV → Prop) (hK : K (.x false [.v (.bool true)])) : Holds (goal_ssum l m k n x K) := by
  refine ⟨?_⟩
  rw [goal_ssum_vc]
  simp only [Int.ofNat_eq_natCast, true_and, and_true, Nat.zero_add, Nat.le_refl, true_implies, true_or, or_true]
  refine ⟨l, rfl, hl, fun a ha => ⟨a, m, rfl, rfl, ⟨MadeA.good ha, hm⟩, fun qs _ hq => ⟨a, k, rfl, rfl, ⟨MadeA.good ha, hk⟩, fun vs _ hv => ⟨a, n, rfl, rfl, ⟨MadeA.good ha, hn⟩, fun ws _ hw => ?_⟩⟩⟩⟩
  have hg := MadeA.good ha
  simp only [lR_len]
  refine ⟨⟨⟨a, qs, vs, ws, 0⟩, ⟨hg, hq, hv, hw, by simp⟩, rfl, rfl, rfl, rfl, by simp only; omega, rfl, rfl, rfl, rfl, rfl, rfl, rfl, rfl⟩, fun y hy => bif_mk (fun hp => ?_) (fun hp => ?_)⟩
  · have hp : y.i < y.a.links.length := by have := of_decide_eq_true hp; omega
    have hyv := hy.vl
    have hyw := hy.wl
    have hyn := hy.good.n
    obtain ⟨v, hvx⟩ : ∃ v, y.vs[y.i]? = some v := ⟨_, List.getElem?_eq_getElem (by omega)⟩
    obtain ⟨w, hwx⟩ : ∃ w, y.ws[y.i]? = some w := ⟨_, List.getElem?_eq_getElem (by omega)⟩
    have ht : (bothV (ratV x) y.vs y.ws)[y.i]? = some (ratV x * v + w) := by simp [bothV, List.getElem?_zipWith, hvx, hwx]
    refine ⟨by omega, _, _, lR_ld (by simpa using hvx), by omega, _, _, lR_ld (by simpa using hwx), hx, by omega, by omega, by omega, ⟨y.a, y.qs, y.vs, y.ws, y.i + 1⟩, ⟨⟨hy.good, hy.ql, hy.vl, hy.wl, hp⟩, by simp only; omega⟩, rfl, rfl, rfl, rfl, rfl, by rw [w64 (by omega)]; simp, rfl, rfl, rfl, rfl, rfl, rfl, .inr ?_⟩
    rw [List.take_of_length_le (by rw [List.length_map, List.length_take]; omega), List.take_add_one, ht]
    exact lR_snoc _ _ (by omega)
  · have hp : y.i = y.a.links.length := by have := of_decide_eq_false hp; have := hy.le; omega
    have hyv := hy.vl
    have hyw := hy.wl
    have hyq := hy.ql
    have bl : (bothV (ratV x) y.vs y.ws).length = y.a.links.length := by simp [bothV, hyv, hyw]
    rw [List.drop_zero, List.take_of_length_le (by rw [List.length_map, List.length_take]; omega), List.take_of_length_le (by omega)]
    refine ⟨y.a, 63, y.qs, 63, y.vs, rfl, rfl, rfl, ⟨hy.good, ⟨by omega, hyq⟩, by omega, hyv⟩, fun fs f hf hfl n m hn hm => ⟨y.a, 63, y.qs, 63, y.ws, rfl, rfl, rfl, ⟨hy.good, ⟨by omega, hyq⟩, by omega, hyw⟩, fun fs1 f1 hf1 _ n1 m1 hn1 hm1 => ⟨y.a, 63, y.qs, 200, bothV (ratV x) y.vs y.ws, rfl, rfl, rfl, ⟨hy.good, ⟨by omega, hyq⟩, by omega, bl⟩, fun fs2 f2 hf2 _ n2 m2 hn2 hm2 => ⟨hx, by omega, by omega, by omega, ?_⟩⟩⟩⟩
    obtain ⟨e1, e2⟩ := snoc_inj (hf.trans hf1.symm)
    subst e1 e2
    obtain ⟨e1, e2⟩ := snoc_inj (hf.trans hf2.symm)
    subst e1 e2
    have e := vel_lin (ratV x) (colV f fs) y.qs y.vs y.ws 0 0 0 0 (by omega)
    rw [show (0 : Rat) * ratV x + 0 = 0 by grind] at e
    unfold bothV
    rw [e]
    simpa using hK
theorem spec_ssum (l m k n : List Int) (x : Int) (hl : l.length ≤ 9223372036854775807) (hm : m.length ≤ 9223372036854775807) (hk : k.length ≤ 9223372036854775807) (hn : n.length ≤ 9223372036854775807) (hx : -9223372036854775808 ≤ x ∧ x < 9223372036854775808) : Eng.Spec Tryd.prog tabG debT 4 [.x false [.s 1 (ints l)], .x false [.s 1 (ints m)], .x false [.s 1 (ints k)], .x false [.s 1 (ints n)], iA .i64 x] (fun av => av = .x false [.v (.bool true)]) :=
  spec_ofL T120ok mixed Tryd.func4 (by kernel_rfl) (by kernel_rfl) (by rfl) (g_ssum l m k n x hl hm hk hn hx _ rfl)
theorem g_fwork (l m k n : List Int) (hl : l.length ≤ 9223372036854775807) (hm : m.length ≤ 9223372036854775807) (hk : k.length ≤ 9223372036854775807) (hn : n.length ≤ 9223372036854775807) (K : AV → Prop) (hK : K (.x false [.v (.bool true)])) : Holds (goal_fwork l m k n K) := by
  refine ⟨?_⟩
  rw [goal_fwork_vc]
  simp only [Int.ofNat_eq_natCast, true_and, and_true, Nat.zero_add, Nat.le_refl, true_implies, true_or, or_true]
  refine ⟨l, rfl, hl, fun a ha => ⟨a, m, rfl, rfl, ⟨MadeA.good ha, hm⟩, fun qs _ hq => ⟨a, k, rfl, rfl, ⟨MadeA.good ha, hk⟩, fun vs _ hv => ⟨n, rfl, hn, fun p => ?_⟩⟩⟩⟩
  have hg := MadeA.good ha
  simp only [lR_len]
  refine ⟨⟨⟨a, qs, vs, p, 0⟩, ⟨hg, hq, hv, by simp⟩, rfl, rfl, rfl, by simp only; omega, rfl, rfl, rfl, rfl, rfl, rfl, rfl, rfl, rfl, rfl⟩, fun y hy => bif_mk (fun hp => ?_) (fun hp => ?_)⟩
  · have hp : y.i < y.a.links.length := by have := of_decide_eq_true hp; omega
    have hyv := hy.vl
    have hyq := hy.ql
    have hyn := hy.good.n
    obtain ⟨v, hvx⟩ : ∃ v, y.vs[y.i]? = some v := ⟨_, List.getElem?_eq_getElem (by omega)⟩
    obtain ⟨w, hwx⟩ : ∃ w, y.qs[y.i]? = some w := ⟨_, List.getElem?_eq_getElem (by omega)⟩
    have ht : (List.zipWith rateV y.qs y.vs)[y.i]? = some (rateV w v) := by simp [List.getElem?_zipWith, hvx, hwx]
    refine ⟨by omega, _, _, lR_ld (by simpa using hwx), by omega, _, _, lR_ld (by simpa using hvx), by omega, fun r hr => ⟨by omega, ⟨y.a, y.qs, y.vs, y.p, y.i + 1⟩, ⟨⟨hy.good, hy.ql, hy.vl, hp⟩, by simp only; omega⟩, rfl, rfl, rfl, rfl, by rw [w64 (by omega)]; simp, rfl, rfl, rfl, rfl, rfl, rfl, rfl, rfl, .inr ?_⟩⟩
    rw [List.take_of_length_le (by rw [List.length_map, List.length_take]; omega), List.take_add_one, ht]
    exact lR_snoc _ _ (by omega)
  · have hp : y.i = y.a.links.length := by have := of_decide_eq_false hp; have := hy.le; omega
    have hyv := hy.vl
    have hyq := hy.ql
    have bl : (List.zipWith rateV y.qs y.vs).length = y.a.links.length := by simp [hyv, hyq]
    rw [List.drop_zero, List.take_of_length_le (by rw [List.length_map, List.length_take]; omega), List.take_of_length_le (by omega)]
    refine ⟨y.a, 63, y.qs, 400, List.zipWith rateV y.qs y.vs, rfl, rfl, rfl, ⟨hy.good, ⟨by omega, hyq⟩, ⟨by omega, bl⟩, by omega, by omega⟩, fun fs f hf _ n hn => ⟨y.a, 63, y.qs, 63, y.vs, rfl, rfl, rfl, ⟨hy.good, ⟨by omega, hyq⟩, by omega, hyv⟩, fun fs1 f1 hf1 _ n1 m1 hn1 hm1 => ⟨by omega, by omega, ?_⟩⟩⟩
    obtain ⟨e1, e2⟩ := snoc_inj (hf.trans hf1.symm)
    subst e1 e2
    have e := work_law f y.p.1 y.p.2 fs y.qs y.vs 0 0 0 (by grind)
    rw [cmp_self e]
    simpa using hK
theorem spec_fwork (l m k n : List Int) (hl : l.length ≤ 9223372036854775807) (hm : m.length ≤ 9223372036854775807) (hk : k.length ≤ 9223372036854775807) (hn : n.length ≤ 9223372036854775807) : Eng.Spec Tryd.prog tabG debT 7 [.x false [.s 1 (ints l)], .x false [.s 1 (ints m)], .x false [.s 1 (ints k)], .x false [.s 1 (ints n)]] (fun av => av = .x false [.v (.bool true)]) :=
  spec_ofL T120ok mixed Tryd.func7 (by kernel_rfl) (by kernel_rfl) (by rfl) (g_fwork l m k n hl hm hk hn _ rfl)
end Go.Proofs
