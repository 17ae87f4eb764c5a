/- ForeLengths. -/
import Derived.Test.YtmbpebgpiacppaaDoorF1
/- ForeLengths. -/
namespace Go.Proofs
open Go Go.Eng
def ot_kReaches : OT := fun id => bif id.beq 2 then ([0, 1, 2, 3, 4, 5, 6, 7, 8], [[], [0], [1, 0], [2, 1, 0], [3, 2, 1, 0], [2, 1, 0], [4, 3, 2, 1, 0, 5], [2, 1, 0, 6, 4, 3, 5], [7, 2, 1, 0, 6, 4, 3, 5]]) else ([], [])
def goal_kReaches  (K : AV → Prop) : Prop := goalL T94 ot_kReaches noL Tryd.f37 [] K
theorem goal_kReaches_vc (K : AV → Prop) : goal_kReaches K = (
 ∃ (ns : List Int),
 [[Ch.v (Value.int IntKind.i64 (3 : Int))], [Ch.v (Value.int IntKind.i64 (2 : Int))]] = ints ns ∧
 (List.length ns ≤ (3 : Nat) ∧ ∀ (n : Int), n ∈ ns → (1 : Int) ≤ n ∧ n ≤ (1000 : Int)) ∧
 (((-9223372036854775808 : Int) < (0 : Int) ∧ (0 : Int) < (9223372036854775808 : Int)) ∧
 (0 : Int) < (1 : Int) ∧ (1 : Int) < (9223372036854775808 : Int)) ∧
 (((-9223372036854775808 : Int) < (1 : Int) ∧ (1 : Int) < (9223372036854775808 : Int)) ∧
 (0 : Int) < (1 : Int) ∧ (1 : Int) < (9223372036854775808 : Int)) ∧
 ∃ (a : ArmV),
 ∃ (b : Nat),
 ∃ (qs : List Rat),
 [Ch.v (Value.string (ArmV.name (sampleV ns))), Ch.r (ArmV.x (sampleV ns)) (63 : Nat), Ch.r (ArmV.y (sampleV ns)) (63 : Nat),
 Ch.v (Value.bool false), Ch.r (ArmV.t (sampleV ns)) (63 : Nat),
 Ch.s (16 : Nat) (List.map linkCh (ArmV.links (sampleV ns)))] =
 [Ch.v (Value.string (ArmV.name a)), Ch.r (ArmV.x a) (63 : Nat), Ch.r (ArmV.y a) (63 : Nat),
 Ch.v (Value.bool (ArmV.half a)), Ch.r (ArmV.t a) (63 : Nat), Ch.s (16 : Nat) (List.map linkCh (ArmV.links a))] ∧
 [[Ch.r (mkRat (0 : Int) (1 : Nat)) (63 : Nat)], [Ch.r (mkRat (1 : Int) (1 : Nat)) (63 : Nat)]] = lR b qs ∧
 (GoodArm a ∧ b ≤ (400 : Nat) ∧ List.length qs = List.length (ArmV.links a)) ∧
 ∀ (n : Nat) (f : FrV),
 n ≤ (120000000 : Nat) →
 (framesV (baseV a) (ArmV.links a) qs)[List.length (ArmV.links a)]? = some f →
 (((-9223372036854775808 : Int) < (3 : Int) ∧ (3 : Int) < (9223372036854775808 : Int)) ∧
 (-9223372036854775808 : Int) < (2 : Int) ∧ (2 : Int) < (9223372036854775808 : Int)) ∧
 K
 (AV.x false
 [Ch.v
 (Value.bool
 (decide (FrV.x f = Prod.fst (pt1 (3 : Int) (2 : Int))) &&
 (decide (FrV.y f = Prod.snd (pt1 (3 : Int) (2 : Int))) && true)))])) := by kernel_rfl
theorem g_kReaches  (hc : True) (K : AV → Prop) (hK : K (.x false [.v (.bool true)])) : Holds (goal_kReaches  K) := by
  refine ⟨?_⟩
  rw [goal_kReaches_vc]
  try simp only [Int.ofNat_eq_natCast, true_and, and_true, Nat.zero_add, Nat.le_refl, true_implies, true_or, or_true]
  have e : ((framesV (baseV (sampleV [3, 2])) (sampleV [3, 2]).links [mkRat 0 1, mkRat 1 1])[2]?.map fun f => (f.x, f.y)) = some (pt1 3 2) := by decide +kernel
  refine ⟨[3, 2], rfl, ⟨by simp, by simp⟩, by omega, by omega, sampleV [3, 2], 63, [mkRat 0 1, mkRat 1 1], rfl, rfl, ⟨sample_good (by simp) (by simp), by omega, rfl⟩, fun n f hn hf => ⟨by omega, ?_⟩⟩
  rw [show (sampleV [3, 2]).links.length = 2 from rfl] at hf
  rw [hf] at e
  simp only [Option.map_some, Option.some.injEq] at e
  rw [show f.x = (pt1 3 2).fst by rw [← e], show f.y = (pt1 3 2).snd by rw [← e]]
  simpa using hK
def c_kReaches : Ctr := fun as0 => match as0 with
  | [] => some fun K => (True) ∧ (K (.x false [.v (.bool true)]))
  | _ => none
theorem ok_kReaches : CtrOK Tryd.prog tabG debT 37 c_kReaches := by
  refine ⟨enters Tryd.func37 (by kernel_rfl), fun l T hT K hK => ?_⟩
  unfold c_kReaches at hT
  split at hT
  · cases hT
    obtain ⟨hc, hK⟩ := hK
    exact spec_ofL T94ok mixed Tryd.func37 (by kernel_rfl) (by kernel_rfl) (by rfl) (g_kReaches  hc K hK)
  · cases hT
def L95 : List (Nat × Ctr) := (37, c_kReaches) :: L94
def T95 : Tabs := mkT L95 M79 X4
theorem L95ok : CtrsOK Tryd.prog tabG debT L95 := .cons ok_kReaches L94ok
theorem T95ok : TabsOK Tryd.prog tabG debT T95 := mkTok L95ok M79ok X4ok
-- the newest table: L95 M79 X4 T95
structure FlX where
  a : ArmV
  fs : List FrV
  f : FrV
  i : Nat
structure FlI (x : FlX) : Prop where
  good : GoodArm x.a
  len : x.fs.length = x.a.links.length
  eq : ∃ qs : List Rat, qs.length = x.a.links.length ∧ x.fs ++ [x.f] = framesV (baseV x.a) x.a.links qs
  le : x.i ≤ x.a.links.length
def inv_flen : LI := fun _ => .inv ⟨FlX, fun x => ⟨[(5, .x false [.p 5 0]), (6, .x false [.s 10 (x.fs.map frCh ++ [frN (bnd x.a.links.length) x.f])]), (46, .x false [.s 16 (x.a.links.map linkCh)]), (47, iA .i64 x.a.links.length), (48, iA .i64 x.i)], [(5, .box 34 (armCh x.a))]⟩, FlI, fun x => x.a.links.length - x.i, fun _ => 0⟩
def ot_flen : OT := fun id => bif id.beq 4 then ([0, 1, 2, 3, 4, 5, 6, 7, 8, 9], [[], [], [], [1, 2], [0, 3, 1, 2], [4, 0, 3, 1, 2], [5, 4, 0, 3, 1, 2], [5, 4, 0, 3, 1, 2], [6, 5, 4, 0, 3, 1, 2], [7, 5, 4, 0, 3, 1, 2, 8, 6]]) else bif id.beq 5 then ([0, 1, 2, 3, 4, 5, 6, 7, 8, 9, 10, 11, 12, 13, 14, 15, 16, 17, 18, 19, 20, 21], [[], [0], [1, 0], [2, 1, 0], [3, 2, 1, 0], [2, 1, 0], [5, 2, 1, 0], [6, 5, 2, 1, 0], [7, 6, 5, 2, 1, 0], [4, 3, 2, 1, 0, 8, 7, 6, 5], [2, 1, 0, 9, 4, 3, 8, 7, 6, 5], [10, 2, 1, 0, 9, 4, 3, 8, 7, 6, 5], [11, 10, 2, 1, 0, 9, 4, 3, 8, 7, 6, 5], [12, 11, 10, 2, 1, 0, 9, 4, 3, 8, 7, 6, 5], [13, 12, 11, 10, 2, 1, 0, 9, 4, 3, 8, 7, 6, 5], [14, 13, 12, 11, 10, 2, 1, 0, 9, 4, 3, 8, 7, 6, 5], [11, 10, 2, 1, 0, 9, 4, 3, 8, 7, 6, 5], [16, 11, 10, 2, 1, 0, 9, 4, 3, 8, 7, 6, 5], [17, 16, 11, 10, 2, 1, 0, 9, 4, 3, 8, 7, 6, 5], [15, 14, 13, 12, 11, 10, 2, 1, 0, 9, 4, 3, 8, 7, 6, 5, 18, 17, 16], [19, 15, 14, 13, 12, 11, 10, 2, 1, 0, 9, 4, 3, 8, 7, 6, 5, 18, 17, 16], [11, 10, 2, 1, 0, 9, 4, 3, 8, 7, 6, 5, 20, 19, 15, 14, 13, 12, 18, 17, 16]]) else bif id.beq 10 then ([0, 1, 2, 3, 4, 5, 6, 7, 8, 9, 10, 12, 11, 13], [[], [], [1], [0, 2, 1], [3, 0, 2, 1], [4, 3, 0, 2, 1], [], [], [6, 7], [8, 6, 7], [9, 8, 6, 7], [5, 4, 3, 0, 2, 1, 10, 9, 8, 6, 7], [], [12, 11, 5, 4, 3, 0, 2, 1, 10, 9, 8, 6, 7]]) else bif id.beq 11 then ([0, 1, 3, 4, 5, 6, 2, 7, 8, 9], [[], [], [0, 1], [], [3], [], [5], [4, 3, 6, 5, 2, 0, 1], [2, 0, 1, 7, 4, 3, 6, 5], [8, 2, 0, 1, 7, 4, 3, 6, 5]]) else bif id.beq 14 then ([0, 1, 2, 3, 4, 5, 6, 7, 8, 9, 10, 11, 12, 13, 14, 15], [[], [], [1], [2, 1], [0, 3, 2, 1], [4, 0, 3, 2, 1], [5, 4, 0, 3, 2, 1], [], [], [8], [9, 8], [7, 10, 9, 8], [11, 7, 10, 9, 8], [12, 11, 7, 10, 9, 8], [6, 5, 4, 0, 3, 2, 1, 13, 12, 11, 7, 10, 9, 8], [14, 6, 5, 4, 0, 3, 2, 1, 13, 12, 11, 7, 10, 9, 8]]) else ([], [])
def goal_flen (l m : List Int) (K : AV → Prop) : Prop := goalL T95 ot_flen inv_flen Tryd.f6 [.x false [.s 1 (ints l)], .x false [.s 1 (ints m)]] K
theorem goal_flen_vc (l : List Int) (m : List Int) (K : AV → Prop) : goal_flen l m K = (
 True ∧
 ∃ (l_1 : List Int),
 ints l = ints l_1 ∧
 List.length l_1 ≤ (9223372036854775807 : Nat) ∧
 ∀ (a : ArmV),
 Made a ∧ (1 : Nat) ≤ List.length (ArmV.links a) →
 ∃ (a_2 : ArmV),
 ∃ (l : List Int),
 [Ch.v (Value.string (ArmV.name a)), Ch.r (ArmV.x a) (63 : Nat), Ch.r (ArmV.y a) (63 : Nat), Ch.v (Value.bool (ArmV.half a)),
 Ch.r (ArmV.t a) (63 : Nat), Ch.s (16 : Nat) (List.map linkCh (ArmV.links a))] =
 [Ch.v (Value.string (ArmV.name a_2)), Ch.r (ArmV.x a_2) (63 : Nat), Ch.r (ArmV.y a_2) (63 : Nat),
 Ch.v (Value.bool (ArmV.half a_2)), Ch.r (ArmV.t a_2) (63 : Nat), Ch.s (16 : Nat) (List.map linkCh (ArmV.links a_2))] ∧
 ints m = ints l ∧
 (GoodArm a_2 ∧ List.length l ≤ (9223372036854775807 : Nat)) ∧
 ∀ (qs : List Rat),
 (∀ (i : Nat) (L : LinkV) (q : Rat),
 (ArmV.links a_2)[i]? = some L → qs[i]? = some q → LinkV.lo L ≤ q ∧ q ≤ LinkV.hi L) →
 List.length qs = List.length (ArmV.links a_2) →
 ∃ (a_5 : ArmV),
 ∃ (b : Nat),
 ∃ (qs_1 : List Rat),
 [Ch.v (Value.string (ArmV.name a)), Ch.r (ArmV.x a) (63 : Nat), Ch.r (ArmV.y a) (63 : Nat),
 Ch.v (Value.bool (ArmV.half a)), Ch.r (ArmV.t a) (63 : Nat),
 Ch.s (16 : Nat) (List.map linkCh (ArmV.links a))] =
 [Ch.v (Value.string (ArmV.name a_5)), Ch.r (ArmV.x a_5) (63 : Nat), Ch.r (ArmV.y a_5) (63 : Nat),
 Ch.v (Value.bool (ArmV.half a_5)), Ch.r (ArmV.t a_5) (63 : Nat),
 Ch.s (16 : Nat) (List.map linkCh (ArmV.links a_5))] ∧
 lR (63 : Nat) qs = lR b qs_1 ∧
 (GoodArm a_5 ∧ b ≤ (400 : Nat) ∧ List.length qs_1 = List.length (ArmV.links a_5)) ∧
 ∀ (fs : List FrV) (f : FrV),
 fs ++ [f] = framesV (baseV a_5) (ArmV.links a_5) qs_1 →
 List.length fs = List.length (ArmV.links a_5) →
 bif
 Int.ofNat
 (List.length
 (List.map frCh fs ++
 [[Ch.r (FrV.x f) (bnd (List.length (ArmV.links a_5))),
 Ch.r (FrV.y f) (bnd (List.length (ArmV.links a_5))),
 Ch.v (Value.bool (FrV.h f)),
 Ch.r (FrV.t f) (bnd (List.length (ArmV.links a_5)))]])) !=
 IntKind.wrap IntKind.i64
 (Int.ofNat (List.length (List.map linkCh (ArmV.links a))) + (1 : Int)) then
 K (AV.x false [Ch.v (Value.bool false)])
 else
 ((0 : Int) ≤ (0 : Int) ∧
 (0 : Int) <
 Int.ofNat
 (List.length
 (List.map frCh fs ++
 [[Ch.r (FrV.x f) (bnd (List.length (ArmV.links a_5))),
 Ch.r (FrV.y f) (bnd (List.length (ArmV.links a_5))),
 Ch.v (Value.bool (FrV.h f)),
 Ch.r (FrV.t f) (bnd (List.length (ArmV.links a_5)))]]))) ∧
 ∃ (q : Rat),
 ∃ (n : Nat),
 ∃ (q_1 : Rat),
 ∃ (n_1 : Nat),
 ldE
 (List.map frCh fs ++
 [[Ch.r (FrV.x f) (bnd (List.length (ArmV.links a_5))),
 Ch.r (FrV.y f) (bnd (List.length (ArmV.links a_5))),
 Ch.v (Value.bool (FrV.h f)),
 Ch.r (FrV.t f) (bnd (List.length (ArmV.links a_5)))]])
 (0 : Nat) (0 : Nat) (6 : Nat) =
 some [Ch.r q n, Ch.r q_1 n_1] ∧
 (n + (63 : Nat) ≤ (4294967290 : Nat) ∧ n_1 + (63 : Nat) ≤ (4294967290 : Nat)) ∧
 bif !(decide (q = ArmV.x a) && decide (q_1 = ArmV.y a)) then
 K (AV.x false [Ch.v (Value.bool false)])
 else
 (∃ (x : FlX),
 (FlI x ∧ OfNat.ofNat (0 : Nat) = (0 : Nat)) ∧
 (0 : Nat) = (0 : Nat) ∧
 (10 : Nat) = (10 : Nat) ∧
 List.map frCh fs ++
 [[Ch.r (FrV.x f) (bnd (List.length (ArmV.links a_5))),
 Ch.r (FrV.y f) (bnd (List.length (ArmV.links a_5))),
 Ch.v (Value.bool (FrV.h f)),
 Ch.r (FrV.t f) (bnd (List.length (ArmV.links a_5)))]] =
 List.map frCh (FlX.fs x) ++
 [[Ch.r (FrV.x (FlX.f x))
 (bnd (List.length (ArmV.links (FlX.a x)))),
 Ch.r (FrV.y (FlX.f x))
 (bnd (List.length (ArmV.links (FlX.a x)))),
 Ch.v (Value.bool (FrV.h (FlX.f x))),
 Ch.r (FrV.t (FlX.f x))
 (bnd (List.length (ArmV.links (FlX.a x))))]] ∧
 (16 : Nat) = (16 : Nat) ∧
 List.map linkCh (ArmV.links a) =
 List.map linkCh (ArmV.links (FlX.a x)) ∧
 Int.ofNat (List.length (List.map linkCh (ArmV.links a))) =
 Int.ofNat (List.length (ArmV.links (FlX.a x))) ∧
 (0 : Int) = Int.ofNat (FlX.i x) ∧
 (34 : Nat) = (34 : Nat) ∧
 ArmV.name a = ArmV.name (FlX.a x) ∧
 ArmV.x a = ArmV.x (FlX.a x) ∧
 (63 : Nat) ≤ (63 : Nat) ∧
 ArmV.y a = ArmV.y (FlX.a x) ∧
 (63 : Nat) ≤ (63 : Nat) ∧
 ArmV.half a = ArmV.half (FlX.a x) ∧
 ArmV.t a = ArmV.t (FlX.a x) ∧
 (63 : Nat) ≤ (63 : Nat) ∧
 (16 : Nat) = (16 : Nat) ∧
 List.map linkCh (ArmV.links a) =
 List.map linkCh
 (ArmV.links (FlX.a x)) ∧
 True) ∧
 ∀ (x : FlX),
 FlI x →
 OfNat.ofNat (0 : Nat) = (0 : Nat) →
 bif
 decide
 (Int.ofNat (FlX.i x) <
 Int.ofNat (List.length (ArmV.links (FlX.a x)))) then
 ((0 : Int) ≤ Int.ofNat (FlX.i x) ∧
 Int.ofNat (FlX.i x) <
 Int.ofNat
 (List.length (List.map linkCh (ArmV.links (FlX.a x))))) ∧
 ∃ (q : Rat),
 ∃ (n : Nat),
 ∃ (q_2 : Rat),
 ∃ (n_2 : Nat),
 ∃ (q_3 : Rat),
 ∃ (n_3 : Nat),
 ∃ (q_4 : Rat),
 ∃ (n_4 : Nat),
 ∃ (q_5 : Rat),
 ∃ (n_5 : Nat),
 ∃ (ys : List (List Ch)),
 ldE
 (List.map linkCh
 (ArmV.links (FlX.a x)))
 (Int.toNat (Int.ofNat (FlX.i x)))
 (0 : Nat) (16 : Nat) =
 some
 [Ch.r q n, Ch.r q_2 n_2,
 Ch.r q_3 n_3, Ch.r q_4 n_4,
 Ch.r q_5 n_5, Ch.s (6 : Nat) ys] ∧
 ((0 : Int) ≤
 IntKind.wrap IntKind.i64
 (Int.ofNat (FlX.i x) +
 (1 : Int)) ∧
 IntKind.wrap IntKind.i64
 (Int.ofNat (FlX.i x) +
 (1 : Int)) <
 Int.ofNat
 (List.length
 (List.map frCh (FlX.fs x) ++
 [[Ch.r (FrV.x (FlX.f x))
 (bnd
 (List.length
 (ArmV.links
 (FlX.a x)))),
 Ch.r (FrV.y (FlX.f x))
 (bnd
 (List.length
 (ArmV.links
 (FlX.a x)))),
 Ch.v
 (Value.bool
 (FrV.h (FlX.f x))),
 Ch.r (FrV.t (FlX.f x))
 (bnd
 (List.length
 (ArmV.links
 (FlX.a
 x))))]]))) ∧
 ∃ (q_6 : Rat),
 ∃ (n_6 : Nat),
 ∃ (q_7 : Rat),
 ∃ (n_7 : Nat),
 ldE
 (List.map frCh
 (FlX.fs x) ++
 [[Ch.r
 (FrV.x
 (FlX.f x))
 (bnd
 (List.length
 (ArmV.links
 (FlX.a
 x)))),
 Ch.r
 (FrV.y
 (FlX.f x))
 (bnd
 (List.length
 (ArmV.links
 (FlX.a
 x)))),
 Ch.v
 (Value.bool
 (FrV.h
 (FlX.f x))),
 Ch.r
 (FrV.t
 (FlX.f x))
 (bnd
 (List.length
 (ArmV.links
 (FlX.a
 x))))]])
 (Int.toNat
 (IntKind.wrap
 IntKind.i64
 (Int.ofNat
 (FlX.i x) +
 (1 : Int))))
 (0 : Nat) (6 : Nat) =
 some
 [Ch.r q_6 n_6,
 Ch.r q_7 n_7] ∧
 ((0 : Int) ≤
 Int.ofNat (FlX.i x) ∧
 Int.ofNat (FlX.i x) <
 Int.ofNat
 (List.length
 (List.map frCh
 (FlX.fs x) ++
 [[Ch.r
 (FrV.x
 (FlX.f
 x))
 (bnd
 (List.length
 (ArmV.links
 (FlX.a
 x)))),
 Ch.r
 (FrV.y
 (FlX.f
 x))
 (bnd
 (List.length
 (ArmV.links
 (FlX.a
 x)))),
 Ch.v
 (Value.bool
 (FrV.h
 (FlX.f
 x))),
 Ch.r
 (FrV.t
 (FlX.f
 x))
 (bnd
 (List.length
 (ArmV.links
 (FlX.a
 x))))]]))) ∧
 ∃ (q_8 : Rat),
 ∃ (n_8 : Nat),
 ∃ (q_9 : Rat),
 ∃ (n_9 : Nat),
 ldE
 (List.map
 frCh
 (FlX.fs
 x) ++
 [[Ch.r
 (FrV.x
 (FlX.f
 x))
 (bnd
 (List.length
 (ArmV.links
 (FlX.a
 x)))),
 Ch.r
 (FrV.y
 (FlX.f
 x))
 (bnd
 (List.length
 (ArmV.links
 (FlX.a
 x)))),
 Ch.v
 (Value.bool
 (FrV.h
 (FlX.f
 x))),
 Ch.r
 (FrV.t
 (FlX.f
 x))
 (bnd
 (List.length
 (ArmV.links
 (FlX.a
 x))))]])
 (Int.toNat
 (Int.ofNat
 (FlX.i
 x)))
 (0 : Nat)
 (6 : Nat) =
 some
 [Ch.r q_8
 n_8,
 Ch.r q_9
 n_9] ∧
 (n_6 + n_8 ≤
 (1000000000 :
 Nat) ∧
 n_7 + n_9 ≤
 (1000000000 :
 Nat)) ∧
 n_6 + n_8 +
 (1 :
 Nat) +
 (n_7 +
 n_9 +
 (1 :
 Nat)) +
 (n_6 +
 n_8 +
 (1 :
 Nat)) +
 (n_7 +
 n_9 +
 (1 :
 Nat)) ≤
 (4294967290 :
 Nat) ∧
 n + n ≤
 (4294967296 :
 Nat) ∧
 n_6 +
 n_8 +
 (1 :
 Nat) +
 (n_6 +
 n_8 +
 (1 :
 Nat)) +
 (n_7 +
 n_9 +
 (1 :
 Nat) +
 (n_7 +
 n_9 +
 (1 :
 Nat))) +
 (1 :
 Nat) +
 (n +
 n) ≤
 (4294967296 :
 Nat) ∧
 bif
 cmpR
 ((q_6 -
 q_8) *
 (q_6 -
 q_8) +
 (q_7 -
 q_9) *
 (q_7 -
 q_9))
 (q *
 q) !=
 (0 :
 Int) then
 K
 (AV.x
 false
 [Ch.v
 (Value.bool
 false)])
 else
 ∃ (x'
 :
 FlX),
 (FlI
 x' ∧
 OfNat.ofNat
 (0 :
 Nat) =
 (0 :
 Nat) ∧
 List.length
 (ArmV.links
 (FlX.a
 x')) -
 FlX.i
 x' <
 List.length
 (ArmV.links
 (FlX.a
 x)) -
 FlX.i
 x) ∧
 (0 :
 Nat) =
 (0 :
 Nat) ∧
 (10 :
 Nat) =
 (10 :
 Nat) ∧
 List.map
 frCh
 (FlX.fs
 x) ++
 [[Ch.r
 (FrV.x
 (FlX.f
 x))
 (bnd
 (List.length
 (ArmV.links
 (FlX.a
 x)))),
 Ch.r
 (FrV.y
 (FlX.f
 x))
 (bnd
 (List.length
 (ArmV.links
 (FlX.a
 x)))),
 Ch.v
 (Value.bool
 (FrV.h
 (FlX.f
 x))),
 Ch.r
 (FrV.t
 (FlX.f
 x))
 (bnd
 (List.length
 (ArmV.links
 (FlX.a
 x))))]] =
 List.map
 frCh
 (FlX.fs
 x') ++
 [[Ch.r
 (FrV.x
 (FlX.f
 x'))
 (bnd
 (List.length
 (ArmV.links
 (FlX.a
 x')))),
 Ch.r
 (FrV.y
 (FlX.f
 x'))
 (bnd
 (List.length
 (ArmV.links
 (FlX.a
 x')))),
 Ch.v
 (Value.bool
 (FrV.h
 (FlX.f
 x'))),
 Ch.r
 (FrV.t
 (FlX.f
 x'))
 (bnd
 (List.length
 (ArmV.links
 (FlX.a
 x'))))]] ∧
 (16 :
 Nat) =
 (16 :
 Nat) ∧
 List.map
 linkCh
 (ArmV.links
 (FlX.a
 x)) =
 List.map
 linkCh
 (ArmV.links
 (FlX.a
 x')) ∧
 Int.ofNat
 (List.length
 (ArmV.links
 (FlX.a
 x))) =
 Int.ofNat
 (List.length
 (ArmV.links
 (FlX.a
 x'))) ∧
 IntKind.wrap
 IntKind.i64
 (Int.ofNat
 (FlX.i
 x) +
 (1 :
 Int)) =
 Int.ofNat
 (FlX.i
 x') ∧
 (34 :
 Nat) =
 (34 :
 Nat) ∧
 ArmV.name
 (FlX.a
 x) =
 ArmV.name
 (FlX.a
 x') ∧
 ArmV.x
 (FlX.a
 x) =
 ArmV.x
 (FlX.a
 x') ∧
 (63 :
 Nat) ≤
 (63 :
 Nat) ∧
 ArmV.y
 (FlX.a
 x) =
 ArmV.y
 (FlX.a
 x') ∧
 (63 :
 Nat) ≤
 (63 :
 Nat) ∧
 ArmV.half
 (FlX.a
 x) =
 ArmV.half
 (FlX.a
 x') ∧
 ArmV.t
 (FlX.a
 x) =
 ArmV.t
 (FlX.a
 x') ∧
 (63 :
 Nat) ≤
 (63 :
 Nat) ∧
 (16 :
 Nat) =
 (16 :
 Nat) ∧
 List.map
 linkCh
 (ArmV.links
 (FlX.a
 x)) =
 List.map
 linkCh
 (ArmV.links
 (FlX.a
 x')) ∧
 True
 else
 ((0 : Int) ≤
 IntKind.wrap IntKind.i64
 (Int.ofNat
 (List.length
 (List.map frCh (FlX.fs x) ++
 [[Ch.r (FrV.x (FlX.f x))
 (bnd (List.length (ArmV.links (FlX.a x)))),
 Ch.r (FrV.y (FlX.f x))
 (bnd (List.length (ArmV.links (FlX.a x)))),
 Ch.v (Value.bool (FrV.h (FlX.f x))),
 Ch.r (FrV.t (FlX.f x))
 (bnd
 (List.length
 (ArmV.links (FlX.a x))))]])) -
 (1 : Int)) ∧
 IntKind.wrap IntKind.i64
 (Int.ofNat
 (List.length
 (List.map frCh (FlX.fs x) ++
 [[Ch.r (FrV.x (FlX.f x))
 (bnd (List.length (ArmV.links (FlX.a x)))),
 Ch.r (FrV.y (FlX.f x))
 (bnd (List.length (ArmV.links (FlX.a x)))),
 Ch.v (Value.bool (FrV.h (FlX.f x))),
 Ch.r (FrV.t (FlX.f x))
 (bnd
 (List.length
 (ArmV.links (FlX.a x))))]])) -
 (1 : Int)) <
 Int.ofNat
 (List.length
 (List.map frCh (FlX.fs x) ++
 [[Ch.r (FrV.x (FlX.f x))
 (bnd (List.length (ArmV.links (FlX.a x)))),
 Ch.r (FrV.y (FlX.f x))
 (bnd (List.length (ArmV.links (FlX.a x)))),
 Ch.v (Value.bool (FrV.h (FlX.f x))),
 Ch.r (FrV.t (FlX.f x))
 (bnd
 (List.length (ArmV.links (FlX.a x))))]]))) ∧
 ∃ (b : Bool),
 ∃ (q : Rat),
 ∃ (n : Nat),
 ldE
 (List.map frCh (FlX.fs x) ++
 [[Ch.r (FrV.x (FlX.f x))
 (bnd (List.length (ArmV.links (FlX.a x)))),
 Ch.r (FrV.y (FlX.f x))
 (bnd (List.length (ArmV.links (FlX.a x)))),
 Ch.v (Value.bool (FrV.h (FlX.f x))),
 Ch.r (FrV.t (FlX.f x))
 (bnd
 (List.length (ArmV.links (FlX.a x))))]])
 (Int.toNat
 (IntKind.wrap IntKind.i64
 (Int.ofNat
 (List.length
 (List.map frCh (FlX.fs x) ++
 [[Ch.r (FrV.x (FlX.f x))
 (bnd
 (List.length
 (ArmV.links (FlX.a x)))),
 Ch.r (FrV.y (FlX.f x))
 (bnd
 (List.length
 (ArmV.links (FlX.a x)))),
 Ch.v (Value.bool (FrV.h (FlX.f x))),
 Ch.r (FrV.t (FlX.f x))
 (bnd
 (List.length
 (ArmV.links (FlX.a x))))]])) -
 (1 : Int))))
 (6 : Nat) (4 : Nat) =
 some [Ch.v (Value.bool b), Ch.r q n] ∧
 ((0 : Int) ≤
 IntKind.wrap IntKind.i64
 (Int.ofNat
 (List.length
 (List.map frCh (FlX.fs x) ++
 [[Ch.r (FrV.x (FlX.f x))
 (bnd
 (List.length
 (ArmV.links (FlX.a x)))),
 Ch.r (FrV.y (FlX.f x))
 (bnd
 (List.length
 (ArmV.links (FlX.a x)))),
 Ch.v (Value.bool (FrV.h (FlX.f x))),
 Ch.r (FrV.t (FlX.f x))
 (bnd
 (List.length
 (ArmV.links (FlX.a x))))]])) -
 (2 : Int)) ∧
 IntKind.wrap IntKind.i64
 (Int.ofNat
 (List.length
 (List.map frCh (FlX.fs x) ++
 [[Ch.r (FrV.x (FlX.f x))
 (bnd
 (List.length
 (ArmV.links (FlX.a x)))),
 Ch.r (FrV.y (FlX.f x))
 (bnd
 (List.length
 (ArmV.links (FlX.a x)))),
 Ch.v (Value.bool (FrV.h (FlX.f x))),
 Ch.r (FrV.t (FlX.f x))
 (bnd
 (List.length
 (ArmV.links (FlX.a x))))]])) -
 (2 : Int)) <
 Int.ofNat
 (List.length
 (List.map frCh (FlX.fs x) ++
 [[Ch.r (FrV.x (FlX.f x))
 (bnd
 (List.length
 (ArmV.links (FlX.a x)))),
 Ch.r (FrV.y (FlX.f x))
 (bnd
 (List.length
 (ArmV.links (FlX.a x)))),
 Ch.v (Value.bool (FrV.h (FlX.f x))),
 Ch.r (FrV.t (FlX.f x))
 (bnd
 (List.length
 (ArmV.links (FlX.a x))))]]))) ∧
 ∃ (b_1 : Bool),
 ∃ (q_2 : Rat),
 ∃ (n : Nat),
 ldE
 (List.map frCh (FlX.fs x) ++
 [[Ch.r (FrV.x (FlX.f x))
 (bnd
 (List.length
 (ArmV.links (FlX.a x)))),
 Ch.r (FrV.y (FlX.f x))
 (bnd
 (List.length
 (ArmV.links (FlX.a x)))),
 Ch.v (Value.bool (FrV.h (FlX.f x))),
 Ch.r (FrV.t (FlX.f x))
 (bnd
 (List.length
 (ArmV.links (FlX.a x))))]])
 (Int.toNat
 (IntKind.wrap IntKind.i64
 (Int.ofNat
 (List.length
 (List.map frCh (FlX.fs x) ++
 [[Ch.r (FrV.x (FlX.f x))
 (bnd
 (List.length
 (ArmV.links
 (FlX.a x)))),
 Ch.r (FrV.y (FlX.f x))
 (bnd
 (List.length
 (ArmV.links
 (FlX.a x)))),
 Ch.v
 (Value.bool
 (FrV.h (FlX.f x))),
 Ch.r (FrV.t (FlX.f x))
 (bnd
 (List.length
 (ArmV.links
 (FlX.a x))))]])) -
 (2 : Int))))
 (6 : Nat) (4 : Nat) =
 some [Ch.v (Value.bool b_1), Ch.r q_2 n] ∧
 K
 (AV.x false
 [Ch.v
 (Value.bool
 (b == b_1 &&
 (decide (q = q_2) && true)))])) := by kernel_rfl
theorem frs_at {fs : List FrV} {f g : FrV} {m i : Nat} (hm : m ≤ 120000000) (h : (fs ++ [f])[i]? = some g) : ∃ n, n ≤ 120000000 ∧ ldE (fs.map frCh ++ [frN m f]) i 0 6 = some [.r g.x n, .r g.y n] ∧ ldE (fs.map frCh ++ [frN m f]) i 6 4 = some [.v (.bool g.h), .r g.t n] := by
  obtain ⟨n, hn, h⟩ := frs_ld hm h
  refine ⟨n, hn, ?_, ?_⟩
  · simp only [ldE, h]; rfl
  · simp only [ldE, h]; rfl
theorem put0x (b : FrV) : putX b 0 0 = b.x := by unfold putX; grind
theorem put0y (b : FrV) : putY b 0 0 = b.y := by unfold putY; grind
theorem frames_head (b : FrV) (ls : List LinkV) (qs : List Rat) : ∃ g rest, framesV b ls qs = g :: rest ∧ g.x = b.x ∧ g.y = b.y := by
  match ls, qs with
  | [], _ => exact ⟨b, [], rfl, rfl, rfl⟩
  | _ :: _, [] => exact ⟨b, [], rfl, rfl, rfl⟩
  | L :: ls, q :: qs => exact ⟨_, _, rfl, put0x b, put0y b⟩
theorem cs1 (h : Bool) (t : Rat) : cosT h t * cosT h t + sinT h t * sinT h t = 1 := by
  unfold cosT sinT
  cases h with
  | true => simp only [cond_true]; grind
  | false =>
    simp only [cond_false]
    have := sq1 t
    grind
theorem frames_step : ∀ (ls : List LinkV) (qs : List Rat) (b : FrV) (i : Nat) (L : LinkV) (f g : FrV), qs.length = ls.length → ls[i]? = some L → (framesV b ls qs)[i]? = some f → (framesV b ls qs)[i + 1]? = some g →
    (g.x - f.x) * (g.x - f.x) + (g.y - f.y) * (g.y - f.y) = L.len * L.len := by
  intro ls
  induction ls with
  | nil => intro qs b i L f g _ h; cases h
  | cons L0 ls ih =>
    intro qs b i L f g hl hL hf hg
    match qs, hl with
    | q :: qs, hl =>
      cases i with
      | zero =>
        cases hL
        obtain ⟨g0, rest, e, ex, ey⟩ := frames_head (frThen (frThen b ⟨0, 0, false, q⟩) ⟨L0.len, 0, false, 0⟩) ls qs
        rw [framesV] at hf hg
        cases hf
        rw [e] at hg
        cases hg
        rw [ex, ey]
        have := cs1 (frThen b ⟨0, 0, false, q⟩).h (frThen b ⟨0, 0, false, q⟩).t
        show (putX (frThen b ⟨0, 0, false, q⟩) L0.len 0 - _) * (putX (frThen b ⟨0, 0, false, q⟩) L0.len 0 - _) + (putY (frThen b ⟨0, 0, false, q⟩) L0.len 0 - _) * (putY (frThen b ⟨0, 0, false, q⟩) L0.len 0 - _) = _
        unfold putX putY
        grind
      | succ i =>
        rw [framesV] at hf hg
        exact ih qs _ i L f g (by simpa using hl) (by simpa using hL) (by simpa using hf) (by simpa using hg)
theorem th_good (h : Bool) (t : Rat) (g : Bool) (u : Rat) : thH h t g u = true → thT h t g u = 0 := by
  unfold thH thT oppT
  cases h <;> cases g <;> simp only [Bool.and_self, Bool.and_false, Bool.and_true, Bool.false_and, Bool.true_and, cond_true, cond_false] <;> intro e <;> first | (rw [e]; rfl) | cases e
theorem frThen0 (f : FrV) (u v : Rat) (hf : f.h = true → f.t = 0) : (frThen f ⟨u, v, false, 0⟩).h = f.h ∧ (frThen f ⟨u, v, false, 0⟩).t = f.t := by
  show thH f.h f.t false 0 = f.h ∧ thT f.h f.t false 0 = f.t
  cases h : f.h with
  | true => rw [hf h]; exact ⟨rfl, rfl⟩
  | false =>
    have e : decide (1 - f.t * 0 = 0) = false := decide_eq_false (by grind)
    simp only [thH, thT, Bool.and_self, cond_false, e]
    refine ⟨trivial, ?_⟩
    have e2 : (1 : Rat) - f.t * 0 = 1 := by grind
    rw [e2, Rat.add_zero, Rat.div_def]
    grind
theorem frames_last : ∀ (ls : List LinkV) (qs : List Rat) (b f g : FrV), qs.length = ls.length → 1 ≤ ls.length → (framesV b ls qs)[ls.length - 1]? = some f → (framesV b ls qs)[ls.length]? = some g → g.h = f.h ∧ g.t = f.t := by
  intro ls
  induction ls with
  | nil => intro qs b f g _ h; simp at h
  | cons L0 ls ih =>
    intro qs b f g hl _ hf hg
    match qs, hl with
    | q :: qs, hl =>
      rw [framesV] at hf hg
      match ls, qs, hl with
      | [], [], _ =>
        cases hf; cases hg
        exact frThen0 _ _ _ (th_good _ _ _ _)
      | L1 :: ls, q1 :: qs, hl =>
        exact ih (q1 :: qs) _ f g (by simpa using hl) (by simp) (by simpa using hf) (by simpa using hg)
theorem g_flen (l m : List Int) (hl : l.length ≤ 9223372036854775807) (hm : m.length ≤ 9223372036854775807) (K : AV → Prop) (hK : K (.x false [.v (.bool true)])) : Holds (goal_flen l m K) := by
  refine ⟨?_⟩
  rw [goal_flen_vc]
  simp only [Int.ofNat_eq_natCast, true_and, and_true, Nat.zero_add, Nat.le_refl, true_implies, true_or, or_true]
  refine ⟨l, rfl, hl, fun a ha => ⟨a, m, rfl, rfl, ⟨MadeA.good ha, hm⟩, fun qs hf hq => ⟨a, 63, qs, rfl, rfl, ⟨MadeA.good ha, by omega, hq⟩, fun fs f hfs hlen => ?_⟩⟩⟩
  have hg := MadeA.good ha
  have hn := hg.n
  have hbn : ∀ a : ArmV, a.links.length ≤ 3 → bnd a.links.length ≤ 120000000 := fun a h => bnd_le h
  obtain ⟨g0, rest, e0, ex, ey⟩ := frames_head (baseV a) a.links qs
  have h0 : (fs ++ [f])[0]? = some g0 := by rw [hfs, e0]; rfl
  obtain ⟨n0, hn0, ld0, _⟩ := frs_at (hbn a hn.2) h0
  simp only [List.length_append, List.length_map, List.length_cons, List.length_nil]
  refine bif_mk (fun h => ?_) (fun _ => ⟨by omega, g0.x, n0, g0.y, n0, ld0, by omega, bif_mk (fun h => ?_) (fun _ => ⟨⟨⟨a, fs, f, 0⟩, ⟨hg, hlen, ⟨qs, hq, hfs⟩, by simp⟩, rfl, rfl, rfl, rfl, rfl, rfl, rfl, rfl, rfl, rfl⟩, fun x ⟨xg, xl, ⟨xq, xql, xe⟩, xi⟩ => ?_⟩)⟩)
  · rw [w64 (by omega)] at h
    exfalso
    simp at h
    omega
  · exfalso
    rw [ex, ey] at h
    simp [baseV] at h
  have hxn := xg.n
  have hb := hbn x.a hxn.2
  have hat : ∀ i, i ≤ x.a.links.length → ∃ g, (x.fs ++ [x.f])[i]? = some g := fun i hi => ⟨_, List.getElem?_eq_getElem (by simp; omega)⟩
  refine bif_mk (fun hp => ?_) (fun hp => ?_)
  · have hp : x.i < x.a.links.length := by have := of_decide_eq_true hp; omega
    obtain ⟨L, hL⟩ : ∃ L, x.a.links[x.i]? = some L := ⟨_, List.getElem?_eq_getElem hp⟩
    obtain ⟨g1, hg1⟩ := hat (x.i + 1) hp
    obtain ⟨g2, hg2⟩ := hat x.i xi
    obtain ⟨n1, hn1, ld1, _⟩ := frs_at hb hg1
    obtain ⟨n2, hn2, ld2, _⟩ := frs_at hb hg2
    rw [w64 (n := (x.i : Int) + 1) (by omega)]
    refine ⟨by omega, _, _, _, _, _, _, _, _, _, _, _, link_ld (by simpa using hL), by omega, g1.x, n1, g1.y, n1, ld1, by omega, g2.x, n2, g2.y, n2, ld2, by omega, by omega, by omega, by omega, bif_mk (fun h => ?_) (fun _ => ⟨⟨x.a, x.fs, x.f, x.i + 1⟩, ⟨⟨xg, xl, ⟨xq, xql, xe⟩, hp⟩, by simp only; omega⟩, rfl, rfl, rfl, rfl, rfl, rfl, rfl, rfl, rfl, rfl⟩)⟩
    exfalso
    rw [xe] at hg1 hg2
    rw [frames_step x.a.links xq _ x.i L g2 g1 xql hL hg2 hg1] at h
    simp [cmpR, Rat.lt_irrefl] at h
  · have hp : x.i = x.a.links.length := by have := of_decide_eq_false hp; omega
    obtain ⟨g1, hg1⟩ := hat x.a.links.length (Nat.le_refl _)
    obtain ⟨g2, hg2⟩ := hat (x.a.links.length - 1) (by omega)
    obtain ⟨n1, hn1, _, ld1⟩ := frs_at hb hg1
    obtain ⟨n2, hn2, _, ld2⟩ := frs_at hb hg2
    rw [w64 (n := ((x.fs.length + (0 + 1) : Nat) : Int) - 1) (by omega), w64 (n := ((x.fs.length + (0 + 1) : Nat) : Int) - 2) (by omega)]
    rw [show (((x.fs.length + (0 + 1) : Nat) : Int) - 1).toNat = x.a.links.length by omega, show (((x.fs.length + (0 + 1) : Nat) : Int) - 2).toNat = x.a.links.length - 1 by omega]
    refine ⟨by omega, _, _, _, ld1, by omega, _, _, _, ld2, ?_⟩
    rw [xe] at hg1 hg2
    obtain ⟨e1, e2⟩ := frames_last x.a.links xq _ g2 g1 xql hxn.1 hg2 hg1
    rw [e1, e2]
    simpa using hK
theorem spec_flen (l m : List Int) (hl : l.length ≤ 9223372036854775807) (hm : m.length ≤ 9223372036854775807) : Eng.Spec Tryd.prog tabG debT 6 [.x false [.s 1 (ints l)], .x false [.s 1 (ints m)]] (fun av => av = .x false [.v (.bool true)]) :=
  spec_ofL T95ok mixed Tryd.func6 (by kernel_rfl) (by kernel_rfl) (by rfl) (g_flen l m hl hm _ rfl)
end Go.Proofs
