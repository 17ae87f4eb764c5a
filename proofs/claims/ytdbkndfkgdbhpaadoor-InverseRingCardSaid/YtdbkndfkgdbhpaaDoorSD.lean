/- The reach of arms: InverseRing. -/
import Derived.Test.YtdbkndfkgdbhpaaDoorFA
/- The reach of arms: InverseRing. -/
namespace Go.Proofs
open Go Go.Eng
def leastV (S : Rat) : List LinkV → Rat → Rat
  | [], m => m
  | L :: ls, m => leastV S ls (maxR m (((2 : Int) : Rat) * L.len - S))
structure RgX where
  m : Rat
  i : Nat
def inv_ring (a : ArmV) : LI := fun _ => .inv ⟨RgX, fun x => ⟨[(1, .x false [.p 1 0]), (2, .x false [.p 2 0]), (3, .x false [.p 3 0]), (5, .x false [.p 5 0]), (7, .x false [.p 7 0]), (22, .x false [.s 16 (a.links.map linkCh)]), (23, iA .i64 a.links.length), (24, iA .i64 x.i)],
  [(1, .box 34 (armCh a)), (2, .box 25 zeroR), (3, .box 25 zeroR), (5, .box 25 [.r (sumLen a.links) (64 + 64 * a.links.length)]), (7, .box 25 [.r x.m 1000])]⟩, fun x => leastV (sumLen a.links) (a.links.drop x.i) x.m = leastV (sumLen a.links) a.links 0 ∧ x.i ≤ a.links.length, fun x => a.links.length - x.i, fun _ => 0⟩
def L120r : List (Nat × Ctr) := L117
def T120r : Tabs := mkT L120r M79 X4
theorem L120rok : CtrsOK Tryd.prog tabG debT L120r := L117ok
theorem T120rok : TabsOK Tryd.prog tabG debT T120r := mkTok L120rok M79ok X4ok
def ot_iRing : OT := fun id => bif id.beq 8 then ([0, 2, 3, 5, 1, 4, 6, 7, 8], [[], [], [], [2], [1, 3, 2], [], [4, 1, 3, 2, 5], [0, 6, 4, 1, 3, 2, 5], [7, 0, 6, 4, 1, 3, 2, 5]]) else bif id.beq 10 then ([0, 1, 2, 3, 4], [[], [], [0], [1, 2, 0], [3, 1, 2, 0]]) else ([], [])
def goal_iRing (a : ArmV) (K : AV → Prop) : Prop := goalL T120r ot_iRing (inv_ring a) Tryd.f47 [armA a] K
theorem goal_iRing_vc (a : ArmV) (K : AV → Prop) : goal_iRing a K = (
 ∃ (a_1 : ArmV),
 [Ch.v (Value.string (ArmV.name a)), Ch.r (ArmV.x a) (63 : Nat), Ch.r (ArmV.y a) (63 : Nat), Ch.v (Value.bool (ArmV.half a)),
 Ch.r (ArmV.t a) (63 : Nat), Ch.s (16 : Nat) (List.map linkCh (ArmV.links a))] =
 [Ch.v (Value.string (ArmV.name a_1)), Ch.r (ArmV.x a_1) (63 : Nat), Ch.r (ArmV.y a_1) (63 : Nat), Ch.v (Value.bool (ArmV.half a_1)),
 Ch.r (ArmV.t a_1) (63 : Nat), Ch.s (16 : Nat) (List.map linkCh (ArmV.links a_1))] ∧
 GoodArm a_1 ∧
 ((-9223372036854775808 : Int) ≤ (0 : Int) ∧ (0 : Int) < (9223372036854775808 : Int)) ∧
 (∃ (x : RgX),
 ((leastV (sumLen (ArmV.links a)) (List.drop (RgX.i x) (ArmV.links a)) (RgX.m x) =
 leastV (sumLen (ArmV.links a)) (ArmV.links a) (OfNat.ofNat (0 : Nat)) ∧
 RgX.i x ≤ List.length (ArmV.links a)) ∧
 OfNat.ofNat (0 : Nat) = (0 : Nat)) ∧
 (0 : Nat) = (0 : Nat) ∧
 (0 : Nat) = (0 : Nat) ∧
 (0 : Nat) = (0 : Nat) ∧
 (0 : Nat) = (0 : Nat) ∧
 (0 : Nat) = (0 : Nat) ∧
 (16 : Nat) = (16 : Nat) ∧
 List.map linkCh (ArmV.links a) = List.map linkCh (ArmV.links a) ∧
 Int.ofNat (List.length (List.map linkCh (ArmV.links a))) = Int.ofNat (List.length (ArmV.links a)) ∧
 (0 : Int) = Int.ofNat (RgX.i x) ∧
 (34 : Nat) = (34 : Nat) ∧
 ArmV.name a = ArmV.name a ∧
 ArmV.x a = ArmV.x a ∧
 (63 : Nat) ≤ (63 : Nat) ∧
 ArmV.y a = ArmV.y a ∧
 (63 : Nat) ≤ (63 : Nat) ∧
 ArmV.half a = ArmV.half a ∧
 ArmV.t a = ArmV.t a ∧
 (63 : Nat) ≤ (63 : Nat) ∧
 (16 : Nat) = (16 : Nat) ∧
 List.map linkCh (ArmV.links a) = List.map linkCh (ArmV.links a) ∧
 (25 : Nat) = (25 : Nat) ∧
 false = false ∧
 ByteArray.mk (Array.mk []) = ByteArray.mk (Array.mk []) ∧
 ByteArray.mk (Array.mk []) = ByteArray.mk (Array.mk []) ∧
 (25 : Nat) = (25 : Nat) ∧
 false = false ∧
 ByteArray.mk (Array.mk []) = ByteArray.mk (Array.mk []) ∧
 ByteArray.mk (Array.mk []) = ByteArray.mk (Array.mk []) ∧
 (25 : Nat) = (25 : Nat) ∧
 sumLen (ArmV.links a_1) = sumLen (ArmV.links a) ∧
 (64 : Nat) + (64 : Nat) * List.length (ArmV.links a_1) ≤
 (64 : Nat) + (64 : Nat) * List.length (ArmV.links a) ∧
 (25 : Nat) = (25 : Nat) ∧
 (((0 : Int) : Int) : Rat) = RgX.m x ∧ (64 : Nat) ≤ (1000 : Nat) ∧ True) ∧
 ∀ (x : RgX),
 leastV (sumLen (ArmV.links a)) (List.drop (RgX.i x) (ArmV.links a)) (RgX.m x) =
 leastV (sumLen (ArmV.links a)) (ArmV.links a) (OfNat.ofNat (0 : Nat)) ∧
 RgX.i x ≤ List.length (ArmV.links a) →
 OfNat.ofNat (0 : Nat) = (0 : Nat) →
 bif decide (Int.ofNat (RgX.i x) < Int.ofNat (List.length (ArmV.links a))) then
 ((0 : Int) ≤ Int.ofNat (RgX.i x) ∧ Int.ofNat (RgX.i x) < Int.ofNat (List.length (List.map linkCh (ArmV.links a)))) ∧
 ∃ (q : Rat),
 ∃ (n : Nat),
 ∃ (q_1 : Rat),
 ∃ (n_1 : Nat),
 ∃ (q_2 : Rat),
 ∃ (n_2 : Nat),
 ∃ (q_3 : Rat),
 ∃ (n_3 : Nat),
 ∃ (q_4 : Rat),
 ∃ (n_4 : Nat),
 ∃ (ys : List (List Ch)),
 ldE (List.map linkCh (ArmV.links a)) (Int.toNat (Int.ofNat (RgX.i x))) (0 : Nat) (16 : Nat) =
 some [Ch.r q n, Ch.r q_1 n_1, Ch.r q_2 n_2, Ch.r q_3 n_3, Ch.r q_4 n_4, Ch.s (6 : Nat) ys] ∧
 ((-9223372036854775808 : Int) ≤ (2 : Int) ∧ (2 : Int) < (9223372036854775808 : Int)) ∧
 (64 : Nat) + n ≤ (4294967296 : Nat) ∧
 (64 : Nat) + n + ((64 : Nat) + (64 : Nat) * List.length (ArmV.links a)) + (1 : Nat) ≤
 (4294967296 : Nat) ∧
 (1000 : Nat) +
 ((64 : Nat) + n + ((64 : Nat) + (64 : Nat) * List.length (ArmV.links a)) +
 (1 : Nat)) ≤
 (4294967296 : Nat) ∧
 ∃ (x' : RgX),
 ((leastV (sumLen (ArmV.links a)) (List.drop (RgX.i x') (ArmV.links a)) (RgX.m x') =
 leastV (sumLen (ArmV.links a)) (ArmV.links a) (OfNat.ofNat (0 : Nat)) ∧
 RgX.i x' ≤ List.length (ArmV.links a)) ∧
 OfNat.ofNat (0 : Nat) = (0 : Nat) ∧
 List.length (ArmV.links a) - RgX.i x' < List.length (ArmV.links a) - RgX.i x) ∧
 (0 : Nat) = (0 : Nat) ∧
 (0 : Nat) = (0 : Nat) ∧
 (0 : Nat) = (0 : Nat) ∧
 (0 : Nat) = (0 : Nat) ∧
 (0 : Nat) = (0 : Nat) ∧
 (16 : Nat) = (16 : Nat) ∧
 List.map linkCh (ArmV.links a) = List.map linkCh (ArmV.links a) ∧
 Int.ofNat (List.length (ArmV.links a)) =
 Int.ofNat (List.length (ArmV.links a)) ∧
 IntKind.wrap IntKind.i64 (Int.ofNat (RgX.i x) + (1 : Int)) =
 Int.ofNat (RgX.i x') ∧
 (34 : Nat) = (34 : Nat) ∧
 ArmV.name a = ArmV.name a ∧
 ArmV.x a = ArmV.x a ∧
 (63 : Nat) ≤ (63 : Nat) ∧
 ArmV.y a = ArmV.y a ∧
 (63 : Nat) ≤ (63 : Nat) ∧
 ArmV.half a = ArmV.half a ∧
 ArmV.t a = ArmV.t a ∧
 (63 : Nat) ≤ (63 : Nat) ∧
 (16 : Nat) = (16 : Nat) ∧
 List.map linkCh (ArmV.links a) =
 List.map linkCh (ArmV.links a) ∧
 (25 : Nat) = (25 : Nat) ∧
 false = false ∧
 ByteArray.mk (Array.mk []) =
 ByteArray.mk (Array.mk []) ∧
 ByteArray.mk (Array.mk []) =
 ByteArray.mk (Array.mk []) ∧
 (25 : Nat) = (25 : Nat) ∧
 false = false ∧
 ByteArray.mk (Array.mk []) =
 ByteArray.mk (Array.mk []) ∧
 ByteArray.mk (Array.mk []) =
 ByteArray.mk
 (Array.mk []) ∧
 (25 : Nat) = (25 : Nat) ∧
 sumLen (ArmV.links a) =
 sumLen
 (ArmV.links a) ∧
 (64 : Nat) +
 (64 : Nat) *
 List.length
 (ArmV.links
 a) ≤
 (64 : Nat) +
 (64 : Nat) *
 List.length
 (ArmV.links
 a) ∧
 (25 : Nat) =
 (25 : Nat) ∧
 maxR (RgX.m x)
 ((((2 : Int) : Int) : Rat) *
 q -
 sumLen
 (ArmV.links
 a)) =
 RgX.m x' ∧
 max (1000 : Nat)
 ((64 :
 Nat) +
 n +
 ((64 :
 Nat) +
 (64 :
 Nat) *
 List.length
 (ArmV.links
 a)) +
 (1 :
 Nat)) ≤
 (1000 : Nat) ∧
 True
 else
 K
 (AV.t
 [(true, [Ch.r (RgX.m x) (1000 : Nat)]),
 (true, [Ch.r (sumLen (ArmV.links a)) ((64 : Nat) + (64 : Nat) * List.length (ArmV.links a))]),
 (false, [Ch.v (Value.int IntKind.i64 (0 : Int))])])) := by kernel_rfl
theorem g_iRing (a : ArmV) (hc : (GoodArm a)) (K : AV → Prop) (hK : ∀ n m, n ≤ 1000 → m ≤ 1000 → K (.t [(true, [.r (leastV (sumLen a.links) a.links 0) n]), (true, [.r (sumLen a.links) m]), (false, [.v (.int .i64 0)])])) : Holds (goal_iRing a K) := by
  refine ⟨?_⟩
  rw [goal_iRing_vc]
  try simp only [Int.ofNat_eq_natCast, true_and, and_true, Nat.le_refl, true_implies]
  have hn := hc.n
  simp only [List.length_map]
  refine ⟨a, rfl, hc, by omega, ⟨⟨0, 0⟩, ⟨rfl, by simp⟩, trivial, rfl, rfl, by omega, rfl, by omega⟩, fun x hx => bif_mk (fun hp => ?_) (fun hp => ?_)⟩
  · have hp : x.i < a.links.length := by have := of_decide_eq_true hp; omega
    obtain ⟨L, hL⟩ : ∃ L, a.links[x.i]? = some L := ⟨_, List.getElem?_eq_getElem hp⟩
    have he := hx.1
    rw [drop_get hL, leastV] at he
    exact ⟨by omega, _, _, _, _, _, _, _, _, _, _, _, link_ld (by simpa using hL), by omega, by omega, by omega, by omega, ⟨_, x.i + 1⟩, ⟨⟨he, hp⟩, by simp only; omega⟩, by rw [w64 (by omega)]; simp, rfl, by omega⟩
  · have hp : x.i = a.links.length := by have := of_decide_eq_false hp; have := hx.2; omega
    have he := hx.1
    rw [hp, List.drop_length, leastV] at he
    have := hK 1000 (64 + 64 * a.links.length) (by omega) (by omega)
    rw [← he] at this
    exact this
def c_iRing : Ctr := fun as0 => match as0 with
  | [.x true xs] => some fun K => ∃ (a : ArmV), xs = armCh a ∧ ((GoodArm a)) ∧ (∀ n m, n ≤ 1000 → m ≤ 1000 → K (.t [(true, [.r (leastV (sumLen a.links) a.links 0) n]), (true, [.r (sumLen a.links) m]), (false, [.v (.int .i64 0)])]))
  | _ => none
theorem ok_iRing : CtrOK Tryd.prog tabG debT 47 c_iRing := by
  refine ⟨enters Tryd.func47 (by kernel_rfl), fun l T hT K hK => ?_⟩
  unfold c_iRing at hT
  split at hT
  · cases hT
    obtain ⟨a, rfl, hc, hK⟩ := hK
    exact spec_ofL T120rok mixed Tryd.func47 (by kernel_rfl) (by kernel_rfl) (by rfl) (g_iRing _ hc K hK)
  · cases hT
def L121 : List (Nat × Ctr) := (47, c_iRing) :: L120r
def T121 : Tabs := mkT L121 M79 X4
theorem L121ok : CtrsOK Tryd.prog tabG debT L121 := .cons ok_iRing L120rok
theorem T121ok : TabsOK Tryd.prog tabG debT T121 := mkTok L121ok M79ok X4ok
-- the newest table: L121 M79 X4 T121
def ot_iring : OT := fun id => bif id.beq 2 then ([0, 1, 2, 3, 4, 5, 6, 7, 8, 9, 10, 11], [[], [0], [1, 0], [2, 1, 0], [2, 1, 0], [3, 2, 1, 0, 4], [2, 1, 0, 5, 3, 4], [6, 2, 1, 0, 5, 3, 4], [7, 6, 2, 1, 0, 5, 3, 4], [7, 6, 2, 1, 0, 5, 3, 4], [8, 7, 6, 2, 1, 0, 5, 3, 4, 9], [7, 6, 2, 1, 0, 5, 3, 4, 10, 8, 9]]) else bif id.beq 6 then ([0, 1, 2, 8, 3, 4, 5, 6, 7, 9, 10], [[], [], [], [1, 2], [0, 3, 1, 2], [4, 0, 3, 1, 2], [5, 4, 0, 3, 1, 2], [5, 4, 0, 3, 1, 2], [], [8, 6, 5, 4, 0, 3, 1, 2], [7, 5, 4, 0, 3, 1, 2, 9, 8, 6]]) else bif id.beq 9 then ([0, 1, 2, 3, 4, 5, 6, 7, 8, 9, 10, 11, 12, 13, 14, 15, 16, 17, 18, 19, 20, 21, 22], [[], [0], [1, 0], [2, 1, 0], [3, 2, 1, 0], [2, 1, 0, 4, 3], [5, 2, 1, 0, 4, 3], [6, 5, 2, 1, 0, 4, 3], [6, 5, 2, 1, 0, 4, 3], [6, 5, 2, 1, 0, 4, 3], [8, 6, 5, 2, 1, 0, 4, 3, 9], [7, 6, 5, 2, 1, 0, 4, 3, 10, 8, 9], [11, 7, 6, 5, 2, 1, 0, 4, 3, 10, 8, 9], [6, 5, 2, 1, 0, 4, 3, 12, 11, 7, 10, 8, 9], [13, 6, 5, 2, 1, 0, 4, 3, 12, 11, 7, 10, 8, 9], [14, 13, 6, 5, 2, 1, 0, 4, 3, 12, 11, 7, 10, 8, 9], [14, 13, 6, 5, 2, 1, 0, 4, 3, 12, 11, 7, 10, 8, 9], [14, 13, 6, 5, 2, 1, 0, 4, 3, 12, 11, 7, 10, 8, 9], [16, 14, 13, 6, 5, 2, 1, 0, 4, 3, 12, 11, 7, 10, 8, 9, 17], [15, 14, 13, 6, 5, 2, 1, 0, 4, 3, 12, 11, 7, 10, 8, 9, 18, 16, 17], [19, 15, 14, 13, 6, 5, 2, 1, 0, 4, 3, 12, 11, 7, 10, 8, 9, 18, 16, 17], [14, 13, 6, 5, 2, 1, 0, 4, 3, 12, 11, 7, 10, 8, 9, 20, 19, 15, 18, 16, 17], [21, 14, 13, 6, 5, 2, 1, 0, 4, 3, 12, 11, 7, 10, 8, 9, 20, 19, 15, 18, 16, 17]]) else ([], [])
def goal_iring (l m : List Int) (K : AV → Prop) : Prop := goalL T121 ot_iring noL Tryd.f9 [.x false [.s 1 (ints l)], .x false [.s 1 (ints m)]] K
theorem goal_iring_vc (l : List Int) (m : List Int) (K : AV → Prop) : goal_iring l m K = (
 ∃ (ns : List Int),
 [[Ch.v (Value.int IntKind.i64 (5 : Int))], [Ch.v (Value.int IntKind.i64 (2 : Int))]] = ints ns ∧
 (List.length ns ≤ (3 : Nat) ∧ ∀ (n : Int), n ∈ ns → (1 : Int) ≤ n ∧ n ≤ (1000 : Int)) ∧
 ∃ (a : ArmV),
 [Ch.v (Value.string (ArmV.name (sampleV ns))), Ch.r (ArmV.x (sampleV ns)) (63 : Nat), Ch.r (ArmV.y (sampleV ns)) (63 : Nat),
 Ch.v (Value.bool false), Ch.r (ArmV.t (sampleV ns)) (63 : Nat), Ch.s (16 : Nat) (List.map linkCh (ArmV.links (sampleV ns)))] =
 [Ch.v (Value.string (ArmV.name a)), Ch.r (ArmV.x a) (63 : Nat), Ch.r (ArmV.y a) (63 : Nat), Ch.v (Value.bool (ArmV.half a)),
 Ch.r (ArmV.t a) (63 : Nat), Ch.s (16 : Nat) (List.map linkCh (ArmV.links a))] ∧
 GoodArm a ∧
 ∀ (n m_1 : Nat),
 n ≤ (1000 : Nat) →
 m_1 ≤ (1000 : Nat) →
 (((-9223372036854775808 : Int) < (3 : Int) ∧ (3 : Int) < (9223372036854775808 : Int)) ∧
 (0 : Int) < (1 : Int) ∧ (1 : Int) < (9223372036854775808 : Int)) ∧
 bif
 !(decide (leastV (sumLen (ArmV.links a)) (ArmV.links a) (0 : Rat) = mkRat (3 : Int) (Int.toNat (1 : Int))) &&
 true) then
 K (AV.x false [Ch.v (Value.bool false)])
 else
 (((-9223372036854775808 : Int) < (7 : Int) ∧ (7 : Int) < (9223372036854775808 : Int)) ∧
 (0 : Int) < (1 : Int) ∧ (1 : Int) < (9223372036854775808 : Int)) ∧
 bif !(decide (sumLen (ArmV.links a) = mkRat (7 : Int) (Int.toNat (1 : Int))) && true) then
 K (AV.x false [Ch.v (Value.bool false)])
 else
 ∃ (l_1 : List Int),
 ints l = ints l_1 ∧
 List.length l_1 ≤ (9223372036854775807 : Nat) ∧
 ∀ (a : ArmV),
 Made a ∧ (1 : Nat) ≤ List.length (ArmV.links a) →
 ∃ (a_4 : ArmV),
 [Ch.v (Value.string (ArmV.name a)), Ch.r (ArmV.x a) (63 : Nat), Ch.r (ArmV.y a) (63 : Nat),
 Ch.v (Value.bool (ArmV.half a)), Ch.r (ArmV.t a) (63 : Nat),
 Ch.s (16 : Nat) (List.map linkCh (ArmV.links a))] =
 [Ch.v (Value.string (ArmV.name a_4)), Ch.r (ArmV.x a_4) (63 : Nat), Ch.r (ArmV.y a_4) (63 : Nat),
 Ch.v (Value.bool (ArmV.half a_4)), Ch.r (ArmV.t a_4) (63 : Nat),
 Ch.s (16 : Nat) (List.map linkCh (ArmV.links a_4))] ∧
 GoodArm a_4 ∧
 ∀ (n m_2 : Nat),
 n ≤ (1000 : Nat) →
 m_2 ≤ (1000 : Nat) →
 ∃ (a_7 : ArmV),
 ∃ (l : List Int),
 [Ch.v (Value.string (ArmV.name a)), Ch.r (ArmV.x a) (63 : Nat),
 Ch.r (ArmV.y a) (63 : Nat), Ch.v (Value.bool (ArmV.half a)),
 Ch.r (ArmV.t a) (63 : Nat), Ch.s (16 : Nat) (List.map linkCh (ArmV.links a))] =
 [Ch.v (Value.string (ArmV.name a_7)), Ch.r (ArmV.x a_7) (63 : Nat),
 Ch.r (ArmV.y a_7) (63 : Nat), Ch.v (Value.bool (ArmV.half a_7)),
 Ch.r (ArmV.t a_7) (63 : Nat),
 Ch.s (16 : Nat) (List.map linkCh (ArmV.links a_7))] ∧
 ints m = ints l ∧
 (GoodArm a_7 ∧ List.length l ≤ (9223372036854775807 : Nat)) ∧
 ∀ (qs : List Rat),
 (∀ (i : Nat) (L : LinkV) (q : Rat),
 (ArmV.links a_7)[i]? = some L →
 qs[i]? = some q → LinkV.lo L ≤ q ∧ q ≤ LinkV.hi L) →
 List.length qs = List.length (ArmV.links a_7) →
 ∃ (a_10 : ArmV),
 ∃ (b : Nat),
 ∃ (qs_1 : List Rat),
 [Ch.v (Value.string (ArmV.name a)), Ch.r (ArmV.x a) (63 : Nat),
 Ch.r (ArmV.y a) (63 : Nat), Ch.v (Value.bool (ArmV.half a)),
 Ch.r (ArmV.t a) (63 : Nat),
 Ch.s (16 : Nat) (List.map linkCh (ArmV.links a))] =
 [Ch.v (Value.string (ArmV.name a_10)),
 Ch.r (ArmV.x a_10) (63 : Nat), Ch.r (ArmV.y a_10) (63 : Nat),
 Ch.v (Value.bool (ArmV.half a_10)),
 Ch.r (ArmV.t a_10) (63 : Nat),
 Ch.s (16 : Nat) (List.map linkCh (ArmV.links a_10))] ∧
 lR (63 : Nat) qs = lR b qs_1 ∧
 (GoodArm a_10 ∧
 b ≤ (400 : Nat) ∧
 List.length qs_1 = List.length (ArmV.links a_10)) ∧
 ∀ (n_1 : Nat) (f : FrV),
 n_1 ≤ (120000000 : Nat) →
 (framesV (baseV a_10) (ArmV.links a_10)
 qs_1)[List.length (ArmV.links a_10)]? =
 some f →
 (n_1 + (63 : Nat) ≤ (4294967290 : Nat) ∧
 n_1 + (63 : Nat) ≤ (4294967290 : Nat)) ∧
 n_1 + (63 : Nat) + (1 : Nat) +
 (n_1 + (63 : Nat) + (1 : Nat)) +
 (n_1 + (63 : Nat) + (1 : Nat)) +
 (n_1 + (63 : Nat) + (1 : Nat)) ≤
 (4294967290 : Nat) ∧
 n + n ≤ (4294967296 : Nat) ∧
 n_1 + (63 : Nat) + (1 : Nat) +
 (n_1 + (63 : Nat) + (1 : Nat)) +
 (n_1 + (63 : Nat) + (1 : Nat) +
 (n_1 + (63 : Nat) + (1 : Nat))) +
 (1 : Nat) +
 (n + n) ≤
 (4294967296 : Nat) ∧
 bif
 decide
 (cmpR
 ((FrV.x f - ArmV.x a) *
 (FrV.x f - ArmV.x a) +
 (FrV.y f - ArmV.y a) *
 (FrV.y f - ArmV.y a))
 (leastV (sumLen (ArmV.links a_4))
 (ArmV.links a_4)
 (OfNat.ofNat (0 : Nat)) *
 leastV (sumLen (ArmV.links a_4))
 (ArmV.links a_4)
 (OfNat.ofNat (0 : Nat))) ≥
 (0 : Int)) then
 m_2 + m_2 ≤ (4294967296 : Nat) ∧
 n_1 + (63 : Nat) + (1 : Nat) +
 (n_1 + (63 : Nat) + (1 : Nat)) +
 (n_1 + (63 : Nat) + (1 : Nat) +
 (n_1 + (63 : Nat) + (1 : Nat))) +
 (1 : Nat) +
 (m_2 + m_2) ≤
 (4294967296 : Nat) ∧
 K
 (AV.x false
 [Ch.v
 (Value.bool
 (decide
 (cmpR
 ((FrV.x f - ArmV.x a) *
 (FrV.x f - ArmV.x a) +
 (FrV.y f - ArmV.y a) *
 (FrV.y f - ArmV.y a))
 (sumLen (ArmV.links a_4) *
 sumLen (ArmV.links a_4)) ≤
 (0 : Int))))])
 else K (AV.x false [Ch.v (Value.bool false)])) := by kernel_rfl
theorem maxR_cases' (a b : Rat) : maxR a b = a ∨ maxR a b = b := by unfold maxR; split <;> simp
theorem least_or (S : Rat) : ∀ (ls : List LinkV) (m : Rat), leastV S ls m = m ∨ ∃ (i : Nat) (L : LinkV), ls[i]? = some L ∧ leastV S ls m = 2 * L.len - S := by
  intro ls
  induction ls with
  | nil => intro m; exact .inl rfl
  | cons L ls ih =>
    intro m
    rcases ih (maxR m (((2 : Int) : Rat) * L.len - S)) with h | ⟨i, M, h1, h2⟩
    · rcases maxR_cases' m (((2 : Int) : Rat) * L.len - S) with k | k
      · exact .inl (by show leastV S ls _ = m; rw [h, k])
      · exact .inr ⟨0, L, rfl, by show leastV S ls _ = _; rw [h, k]; rfl⟩
    · exact .inr ⟨i + 1, M, h1, h2⟩
theorem least_ge (S : Rat) : ∀ (ls : List LinkV) (m : Rat), m ≤ leastV S ls m := by
  intro ls
  induction ls with
  | nil => intro m; exact Rat.le_refl
  | cons L ls ih =>
    intro m
    refine Rat.le_trans ?_ (ih (maxR m (((2 : Int) : Rat) * L.len - S)))
    unfold maxR; split
    · exact Rat.le_refl
    · rename_i h; exact Rat.le_of_lt (Rat.not_le.1 h)
theorem ring_law {a : ArmV} {qs : List Rat} {g : FrV} (ha : GoodArm a) (hq : qs.length = a.links.length) (hg : (framesV (baseV a) a.links qs)[a.links.length]? = some g) :
    leastV (sumLen a.links) a.links 0 * leastV (sumLen a.links) a.links 0 ≤ (g.x - a.x) * (g.x - a.x) + (g.y - a.y) * (g.y - a.y) ∧ (g.x - a.x) * (g.x - a.x) + (g.y - a.y) * (g.y - a.y) ≤ sumLen a.links * sumLen a.links := by
  have hp : ∀ L ∈ a.links, 0 < L.len := fun L hL => (ha.links L hL).len
  refine ⟨?_, reach_hi a.links qs (baseV a) g hq hp hg⟩
  have h0 := least_ge (sumLen a.links) a.links 0
  rcases least_or (sumLen a.links) a.links 0 with h | ⟨i, L, hL, h⟩
  · rw [h]
    have := sq_nn (g.x - a.x)
    have := sq_nn (g.y - a.y)
    grind
  · rw [h] at h0 ⊢
    have := reach_lo a.links qs (baseV a) g i L 0 0 0 hq hp hg hL Rat.le_refl (by grind) (by grind)
    show _ ≤ (g.x - (baseV a).x) * (g.x - (baseV a).x) + (g.y - (baseV a).y) * (g.y - (baseV a).y)
    grind
theorem g_iring (l m : List Int) (hl : l.length ≤ 9223372036854775807) (hm : m.length ≤ 9223372036854775807) (K : AV → Prop) (hK : K (.x false [.v (.bool true)])) : Holds (goal_iring l m K) := by
  refine ⟨?_⟩
  rw [goal_iring_vc]
  have e : leastV (sumLen (sampleV [5, 2]).links) (sampleV [5, 2]).links 0 = mkRat 3 1 ∧ sumLen (sampleV [5, 2]).links = mkRat 7 1 := by decide +kernel
  refine ⟨[5, 2], rfl, ⟨by simp, by simp⟩, sampleV [5, 2], rfl, sample_good (by simp) (by simp), fun n m1 hn hm1 => ⟨by omega, bif_mk (fun h => ?_) (fun _ => ⟨by omega, bif_mk (fun h => ?_) (fun _ => ⟨l, rfl, hl, fun a ha => ⟨a, rfl, MadeA.good ha, fun n m2 hn hm2 => ⟨a, m, rfl, rfl, ⟨MadeA.good ha, hm⟩, fun qs _ hq => ⟨a, 63, qs, rfl, rfl, ⟨MadeA.good ha, by omega, hq⟩, fun k f hk hf => ⟨by omega, by omega, by omega, by omega, ?_⟩⟩⟩⟩⟩)⟩)⟩⟩
  · exfalso; rw [e.1] at h; simp at h
  · exfalso; rw [e.2] at h; simp at h
  · obtain ⟨h1, h2⟩ := ring_law (MadeA.good ha) hq hf
    refine bif_mk (fun _ => ⟨by omega, by omega, ?_⟩) (fun h => absurd ((cmp_ge _ _).2 h1) (of_decide_eq_false h))
    rw [decide_eq_true ((cmp_le _ _).2 h2)]
    exact hK
theorem spec_iring (l m : List Int) (hl : l.length ≤ 9223372036854775807) (hm : m.length ≤ 9223372036854775807) : Eng.Spec Tryd.prog tabG debT 9 [.x false [.s 1 (ints l)], .x false [.s 1 (ints m)]] (fun av => av = .x false [.v (.bool true)]) :=
  spec_ofL T121ok mixed Tryd.func9 (by kernel_rfl) (by kernel_rfl) (by rfl) (g_iring l m hl hm _ rfl)
end Go.Proofs
