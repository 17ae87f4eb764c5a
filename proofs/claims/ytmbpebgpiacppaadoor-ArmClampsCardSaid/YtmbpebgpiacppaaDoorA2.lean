/- The sample arm; the length of an arm. -/
import Derived.Test.YtmbpebgpiacppaaDoorA1
/- The sample arm; the length of an arm. -/
namespace Go.Proofs
open Go Go.Eng
def pt1 (x y : Int) : Rat × Rat := (mkRat x 1, mkRat y 1)
def slink (n : Int) : LinkV := ⟨mkRat n 1, mkRat (-2) 1, mkRat 2 1, mkRat 1 4, mkRat 1 10, [pt1 0 (-1), pt1 n (-1), pt1 n 1, pt1 0 1]⟩
def sampleV (ns : List Int) : ArmV := ⟨oneS, mkRat 0 1, mkRat 0 1, false, mkRat 0 1, ns.map slink⟩
structure SmX where
  i : Nat
  ls : List LinkV
structure LnX where
  i : Nat
  s : Rat
def sumLen : List LinkV → Rat
  | [] => 0
  | L :: ls => L.len + sumLen ls
theorem int_ld {l : List Int} {i : Nat} {n : Int} (h : l[i]? = some n) : ldE (ints l) i 0 1 = some [.v (.int .i64 n)] := by
  simp only [ldE, ints, List.getElem?_map, h]; rfl
theorem slinks_ok : ([3, 2, 5, 1] : List Int).all (fun n => polyB (slink n).shape) = true := by decide +kernel
theorem slink_good {n : Int} (h : n ∈ ([3, 2, 5, 1] : List Int)) : GoodLink (slink n) := by
  have hp := polyB_ok (List.all_eq_true.1 slinks_ok n h)
  have hn : 1 ≤ n ∧ n ≤ 1000 := by simp at h; omega
  refine ⟨⟨?_, ?_, ?_, ?_, ?_⟩, ?_, ?_, ?_, ?_, hp, fun p hp => ?_⟩
  · exact small_mk (by omega) (by decide)
  · exact small_mk (by decide) (by decide)
  · exact small_mk (by decide) (by decide)
  · exact small_mk (by decide) (by decide)
  · exact small_mk (by decide) (by decide)
  · exact mkRat_pos (by omega) (by decide)
  · show mkRat (-2) 1 < mkRat 2 1
    decide +kernel
  · exact mkRat_pos (by decide) (by decide)
  · exact mkRat_pos (by decide) (by decide)
  · have c : ∀ x y : Int, x.natAbs ≤ 1000000 → y.natAbs ≤ 1000000 → SmallR (pt1 x y).1 ∧ SmallR (pt1 x y).2 := fun x y hx hy => ⟨small_mk hx (by decide), small_mk hy (by decide)⟩
    simp only [slink, List.mem_cons, List.not_mem_nil, or_false] at hp
    rcases hp with rfl | rfl | rfl | rfl <;> exact c _ _ (by omega) (by omega)
theorem sample_good {ns : List Int} (h1 : 1 ≤ ns.length ∧ ns.length ≤ 3) (h2 : ∀ n ∈ ns, n ∈ ([3, 2, 5, 1] : List Int)) : GoodArm (sampleV ns) := by
  refine ⟨oneS_ok, by simpa [sampleV] using h1, ⟨?_, ?_, ?_⟩, fun h => Bool.noConfusion h, fun L hL => ?_⟩
  · exact small_mk (by decide) (by decide)
  · exact small_mk (by decide) (by decide)
  · exact small_mk (by decide) (by decide)
  · obtain ⟨n, hn, rfl⟩ := List.mem_map.1 hL
    exact slink_good (h2 n hn)
def ot_kPt : OT := fun _ => ([], [])
def goal_kPt (x y : Int) (K : AV → Prop) : Prop := goalL T49 ot_kPt noL Tryd.f73 [iA .i64 x, iA .i64 y] K
theorem goal_kPt_vc (x : Int) (y : Int) (K : AV → Prop) : goal_kPt x y K = (
 (((-9223372036854775808 : Int) < x ∧ x < (9223372036854775808 : Int)) ∧ (0 : Int) < (1 : Int) ∧ (1 : Int) < (9223372036854775808 : Int)) ∧
 (((-9223372036854775808 : Int) < y ∧ y < (9223372036854775808 : Int)) ∧ (0 : Int) < (1 : Int) ∧ (1 : Int) < (9223372036854775808 : Int)) ∧
 K (AV.x true [Ch.r (mkRat x (1 : Nat)) (63 : Nat), Ch.r (mkRat y (1 : Nat)) (63 : Nat)])) := by kernel_rfl
theorem g_kPt (x y : Int) (hc : ((-9223372036854775808 < x ∧ x < 9223372036854775808) ∧ -9223372036854775808 < y ∧ y < 9223372036854775808)) (K : AV → Prop) (hK : K (.x true (vecCh (pt1 x y)))) : Holds (goal_kPt x y K) := by
  refine ⟨?_⟩
  rw [goal_kPt_vc]
  try simp only [Int.ofNat_eq_natCast, true_and, and_true, Nat.zero_add, Nat.le_refl, true_implies, true_or, or_true]
  exact ⟨by omega, by omega, hK⟩
def c_kPt : Ctr := fun as0 => match as0 with
  | [.x false [.v (.int .i64 x)], .x false [.v (.int .i64 y)]] => some fun K => (((-9223372036854775808 < x ∧ x < 9223372036854775808) ∧ -9223372036854775808 < y ∧ y < 9223372036854775808)) ∧ (K (.x true (vecCh (pt1 x y))))
  | _ => none
theorem ok_kPt : CtrOK Tryd.prog tabG debT 73 c_kPt := by
  refine ⟨enters Tryd.func73 (by kernel_rfl), fun l T hT K hK => ?_⟩
  unfold c_kPt at hT
  split at hT
  · cases hT
    obtain ⟨hc, hK⟩ := hK
    exact spec_ofL T49ok mixed Tryd.func73 (by kernel_rfl) (by kernel_rfl) (by rfl) (g_kPt _ _ hc K hK)
  · cases hT
def L50 : List (Nat × Ctr) := (73, c_kPt) :: L49
def T50 : Tabs := mkT L50 M48 X4
theorem L50ok : CtrsOK Tryd.prog tabG debT L50 := .cons ok_kPt L49ok
theorem T50ok : TabsOK Tryd.prog tabG debT T50 := mkTok L50ok M48ok X4ok
def ot_kSample : OT := fun id => bif id.beq 5 then ([0, 1, 2, 9, 11, 3, 4, 5, 6, 7, 8, 10, 12, 13, 14, 15, 16, 17, 18, 19], [[], [0], [], [2], [3, 2], [4, 3, 2], [5, 4, 3, 2], [6, 5, 4, 3, 2], [7, 6, 5, 4, 3, 2], [], [9, 8, 7, 6, 5, 4, 3, 2], [], [11, 10, 9, 8, 7, 6, 5, 4, 3, 2], [12, 11, 10, 9, 8, 7, 6, 5, 4, 3, 2], [8, 7, 6, 5, 4, 3, 2, 10, 9, 12, 11, 13], [3, 2, 4, 5, 6, 7, 14, 8, 10, 9, 12, 11, 13], [15, 3, 2, 4, 5, 6, 7, 14, 8, 10, 9, 12, 11, 13], [1, 0, 16, 15, 3, 2, 4, 5, 6, 7, 14, 8, 10, 9, 12, 11, 13], [0, 1, 2, 3, 4, 5, 6, 7, 8, 9, 10, 11, 12, 13, 14, 15, 16, 17], [18, 0, 1, 2, 3, 4, 5, 6, 7, 8, 9, 10, 11, 12, 13, 14, 15, 16, 17]]) else ([], [])
def goal_kSample (ns : List Int) (K : AV → Prop) : Prop := goalL T50 ot_kSample (fun _ => .inv ⟨SmX, fun x => ⟨[(2, .x false [.p 2 0]), (3, .x false [.p 3 0]), (11, .x false [.s 1 (ints ns)]), (12, iA .i64 ns.length), (13, iA .i64 x.i)], [(2, .box 34 zeroArm), (3, .box 34 [.v (.string oneS), .r (mkRat 0 1) 63, .r (mkRat 0 1) 63, .v (.bool false), .r (mkRat 0 1) 63, .w 500 0 x.ls.length]), (500, rowLk x.ls)]⟩, fun x => x.ls = (ns.take x.i).map slink ∧ x.i ≤ ns.length, fun x => ns.length - x.i, fun _ => 0⟩) Tryd.f31 [.x false [.s 1 (ints ns)]] K
theorem goal_kSample_vc (ns : List Int) (K : AV → Prop) : goal_kSample ns K = (
 (((-9223372036854775808 : Int) < (0 : Int) ∧ (0 : Int) < (9223372036854775808 : Int)) ∧
 (-9223372036854775808 : Int) < (0 : Int) ∧ (0 : Int) < (9223372036854775808 : Int)) ∧
 (((-9223372036854775808 : Int) < (0 : Int) ∧ (0 : Int) < (9223372036854775808 : Int)) ∧
 (0 : Int) < (1 : Int) ∧ (1 : Int) < (9223372036854775808 : Int)) ∧
 (∃ (x : SmX),
 ((SmX.ls x = List.map slink (List.take (SmX.i x) ns) ∧ SmX.i x ≤ List.length ns) ∧ OfNat.ofNat (0 : Nat) = (0 : Nat)) ∧
 (0 : Nat) = (0 : Nat) ∧
 (0 : Nat) = (0 : Nat) ∧
 (1 : Nat) = (1 : Nat) ∧
 ints ns = ints ns ∧
 Int.ofNat (List.length (ints ns)) = Int.ofNat (List.length ns) ∧
 (0 : Int) = Int.ofNat (SmX.i x) ∧
 (34 : Nat) = (34 : Nat) ∧
 ByteArray.mk (Array.mk []) = ByteArray.mk (Array.mk []) ∧
 false = false ∧
 ByteArray.mk (Array.mk []) = ByteArray.mk (Array.mk []) ∧
 ByteArray.mk (Array.mk []) = ByteArray.mk (Array.mk []) ∧
 false = false ∧
 ByteArray.mk (Array.mk []) = ByteArray.mk (Array.mk []) ∧
 ByteArray.mk (Array.mk []) = ByteArray.mk (Array.mk []) ∧
 false = false ∧
 false = false ∧
 ByteArray.mk (Array.mk []) = ByteArray.mk (Array.mk []) ∧
 ByteArray.mk (Array.mk []) = ByteArray.mk (Array.mk []) ∧
 Value.slice none (0 : Nat) (0 : Nat) = Value.slice none (0 : Nat) (0 : Nat) ∧
 (34 : Nat) = (34 : Nat) ∧
 ByteArray.mk
 (Array.mk
 [OfNat.ofNat (111 : Nat), OfNat.ofNat (110 : Nat), OfNat.ofNat (101 : Nat)]) =
 ByteArray.mk
 (Array.mk
 [OfNat.ofNat (111 : Nat), OfNat.ofNat (110 : Nat), OfNat.ofNat (101 : Nat)]) ∧
 Prod.fst (mkRat (0 : Int) (1 : Nat), mkRat (0 : Int) (1 : Nat)) =
 mkRat (0 : Int) (1 : Nat) ∧
 (63 : Nat) ≤ (63 : Nat) ∧
 Prod.snd (mkRat (0 : Int) (1 : Nat), mkRat (0 : Int) (1 : Nat)) =
 mkRat (0 : Int) (1 : Nat) ∧
 (63 : Nat) ≤ (63 : Nat) ∧
 false = false ∧
 mkRat (0 : Int) (1 : Nat) = mkRat (0 : Int) (1 : Nat) ∧
 (63 : Nat) ≤ (63 : Nat) ∧
 Value.slice none (0 : Nat) (0 : Nat) =
 Value.slice none (0 : Nat) (0 : Nat) ∧
 (0 : Nat) = (0 : Nat) ∧
 List.length (SmX.ls x) = (0 : Nat) ∧
 List.map linkCh (SmX.ls x) = [] ∧ True) ∧
 ∀ (x : SmX),
 SmX.ls x = List.map slink (List.take (SmX.i x) ns) ∧ SmX.i x ≤ List.length ns →
 OfNat.ofNat (0 : Nat) = (0 : Nat) →
 bif decide (Int.ofNat (SmX.i x) < Int.ofNat (List.length ns)) then
 ((0 : Int) ≤ Int.ofNat (SmX.i x) ∧ Int.ofNat (SmX.i x) < Int.ofNat (List.length (ints ns))) ∧
 ∃ (d : Int),
 ldE (ints ns) (Int.toNat (Int.ofNat (SmX.i x))) (0 : Nat) (1 : Nat) = some [Ch.v (Value.int IntKind.i64 d)] ∧
 (((-9223372036854775808 : Int) < d ∧ d < (9223372036854775808 : Int)) ∧
 (0 : Int) < (1 : Int) ∧ (1 : Int) < (9223372036854775808 : Int)) ∧
 (((-9223372036854775808 : Int) < (-2 : Int) ∧ (-2 : Int) < (9223372036854775808 : Int)) ∧
 (0 : Int) < (1 : Int) ∧ (1 : Int) < (9223372036854775808 : Int)) ∧
 (((-9223372036854775808 : Int) < (2 : Int) ∧ (2 : Int) < (9223372036854775808 : Int)) ∧
 (0 : Int) < (1 : Int) ∧ (1 : Int) < (9223372036854775808 : Int)) ∧
 (((-9223372036854775808 : Int) < (1 : Int) ∧ (1 : Int) < (9223372036854775808 : Int)) ∧
 (0 : Int) < (4 : Int) ∧ (4 : Int) < (9223372036854775808 : Int)) ∧
 (((-9223372036854775808 : Int) < (1 : Int) ∧ (1 : Int) < (9223372036854775808 : Int)) ∧
 (0 : Int) < (10 : Int) ∧ (10 : Int) < (9223372036854775808 : Int)) ∧
 (((-9223372036854775808 : Int) < (0 : Int) ∧ (0 : Int) < (9223372036854775808 : Int)) ∧
 (-9223372036854775808 : Int) < (-1 : Int) ∧ (-1 : Int) < (9223372036854775808 : Int)) ∧
 (((-9223372036854775808 : Int) < d ∧ d < (9223372036854775808 : Int)) ∧
 (-9223372036854775808 : Int) < (-1 : Int) ∧ (-1 : Int) < (9223372036854775808 : Int)) ∧
 (((-9223372036854775808 : Int) < d ∧ d < (9223372036854775808 : Int)) ∧
 (-9223372036854775808 : Int) < (1 : Int) ∧ (1 : Int) < (9223372036854775808 : Int)) ∧
 (((-9223372036854775808 : Int) < (0 : Int) ∧ (0 : Int) < (9223372036854775808 : Int)) ∧
 (-9223372036854775808 : Int) < (1 : Int) ∧ (1 : Int) < (9223372036854775808 : Int)) ∧
 ((List.length (SmX.ls x) + (1 : Nat)) * (224 : Nat) ≤ (140737488355328 : Nat) ∧
 List.length (SmX.ls x) + (1 : Nat) ≤ (9223372036854775807 : Nat)) ∧
 ∃ (x' : SmX),
 ((SmX.ls x' = List.map slink (List.take (SmX.i x') ns) ∧ SmX.i x' ≤ List.length ns) ∧
 OfNat.ofNat (0 : Nat) = (0 : Nat) ∧ List.length ns - SmX.i x' < List.length ns - SmX.i x) ∧
 (0 : Nat) = (0 : Nat) ∧
 (0 : Nat) = (0 : Nat) ∧
 (1 : Nat) = (1 : Nat) ∧
 ints ns = ints ns ∧
 Int.ofNat (List.length ns) = Int.ofNat (List.length ns) ∧
 IntKind.wrap IntKind.i64 (Int.ofNat (SmX.i x) + (1 : Int)) = Int.ofNat (SmX.i x') ∧
 (34 : Nat) = (34 : Nat) ∧
 ByteArray.mk (Array.mk []) = ByteArray.mk (Array.mk []) ∧
 false = false ∧
 ByteArray.mk (Array.mk []) = ByteArray.mk (Array.mk []) ∧
 ByteArray.mk (Array.mk []) = ByteArray.mk (Array.mk []) ∧
 false = false ∧
 ByteArray.mk (Array.mk []) = ByteArray.mk (Array.mk []) ∧
 ByteArray.mk (Array.mk []) = ByteArray.mk (Array.mk []) ∧
 false = false ∧
 false = false ∧
 ByteArray.mk (Array.mk []) = ByteArray.mk (Array.mk []) ∧
 ByteArray.mk (Array.mk []) = ByteArray.mk (Array.mk []) ∧
 Value.slice none (0 : Nat) (0 : Nat) =
 Value.slice none (0 : Nat) (0 : Nat) ∧
 (34 : Nat) = (34 : Nat) ∧
 ByteArray.mk
 (Array.mk
 [OfNat.ofNat (111 : Nat),
 OfNat.ofNat (110 : Nat),
 OfNat.ofNat (101 : Nat)]) =
 ByteArray.mk
 (Array.mk
 [OfNat.ofNat (111 : Nat),
 OfNat.ofNat (110 : Nat),
 OfNat.ofNat (101 : Nat)]) ∧
 mkRat (0 : Int) (1 : Nat) =
 mkRat (0 : Int) (1 : Nat) ∧
 (63 : Nat) ≤ (63 : Nat) ∧
 mkRat (0 : Int) (1 : Nat) =
 mkRat (0 : Int) (1 : Nat) ∧
 (63 : Nat) ≤ (63 : Nat) ∧
 false = false ∧
 mkRat (0 : Int) (1 : Nat) =
 mkRat (0 : Int) (1 : Nat) ∧
 (63 : Nat) ≤ (63 : Nat) ∧
 (0 : Nat) = (0 : Nat) ∧
 List.length (SmX.ls x) + (1 : Nat) =
 List.length (SmX.ls x') ∧
 (75 : Nat) = (75 : Nat) ∧
 (16 : Nat) = (16 : Nat) ∧
 (List.take
 (List.length
 (SmX.ls x))
 (List.map linkCh
 (SmX.ls x)) ++
 [[Ch.r
 (mkRat d
 (1 : Nat))
 (63 : Nat),
 Ch.r
 (mkRat (-2 : Int)
 (1 : Nat))
 (63 : Nat),
 Ch.r
 (mkRat (2 : Int)
 (1 : Nat))
 (63 : Nat),
 Ch.r
 (mkRat (1 : Int)
 (4 : Nat))
 (63 : Nat),
 Ch.r
 (mkRat (1 : Int)
 (10 : Nat))
 (63 : Nat),
 Ch.s (6 : Nat)
 [[Ch.r
 (Prod.fst
 (mkRat
 (0 :
 Int)
 (1 :
 Nat),
 mkRat
 (-1 :
 Int)
 (1 :
 Nat)))
 (63 : Nat),
 Ch.r
 (Prod.snd
 (mkRat
 (0 :
 Int)
 (1 :
 Nat),
 mkRat
 (-1 :
 Int)
 (1 :
 Nat)))
 (63 : Nat)],
 [Ch.r
 (Prod.fst
 (mkRat d
 (1 :
 Nat),
 mkRat
 (-1 :
 Int)
 (1 :
 Nat)))
 (63 : Nat),
 Ch.r
 (Prod.snd
 (mkRat d
 (1 :
 Nat),
 mkRat
 (-1 :
 Int)
 (1 :
 Nat)))
 (63 : Nat)],
 [Ch.r
 (Prod.fst
 (mkRat d
 (1 :
 Nat),
 mkRat
 (1 :
 Int)
 (1 :
 Nat)))
 (63 : Nat),
 Ch.r
 (Prod.snd
 (mkRat d
 (1 :
 Nat),
 mkRat
 (1 :
 Int)
 (1 :
 Nat)))
 (63 : Nat)],
 [Ch.r
 (Prod.fst
 (mkRat
 (0 :
 Int)
 (1 :
 Nat),
 mkRat
 (1 :
 Int)
 (1 :
 Nat)))
 (63 : Nat),
 Ch.r
 (Prod.snd
 (mkRat
 (0 :
 Int)
 (1 :
 Nat),
 mkRat
 (1 :
 Int)
 (1 :
 Nat)))
 (63 :
 Nat)]]]] =
 List.map linkCh
 (SmX.ls x') ∨
 RowLE
 (List.take
 (List.length
 (SmX.ls x))
 (List.map linkCh
 (SmX.ls x)) ++
 [[Ch.r
 (mkRat d
 (1 : Nat))
 (63 : Nat),
 Ch.r
 (mkRat (-2 : Int)
 (1 : Nat))
 (63 : Nat),
 Ch.r
 (mkRat (2 : Int)
 (1 : Nat))
 (63 : Nat),
 Ch.r
 (mkRat (1 : Int)
 (4 : Nat))
 (63 : Nat),
 Ch.r
 (mkRat (1 : Int)
 (10 : Nat))
 (63 : Nat),
 Ch.s (6 : Nat)
 [[Ch.r
 (Prod.fst
 (mkRat
 (0 :
 Int)
 (1 :
 Nat),
 mkRat
 (-1 :
 Int)
 (1 :
 Nat)))
 (63 : Nat),
 Ch.r
 (Prod.snd
 (mkRat
 (0 :
 Int)
 (1 :
 Nat),
 mkRat
 (-1 :
 Int)
 (1 :
 Nat)))
 (63 : Nat)],
 [Ch.r
 (Prod.fst
 (mkRat d
 (1 :
 Nat),
 mkRat
 (-1 :
 Int)
 (1 :
 Nat)))
 (63 : Nat),
 Ch.r
 (Prod.snd
 (mkRat d
 (1 :
 Nat),
 mkRat
 (-1 :
 Int)
 (1 :
 Nat)))
 (63 : Nat)],
 [Ch.r
 (Prod.fst
 (mkRat d
 (1 :
 Nat),
 mkRat
 (1 :
 Int)
 (1 :
 Nat)))
 (63 : Nat),
 Ch.r
 (Prod.snd
 (mkRat d
 (1 :
 Nat),
 mkRat
 (1 :
 Int)
 (1 :
 Nat)))
 (63 : Nat)],
 [Ch.r
 (Prod.fst
 (mkRat
 (0 :
 Int)
 (1 :
 Nat),
 mkRat
 (1 :
 Int)
 (1 :
 Nat)))
 (63 : Nat),
 Ch.r
 (Prod.snd
 (mkRat
 (0 :
 Int)
 (1 :
 Nat),
 mkRat
 (1 :
 Int)
 (1 :
 Nat)))
 (63 :
 Nat)]]]])
 (List.map linkCh
 (SmX.ls x'))) ∧
 True
 else
 K
 (AV.x true
 [Ch.v
 (Value.string (ByteArray.mk (Array.mk [OfNat.ofNat (111 : Nat), OfNat.ofNat (110 : Nat), OfNat.ofNat (101 : Nat)]))),
 Ch.r (mkRat (0 : Int) (1 : Nat)) (63 : Nat), Ch.r (mkRat (0 : Int) (1 : Nat)) (63 : Nat), Ch.v (Value.bool false),
 Ch.r (mkRat (0 : Int) (1 : Nat)) (63 : Nat),
 Ch.s (16 : Nat) (List.take (List.length (SmX.ls x)) (List.drop (0 : Nat) (List.map linkCh (SmX.ls x))))])) := by kernel_rfl
theorem g_kSample (ns : List Int) (hc : (ns.length ≤ 3) ∧ (∀ n ∈ ns, 1 ≤ n ∧ n ≤ 1000)) (K : AV → Prop) (hK : K (armA (sampleV ns))) : Holds (goal_kSample ns K) := by
  refine ⟨?_⟩
  rw [goal_kSample_vc]
  try simp only [Int.ofNat_eq_natCast, true_and, and_true, Nat.zero_add, Nat.le_refl, true_implies, true_or, or_true]
  obtain ⟨h1, h2⟩ := hc
  have hl : (ints ns).length = ns.length := ints_len ns
  simp only [hl]
  refine ⟨by omega, by omega, ⟨⟨0, []⟩, ⟨rfl, by simp only; omega⟩, trivial, rfl, rfl, rfl⟩, fun x hx => ?_⟩
  obtain ⟨i, ls⟩ := x
  obtain ⟨hls, hi⟩ := hx
  simp only at hls hi ⊢
  refine bif_mk (fun hp => ?_) (fun hp => ?_)
  · have hp : i < ns.length := by have := of_decide_eq_true hp; omega
    obtain ⟨n, hn⟩ : ∃ n, ns[i]? = some n := ⟨_, List.getElem?_eq_getElem hp⟩
    have hb := h2 n (List.mem_of_getElem? hn)
    have hll : ls.length ≤ 3 := by rw [hls, List.length_map, List.length_take]; omega
    refine ⟨by omega, n, int_ld (by simpa using hn), by omega, by omega, by omega, by omega, by omega, by omega, by omega, by omega, by omega, by omega, ⟨i + 1, ls ++ [slink n]⟩, ⟨⟨by rw [hls, List.take_add_one, hn, List.map_append]; rfl, by simp only; omega⟩, by simp only; omega⟩, by rw [w64 (by omega)]; simp, by simp, .inl ?_⟩
    rw [List.take_of_length_le (by rw [List.length_map]; exact Nat.le_refl _), List.map_append]
    rfl
  · have hp : i = ns.length := by have := of_decide_eq_false hp; omega
    subst hp
    rw [List.take_length] at hls
    rw [List.drop_zero, List.take_of_length_le (by rw [List.length_map]; exact Nat.le_refl _), hls]
    exact hK
def c_kSample : Ctr := fun as0 => match as0 with
  | [.x false [.s 1 xs]] => some fun K => ∃ (ns : List Int), xs = ints ns ∧ ((ns.length ≤ 3) ∧ (∀ n ∈ ns, 1 ≤ n ∧ n ≤ 1000)) ∧ (K (armA (sampleV ns)))
  | _ => none
theorem ok_kSample : CtrOK Tryd.prog tabG debT 31 c_kSample := by
  refine ⟨enters Tryd.func31 (by kernel_rfl), fun l T hT K hK => ?_⟩
  unfold c_kSample at hT
  split at hT
  · cases hT
    obtain ⟨ns, rfl, hc, hK⟩ := hK
    exact spec_ofL T50ok mixed Tryd.func31 (by kernel_rfl) (by kernel_rfl) (by rfl) (g_kSample _ hc K hK)
  · cases hT
def L51 : List (Nat × Ctr) := (31, c_kSample) :: L50
def T51 : Tabs := mkT L51 M48 X4
theorem L51ok : CtrsOK Tryd.prog tabG debT L51 := .cons ok_kSample L50ok
theorem T51ok : TabsOK Tryd.prog tabG debT T51 := mkTok L51ok M48ok X4ok
def ot_aLength : OT := fun _ => ([], [])
def goal_aLength (a : ArmV) (K : AV → Prop) : Prop := goalL T51 ot_aLength (fun _ => .inv ⟨LnX, fun x => ⟨[(2, .x false [.p 2 0]), (5, .x false [.p 5 0]), (16, .x false [.s 16 (a.links.map linkCh)]), (17, iA .i64 a.links.length), (18, iA .i64 x.i)], [(2, .box 25 zeroR), (5, .box 25 [.r x.s (64 + 64 * x.i)])]⟩, fun x => x.s + sumLen (a.links.drop x.i) = sumLen a.links ∧ x.i ≤ a.links.length, fun x => a.links.length - x.i, fun _ => 0⟩) Tryd.f30 [armA a] K
theorem goal_aLength_vc (a : ArmV) (K : AV → Prop) : goal_aLength a K = (
 ∃ (a_1 : ArmV),
 [Ch.v (Value.string (ArmV.name a)), Ch.r (ArmV.x a) (63 : Nat), Ch.r (ArmV.y a) (63 : Nat), Ch.v (Value.bool (ArmV.half a)),
 Ch.r (ArmV.t a) (63 : Nat), Ch.s (16 : Nat) (List.map linkCh (ArmV.links a))] =
 [Ch.v (Value.string (ArmV.name a_1)), Ch.r (ArmV.x a_1) (63 : Nat), Ch.r (ArmV.y a_1) (63 : Nat), Ch.v (Value.bool (ArmV.half a_1)),
 Ch.r (ArmV.t a_1) (63 : Nat), Ch.s (16 : Nat) (List.map linkCh (ArmV.links a_1))] ∧
 GoodArm a_1 ∧
 ((-9223372036854775808 : Int) ≤ (0 : Int) ∧ (0 : Int) < (9223372036854775808 : Int)) ∧
 (∃ (x : LnX),
 ((LnX.s x + sumLen (List.drop (LnX.i x) (ArmV.links a)) = sumLen (ArmV.links a) ∧ LnX.i x ≤ List.length (ArmV.links a)) ∧
 OfNat.ofNat (0 : Nat) = (0 : Nat)) ∧
 (0 : Nat) = (0 : Nat) ∧
 (0 : Nat) = (0 : Nat) ∧
 (16 : Nat) = (16 : Nat) ∧
 List.map linkCh (ArmV.links a) = List.map linkCh (ArmV.links a) ∧
 Int.ofNat (List.length (List.map linkCh (ArmV.links a))) = Int.ofNat (List.length (ArmV.links a)) ∧
 (0 : Int) = Int.ofNat (LnX.i x) ∧
 (25 : Nat) = (25 : Nat) ∧
 false = false ∧
 ByteArray.mk (Array.mk []) = ByteArray.mk (Array.mk []) ∧
 ByteArray.mk (Array.mk []) = ByteArray.mk (Array.mk []) ∧
 (25 : Nat) = (25 : Nat) ∧ (((0 : Int) : Int) : Rat) = LnX.s x ∧ (64 : Nat) ≤ (64 : Nat) + (64 : Nat) * LnX.i x ∧ True) ∧
 ∀ (x : LnX),
 LnX.s x + sumLen (List.drop (LnX.i x) (ArmV.links a)) = sumLen (ArmV.links a) ∧ LnX.i x ≤ List.length (ArmV.links a) →
 OfNat.ofNat (0 : Nat) = (0 : Nat) →
 bif decide (Int.ofNat (LnX.i x) < Int.ofNat (List.length (ArmV.links a))) then
 ((0 : Int) ≤ Int.ofNat (LnX.i x) ∧ Int.ofNat (LnX.i x) < Int.ofNat (List.length (List.map linkCh (ArmV.links a)))) ∧
 ∃ (q : Rat),
 ∃ (n : Nat),
 ∃ (q_1 : Rat),
 ∃ (n_1 : Nat),
 ∃ (q_2 : Rat),
 ∃ (n_2 : Nat),
 ∃ (q_3 : Rat),
 ∃ (n_3 : Nat),
 ∃ (q_4 : Rat),
 ∃ (n_4 : Nat),
 ∃ (ys : List (List Ch)),
 ldE (List.map linkCh (ArmV.links a)) (Int.toNat (Int.ofNat (LnX.i x))) (0 : Nat) (16 : Nat) =
 some [Ch.r q n, Ch.r q_1 n_1, Ch.r q_2 n_2, Ch.r q_3 n_3, Ch.r q_4 n_4, Ch.s (6 : Nat) ys] ∧
 (64 : Nat) + (64 : Nat) * LnX.i x + n + (1 : Nat) ≤ (4294967296 : Nat) ∧
 ∃ (x' : LnX),
 ((LnX.s x' + sumLen (List.drop (LnX.i x') (ArmV.links a)) = sumLen (ArmV.links a) ∧
 LnX.i x' ≤ List.length (ArmV.links a)) ∧
 OfNat.ofNat (0 : Nat) = (0 : Nat) ∧
 List.length (ArmV.links a) - LnX.i x' < List.length (ArmV.links a) - LnX.i x) ∧
 (0 : Nat) = (0 : Nat) ∧
 (0 : Nat) = (0 : Nat) ∧
 (16 : Nat) = (16 : Nat) ∧
 List.map linkCh (ArmV.links a) = List.map linkCh (ArmV.links a) ∧
 Int.ofNat (List.length (ArmV.links a)) = Int.ofNat (List.length (ArmV.links a)) ∧
 IntKind.wrap IntKind.i64 (Int.ofNat (LnX.i x) + (1 : Int)) =
 Int.ofNat (LnX.i x') ∧
 (25 : Nat) = (25 : Nat) ∧
 false = false ∧
 ByteArray.mk (Array.mk []) = ByteArray.mk (Array.mk []) ∧
 ByteArray.mk (Array.mk []) = ByteArray.mk (Array.mk []) ∧
 (25 : Nat) = (25 : Nat) ∧
 LnX.s x + q = LnX.s x' ∧
 (64 : Nat) + (64 : Nat) * LnX.i x + n + (1 : Nat) ≤
 (64 : Nat) + (64 : Nat) * LnX.i x' ∧
 True
 else
 K (AV.t [(true, [Ch.r (LnX.s x) ((64 : Nat) + (64 : Nat) * LnX.i x)]), (false, [Ch.v (Value.int IntKind.i64 (0 : Int))])])) := by kernel_rfl
theorem g_aLength (a : ArmV) (hc : (GoodArm a)) (K : AV → Prop) (hK : K (.t [(true, [.r (sumLen a.links) (64 + 64 * a.links.length)]), (false, [.v (.int .i64 0)])])) : Holds (goal_aLength a K) := by
  refine ⟨?_⟩
  rw [goal_aLength_vc]
  try simp only [Int.ofNat_eq_natCast, true_and, and_true, Nat.zero_add, Nat.le_refl, true_implies, true_or, or_true]
  have hn := hc.n
  simp only [List.length_map]
  refine ⟨a, rfl, hc, by omega, ⟨⟨0, 0⟩, ⟨by simp only [List.drop_zero]; exact Rat.zero_add _, by simp⟩, trivial, rfl, rfl, by simp⟩, fun x hx => ?_⟩
  obtain ⟨i, t⟩ := x
  obtain ⟨hs, hi⟩ := hx
  simp only at hs hi ⊢
  refine bif_mk (fun hp => ?_) (fun hp => ?_)
  · have hp : i < a.links.length := by have := of_decide_eq_true hp; omega
    obtain ⟨L, hL⟩ : ∃ L, a.links[i]? = some L := ⟨_, List.getElem?_eq_getElem hp⟩
    have e : a.links.drop i = L :: a.links.drop (i + 1) := by
      rw [List.drop_eq_getElem_cons hp]
      rw [List.getElem?_eq_getElem hp] at hL
      rw [Option.some.inj hL]
    rw [e, sumLen] at hs
    exact ⟨by omega, _, _, _, _, _, _, _, _, _, _, _, link_ld (by simpa using hL), by omega, ⟨i + 1, t + L.len⟩, ⟨⟨by simp only; rw [← hs]; grind, by simp only; omega⟩, by simp only; omega⟩, by rw [w64 (by omega)]; simp, rfl, by simp only; omega⟩
  · have hp : i = a.links.length := by have := of_decide_eq_false hp; omega
    subst hp
    rw [List.drop_length, sumLen, Rat.add_zero] at hs
    rw [hs]
    exact hK
def c_aLength : Ctr := fun as0 => match as0 with
  | [.x true xs] => some fun K => ∃ (a : ArmV), xs = armCh a ∧ ((GoodArm a)) ∧ (K (.t [(true, [.r (sumLen a.links) (64 + 64 * a.links.length)]), (false, [.v (.int .i64 0)])]))
  | _ => none
theorem ok_aLength : CtrOK Tryd.prog tabG debT 30 c_aLength := by
  refine ⟨enters Tryd.func30 (by kernel_rfl), fun l T hT K hK => ?_⟩
  unfold c_aLength at hT
  split at hT
  · cases hT
    obtain ⟨a, rfl, hc, hK⟩ := hK
    exact spec_ofL T51ok mixed Tryd.func30 (by kernel_rfl) (by kernel_rfl) (by rfl) (g_aLength _ hc K hK)
  · cases hT
def L52 : List (Nat × Ctr) := (30, c_aLength) :: L51
def T52 : Tabs := mkT L52 M48 X4
theorem L52ok : CtrsOK Tryd.prog tabG debT L52 := .cons ok_aLength L51ok
theorem T52ok : TabsOK Tryd.prog tabG debT T52 := mkTok L52ok M48ok X4ok
-- the newest table: L52 M48 X4 T52
end Go.Proofs
/- Clamp; Conf with a row of its own; slices.Clone of integers; gantmake.Rat. -/
namespace Go.Proofs
open Go Go.Eng
def clampQ (L : LinkV) (q : Rat) : Rat := maxR L.lo (minR L.hi q)
def clampR (ls : List LinkV) (qs : List Rat) : List Rat := List.zipWith clampQ ls qs
def clB (b : Nat) : Nat := max 63 (max 63 b)
def inv_clamp (a : ArmV) (b : Nat) (qs : List Rat) : LI := fun _ => .inv ⟨Nat, fun i => ⟨[(1, .x false [.w 1000 0 qs.length]), (7, .x false [.w 500 0 i]), (18, .x false [.s 16 (a.links.map linkCh)]), (19, iA .i64 a.links.length), (20, iA .i64 i)], [(1000, rowR b qs), (500, rowR (clB b) ((clampR a.links qs).take i))]⟩, fun i => i ≤ a.links.length, fun i => a.links.length - i, fun _ => 0⟩
def ot_clamp : OT := fun id => bif id.beq 8 then ([0, 1, 2, 3, 4, 5, 6, 7, 8, 9, 10, 11, 12, 13], [[], [], [1], [], [3], [], [], [5, 6], [7, 5, 6], [4, 3, 8, 7, 5, 6], [2, 1, 9, 4, 3, 8, 7, 5, 6], [10, 2, 1, 9, 4, 3, 8, 7, 5, 6], [0, 11, 10, 2, 1, 9, 4, 3, 8, 7, 5, 6], [12, 0, 11, 10, 2, 1, 9, 4, 3, 8, 7, 5, 6]]) else ([], [])
def goal_clamp (a : ArmV) (b : Nat) (qs : List Rat) : Prop := goalM (X := Unit) T52 ot_clamp (inv_clamp a b qs) Tryd.f33 [armA a, .x false [.w 1000 0 qs.length]] [(1000, rowR b qs)] (fun _ => True) (fun _ => ⟨[(4, .x false [.w 500 0 qs.length]), (5, iA .i64 0)], [(1000, rowR b qs), (500, rowR (clB b) (clampR a.links qs))]⟩)
theorem goal_clamp_vc (a : ArmV) (b : Nat) (qs : List Rat) : goal_clamp a b qs = (
 ∃ (a_1 : ArmV),
 [Ch.v (Value.string (ArmV.name a)), Ch.r (ArmV.x a) (63 : Nat), Ch.r (ArmV.y a) (63 : Nat), Ch.v (Value.bool (ArmV.half a)),
 Ch.r (ArmV.t a) (63 : Nat), Ch.s (16 : Nat) (List.map linkCh (ArmV.links a))] =
 [Ch.v (Value.string (ArmV.name a_1)), Ch.r (ArmV.x a_1) (63 : Nat), Ch.r (ArmV.y a_1) (63 : Nat), Ch.v (Value.bool (ArmV.half a_1)),
 Ch.r (ArmV.t a_1) (63 : Nat), Ch.s (16 : Nat) (List.map linkCh (ArmV.links a_1))] ∧
 (GoodArm a_1 ∧ Int.ofNat (List.length qs) = Int.ofNat (List.length (ArmV.links a_1))) ∧
 (∃ (x : Nat),
 (x ≤ List.length (ArmV.links a) ∧ OfNat.ofNat (0 : Nat) = (0 : Nat)) ∧
 (0 : Nat) = (0 : Nat) ∧
 List.length qs = List.length qs ∧
 Value.slice none (0 : Nat) (0 : Nat) = Value.slice none (0 : Nat) (0 : Nat) ∧
 (0 : Nat) = (0 : Nat) ∧
 x = (0 : Nat) ∧
 (16 : Nat) = (16 : Nat) ∧
 List.map linkCh (ArmV.links a) = List.map linkCh (ArmV.links a) ∧
 Int.ofNat (List.length (List.map linkCh (ArmV.links a))) = Int.ofNat (List.length (ArmV.links a)) ∧
 (0 : Int) = Int.ofNat x ∧
 (25 : Nat) = (25 : Nat) ∧
 (3 : Nat) = (3 : Nat) ∧
 (List.map (fun (q : Rat) => [Ch.r q b]) qs = List.map (fun (q : Rat) => [Ch.r q b]) qs ∨
 RowLE (List.map (fun (q : Rat) => [Ch.r q b]) qs) (List.map (fun (q : Rat) => [Ch.r q b]) qs)) ∧
 List.map (fun (q : Rat) => [Ch.r q (clB b)]) (List.take x (clampR (ArmV.links a) qs)) = [] ∧ True) ∧
 ∀ (x : Nat),
 x ≤ List.length (ArmV.links a) →
 OfNat.ofNat (0 : Nat) = (0 : Nat) →
 bif decide (Int.ofNat x < Int.ofNat (List.length (ArmV.links a))) then
 ((0 : Int) ≤ Int.ofNat x ∧ Int.ofNat x < Int.ofNat (List.length (List.map linkCh (ArmV.links a)))) ∧
 ∃ (q : Rat),
 ∃ (n : Nat),
 ∃ (q_1 : Rat),
 ∃ (n_1 : Nat),
 ∃ (q_2 : Rat),
 ∃ (n_2 : Nat),
 ∃ (q_3 : Rat),
 ∃ (n_3 : Nat),
 ∃ (q_4 : Rat),
 ∃ (n_4 : Nat),
 ∃ (ys : List (List Ch)),
 ldE (List.map linkCh (ArmV.links a)) (Int.toNat (Int.ofNat x)) (0 : Nat) (16 : Nat) =
 some [Ch.r q n, Ch.r q_1 n_1, Ch.r q_2 n_2, Ch.r q_3 n_3, Ch.r q_4 n_4, Ch.s (6 : Nat) ys] ∧
 ((0 : Int) ≤ Int.ofNat x ∧ Int.ofNat x < Int.ofNat (List.length qs)) ∧
 ∃ (q : Rat),
 ∃ (n : Nat),
 ldE (List.map (fun (q : Rat) => [Ch.r q b]) qs) ((0 : Nat) + Int.toNat (Int.ofNat x))
 (0 : Nat) (3 : Nat) =
 some [Ch.r q n] ∧
 n_2 + n ≤ (4294967296 : Nat) ∧
 n_1 + max n_2 n ≤ (4294967296 : Nat) ∧
 ((x + (1 : Nat)) * (40 : Nat) ≤ (140737488355328 : Nat) ∧
 x + (1 : Nat) ≤ (9223372036854775807 : Nat)) ∧
 ∃ (x' : Nat),
 (x' ≤ List.length (ArmV.links a) ∧
 OfNat.ofNat (0 : Nat) = (0 : Nat) ∧
 List.length (ArmV.links a) - x' < List.length (ArmV.links a) - x) ∧
 (0 : Nat) = (0 : Nat) ∧
 List.length qs = List.length qs ∧
 (0 : Nat) = (0 : Nat) ∧
 x + (1 : Nat) = x' ∧
 (16 : Nat) = (16 : Nat) ∧
 List.map linkCh (ArmV.links a) = List.map linkCh (ArmV.links a) ∧
 Int.ofNat (List.length (ArmV.links a)) =
 Int.ofNat (List.length (ArmV.links a)) ∧
 IntKind.wrap IntKind.i64 (Int.ofNat x + (1 : Int)) =
 Int.ofNat x' ∧
 (25 : Nat) = (25 : Nat) ∧
 (3 : Nat) = (3 : Nat) ∧
 (List.map (fun (q : Rat) => [Ch.r q b]) qs =
 List.map (fun (q : Rat) => [Ch.r q b]) qs ∨
 RowLE (List.map (fun (q : Rat) => [Ch.r q b]) qs)
 (List.map (fun (q : Rat) => [Ch.r q b]) qs)) ∧
 (25 : Nat) = (25 : Nat) ∧
 (3 : Nat) = (3 : Nat) ∧
 (List.take x
 (List.map
 (fun (q : Rat) => [Ch.r q (clB b)])
 (List.take x
 (clampR (ArmV.links a) qs))) ++
 [[Ch.r (maxR q_1 (minR q_2 q))
 (max n_1 (max n_2 n))]] =
 List.map (fun (q : Rat) => [Ch.r q (clB b)])
 (List.take x' (clampR (ArmV.links a) qs)) ∨
 RowLE
 (List.take x
 (List.map
 (fun (q : Rat) => [Ch.r q (clB b)])
 (List.take x
 (clampR (ArmV.links a) qs))) ++
 [[Ch.r (maxR q_1 (minR q_2 q))
 (max n_1 (max n_2 n))]])
 (List.map (fun (q : Rat) => [Ch.r q (clB b)])
 (List.take x' (clampR (ArmV.links a) qs)))) ∧
 True
 else
 ∃ (x_1 : Unit),
 True ∧
 (0 : Nat) = (0 : Nat) ∧
 x = List.length qs ∧
 (0 : Int) = (0 : Int) ∧
 (25 : Nat) = (25 : Nat) ∧
 (3 : Nat) = (3 : Nat) ∧
 (List.map (fun (q : Rat) => [Ch.r q b]) qs = List.map (fun (q : Rat) => [Ch.r q b]) qs ∨
 RowLE (List.map (fun (q : Rat) => [Ch.r q b]) qs) (List.map (fun (q : Rat) => [Ch.r q b]) qs)) ∧
 (25 : Nat) = (25 : Nat) ∧
 (3 : Nat) = (3 : Nat) ∧
 (List.map (fun (q : Rat) => [Ch.r q (clB b)]) (List.take x (clampR (ArmV.links a) qs)) =
 List.map (fun (q : Rat) => [Ch.r q (clB b)]) (clampR (ArmV.links a) qs) ∨
 RowLE (List.map (fun (q : Rat) => [Ch.r q (clB b)]) (List.take x (clampR (ArmV.links a) qs)))
 (List.map (fun (q : Rat) => [Ch.r q (clB b)]) (clampR (ArmV.links a) qs))) ∧
 True) := by kernel_rfl
def goal_confM (a : ArmV) (l : List Int) : Prop := goalM (X := List Rat) T52 noO noL Tryd.f32 [armA a, .x false [.s 1 (ints l)]] [] (fun qs => Fit a qs ∧ qs.length = a.links.length) (fun qs => ⟨[(4, .x false [.w 0 0 qs.length])], [(0, rowR 63 qs)]⟩)
theorem goal_confM_vc (a : ArmV) (l : List Int) : goal_confM a l = (
 ∃ (a_1 : ArmV),
 ∃ (l_1 : List Int),
 [Ch.v (Value.string (ArmV.name a)), Ch.r (ArmV.x a) (63 : Nat), Ch.r (ArmV.y a) (63 : Nat), Ch.v (Value.bool (ArmV.half a)),
 Ch.r (ArmV.t a) (63 : Nat), Ch.s (16 : Nat) (List.map linkCh (ArmV.links a))] =
 [Ch.v (Value.string (ArmV.name a_1)), Ch.r (ArmV.x a_1) (63 : Nat), Ch.r (ArmV.y a_1) (63 : Nat), Ch.v (Value.bool (ArmV.half a_1)),
 Ch.r (ArmV.t a_1) (63 : Nat), Ch.s (16 : Nat) (List.map linkCh (ArmV.links a_1))] ∧
 ints l = ints l_1 ∧
 GoodArm a_1 ∧
 List.length l_1 ≤ (9223372036854775807 : Nat) ∧
 ∀ (qs : List Rat) (l' : List Int),
 (∀ (i : Nat) (L : LinkV) (q : Rat), (ArmV.links a_1)[i]? = some L → qs[i]? = some q → LinkV.lo L ≤ q ∧ q ≤ LinkV.hi L) →
 List.length qs = List.length (ArmV.links a_1) →
 List.length l' ≤ List.length l_1 →
 ∃ (x : List Rat),
 ((∀ (i : Nat) (L : LinkV) (q : Rat), (ArmV.links a)[i]? = some L → x[i]? = some q → LinkV.lo L ≤ q ∧ q ≤ LinkV.hi L) ∧
 List.length x = List.length (ArmV.links a)) ∧
 (0 : Nat) = (0 : Nat) ∧
 List.length qs = List.length x ∧
 (25 : Nat) = (25 : Nat) ∧
 (3 : Nat) = (3 : Nat) ∧
 (List.map (fun (q : Rat) => [Ch.r q (63 : Nat)]) qs = List.map (fun (q : Rat) => [Ch.r q (63 : Nat)]) x ∨
 RowLE (List.map (fun (q : Rat) => [Ch.r q (63 : Nat)]) qs)
 (List.map (fun (q : Rat) => [Ch.r q (63 : Nat)]) x)) ∧
 True) := by kernel_rfl
def rowI (l : List Int) : Blk := .row 3 1 (ints l)
def goal_cloneI (l : List Int) : Prop := goalM (X := Unit) T52 noO noL Tryd.f36 [.x false [.s 1 (ints l)]] [] (fun _ => True) (fun _ => ⟨[(2, .x false [.w 0 0 l.length])], [(0, rowI l)]⟩)
theorem goal_cloneI_vc (l : List Int) : goal_cloneI l = (
 ints l ≠ [] ∧
 (((0 : Nat) + List.length (ints l)) * (8 : Nat) ≤ (140737488355328 : Nat) ∧
 (0 : Nat) + List.length (ints l) ≤ (9223372036854775807 : Nat)) ∧
 ∃ (x : Unit),
 True ∧
 (0 : Nat) = (0 : Nat) ∧
 (0 : Nat) + List.length (ints l) = List.length l ∧
 (3 : Nat) = (3 : Nat) ∧ (1 : Nat) = (1 : Nat) ∧ ([] ++ ints l = ints l ∨ RowLE ([] ++ ints l) (ints l)) ∧ True) := by kernel_rfl
def goal_cloneI0 (l0 : List Int) : Prop := goalM (X := Unit) T52 noO noL Tryd.f36 [.x false [.v (.slice none 0 0)]] [] (fun _ => True) (fun _ => ⟨[(2, .x false [.w 0 0 0])], [(0, rowI l0)]⟩)
theorem goal_cloneI0_vc (l0 : List Int) : goal_cloneI0 l0 = (
 True ∧
 ∃ (x : Unit),
 True ∧
 Value.slice none (0 : Nat) (0 : Nat) = Value.slice none (0 : Nat) (0 : Nat) ∧
 (0 : Nat) = (0 : Nat) ∧ (0 : Nat) = (0 : Nat) ∧ ints l0 = [] ∧ True) := by kernel_rfl
def goal_cloneI1 (b o c : Nat) (l0 : List Int) : Prop := goalM (X := Unit) T52 noO noL Tryd.f36 [.x false [.v (.slice (some ⟨b, o, none⟩) 0 c)]] [] (fun _ => True) (fun _ => ⟨[(2, .x false [.w 0 0 0])], [(0, rowI l0)]⟩)
theorem goal_cloneI1_vc (b : Nat) (o : Nat) (c : Nat) (l0 : List Int) : goal_cloneI1 b o c l0 = (
 True ∧
 ((0 : Nat) ≤ (140737488355328 : Nat) ∧ (0 : Nat) ≤ (9223372036854775807 : Nat)) ∧
 ∃ (x : Unit),
 True ∧
 (0 : Nat) = (0 : Nat) ∧
 (0 : Nat) = (0 : Nat) ∧ (3 : Nat) = (3 : Nat) ∧ (1 : Nat) = (1 : Nat) ∧ ([] = ints l0 ∨ RowLE [] (ints l0)) ∧ True) := by kernel_rfl
def ot_mRat : OT := fun _ => ([], [])
def goal_mRat (x : Int) (K : AV → Prop) : Prop := goalL T52 ot_mRat noL Tryd.f35 [iA .i64 x] K
theorem goal_mRat_vc (x : Int) (K : AV → Prop) : goal_mRat x K = (
 ((0 : Int) < (6 : Int) ∧ (6 : Int) < (9223372036854775808 : Int)) ∧
 ((0 : Int) ≤ x % (6 : Int) ∧ x % (6 : Int) < (6 : Int)) ∧
 ∃ (d : Int),
 ldE
 [[Ch.v (Value.int IntKind.i64 (1 : Int))], [Ch.v (Value.int IntKind.i64 (2 : Int))], [Ch.v (Value.int IntKind.i64 (3 : Int))],
 [Ch.v (Value.int IntKind.i64 (4 : Int))], [Ch.v (Value.int IntKind.i64 (5 : Int))], [Ch.v (Value.int IntKind.i64 (8 : Int))]]
 ((0 : Nat) + Int.toNat (x % (6 : Int))) (0 : Nat) (1 : Nat) =
 some [Ch.v (Value.int IntKind.i64 d)] ∧
 (6 : Int) ≠ (0 : Int) ∧
 ((0 : Int) < IntKind.wrap IntKind.i64 (IntKind.wrap IntKind.i64 ((16 : Int) * d) + (1 : Int)) ∧
 IntKind.wrap IntKind.i64 (IntKind.wrap IntKind.i64 ((16 : Int) * d) + (1 : Int)) < (9223372036854775808 : Int)) ∧
 (((-9223372036854775808 : Int) <
 IntKind.wrap IntKind.i64
 (IntKind.wrap IntKind.i64 (Int.tdiv x (6 : Int)) %
 IntKind.wrap IntKind.i64 (IntKind.wrap IntKind.i64 ((16 : Int) * d) + (1 : Int)) -
 IntKind.wrap IntKind.i64 ((8 : Int) * d)) ∧
 IntKind.wrap IntKind.i64
 (IntKind.wrap IntKind.i64 (Int.tdiv x (6 : Int)) %
 IntKind.wrap IntKind.i64 (IntKind.wrap IntKind.i64 ((16 : Int) * d) + (1 : Int)) -
 IntKind.wrap IntKind.i64 ((8 : Int) * d)) <
 (9223372036854775808 : Int)) ∧
 (0 : Int) < d ∧ d < (9223372036854775808 : Int)) ∧
 K
 (AV.x true
 [Ch.r
 (mkRat
 (IntKind.wrap IntKind.i64
 (IntKind.wrap IntKind.i64 (Int.tdiv x (6 : Int)) %
 IntKind.wrap IntKind.i64 (IntKind.wrap IntKind.i64 ((16 : Int) * d) + (1 : Int)) -
 IntKind.wrap IntKind.i64 ((8 : Int) * d)))
 (Int.toNat d))
 (63 : Nat)])) := by kernel_rfl
theorem g_mRat (x : Int) (hc : (-9223372036854775808 ≤ x ∧ x < 9223372036854775808)) (K : AV → Prop) (hK : ∀ q : Rat, K (rA q 63)) : Holds (goal_mRat x K) := by
  refine ⟨?_⟩
  rw [goal_mRat_vc]
  try simp only [Int.ofNat_eq_natCast, true_and, and_true, Nat.zero_add, Nat.le_refl, true_implies, true_or, or_true]
  have b1 := Int.emod_nonneg x (show (6 : Int) ≠ 0 by decide)
  have b2 := Int.emod_lt_of_pos x (show (0 : Int) < 6 by decide)
  obtain ⟨d, hd, hdr⟩ : ∃ d, ldE [[Ch.v (Value.int IntKind.i64 1)], [Ch.v (Value.int IntKind.i64 2)], [Ch.v (Value.int IntKind.i64 3)], [Ch.v (Value.int IntKind.i64 4)], [Ch.v (Value.int IntKind.i64 5)], [Ch.v (Value.int IntKind.i64 8)]] (x % 6).toNat 0 1 = some [Ch.v (Value.int IntKind.i64 d)] ∧ 1 ≤ d ∧ d ≤ 8 := by
    generalize x % 6 = r at b1 b2
    have : r = 0 ∨ r = 1 ∨ r = 2 ∨ r = 3 ∨ r = 4 ∨ r = 5 := by omega
    rcases this with rfl | rfl | rfl | rfl | rfl | rfl
    · exact ⟨1, rfl, by omega⟩
    · exact ⟨2, rfl, by omega⟩
    · exact ⟨3, rfl, by omega⟩
    · exact ⟨4, rfl, by omega⟩
    · exact ⟨5, rfl, by omega⟩
    · exact ⟨8, rfl, by omega⟩
  have e1 : IntKind.i64.wrap (IntKind.i64.wrap (16 * d) + 1) = 16 * d + 1 := by rw [w64 (n := 16 * d) (by omega), w64 (by omega)]
  have e2 : IntKind.i64.wrap (8 * d) = 8 * d := w64 (by omega)
  have b3 := Int.emod_nonneg (IntKind.i64.wrap (x.tdiv 6)) (show 16 * d + 1 ≠ 0 by omega)
  have b4 := Int.emod_lt_of_pos (IntKind.i64.wrap (x.tdiv 6)) (show 0 < 16 * d + 1 by omega)
  refine ⟨by omega, by omega, d, hd, by decide, ?_⟩
  rw [e1, e2, w64 (n := _ - 8 * d) (by omega)]
  exact ⟨by omega, by omega, hK _⟩
def c_mRat : Ctr := fun as0 => match as0 with
  | [.x false [.v (.int .i64 x)]] => some fun K => ((-9223372036854775808 ≤ x ∧ x < 9223372036854775808)) ∧ (∀ q : Rat, K (rA q 63))
  | _ => none
theorem ok_mRat : CtrOK Tryd.prog tabG debT 35 c_mRat := by
  refine ⟨enters Tryd.func35 (by kernel_rfl), fun l T hT K hK => ?_⟩
  unfold c_mRat at hT
  split at hT
  · cases hT
    obtain ⟨hc, hK⟩ := hK
    exact spec_ofL T52ok mixed Tryd.func35 (by kernel_rfl) (by kernel_rfl) (by rfl) (g_mRat _ hc K hK)
  · cases hT
def L53 : List (Nat × Ctr) := (35, c_mRat) :: L52
def T53 : Tabs := mkT L53 M48 X4
theorem L53ok : CtrsOK Tryd.prog tabG debT L53 := .cons ok_mRat L52ok
theorem T53ok : TabsOK Tryd.prog tabG debT T53 := mkTok L53ok M48ok X4ok
-- the newest table: L53 M48 X4 T53
theorem g_clamp (a : ArmV) (b : Nat) (qs : List Rat) (ha : GoodArm a) (hb : b ≤ 1000000) (hq : qs.length = a.links.length) : Holds (goal_clamp a b qs) := by
  refine ⟨?_⟩
  rw [goal_clamp_vc]
  simp only [Int.ofNat_eq_natCast, true_and, and_true, Nat.zero_add, Nat.le_refl, true_implies, true_or, or_true]
  have hn := ha.n
  have lc : (clampR a.links qs).length = a.links.length := by simp [clampR, hq]
  refine ⟨a, rfl, ⟨ha, by omega⟩, ⟨0, by omega, rfl, by simp, rfl, by simp⟩, fun x hx => bif_mk (fun hp => ?_) (fun hp => ?_)⟩
  · have hp : x < a.links.length := by have := of_decide_eq_true hp; omega
    obtain ⟨L, hL⟩ : ∃ L, a.links[x]? = some L := ⟨_, List.getElem?_eq_getElem hp⟩
    obtain ⟨q, hqq⟩ : ∃ q, qs[x]? = some q := ⟨_, List.getElem?_eq_getElem (by omega)⟩
    have hc : (clampR a.links qs)[x]? = some (clampQ L q) := by simp [clampR, List.getElem?_zipWith, hL, hqq]
    refine ⟨by rw [List.length_map]; omega, _, _, _, _, _, _, _, _, _, _, _, link_ld (by simpa using hL), by omega, _, _, lR_ld (n := b) (by simpa using hqq), by omega, by omega, by omega, x + 1, ⟨by omega, by omega⟩, rfl, by rw [w64 (by omega)]; simp, .inl ?_⟩
    rw [List.take_of_length_le (by rw [List.length_map, List.length_take]; omega), List.take_add_one, hc, List.map_append]
    rfl
  · have hp : x = a.links.length := by have := of_decide_eq_false hp; omega
    subst hp
    exact ⟨(), hq.symm, .inl (by rw [List.take_of_length_le (by omega)])⟩
theorem g_confM (a : ArmV) (l : List Int) (ha : GoodArm a) (hl : l.length ≤ 9223372036854775807) : Holds (goal_confM a l) := by
  refine ⟨?_⟩
  rw [goal_confM_vc]
  simp only [Int.ofNat_eq_natCast, true_and, and_true, Nat.zero_add, Nat.le_refl, true_implies, true_or, or_true]
  exact ⟨a, l, rfl, rfl, ha, hl, fun qs l' hf hq _ => ⟨qs, ⟨hf, hq⟩, rfl, .inl rfl⟩⟩
theorem g_cloneI (l : List Int) (h : l ≠ []) (hl : l.length * 8 ≤ 140737488355328) : Holds (goal_cloneI l) := by
  refine ⟨?_⟩
  rw [goal_cloneI_vc]
  simp only [Int.ofNat_eq_natCast, true_and, and_true, Nat.zero_add, Nat.le_refl, true_implies, true_or, or_true]
  rw [ints_len]
  exact ⟨fun e => h (by simpa [ints] using e), by omega, (), rfl, .inl (List.nil_append _)⟩
theorem g_cloneI0 : Holds (goal_cloneI0 []) := by
  refine ⟨?_⟩
  rw [goal_cloneI0_vc]
  simp only [Int.ofNat_eq_natCast, true_and, and_true, Nat.zero_add, Nat.le_refl, true_implies, true_or, or_true]
  exact ⟨(), rfl⟩
theorem g_cloneI1 (b o c : Nat) : Holds (goal_cloneI1 b o c []) := by
  refine ⟨?_⟩
  rw [goal_cloneI1_vc]
  simp only [Int.ofNat_eq_natCast, true_and, and_true, Nat.zero_add, Nat.le_refl, true_implies, true_or, or_true]
  exact ⟨by omega, (), .inl rfl⟩
theorem spec_empty {P : Program} {g : Nat} {tab : List Value} {f sz : Nat} {H : HP} {K : KK} (hA : SpecM P g tab f [.x false [.v (.slice none 0 0)]] H K) (hB : ∀ b o c, SpecM P g tab f [.x false [.v (.slice (some ⟨b, o, none⟩) 0 c)]] H K) : SpecM P g tab f [.x false [.s sz []]] H K := by
  intro w0 M ρ w vals hg ht hs hc
  cases hc with
  | cons h t =>
    cases t
    obtain ⟨us, hcc, hv⟩ := h
    simp only [Bool.false_eq_true, if_false] at hv
    subst hv
    cases hcc with
    | s0 h => exact hA w0 M ρ w _ hg ht hs (.cons ⟨_, .v rfl .nil, rfl⟩ .nil)
    | s00 h => exact hB _ _ _ w0 M ρ w _ hg ht hs (.cons ⟨_, .v rfl .nil, rfl⟩ .nil)
    | s hr hx hcap h => exact hB _ _ _ w0 M ρ w _ hg ht hs (.cons ⟨_, .v rfl .nil, rfl⟩ .nil)
def c_clamp : CtrM := fun as0 H d => match as0 with
  | [.x true xs, .x false [.w k o n]] => match o with
    | 0 => match H k with
      | some (.row t 3 ys) => match H d with
        | none => bif t.beq 25 then
          some fun K => ∃ (a : ArmV) (b : Nat) (qs : List Rat), xs = armCh a ∧ ys = lR b qs ∧ n = qs.length ∧ GoodArm a ∧ b ≤ 1000000 ∧ qs.length = a.links.length ∧
            K (.t [(false, [.w d 0 qs.length]), (false, [.v (.int .i64 0)])]) (backH [(1000, k), (500, d)] (lookH [(1000, rowR b qs), (500, rowR (clB b) (clampR a.links qs))]) H)
          else none
        | some _ => none
      | _ => none
    | _ + 1 => none
  | _ => none
def c_confM : CtrM := fun as0 H d => match as0 with
  | [.x true xs, .x false [.s 1 ys]] => match H d with
    | none => some fun K => ∃ a l, xs = armCh a ∧ ys = ints l ∧ GoodArm a ∧ l.length ≤ 9223372036854775807 ∧ ∀ qs : List Rat, Fit a qs → qs.length = a.links.length → K (.x false [.w d 0 qs.length]) (backH [(0, d)] (lookH [(0, rowR 63 qs)]) H)
    | some _ => none
  | _ => none
def c_cloneI : CtrM := fun as0 H d => match as0 with
  | [.x false [.s 1 xs]] => match H d with
    | none => some fun K => ∃ l, xs = ints l ∧ l.length * 8 ≤ 140737488355328 ∧ K (.x false [.w d 0 l.length]) (backH [(0, d)] (lookH [(0, rowI l)]) H)
    | some _ => none
  | _ => none
theorem ok_clamp : CtrMOK Tryd.prog tabG debT 33 c_clamp := by
  refine ⟨enters Tryd.func33 (by kernel_rfl), fun l H d T hT K hK => ?_⟩
  unfold c_clamp at hT
  split at hT
  · rename_i xs k o n
    split at hT
    · split at hT
      · rename_i t ys e1
        split at hT
        · rename_i hd
          cases hb : t.beq 25 with
          | false => rw [hb] at hT; cases hT
          | true =>
            rw [hb] at hT
            cases hT
            have ht := Nat.eq_of_beq_eq_true hb
            subst ht
            obtain ⟨a, b, qs, rfl, rfl, rfl, ha, hbb, hq, hK⟩ := hK
            refine specM_of (R := [(1000, k)]) (N := [(500, d)]) (Hl := [(1000, rowR b qs)]) T52ok mixed Tryd.func33 (by kernel_rfl) (by kernel_rfl) (by rfl)
              (as0 := [armA a, .x false [.w 1000 0 qs.length]]) ?_ (hand1 e1 rfl rfl) rfl (by simp) (by simp) (fun p hp => by simp at hp; subst hp; exact hd) (fun x => ⟨fun p hp => ?_, fun p hp b hb => ?_⟩) (g_clamp a b qs ha hbb hq) (fun x hx => ?_)
            · simp [renAs, renAV, renCh, lkB, armA, armCh]
            · simp at hp
              subst hp
              exact fun h => by have h' : some (rowR _ _) = none := h; cases h'
            · simp at hp
              rcases hp with rfl | rfl
              · have h' : some (rowR _ _) = some b := hb; cases h'; rfl
              · have h' : some (rowR _ _) = some b := hb; cases h'; rfl
            · exact ⟨_, rfl, hK⟩
        · cases hT
      · cases hT
    · cases hT
  · cases hT
theorem ok_confM : CtrMOK Tryd.prog tabG debT 32 c_confM := by
  refine ⟨enters Tryd.func32 (by kernel_rfl), fun l H d T hT K hK => ?_⟩
  unfold c_confM at hT
  split at hT
  · split at hT
    · rename_i hd
      cases hT
      obtain ⟨a, l, rfl, rfl, ha, hl, hK⟩ := hK
      refine specM_of (R := []) (N := [(0, d)]) (Hl := []) T52ok mixed Tryd.func32 (by kernel_rfl) (by kernel_rfl) (by rfl)
        (as0 := [armA a, .x false [.s 1 (ints l)]]) ?_ .nil rfl (by simp) (by simp) (fun p hp => by simp at hp; subst hp; exact hd) (fun x => ⟨(fun _ h => by cases h), fun p hp b hb => ?_⟩) (g_confM a l ha hl) (fun x hx => ?_)
      · simp [renAs, renAV, renCh, armA, armCh]
      · simp at hp
        subst hp
        have h' : some (rowR _ _) = some b := hb; cases h'; rfl
      · exact ⟨_, rfl, hK x hx.1 hx.2⟩
    · cases hT
  · cases hT
theorem ok_cloneI : CtrMOK Tryd.prog tabG debT 36 c_cloneI := by
  refine ⟨enters Tryd.func36 (by kernel_rfl), fun l H d T hT K hK => ?_⟩
  unfold c_cloneI at hT
  split at hT
  · split at hT
    · rename_i hd
      cases hT
      obtain ⟨l, rfl, hl, hK⟩ := hK
      by_cases h : l = []
      · subst h
        refine spec_empty ?_ fun b o c => ?_
        · exact specM_new T52ok mixed Tryd.func36 (by kernel_rfl) (by kernel_rfl) (by rfl) (by rfl) hd (by kernel_rfl) g_cloneI0 hK
        · exact specM_new T52ok mixed Tryd.func36 (by kernel_rfl) (by kernel_rfl) (by rfl) (by rfl) hd (by kernel_rfl) (g_cloneI1 b o c) hK
      · exact specM_new T52ok mixed Tryd.func36 (by kernel_rfl) (by kernel_rfl) (by rfl) (by rfl) hd (by kernel_rfl) (g_cloneI l h hl) hK
    · cases hT
  · cases hT
def M54 : List (Nat × CtrM) := (33, c_clamp) :: (32, c_confM) :: (36, c_cloneI) :: M48
def L54 : List (Nat × Ctr) := (18, c_equalR) :: L53
def T54 : Tabs := mkT L54 M54 X4
theorem M54ok : CtrMsOK Tryd.prog tabG debT M54 := .cons ok_clamp (.cons ok_confM (.cons ok_cloneI M48ok))
theorem L54ok : CtrsOK Tryd.prog tabG debT L54 := .cons ok_equalR L53ok
theorem T54ok : TabsOK Tryd.prog tabG debT T54 := mkTok L54ok M54ok X4ok
end Go.Proofs
/- ArmClamps. -/
namespace Go.Proofs
open Go Go.Eng
/-- A row part way through: the first i elements have grown by a sum. -/
def mixR (i : Nat) (qs : List Rat) : List (List Ch) := lR 127 (qs.take i) ++ lR 63 (qs.drop i)
structure CmX where
  a : ArmV
  qs : List Rat
  i : Nat
def inv_aclamp (k : List Int) : LI := fun _ => .inv ⟨CmX, fun x => ⟨[(2, .x false [.s 1 (ints k)]), (9, .x false [.p 9 0]), (10, .x false [.w 500 0 x.qs.length]), (54, iA .i64 x.qs.length), (55, iA .i64 x.i)], [(9, .box 34 (armCh x.a)), (500, .row 25 3 (mixR x.i x.qs))]⟩, fun x => (GoodArm x.a ∧ x.qs.length = x.a.links.length) ∧ x.i ≤ x.qs.length, fun x => x.qs.length - x.i, fun _ => 0⟩
def ot_aclamp : OT := fun id => bif id.beq 2 then ([0, 1, 2, 3, 4, 5, 6], [[], [0], [1, 0], [2, 1, 0], [2, 1, 0], [3, 2, 1, 0, 4], [2, 1, 0, 5, 3, 4]]) else bif id.beq 12 then ([0, 1, 2, 3, 4, 5, 6, 8, 10, 11, 12, 13, 7, 9, 14, 15, 16, 17, 18, 19], [[], [], [], [], [2, 3], [4, 2, 3], [], [6], [], [7, 6, 8], [], [], [11], [10, 12, 11], [9, 7, 6, 8, 13, 10, 12, 11], [14, 9, 7, 6, 8, 13, 10, 12, 11], [15, 14, 9, 7, 6, 8, 13, 10, 12, 11], [5, 4, 2, 3, 16, 15, 14, 9, 7, 6, 8, 13, 10, 12, 11], [0, 1, 2, 3, 4, 5, 6, 7, 8, 9, 10, 11, 12, 13, 14, 15, 16, 17], [18, 0, 1, 2, 3, 4, 5, 6, 7, 8, 9, 10, 11, 12, 13, 14, 15, 16, 17]]) else ([], [])
def goal_aclamp (l m k : List Int) (K : AV → Prop) : Prop := goalL T54 ot_aclamp (inv_aclamp k) Tryd.f5 [.x false [.s 1 (ints l)], .x false [.s 1 (ints m)], .x false [.s 1 (ints k)]] K
theorem goal_aclamp_vc (l : List Int) (m : List Int) (k : List Int) (K : AV → Prop) : goal_aclamp l m k K = (
 ∃ (ns : List Int),
 [[Ch.v (Value.int IntKind.i64 (3 : Int))], [Ch.v (Value.int IntKind.i64 (2 : Int))]] = ints ns ∧
 (List.length ns ≤ (3 : Nat) ∧ ∀ (n : Int), n ∈ ns → (1 : Int) ≤ n ∧ n ≤ (1000 : Int)) ∧
 ∃ (a : ArmV),
 [Ch.v (Value.string (ArmV.name (sampleV ns))), Ch.r (ArmV.x (sampleV ns)) (63 : Nat), Ch.r (ArmV.y (sampleV ns)) (63 : Nat),
 Ch.v (Value.bool false), Ch.r (ArmV.t (sampleV ns)) (63 : Nat), Ch.s (16 : Nat) (List.map linkCh (ArmV.links (sampleV ns)))] =
 [Ch.v (Value.string (ArmV.name a)), Ch.r (ArmV.x a) (63 : Nat), Ch.r (ArmV.y a) (63 : Nat), Ch.v (Value.bool (ArmV.half a)),
 Ch.r (ArmV.t a) (63 : Nat), Ch.s (16 : Nat) (List.map linkCh (ArmV.links a))] ∧
 GoodArm a ∧
 (((-9223372036854775808 : Int) < (5 : Int) ∧ (5 : Int) < (9223372036854775808 : Int)) ∧
 (0 : Int) < (1 : Int) ∧ (1 : Int) < (9223372036854775808 : Int)) ∧
 bif !(decide (sumLen (ArmV.links a) = mkRat (5 : Int) (Int.toNat (1 : Int))) && true) then
 K (AV.x false [Ch.v (Value.bool false)])
 else
 ∃ (l_1 : List Int),
 ints l = ints l_1 ∧
 List.length l_1 ≤ (9223372036854775807 : Nat) ∧
 ∀ (a : ArmV),
 Made a ∧ (1 : Nat) ≤ List.length (ArmV.links a) →
 ∃ (a_2 : ArmV),
 ∃ (l : List Int),
 [Ch.v (Value.string (ArmV.name a)), Ch.r (ArmV.x a) (63 : Nat), Ch.r (ArmV.y a) (63 : Nat),
 Ch.v (Value.bool (ArmV.half a)), Ch.r (ArmV.t a) (63 : Nat),
 Ch.s (16 : Nat) (List.map linkCh (ArmV.links a))] =
 [Ch.v (Value.string (ArmV.name a_2)), Ch.r (ArmV.x a_2) (63 : Nat), Ch.r (ArmV.y a_2) (63 : Nat),
 Ch.v (Value.bool (ArmV.half a_2)), Ch.r (ArmV.t a_2) (63 : Nat),
 Ch.s (16 : Nat) (List.map linkCh (ArmV.links a_2))] ∧
 ints m = ints l ∧
 GoodArm a_2 ∧
 List.length l ≤ (9223372036854775807 : Nat) ∧
 ∀ (qs : List Rat),
 (∀ (i : Nat) (L : LinkV) (q : Rat),
 (ArmV.links a_2)[i]? = some L → qs[i]? = some q → LinkV.lo L ≤ q ∧ q ≤ LinkV.hi L) →
 List.length qs = List.length (ArmV.links a_2) →
 ∃ (a_5 : ArmV),
 ∃ (b : Nat),
 ∃ (qs_1 : List Rat),
 [Ch.v (Value.string (ArmV.name a)), Ch.r (ArmV.x a) (63 : Nat),
 Ch.r (ArmV.y a) (63 : Nat), Ch.v (Value.bool (ArmV.half a)),
 Ch.r (ArmV.t a) (63 : Nat), Ch.s (16 : Nat) (List.map linkCh (ArmV.links a))] =
 [Ch.v (Value.string (ArmV.name a_5)), Ch.r (ArmV.x a_5) (63 : Nat),
 Ch.r (ArmV.y a_5) (63 : Nat), Ch.v (Value.bool (ArmV.half a_5)),
 Ch.r (ArmV.t a_5) (63 : Nat), Ch.s (16 : Nat) (List.map linkCh (ArmV.links a_5))] ∧
 List.map (fun (q : Rat) => [Ch.r q (63 : Nat)]) qs = lR b qs_1 ∧
 List.length qs = List.length qs_1 ∧
 GoodArm a_5 ∧
 b ≤ (1000000 : Nat) ∧
 List.length qs_1 = List.length (ArmV.links a_5) ∧
 ∃ (a_6 : Nat),
 ∃ (ps : List Rat),
 ∃ (b_1 : Nat),
 ∃ (qs_2 : List Rat),
 List.take (List.length qs_1)
 (List.drop (0 : Nat)
 (List.map (fun (q : Rat) => [Ch.r q (clB b)])
 (clampR (ArmV.links a_5) qs_1))) =
 lR a_6 ps ∧
 List.take (List.length qs)
 (List.drop (0 : Nat)
 (List.map (fun (q : Rat) => [Ch.r q b]) qs_1)) =
 lR b_1 qs_2 ∧
 (List.length ps ≤ (1000000000 : Nat) ∧
 List.length qs_2 ≤ (1000000000 : Nat)) ∧
 bif !decide (ps = qs_2) then
 K (AV.x false [Ch.v (Value.bool false)])
 else
 ∃ (a_7 : ArmV),
 ∃ (n : Nat),
 ∃ (qs_3 : List Rat),
 [Ch.v (Value.string (ArmV.name a)),
 Ch.r (ArmV.x a) (63 : Nat),
 Ch.r (ArmV.y a) (63 : Nat),
 Ch.v (Value.bool (ArmV.half a)),
 Ch.r (ArmV.t a) (63 : Nat),
 Ch.s (16 : Nat)
 (List.map linkCh (ArmV.links a))] =
 [Ch.v (Value.string (ArmV.name a_7)),
 Ch.r (ArmV.x a_7) (63 : Nat),
 Ch.r (ArmV.y a_7) (63 : Nat),
 Ch.v (Value.bool (ArmV.half a_7)),
 Ch.r (ArmV.t a_7) (63 : Nat),
 Ch.s (16 : Nat)
 (List.map linkCh (ArmV.links a_7))] ∧
 List.take (List.length qs)
 (List.drop (0 : Nat)
 (List.map (fun (q : Rat) => [Ch.r q b])
 qs_1)) =
 lR n qs_3 ∧
 (GoodArm a_7 ∧
 n ≤ (1000000 : Nat) ∧
 List.length qs_3 =
 List.length (ArmV.links a_7)) ∧
 ((∀ (i : Nat) (L : LinkV) (q : Rat),
 (ArmV.links a_7)[i]? = some L →
 qs_3[i]? = some q →
 LinkV.lo L ≤ q ∧ q ≤ LinkV.hi L) →
 (∃ (x : CmX),
 (((GoodArm (CmX.a x) ∧
 List.length (CmX.qs x) =
 List.length
 (ArmV.links (CmX.a x))) ∧
 CmX.i x ≤ List.length (CmX.qs x)) ∧
 OfNat.ofNat (0 : Nat) = (0 : Nat)) ∧
 (1 : Nat) = (1 : Nat) ∧
 ints k = ints k ∧
 (0 : Nat) = (0 : Nat) ∧
 (0 : Nat) = (0 : Nat) ∧
 List.length qs =
 List.length (CmX.qs x) ∧
 Int.ofNat (List.length qs) =
 Int.ofNat
 (List.length
 (CmX.qs x)) ∧
 (0 : Int) =
 Int.ofNat (CmX.i x) ∧
 (34 : Nat) = (34 : Nat) ∧
 ArmV.name a =
 ArmV.name
 (CmX.a x) ∧
 ArmV.x a =
 ArmV.x (CmX.a x) ∧
 (63 : Nat) ≤
 (63 : Nat) ∧
 ArmV.y a =
 ArmV.y
 (CmX.a x) ∧
 (63 : Nat) ≤
 (63 : Nat) ∧
 ArmV.half a =
 ArmV.half
 (CmX.a
 x) ∧
 ArmV.t a =
 ArmV.t
 (CmX.a
 x) ∧
 (63 :
 Nat) ≤
 (63 :
 Nat) ∧
 (16 :
 Nat) =
 (16 :
 Nat) ∧
 List.map
 linkCh
 (ArmV.links
 a) =
 List.map
 linkCh
 (ArmV.links
 (CmX.a
 x)) ∧
 (25 :
 Nat) =
 (25 :
 Nat) ∧
 (3 :
 Nat) =
 (3 :
 Nat) ∧
 (List.map
 (fun
 (q :
 Rat) =>
 [Ch.r
 q
 b])
 qs_1 =
 mixR
 (CmX.i
 x)
 (CmX.qs
 x) ∨
 RowLE
 (List.map
 (fun
 (q :
 Rat) =>
 [Ch.r
 q
 b])
 qs_1)
 (mixR
 (CmX.i
 x)
 (CmX.qs
 x))) ∧
 True) ∧
 ∀ (x : CmX),
 (GoodArm (CmX.a x) ∧
 List.length (CmX.qs x) =
 List.length
 (ArmV.links (CmX.a x))) ∧
 CmX.i x ≤ List.length (CmX.qs x) →
 OfNat.ofNat (0 : Nat) = (0 : Nat) →
 bif
 decide
 (Int.ofNat (CmX.i x) <
 Int.ofNat
 (List.length
 (CmX.qs x))) then
 ((0 : Int) ≤ Int.ofNat (CmX.i x) ∧
 Int.ofNat (CmX.i x) <
 Int.ofNat
 (List.length (CmX.qs x))) ∧
 ∃ (q : Rat),
 ∃ (n : Nat),
 ldE
 (mixR (CmX.i x)
 (CmX.qs x))
 ((0 : Nat) +
 Int.toNat
 (Int.ofNat
 (CmX.i x)))
 (0 : Nat) (3 : Nat) =
 some [Ch.r q n] ∧
 ∃ (l : List Int),
 ints k = ints l ∧
 List.length l *
 (8 : Nat) ≤
 (140737488355328 :
 Nat) ∧
 ((List.length l +
 (1 : Nat)) *
 (8 : Nat) ≤
 (140737488355328 :
 Nat) ∧
 List.length l +
 (1 : Nat) ≤
 (9223372036854775807 :
 Nat)) ∧
 (((0 : Int) ≤
 bif false then
 if
 Int.ofNat
 (List.length
 (ints
 k)) >
 Int.ofNat
 (CmX.i
 x) then
 Int.ofNat
 (List.length
 (ints
 k))
 else
 Int.ofNat
 (CmX.i
 x)
 else
 if
 Int.ofNat
 (List.length
 (ints
 k)) <
 Int.ofNat
 (CmX.i
 x) then
 Int.ofNat
 (List.length
 (ints
 k))
 else
 Int.ofNat
 (CmX.i
 x)) ∧
 (bif false then
 if
 Int.ofNat
 (List.length
 (ints
 k)) >
 Int.ofNat
 (CmX.i
 x) then
 Int.ofNat
 (List.length
 (ints
 k))
 else
 Int.ofNat
 (CmX.i
 x)
 else
 if
 Int.ofNat
 (List.length
 (ints
 k)) <
 Int.ofNat
 (CmX.i
 x) then
 Int.ofNat
 (List.length
 (ints
 k))
 else
 Int.ofNat
 (CmX.i
 x)) <
 Int.ofNat
 (List.length
 l +
 (1 :
 Nat))) ∧
 ∃ (d : Int),
 ldE
 (List.take
 (List.length
 l)
 (ints
 l) ++
 [[Ch.v
 (Value.int
 IntKind.i64
 (0 :
 Int))]])
 ((0 :
 Nat) +
 Int.toNat
 (bif
 false then
 if
 Int.ofNat
 (List.length
 (ints
 k)) >
 Int.ofNat
 (CmX.i
 x) then
 Int.ofNat
 (List.length
 (ints
 k))
 else
 Int.ofNat
 (CmX.i
 x)
 else
 if
 Int.ofNat
 (List.length
 (ints
 k)) <
 Int.ofNat
 (CmX.i
 x) then
 Int.ofNat
 (List.length
 (ints
 k))
 else
 Int.ofNat
 (CmX.i
 x)))
 (0 : Nat)
 (1 :
 Nat) =
 some
 [Ch.v
 (Value.int
 IntKind.i64
 d)] ∧
 ((-9223372036854775808 :
 Int) ≤
 d ∧
 d <
 (9223372036854775808 :
 Int)) ∧
 ∀
 (q_1 :
 Rat),
 n +
 (63 :
 Nat) +
 (1 :
 Nat) ≤
 (4294967296 :
 Nat) ∧
 ((0 :
 Int) ≤
 Int.ofNat
 (CmX.i
 x) ∧
 Int.ofNat
 (CmX.i
 x) <
 Int.ofNat
 (List.length
 (CmX.qs
 x))) ∧
 (0 :
 Nat) +
 Int.toNat
 (Int.ofNat
 (CmX.i
 x)) <
 List.length
 (mixR
 (CmX.i
 x)
 (CmX.qs
 x)) ∧
 ∃
 (x'
 :
 CmX),
 (((GoodArm
 (CmX.a
 x') ∧
 List.length
 (CmX.qs
 x') =
 List.length
 (ArmV.links
 (CmX.a
 x'))) ∧
 CmX.i
 x' ≤
 List.length
 (CmX.qs
 x')) ∧
 OfNat.ofNat
 (0 :
 Nat) =
 (0 :
 Nat) ∧
 List.length
 (CmX.qs
 x') -
 CmX.i
 x' <
 List.length
 (CmX.qs
 x) -
 CmX.i
 x) ∧
 (1 :
 Nat) =
 (1 :
 Nat) ∧
 ints
 k =
 ints
 k ∧
 (0 :
 Nat) =
 (0 :
 Nat) ∧
 (0 :
 Nat) =
 (0 :
 Nat) ∧
 List.length
 (CmX.qs
 x) =
 List.length
 (CmX.qs
 x') ∧
 Int.ofNat
 (List.length
 (CmX.qs
 x)) =
 Int.ofNat
 (List.length
 (CmX.qs
 x')) ∧
 IntKind.wrap
 IntKind.i64
 (Int.ofNat
 (CmX.i
 x) +
 (1 :
 Int)) =
 Int.ofNat
 (CmX.i
 x') ∧
 (34 :
 Nat) =
 (34 :
 Nat) ∧
 ArmV.name
 (CmX.a
 x) =
 ArmV.name
 (CmX.a
 x') ∧
 ArmV.x
 (CmX.a
 x) =
 ArmV.x
 (CmX.a
 x') ∧
 (63 :
 Nat) ≤
 (63 :
 Nat) ∧
 ArmV.y
 (CmX.a
 x) =
 ArmV.y
 (CmX.a
 x') ∧
 (63 :
 Nat) ≤
 (63 :
 Nat) ∧
 ArmV.half
 (CmX.a
 x) =
 ArmV.half
 (CmX.a
 x') ∧
 ArmV.t
 (CmX.a
 x) =
 ArmV.t
 (CmX.a
 x') ∧
 (63 :
 Nat) ≤
 (63 :
 Nat) ∧
 (16 :
 Nat) =
 (16 :
 Nat) ∧
 List.map
 linkCh
 (ArmV.links
 (CmX.a
 x)) =
 List.map
 linkCh
 (ArmV.links
 (CmX.a
 x')) ∧
 (25 :
 Nat) =
 (25 :
 Nat) ∧
 (3 :
 Nat) =
 (3 :
 Nat) ∧
 (List.set
 (mixR
 (CmX.i
 x)
 (CmX.qs
 x))
 ((0 :
 Nat) +
 Int.toNat
 (Int.ofNat
 (CmX.i
 x)))
 [Ch.r
 (q +
 q_1)
 (n +
 (63 :
 Nat) +
 (1 :
 Nat))] =
 mixR
 (CmX.i
 x')
 (CmX.qs
 x') ∨
 RowLE
 (List.set
 (mixR
 (CmX.i
 x)
 (CmX.qs
 x))
 ((0 :
 Nat) +
 Int.toNat
 (Int.ofNat
 (CmX.i
 x)))
 [Ch.r
 (q +
 q_1)
 (n +
 (63 :
 Nat) +
 (1 :
 Nat))])
 (mixR
 (CmX.i
 x')
 (CmX.qs
 x'))) ∧
 True
 else
 ∃ (a : ArmV),
 ∃ (b : Nat),
 ∃ (qs : List Rat),
 [Ch.v
 (Value.string
 (ArmV.name
 (CmX.a x))),
 Ch.r (ArmV.x (CmX.a x))
 (63 : Nat),
 Ch.r (ArmV.y (CmX.a x))
 (63 : Nat),
 Ch.v
 (Value.bool
 (ArmV.half
 (CmX.a x))),
 Ch.r (ArmV.t (CmX.a x))
 (63 : Nat),
 Ch.s (16 : Nat)
 (List.map linkCh
 (ArmV.links
 (CmX.a x)))] =
 [Ch.v
 (Value.string
 (ArmV.name a)),
 Ch.r (ArmV.x a)
 (63 : Nat),
 Ch.r (ArmV.y a)
 (63 : Nat),
 Ch.v
 (Value.bool
 (ArmV.half a)),
 Ch.r (ArmV.t a)
 (63 : Nat),
 Ch.s (16 : Nat)
 (List.map linkCh
 (ArmV.links a))] ∧
 mixR (CmX.i x) (CmX.qs x) =
 lR b qs ∧
 List.length (CmX.qs x) =
 List.length qs ∧
 GoodArm a ∧
 b ≤ (1000000 : Nat) ∧
 List.length qs =
 List.length
 (ArmV.links
 a) ∧
 ∃ (a_9 : ArmV),
 ∃ (n : Nat),
 ∃ (qs_4 :
 List Rat),
 [Ch.v
 (Value.string
 (ArmV.name
 (CmX.a
 x))),
 Ch.r
 (ArmV.x
 (CmX.a
 x))
 (63 :
 Nat),
 Ch.r
 (ArmV.y
 (CmX.a
 x))
 (63 :
 Nat),
 Ch.v
 (Value.bool
 (ArmV.half
 (CmX.a
 x))),
 Ch.r
 (ArmV.t
 (CmX.a
 x))
 (63 :
 Nat),
 Ch.s
 (16 :
 Nat)
 (List.map
 linkCh
 (ArmV.links
 (CmX.a
 x)))] =
 [Ch.v
 (Value.string
 (ArmV.name
 a_9)),
 Ch.r
 (ArmV.x
 a_9)
 (63 :
 Nat),
 Ch.r
 (ArmV.y
 a_9)
 (63 :
 Nat),
 Ch.v
 (Value.bool
 (ArmV.half
 a_9)),
 Ch.r
 (ArmV.t
 a_9)
 (63 :
 Nat),
 Ch.s
 (16 :
 Nat)
 (List.map
 linkCh
 (ArmV.links
 a_9))] ∧
 List.take
 (List.length
 qs)
 (List.drop
 (0 :
 Nat)
 (List.map
 (fun
 (q :
 Rat) =>
 [Ch.r
 q
 (clB
 b)])
 (clampR
 (ArmV.links
 a)
 qs))) =
 lR n
 qs_4 ∧
 (GoodArm
 a_9 ∧
 n ≤
 (1000000 :
 Nat) ∧
 List.length
 qs_4 =
 List.length
 (ArmV.links
 a_9)) ∧
 ((∀
 (i :
 Nat)
 (L :
 LinkV)
 (q :
 Rat),
 (ArmV.links
 a_9)[i]? =
 some
 L →
 qs_4[i]? =
 some
 q →
 LinkV.lo
 L ≤
 q ∧
 q ≤
 LinkV.hi
 L) →
 ∃
 (a_11
 :
 ArmV),
 ∃
 (n
 :
 Nat),
 ∃
 (qs_5
 :
 List
 Rat),
 [Ch.v
 (Value.string
 (ArmV.name
 (CmX.a
 x))),
 Ch.r
 (ArmV.x
 (CmX.a
 x))
 (63 :
 Nat),
 Ch.r
 (ArmV.y
 (CmX.a
 x))
 (63 :
 Nat),
 Ch.v
 (Value.bool
 (ArmV.half
 (CmX.a
 x))),
 Ch.r
 (ArmV.t
 (CmX.a
 x))
 (63 :
 Nat),
 Ch.s
 (16 :
 Nat)
 (List.map
 linkCh
 (ArmV.links
 (CmX.a
 x)))] =
 [Ch.v
 (Value.string
 (ArmV.name
 a_11)),
 Ch.r
 (ArmV.x
 a_11)
 (63 :
 Nat),
 Ch.r
 (ArmV.y
 a_11)
 (63 :
 Nat),
 Ch.v
 (Value.bool
 (ArmV.half
 a_11)),
 Ch.r
 (ArmV.t
 a_11)
 (63 :
 Nat),
 Ch.s
 (16 :
 Nat)
 (List.map
 linkCh
 (ArmV.links
 a_11))] ∧
 List.take
 (List.length
 (CmX.qs
 x))
 (List.drop
 (0 :
 Nat)
 (List.map
 (fun
 (q :
 Rat) =>
 [Ch.r
 q
 b])
 qs)) =
 lR
 n
 qs_5 ∧
 (GoodArm
 a_11 ∧
 n ≤
 (1000000 :
 Nat) ∧
 List.length
 qs_5 =
 List.length
 (ArmV.links
 a_11)) ∧
 ((∀
 (i :
 Nat)
 (L :
 LinkV)
 (q :
 Rat),
 (ArmV.links
 a_11)[i]? =
 some
 L →
 qs_5[i]? =
 some
 q →
 LinkV.lo
 L ≤
 q ∧
 q ≤
 LinkV.hi
 L) →
 ∃
 (a_13
 :
 Nat),
 ∃
 (ps
 :
 List
 Rat),
 ∃
 (b_2
 :
 Nat),
 ∃
 (qs_6
 :
 List
 Rat),
 List.take
 (List.length
 qs)
 (List.drop
 (0 :
 Nat)
 (List.map
 (fun
 (q :
 Rat) =>
 [Ch.r
 q
 (clB
 b)])
 (clampR
 (ArmV.links
 a)
 qs))) =
 lR
 a_13
 ps ∧
 List.take
 (List.length
 (CmX.qs
 x))
 (List.drop
 (0 :
 Nat)
 (List.map
 (fun
 (q :
 Rat) =>
 [Ch.r
 q
 b])
 qs)) =
 lR
 b_2
 qs_6 ∧
 (List.length
 ps ≤
 (1000000000 :
 Nat) ∧
 List.length
 qs_6 ≤
 (1000000000 :
 Nat)) ∧
 K
 (AV.x
 false
 [Ch.v
 (Value.bool
 (decide
 (ps =
 qs_6)))])) ∧
 (¬Fit
 a_11
 qs_5 →
 K
 (AV.x
 false
 [Ch.v
 (Value.bool
 true)]))) ∧
 (¬Fit
 a_9
 qs_4 →
 K
 (AV.x
 false
 [Ch.v
 (Value.bool
 false)]))) ∧
 (¬Fit a_7 qs_3 →
 K (AV.x false [Ch.v (Value.bool false)]))) := by kernel_rfl
theorem maxR_le {a b c : Rat} (h1 : a ≤ c) (h2 : b ≤ c) : maxR a b ≤ c := by unfold maxR; split <;> grind
theorem maxR_ge1 {a b : Rat} : a ≤ maxR a b := by unfold maxR; split <;> grind
theorem clampQ_range {L : LinkV} (h : L.lo < L.hi) (q : Rat) : L.lo ≤ clampQ L q ∧ clampQ L q ≤ L.hi := by
  unfold clampQ
  exact ⟨maxR_ge1, maxR_le (Rat.le_of_lt h) minR_le1⟩
theorem clampQ_id {L : LinkV} {q : Rat} (h1 : L.lo ≤ q) (h2 : q ≤ L.hi) : clampQ L q = q := by
  unfold clampQ minR maxR
  split
  · split <;> grind
  · split <;> grind
theorem clampR_fit {a : ArmV} (ha : GoodArm a) (qs : List Rat) : Fit a (clampR a.links qs) := by
  intro i L r hL hr
  unfold clampR at hr
  simp only [List.getElem?_zipWith, hL] at hr
  cases hq : qs[i]? with
  | none => rw [hq] at hr; cases hr
  | some q =>
    rw [hq] at hr
    cases hr
    exact clampQ_range (ha.links L (List.mem_of_getElem? hL)).lim q
theorem clampR_id {a : ArmV} {qs : List Rat} (hl : qs.length = a.links.length) (hf : Fit a qs) : clampR a.links qs = qs := by
  apply List.ext_getElem?
  intro i
  unfold clampR
  simp only [List.getElem?_zipWith]
  cases hL : a.links[i]? with
  | none =>
    rw [List.getElem?_eq_none_iff] at hL
    rw [List.getElem?_eq_none (by omega)]
  | some L =>
    cases hq : qs[i]? with
    | none => rfl
    | some q =>
      have := hf i L q hL hq
      simp only
      rw [clampQ_id this.1 this.2]
theorem mixR_zero (qs : List Rat) : mixR 0 qs = lR 63 qs := by simp [mixR, lR]
theorem mixR_all (qs : List Rat) : mixR qs.length qs = lR 127 qs := by simp [mixR, lR]
theorem mixR_ld {qs : List Rat} {i : Nat} {q : Rat} (h : qs[i]? = some q) : ldE (mixR i qs) i 0 3 = some [.r q 63] := by
  have hi : i < qs.length := (List.getElem?_eq_some_iff.1 h).1
  have e : (mixR i qs)[i]? = some [Ch.r q 63] := by
    simp only [mixR, lR]
    rw [List.getElem?_append_right (by simp; omega)]
    simp only [List.length_map, List.length_take, List.getElem?_map, List.getElem?_drop]
    rw [show i + (i - min i qs.length) = i by omega, h]; rfl
  simp only [ldE, e]; rfl
theorem mixR_len (i : Nat) (qs : List Rat) : (mixR i qs).length = qs.length := by simp [mixR, lR]; omega
theorem mixR_set {qs : List Rat} {i : Nat} {q : Rat} (h : i < qs.length) : (mixR i qs).set i [Ch.r q 127] = mixR (i + 1) (qs.set i q) := by
  apply List.ext_getElem?
  intro j
  simp only [mixR, lR, List.getElem?_set, List.getElem?_append, List.length_append, List.length_map, List.length_take, List.length_drop, List.length_set, List.getElem?_map, List.getElem?_take, List.getElem?_drop]
  by_cases h1 : i = j
  · subst h1
    rw [if_pos rfl, if_pos (by omega), if_pos (by omega), if_pos (by omega), if_pos rfl, if_pos h]; rfl
  · rw [if_neg h1]
    by_cases h2 : j < i
    · rw [if_pos (by omega), if_pos (by omega), if_pos (by omega), if_pos (by omega), if_neg h1]
    · rw [if_neg (by omega), if_neg (by omega), if_neg (by omega)]
      rw [show i + (j - min i qs.length) = j by omega, show i + 1 + (j - min (i + 1) qs.length) = j by omega]
theorem g_aclamp (l m k : List Int) (hkr : ∀ n ∈ k, -9223372036854775808 ≤ n ∧ n < 9223372036854775808) (hl : l.length ≤ 9223372036854775807) (hm : m.length ≤ 9223372036854775807) (hk : (k.length + 1) * 8 ≤ 140737488355328) (K : AV → Prop) (hK : K (.x false [.v (.bool true)])) : Holds (goal_aclamp l m k K) := by
  refine ⟨?_⟩
  rw [goal_aclamp_vc]
  simp only [Int.ofNat_eq_natCast, true_and, and_true, Nat.zero_add, Nat.le_refl, true_implies, true_or, or_true]
  have e5 : sumLen (sampleV [3, 2]).links = mkRat 5 1 := by decide +kernel
  refine ⟨[3, 2], rfl, ⟨by simp, by simp⟩, sampleV [3, 2], rfl, sample_good (by simp) (by simp), by omega, ?_⟩
  rw [show (decide (sumLen (sampleV [3, 2]).links = mkRat 5 (Int.toNat 1))) = true from decide_eq_true e5]
  refine ⟨l, rfl, hl, fun a ha => ⟨a, m, rfl, rfl, MadeA.good ha, hm, fun qs hf hq => ?_⟩⟩
  have hg := MadeA.good ha
  have hn := hg.n
  have tk : ∀ (b : Nat) (qs : List Rat), List.take qs.length (List.drop 0 (List.map (fun q => [Ch.r q b]) qs)) = lR b qs := fun b qs => by rw [List.drop_zero, List.take_of_length_le (by rw [List.length_map]; exact Nat.le_refl _)]; rfl
  have tc : ∀ (b : Nat) (qs : List Rat), qs.length = a.links.length → List.take qs.length (List.drop 0 (List.map (fun q => [Ch.r q b]) (clampR a.links qs))) = lR b (clampR a.links qs) := fun b qs h => by
    rw [List.drop_zero, List.take_of_length_le (by simp [clampR, h])]; rfl
  refine ⟨a, 63, qs, rfl, rfl, rfl, hg, by omega, hq, _, _, _, _, tc _ qs hq, tk _ qs, ⟨by simp [clampR, hq]; omega, by omega⟩, ?_⟩
  rw [clampR_id hq hf, decide_eq_true rfl]
  refine ⟨a, _, _, rfl, tk _ qs, ⟨hg, by omega, hq⟩, fun _ => ⟨⟨⟨a, qs, 0⟩, ⟨⟨hg, hq⟩, by simp⟩, rfl, rfl, rfl, rfl, rfl, rfl, rfl, rfl, rfl, .inl (mixR_zero qs).symm⟩, fun x hx => bif_mk (fun hp => ?_) (fun hp => ?_)⟩, fun h => absurd hf h⟩
  · obtain ⟨⟨hga, hxq⟩, hxi⟩ := hx
    have hlt : x.i < x.qs.length := by have := of_decide_eq_true hp; omega
    have hna := hga.n
    obtain ⟨q, hqi⟩ : ∃ q, x.qs[x.i]? = some q := ⟨_, List.getElem?_eq_getElem hlt⟩
    have hM : (bif false then if ((ints k).length : Int) > (x.i : Int) then ((ints k).length : Int) else (x.i : Int) else if ((ints k).length : Int) < (x.i : Int) then ((ints k).length : Int) else (x.i : Int)) = ((min k.length x.i : Nat) : Int) := by
      simp only [ints, List.length_map, cond_false]
      split <;> omega
    obtain ⟨d, hd, hdr⟩ : ∃ d, (k ++ [0])[min k.length x.i]? = some d ∧ -9223372036854775808 ≤ d ∧ d < 9223372036854775808 := by
      have hi : min k.length x.i < (k ++ [0]).length := by simp; omega
      refine ⟨_, List.getElem?_eq_getElem hi, ?_⟩
      have := List.getElem_mem hi
      rcases List.mem_append.1 this with h | h
      · exact hkr _ h
      · rw [List.mem_singleton.1 h]; omega
    refine ⟨by omega, q, 63, mixR_ld hqi, k, rfl, by omega, by omega, ?_⟩
    rw [hM]
    have ek : List.take k.length (ints k) ++ [[Ch.v (.int .i64 0)]] = ints (k ++ [0]) := by
      rw [List.take_of_length_le (by simp [ints])]; simp [ints]
    rw [ek]
    refine ⟨by omega, d, int_ld hd, hdr, fun r => ⟨by omega, by omega, by rw [mixR_len]; exact hlt, ⟨x.a, x.qs.set x.i (q + r), x.i + 1⟩, ⟨⟨⟨hga, by simp [hxq]⟩, by simp only [List.length_set]; omega⟩, by simp only [List.length_set]; omega⟩, by simp, by simp, by rw [w64 (by omega)]; simp, rfl, rfl, rfl, rfl, rfl, rfl, .inl ?_⟩⟩
    exact mixR_set hlt
  · obtain ⟨⟨hga, hxq⟩, hxi⟩ := hx
    have he : x.i = x.qs.length := by have := of_decide_eq_false hp; omega
    rw [he, mixR_all]
    have hn := hga.n
    have hcl : (clampR x.a.links x.qs).length = x.a.links.length := by simp [clampR, hxq]
    refine ⟨x.a, 127, x.qs, rfl, rfl, rfl, hga, by omega, hxq, x.a, clB 127, clampR x.a.links x.qs, rfl, ?_, ⟨hga, by decide, hcl⟩, fun _ => ⟨x.a, 127, x.qs, rfl, ?_, ⟨hga, by omega, hxq⟩, fun hfx => ⟨clB 127, clampR x.a.links x.qs, 127, x.qs, ?_, ?_, ⟨by omega, by omega⟩, ?_⟩, fun _ => hK⟩, fun h => absurd (clampR_fit hga _) h⟩
    · rw [List.drop_zero, List.take_of_length_le (by rw [List.length_map, hcl]; omega)]; rfl
    · rw [List.drop_zero, List.take_of_length_le (by rw [List.length_map]; omega)]; rfl
    · rw [List.drop_zero, List.take_of_length_le (by rw [List.length_map, hcl]; omega)]; rfl
    · rw [List.drop_zero, List.take_of_length_le (by rw [List.length_map]; omega)]; rfl
    · rw [clampR_id hxq hfx, decide_eq_true rfl]; exact hK
theorem spec_aclamp (l m k : List Int) (hl : l.length ≤ 9223372036854775807) (hm : m.length ≤ 9223372036854775807) (hk : k.length * 8 ≤ 140737488351232) (hkr : ∀ n ∈ k, -9223372036854775808 ≤ n ∧ n < 9223372036854775808) : Eng.Spec Tryd.prog tabG debT 5 [.x false [.s 1 (ints l)], .x false [.s 1 (ints m)], .x false [.s 1 (ints k)]] (fun av => av = .x false [.v (.bool true)]) :=
  spec_ofL T54ok mixed Tryd.func5 (by kernel_rfl) (by kernel_rfl) (by rfl) (g_aclamp l m k hkr hl hm (by omega) _ rfl)
end Go.Proofs
