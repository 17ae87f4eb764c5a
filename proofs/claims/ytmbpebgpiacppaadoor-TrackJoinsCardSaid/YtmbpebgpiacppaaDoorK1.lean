/- track: copied, At, Speed. -/
import Derived.Test.YtmbpebgpiacppaaDoorA1
import Derived.Test.YtmbpebgpiacppaaDoorPl
/- track: copied, At, Speed. -/
namespace Go.Proofs
open Go Go.Eng
def keyCh (k : KeyV) : List Ch := [.v (.int .i64 k.tick), .s 3 (lR k.n k.q)]
def trkA (ks : List KeyV) : AV := .x false [.s 2 (ks.map keyCh)]
def zKey : KeyV := ⟨0, 0, []⟩
theorem key_ld {l : List KeyV} {i : Nat} {k : KeyV} (h : l[i]? = some k) : ldE (l.map keyCh) i 0 2 = some [.v (.int .i64 k.tick), .s 3 (lR k.n k.q)] := by
  simp only [ldE, List.getElem?_map, h]; rfl
theorem key_ld0 {l : List KeyV} {i : Nat} {k : KeyV} (h : l[i]? = some k) : ldE (l.map keyCh) i 0 1 = some [.v (.int .i64 k.tick)] := by
  simp only [ldE, List.getElem?_map, h]; rfl
theorem key_ld1 {l : List KeyV} {i : Nat} {k : KeyV} (h : l[i]? = some k) : ldE (l.map keyCh) i 1 1 = some [.s 3 (lR k.n k.q)] := by
  simp only [ldE, List.getElem?_map, h]; rfl
theorem at_first {ks : List KeyV} {a : KeyV} {t : Int} (ha : ks[0]? = some a) (h : t ≤ a.tick) : atR ks t = (a.q, a.n + 65) := by
  match ks, ha with
  | b :: ks, ha => cases ha; rw [atR, if_pos h]
theorem at_later {ks : List KeyV} {a : KeyV} {t : Int} (ha : ks[0]? = some a) (h : ¬ t ≤ a.tick) : atR ks t = atGo (ks.getD (1 - 1) zKey) (ks.drop 1) t := by
  match ks, ha with
  | b :: ks, ha => cases ha; rw [atR, if_neg h]; rfl
def ot_tCopied : OT := fun id => bif id.beq 5 then ([0, 1, 2, 3, 4, 5, 6], [[], [], [], [1, 2], [3, 1, 2], [0, 4, 3, 1, 2], [5, 0, 4, 3, 1, 2]]) else ([], [])
def goal_tCopied (n : Nat) (qs : List Rat) (K : AV → Prop) : Prop := goalL T49 ot_tCopied (fun _ => .inv ⟨Nat, fun k => ⟨[(3, .x false [.w 500 0 k]), (6, sR n qs), (7, iA .i64 qs.length), (8, iA .i64 k)], [(500, rowR (n + 65) (qs.take k))]⟩, fun k => k ≤ qs.length, fun k => qs.length - k, fun _ => 0⟩) Tryd.f58 [sR n qs] K
theorem goal_tCopied_vc (n : Nat) (qs : List Rat) (K : AV → Prop) : goal_tCopied n qs K = (
 (∃ (x : Nat),
 (x ≤ List.length qs ∧ OfNat.ofNat (0 : Nat) = (0 : Nat)) ∧
 Value.slice none (0 : Nat) (0 : Nat) = Value.slice none (0 : Nat) (0 : Nat) ∧
 (0 : Nat) = (0 : Nat) ∧
 x = (0 : Nat) ∧
 (3 : Nat) = (3 : Nat) ∧
 lR n qs = lR n qs ∧
 Int.ofNat (List.length (lR n qs)) = Int.ofNat (List.length qs) ∧
 (0 : Int) = Int.ofNat x ∧ List.map (fun (q : Rat) => [Ch.r q (n + (65 : Nat))]) (List.take x qs) = [] ∧ True) ∧
 ∀ (x : Nat),
 x ≤ List.length qs →
 OfNat.ofNat (0 : Nat) = (0 : Nat) →
 bif decide (Int.ofNat x < Int.ofNat (List.length qs)) then
 ((0 : Int) ≤ Int.ofNat x ∧ Int.ofNat x < Int.ofNat (List.length (lR n qs))) ∧
 ∃ (q : Rat),
 ∃ (n_1 : Nat),
 ldE (lR n qs) (Int.toNat (Int.ofNat x)) (0 : Nat) (3 : Nat) = some [Ch.r q n_1] ∧
 ((-9223372036854775808 : Int) ≤ (0 : Int) ∧ (0 : Int) < (9223372036854775808 : Int)) ∧
 n_1 + (64 : Nat) + (1 : Nat) ≤ (4294967296 : Nat) ∧
 ((x + (1 : Nat)) * (40 : Nat) ≤ (140737488355328 : Nat) ∧ x + (1 : Nat) ≤ (9223372036854775807 : Nat)) ∧
 ∃ (x' : Nat),
 (x' ≤ List.length qs ∧ OfNat.ofNat (0 : Nat) = (0 : Nat) ∧ List.length qs - x' < List.length qs - x) ∧
 (0 : Nat) = (0 : Nat) ∧
 x + (1 : Nat) = x' ∧
 (3 : Nat) = (3 : Nat) ∧
 lR n qs = lR n qs ∧
 Int.ofNat (List.length qs) = Int.ofNat (List.length qs) ∧
 IntKind.wrap IntKind.i64 (Int.ofNat x + (1 : Int)) = Int.ofNat x' ∧
 (25 : Nat) = (25 : Nat) ∧
 (3 : Nat) = (3 : Nat) ∧
 (List.take x (List.map (fun (q : Rat) => [Ch.r q (n + (65 : Nat))]) (List.take x qs)) ++
 [[Ch.r (q + (((0 : Int) : Int) : Rat)) (n_1 + (64 : Nat) + (1 : Nat))]] =
 List.map (fun (q : Rat) => [Ch.r q (n + (65 : Nat))]) (List.take x' qs) ∨
 RowLE
 (List.take x (List.map (fun (q : Rat) => [Ch.r q (n + (65 : Nat))]) (List.take x qs)) ++
 [[Ch.r (q + (((0 : Int) : Int) : Rat)) (n_1 + (64 : Nat) + (1 : Nat))]])
 (List.map (fun (q : Rat) => [Ch.r q (n + (65 : Nat))]) (List.take x' qs))) ∧
 True
 else
 K
 (AV.x false
 [Ch.s (3 : Nat) (List.take x (List.drop (0 : Nat) (List.map (fun (q : Rat) => [Ch.r q (n + (65 : Nat))]) (List.take x qs))))])) := by kernel_rfl
theorem g_tCopied (n : Nat) (qs : List Rat) (hc : (n ≤ 1000000 ∧ qs.length ≤ 1000000)) (K : AV → Prop) (hK : K (sR (n + 65) qs)) : Holds (goal_tCopied n qs K) := by
  refine ⟨?_⟩
  rw [goal_tCopied_vc]
  try simp only [Int.ofNat_eq_natCast, true_and, and_true, Nat.zero_add, Nat.le_refl, true_implies, true_or, or_true]
  refine ⟨⟨0, by omega, rfl, by rw [lR_len], rfl, by simp⟩, fun x hx => bif_mk (fun hp => ?_) (fun hp => ?_)⟩
  · have hp : x < qs.length := by have := of_decide_eq_true hp; omega
    obtain ⟨q, hq⟩ : ∃ q, qs[x]? = some q := ⟨_, List.getElem?_eq_getElem hp⟩
    refine ⟨by rw [lR_len]; omega, _, _, lR_ld (by simpa using hq), by omega, by omega, by omega, x + 1, ⟨by omega, by omega⟩, rfl, by rw [w64 (by omega)]; simp, .inl ?_⟩
    rw [List.take_of_length_le (by rw [List.length_map, List.length_take]; omega), List.take_add_one, hq, List.map_append]
    simp only [Option.toList, List.map_cons, List.map_nil]
    rw [show q + ((0 : Int) : Rat) = q by rw [Rat.intCast_zero, Rat.add_zero]]
  · have hp : x = qs.length := by have := of_decide_eq_false hp; omega
    subst hp
    rw [List.drop_zero, List.take_length, List.take_of_length_le (by rw [List.length_map]; exact Nat.le_refl _)]
    exact hK
def c_tCopied : Ctr := fun as0 => match as0 with
  | [.x false [.s 3 xs]] => some fun K => ∃ n qs, xs = lR n qs ∧ ((n ≤ 1000000 ∧ qs.length ≤ 1000000)) ∧ (K (sR (n + 65) qs))
  | _ => none
theorem ok_tCopied : CtrOK Tryd.prog tabG debT 58 c_tCopied := by
  refine ⟨enters Tryd.func58 (by kernel_rfl), fun l T hT K hK => ?_⟩
  unfold c_tCopied at hT
  split at hT
  · cases hT
    obtain ⟨n, qs, rfl, hc, hK⟩ := hK
    exact spec_ofL T49ok mixed Tryd.func58 (by kernel_rfl) (by kernel_rfl) (by rfl) (g_tCopied _ _ hc K hK)
  · cases hT
def L50 : List (Nat × Ctr) := (58, c_tCopied) :: L49
def T50 : Tabs := mkT L50 M48 X4
theorem L50ok : CtrsOK Tryd.prog tabG debT L50 := .cons ok_tCopied L49ok
theorem T50ok : TabsOK Tryd.prog tabG debT T50 := mkTok L50ok M48ok X4ok
def ot_tAt : OT := fun id => bif id.beq 9 then ([0, 1, 2, 3, 4, 5, 6, 7, 8, 9, 10, 11, 12], [[], [], [1], [0, 2, 1], [3, 0, 2, 1], [], [], [5, 6], [7, 5, 6], [], [], [9, 4, 3, 0, 2, 1, 10], [10, 8, 7, 5, 6, 11, 9, 4, 3, 0, 2, 1]]) else bif id.beq 11 then ([0, 2, 4, 5, 7, 13, 1, 3, 6, 8, 9, 10, 11, 12, 14, 15], [[], [0], [], [1, 0, 2], [], [4], [5, 4, 3, 1, 0, 2], [], [6, 5, 4, 3, 1, 0, 2, 7], [3, 1, 0, 2, 8, 6, 5, 4, 7], [9, 3, 1, 0, 2, 8, 6, 5, 4, 7], [10, 9, 3, 1, 0, 2, 8, 6, 5, 4, 7], [10, 9, 3, 1, 0, 2, 8, 6, 5, 4, 7], [], [13, 11, 10, 9, 3, 1, 0, 2, 8, 6, 5, 4, 7], [12, 10, 9, 3, 1, 0, 2, 8, 6, 5, 4, 7, 14, 13, 11]]) else bif id.beq 16 then ([0, 1, 2, 3, 4, 5, 6, 7, 8, 9, 10, 11, 12, 13, 14, 15, 16, 17, 18, 19, 20, 21, 22], [[], [], [1], [], [2, 1, 3], [4, 2, 1, 3], [], [], [7], [], [8, 7, 9], [10, 8, 7, 9], [], [12], [], [13, 12, 14], [15, 13, 12, 14], [11, 10, 8, 7, 9, 16, 15, 13, 12, 14], [6, 17, 11, 10, 8, 7, 9, 16, 15, 13, 12, 14], [5, 4, 2, 1, 3, 18, 6, 17, 11, 10, 8, 7, 9, 16, 15, 13, 12, 14], [19, 5, 4, 2, 1, 3, 18, 6, 17, 11, 10, 8, 7, 9, 16, 15, 13, 12, 14], [0, 20, 19, 5, 4, 2, 1, 3, 18, 6, 17, 11, 10, 8, 7, 9, 16, 15, 13, 12, 14], [21, 0, 20, 19, 5, 4, 2, 1, 3, 18, 6, 17, 11, 10, 8, 7, 9, 16, 15, 13, 12, 14]]) else ([], [])
def goal_tAt (ks : List KeyV) (m : Nat) (N : Nat) (t : Int) (K : AV → Prop) : Prop := goalL T50 ot_tAt (fun id => bif id.beq 6 then .inv ⟨Nat, fun i => ⟨[(0, trkA ks), (1, iA .i64 t), (5, iA .i64 i)], []⟩, fun i => (1 ≤ i ∧ i ≤ ks.length) ∧ atR ks t = atGo (ks.getD (i - 1) zKey) (ks.drop i) t, fun i => ks.length - i, fun _ => 0⟩ else .inv ⟨Nat × Nat, fun x => ⟨[(6, .x false [.p 6 0]), (7, .x false [.p 7 0]), (9, .x false [.p 9 0]), (11, .x false [.w 500 0 x.2]), (71, iA .i64 m), (72, iA .i64 x.2)], [(6, .box 47 (keyCh (ks.getD (x.1 - 1) zKey))), (7, .box 47 (keyCh (ks.getD x.1 zKey))), (9, .box 25 [.r (fracT (ks.getD (x.1 - 1) zKey) (ks.getD x.1 zKey) t) 258]), (500, rowR (2 * (ks.getD (x.1 - 1) zKey).n + (ks.getD x.1 zKey).n + 260) ((interp (ks.getD (x.1 - 1) zKey) (ks.getD x.1 zKey) t).take x.2))]⟩, fun x => ((1 ≤ x.1 ∧ x.1 < ks.length) ∧ atR ks t = (interp (ks.getD (x.1 - 1) zKey) (ks.getD x.1 zKey) t, 2 * (ks.getD (x.1 - 1) zKey).n + (ks.getD x.1 zKey).n + 260)) ∧ x.2 ≤ m, fun x => m - x.2, fun x => ks.length - x.1⟩) Tryd.f16 [trkA ks, iA .i64 t] K
theorem goal_tAt_vc (ks : List KeyV) (m : Nat) (N : Nat) (t : Int) (K : AV → Prop) : goal_tAt ks m N t K = (
 bif Int.ofNat (List.length (List.map keyCh ks)) == (0 : Int) then K (AV.x false [Ch.v (Value.slice none (0 : Nat) (0 : Nat))])
 else
 ((0 : Int) ≤ (0 : Int) ∧ (0 : Int) < Int.ofNat (List.length (List.map keyCh ks))) ∧
 ∃ (d : Int),
 ldE (List.map keyCh ks) (0 : Nat) (0 : Nat) (1 : Nat) = some [Ch.v (Value.int IntKind.i64 d)] ∧
 bif decide (t ≤ d) then
 ((0 : Int) ≤ (0 : Int) ∧ (0 : Int) < Int.ofNat (List.length (List.map keyCh ks))) ∧
 ∃ (ys : List (List Ch)),
 ldE (List.map keyCh ks) (0 : Nat) (1 : Nat) (1 : Nat) = some [Ch.s (3 : Nat) ys] ∧
 ∃ (n : Nat),
 ∃ (qs : List Rat),
 ys = lR n qs ∧
 (n ≤ (1000000 : Nat) ∧ List.length qs ≤ (1000000 : Nat)) ∧ K (AV.x false [Ch.s (3 : Nat) (lR (n + (65 : Nat)) qs)])
 else
 (∃ (x : Nat),
 ((((1 : Nat) ≤ x ∧ x ≤ List.length ks) ∧ atR ks t = atGo (List.getD ks (x - (1 : Nat)) zKey) (List.drop x ks) t) ∧
 OfNat.ofNat (0 : Nat) = (0 : Nat)) ∧
 (2 : Nat) = (2 : Nat) ∧ List.map keyCh ks = List.map keyCh ks ∧ t = t ∧ (1 : Int) = Int.ofNat x ∧ True) ∧
 ∀ (x : Nat),
 ((1 : Nat) ≤ x ∧ x ≤ List.length ks) ∧ atR ks t = atGo (List.getD ks (x - (1 : Nat)) zKey) (List.drop x ks) t →
 OfNat.ofNat (0 : Nat) = (0 : Nat) →
 bif decide (Int.ofNat x < Int.ofNat (List.length (List.map keyCh ks))) then
 ((0 : Int) ≤ Int.ofNat x ∧ Int.ofNat x < Int.ofNat (List.length (List.map keyCh ks))) ∧
 ∃ (d : Int),
 ldE (List.map keyCh ks) (Int.toNat (Int.ofNat x)) (0 : Nat) (1 : Nat) = some [Ch.v (Value.int IntKind.i64 d)] ∧
 bif decide (d ≤ t) then
 ∃ (x' : Nat),
 ((((1 : Nat) ≤ x' ∧ x' ≤ List.length ks) ∧
 atR ks t = atGo (List.getD ks (x' - (1 : Nat)) zKey) (List.drop x' ks) t) ∧
 OfNat.ofNat (0 : Nat) = (0 : Nat) ∧ List.length ks - x' < List.length ks - x) ∧
 (2 : Nat) = (2 : Nat) ∧
 List.map keyCh ks = List.map keyCh ks ∧
 t = t ∧ IntKind.wrap IntKind.i64 (Int.ofNat x + (1 : Int)) = Int.ofNat x' ∧ True
 else
 ((0 : Int) ≤ IntKind.wrap IntKind.i64 (Int.ofNat x - (1 : Int)) ∧
 IntKind.wrap IntKind.i64 (Int.ofNat x - (1 : Int)) < Int.ofNat (List.length (List.map keyCh ks))) ∧
 ∃ (d : Int),
 ∃ (ys : List (List Ch)),
 ldE (List.map keyCh ks) (Int.toNat (IntKind.wrap IntKind.i64 (Int.ofNat x - (1 : Int)))) (0 : Nat)
 (2 : Nat) =
 some [Ch.v (Value.int IntKind.i64 d), Ch.s (3 : Nat) ys] ∧
 ((0 : Int) ≤ Int.ofNat x ∧ Int.ofNat x < Int.ofNat (List.length (List.map keyCh ks))) ∧
 ∃ (d_1 : Int),
 ∃ (ys_1 : List (List Ch)),
 ldE (List.map keyCh ks) (Int.toNat (Int.ofNat x)) (0 : Nat) (2 : Nat) =
 some [Ch.v (Value.int IntKind.i64 d_1), Ch.s (3 : Nat) ys_1] ∧
 ((-9223372036854775808 : Int) ≤ d ∧ d < (9223372036854775808 : Int)) ∧
 ((-9223372036854775808 : Int) ≤ t ∧ t < (9223372036854775808 : Int)) ∧
 (129 : Nat) ≤ (4294967296 : Nat) ∧
 ((-9223372036854775808 : Int) ≤ d_1 ∧ d_1 < (9223372036854775808 : Int)) ∧
 (129 : Nat) ≤ (4294967296 : Nat) ∧
 (258 : Nat) ≤ (4294967296 : Nat) ∧
 ((((d_1) : Int) : Rat) - (((d) : Int) : Rat) ≠ (OfNat.ofNat (0 : Nat) : Rat) →
 (∃ (x_1 : Nat × Nat),
 (((((1 : Nat) ≤ Prod.fst x_1 ∧ Prod.fst x_1 < List.length ks) ∧
 atR ks t =
 (interp (List.getD ks (Prod.fst x_1 - (1 : Nat)) zKey)
 (List.getD ks (Prod.fst x_1) zKey) t,
 (2 : Nat) *
 KeyV.n (List.getD ks (Prod.fst x_1 - (1 : Nat)) zKey) +
 KeyV.n (List.getD ks (Prod.fst x_1) zKey) +
 (260 : Nat))) ∧
 Prod.snd x_1 ≤ m) ∧
 List.length ks - Prod.fst x_1 = List.length ks - x) ∧
 (0 : Nat) = (0 : Nat) ∧
 (0 : Nat) = (0 : Nat) ∧
 (0 : Nat) = (0 : Nat) ∧
 Value.slice none (0 : Nat) (0 : Nat) =
 Value.slice none (0 : Nat) (0 : Nat) ∧
 (0 : Nat) = (0 : Nat) ∧
 Prod.snd x_1 = (0 : Nat) ∧
 (bif false then
 if
 Int.ofNat (List.length ys_1) >
 Int.ofNat (List.length ys) then
 Int.ofNat (List.length ys_1)
 else Int.ofNat (List.length ys)
 else
 if
 Int.ofNat (List.length ys_1) <
 Int.ofNat (List.length ys) then
 Int.ofNat (List.length ys_1)
 else Int.ofNat (List.length ys)) =
 Int.ofNat m ∧
 (0 : Int) = Int.ofNat (Prod.snd x_1) ∧
 (47 : Nat) = (47 : Nat) ∧
 d =
 KeyV.tick
 (List.getD ks (Prod.fst x_1 - (1 : Nat)) zKey) ∧
 (3 : Nat) = (3 : Nat) ∧
 ys =
 lR
 (KeyV.n
 (List.getD ks (Prod.fst x_1 - (1 : Nat))
 zKey))
 (KeyV.q
 (List.getD ks (Prod.fst x_1 - (1 : Nat))
 zKey)) ∧
 (47 : Nat) = (47 : Nat) ∧
 d_1 =
 KeyV.tick
 (List.getD ks (Prod.fst x_1) zKey) ∧
 (3 : Nat) = (3 : Nat) ∧
 ys_1 =
 lR
 (KeyV.n
 (List.getD ks (Prod.fst x_1) zKey))
 (KeyV.q
 (List.getD ks (Prod.fst x_1)
 zKey)) ∧
 (25 : Nat) = (25 : Nat) ∧
 ((((t) : Int) : Rat) - (((d) : Int) : Rat)) / ((((d_1) : Int) : Rat) - (((d) : Int) : Rat)) =
 fracT
 (List.getD ks
 (Prod.fst x_1 - (1 : Nat)) zKey)
 (List.getD ks (Prod.fst x_1) zKey)
 t ∧
 (258 : Nat) ≤ (258 : Nat) ∧
 List.map
 (fun (q : Rat) =>
 [Ch.r q
 ((2 : Nat) *
 KeyV.n
 (List.getD ks
 (Prod.fst
 x_1 -
 (1 : Nat))
 zKey) +
 KeyV.n
 (List.getD ks
 (Prod.fst x_1)
 zKey) +
 (260 : Nat))])
 (List.take (Prod.snd x_1)
 (interp
 (List.getD ks
 (Prod.fst x_1 -
 (1 : Nat))
 zKey)
 (List.getD ks
 (Prod.fst x_1) zKey)
 t)) =
 [] ∧
 True) ∧
 ∀ (x_1 : Nat × Nat),
 (((1 : Nat) ≤ Prod.fst x_1 ∧ Prod.fst x_1 < List.length ks) ∧
 atR ks t =
 (interp (List.getD ks (Prod.fst x_1 - (1 : Nat)) zKey)
 (List.getD ks (Prod.fst x_1) zKey) t,
 (2 : Nat) *
 KeyV.n (List.getD ks (Prod.fst x_1 - (1 : Nat)) zKey) +
 KeyV.n (List.getD ks (Prod.fst x_1) zKey) +
 (260 : Nat))) ∧
 Prod.snd x_1 ≤ m →
 List.length ks - Prod.fst x_1 = List.length ks - x →
 bif decide (Int.ofNat (Prod.snd x_1) < Int.ofNat m) then
 ((0 : Int) ≤ Int.ofNat (Prod.snd x_1) ∧
 Int.ofNat (Prod.snd x_1) <
 Int.ofNat
 (List.length
 (lR (KeyV.n (List.getD ks (Prod.fst x_1 - (1 : Nat)) zKey))
 (KeyV.q
 (List.getD ks (Prod.fst x_1 - (1 : Nat)) zKey))))) ∧
 ∃ (q : Rat),
 ∃ (n : Nat),
 ldE
 (lR
 (KeyV.n (List.getD ks (Prod.fst x_1 - (1 : Nat)) zKey))
 (KeyV.q (List.getD ks (Prod.fst x_1 - (1 : Nat)) zKey)))
 (Int.toNat (Int.ofNat (Prod.snd x_1))) (0 : Nat)
 (3 : Nat) =
 some [Ch.r q n] ∧
 ((0 : Int) ≤ Int.ofNat (Prod.snd x_1) ∧
 Int.ofNat (Prod.snd x_1) <
 Int.ofNat
 (List.length
 (lR (KeyV.n (List.getD ks (Prod.fst x_1) zKey))
 (KeyV.q (List.getD ks (Prod.fst x_1) zKey))))) ∧
 ∃ (q_1 : Rat),
 ∃ (n_1 : Nat),
 ldE
 (lR (KeyV.n (List.getD ks (Prod.fst x_1) zKey))
 (KeyV.q (List.getD ks (Prod.fst x_1) zKey)))
 (Int.toNat (Int.ofNat (Prod.snd x_1))) (0 : Nat)
 (3 : Nat) =
 some [Ch.r q_1 n_1] ∧
 ((0 : Int) ≤ Int.ofNat (Prod.snd x_1) ∧
 Int.ofNat (Prod.snd x_1) <
 Int.ofNat
 (List.length
 (lR
 (KeyV.n
 (List.getD ks (Prod.fst x_1 - (1 : Nat))
 zKey))
 (KeyV.q
 (List.getD ks (Prod.fst x_1 - (1 : Nat))
 zKey))))) ∧
 ∃ (q_2 : Rat),
 ∃ (n_2 : Nat),
 ldE
 (lR
 (KeyV.n
 (List.getD ks
 (Prod.fst x_1 - (1 : Nat)) zKey))
 (KeyV.q
 (List.getD ks
 (Prod.fst x_1 - (1 : Nat)) zKey)))
 (Int.toNat (Int.ofNat (Prod.snd x_1)))
 (0 : Nat) (3 : Nat) =
 some [Ch.r q_2 n_2] ∧
 n_1 + n_2 + (1 : Nat) ≤ (4294967296 : Nat) ∧
 (258 : Nat) + (n_1 + n_2 + (1 : Nat)) ≤
 (4294967296 : Nat) ∧
 n +
 ((258 : Nat) +
 (n_1 + n_2 + (1 : Nat))) +
 (1 : Nat) ≤
 (4294967296 : Nat) ∧
 ((Prod.snd x_1 + (1 : Nat)) *
 (40 : Nat) ≤
 (140737488355328 : Nat) ∧
 Prod.snd x_1 + (1 : Nat) ≤
 (9223372036854775807 : Nat)) ∧
 ∃ (x' : Nat × Nat),
 (((((1 : Nat) ≤ Prod.fst x' ∧
 Prod.fst x' <
 List.length ks) ∧
 atR ks t =
 (interp
 (List.getD ks
 (Prod.fst x' -
 (1 : Nat))
 zKey)
 (List.getD ks
 (Prod.fst x') zKey)
 t,
 (2 : Nat) *
 KeyV.n
 (List.getD ks
 (Prod.fst x' -
 (1 : Nat))
 zKey) +
 KeyV.n
 (List.getD ks
 (Prod.fst x')
 zKey) +
 (260 : Nat))) ∧
 Prod.snd x' ≤ m) ∧
 List.length ks - Prod.fst x' =
 List.length ks - x ∧
 m - Prod.snd x' <
 m - Prod.snd x_1) ∧
 (0 : Nat) = (0 : Nat) ∧
 (0 : Nat) = (0 : Nat) ∧
 (0 : Nat) = (0 : Nat) ∧
 (0 : Nat) = (0 : Nat) ∧
 Prod.snd x_1 + (1 : Nat) =
 Prod.snd x' ∧
 Int.ofNat m =
 Int.ofNat m ∧
 IntKind.wrap
 IntKind.i64
 (Int.ofNat
 (Prod.snd
 x_1) +
 (1 : Int)) =
 Int.ofNat
 (Prod.snd x') ∧
 (47 : Nat) =
 (47 : Nat) ∧
 KeyV.tick
 (List.getD
 ks
 (Prod.fst
 x_1 -
 (1 :
 Nat))
 zKey) =
 KeyV.tick
 (List.getD
 ks
 (Prod.fst
 x' -
 (1 :
 Nat))
 zKey) ∧
 (3 : Nat) =
 (3 : Nat) ∧
 lR
 (KeyV.n
 (List.getD
 ks
 (Prod.fst
 x_1 -
 (1 :
 Nat))
 zKey))
 (KeyV.q
 (List.getD
 ks
 (Prod.fst
 x_1 -
 (1 :
 Nat))
 zKey)) =
 lR
 (KeyV.n
 (List.getD
 ks
 (Prod.fst
 x' -
 (1 :
 Nat))
 zKey))
 (KeyV.q
 (List.getD
 ks
 (Prod.fst
 x' -
 (1 :
 Nat))
 zKey)) ∧
 (47 : Nat) =
 (47 :
 Nat) ∧
 KeyV.tick
 (List.getD
 ks
 (Prod.fst
 x_1)
 zKey) =
 KeyV.tick
 (List.getD
 ks
 (Prod.fst
 x')
 zKey) ∧
 (3 :
 Nat) =
 (3 :
 Nat) ∧
 lR
 (KeyV.n
 (List.getD
 ks
 (Prod.fst
 x_1)
 zKey))
 (KeyV.q
 (List.getD
 ks
 (Prod.fst
 x_1)
 zKey)) =
 lR
 (KeyV.n
 (List.getD
 ks
 (Prod.fst
 x')
 zKey))
 (KeyV.q
 (List.getD
 ks
 (Prod.fst
 x')
 zKey)) ∧
 (25 :
 Nat) =
 (25 :
 Nat) ∧
 fracT
 (List.getD
 ks
 (Prod.fst
 x_1 -
 (1 :
 Nat))
 zKey)
 (List.getD
 ks
 (Prod.fst
 x_1)
 zKey)
 t =
 fracT
 (List.getD
 ks
 (Prod.fst
 x' -
 (1 :
 Nat))
 zKey)
 (List.getD
 ks
 (Prod.fst
 x')
 zKey)
 t ∧
 (258 :
 Nat) ≤
 (258 :
 Nat) ∧
 (25 :
 Nat) =
 (25 :
 Nat) ∧
 (3 :
 Nat) =
 (3 :
 Nat) ∧
 (List.take
 (Prod.snd
 x_1)
 (List.map
 (fun
 (q :
 Rat) =>
 [Ch.r
 q
 ((2 :
 Nat) *
 KeyV.n
 (List.getD
 ks
 (Prod.fst
 x_1 -
 (1 :
 Nat))
 zKey) +
 KeyV.n
 (List.getD
 ks
 (Prod.fst
 x_1)
 zKey) +
 (260 :
 Nat))])
 (List.take
 (Prod.snd
 x_1)
 (interp
 (List.getD
 ks
 (Prod.fst
 x_1 -
 (1 :
 Nat))
 zKey)
 (List.getD
 ks
 (Prod.fst
 x_1)
 zKey)
 t))) ++
 [[Ch.r
 (q +
 fracT
 (List.getD
 ks
 (Prod.fst
 x_1 -
 (1 :
 Nat))
 zKey)
 (List.getD
 ks
 (Prod.fst
 x_1)
 zKey)
 t *
 (q_1 -
 q_2))
 (n +
 ((258 :
 Nat) +
 (n_1 +
 n_2 +
 (1 :
 Nat))) +
 (1 :
 Nat))]] =
 List.map
 (fun
 (q :
 Rat) =>
 [Ch.r
 q
 ((2 :
 Nat) *
 KeyV.n
 (List.getD
 ks
 (Prod.fst
 x' -
 (1 :
 Nat))
 zKey) +
 KeyV.n
 (List.getD
 ks
 (Prod.fst
 x')
 zKey) +
 (260 :
 Nat))])
 (List.take
 (Prod.snd
 x')
 (interp
 (List.getD
 ks
 (Prod.fst
 x' -
 (1 :
 Nat))
 zKey)
 (List.getD
 ks
 (Prod.fst
 x')
 zKey)
 t)) ∨
 RowLE
 (List.take
 (Prod.snd
 x_1)
 (List.map
 (fun
 (q :
 Rat) =>
 [Ch.r
 q
 ((2 :
 Nat) *
 KeyV.n
 (List.getD
 ks
 (Prod.fst
 x_1 -
 (1 :
 Nat))
 zKey) +
 KeyV.n
 (List.getD
 ks
 (Prod.fst
 x_1)
 zKey) +
 (260 :
 Nat))])
 (List.take
 (Prod.snd
 x_1)
 (interp
 (List.getD
 ks
 (Prod.fst
 x_1 -
 (1 :
 Nat))
 zKey)
 (List.getD
 ks
 (Prod.fst
 x_1)
 zKey)
 t))) ++
 [[Ch.r
 (q +
 fracT
 (List.getD
 ks
 (Prod.fst
 x_1 -
 (1 :
 Nat))
 zKey)
 (List.getD
 ks
 (Prod.fst
 x_1)
 zKey)
 t *
 (q_1 -
 q_2))
 (n +
 ((258 :
 Nat) +
 (n_1 +
 n_2 +
 (1 :
 Nat))) +
 (1 :
 Nat))]])
 (List.map
 (fun
 (q :
 Rat) =>
 [Ch.r
 q
 ((2 :
 Nat) *
 KeyV.n
 (List.getD
 ks
 (Prod.fst
 x' -
 (1 :
 Nat))
 zKey) +
 KeyV.n
 (List.getD
 ks
 (Prod.fst
 x')
 zKey) +
 (260 :
 Nat))])
 (List.take
 (Prod.snd
 x')
 (interp
 (List.getD
 ks
 (Prod.fst
 x' -
 (1 :
 Nat))
 zKey)
 (List.getD
 ks
 (Prod.fst
 x')
 zKey)
 t)))) ∧
 True
 else
 K
 (AV.x false
 [Ch.s (3 : Nat)
 (List.take (Prod.snd x_1)
 (List.drop (0 : Nat)
 (List.map
 (fun (q : Rat) =>
 [Ch.r q
 ((2 : Nat) *
 KeyV.n
 (List.getD ks (Prod.fst x_1 - (1 : Nat))
 zKey) +
 KeyV.n (List.getD ks (Prod.fst x_1) zKey) +
 (260 : Nat))])
 (List.take (Prod.snd x_1)
 (interp (List.getD ks (Prod.fst x_1 - (1 : Nat)) zKey)
 (List.getD ks (Prod.fst x_1) zKey) t)))))])) ∧
 ((((d_1) : Int) : Rat) - (((d) : Int) : Rat) = (OfNat.ofNat (0 : Nat) : Rat) →
 (∃ (x_1 : Nat × Nat),
 (((((1 : Nat) ≤ Prod.fst x_1 ∧ Prod.fst x_1 < List.length ks) ∧
 atR ks t =
 (interp (List.getD ks (Prod.fst x_1 - (1 : Nat)) zKey)
 (List.getD ks (Prod.fst x_1) zKey) t,
 (2 : Nat) *
 KeyV.n (List.getD ks (Prod.fst x_1 - (1 : Nat)) zKey) +
 KeyV.n (List.getD ks (Prod.fst x_1) zKey) +
 (260 : Nat))) ∧
 Prod.snd x_1 ≤ m) ∧
 List.length ks - Prod.fst x_1 = List.length ks - x) ∧
 (0 : Nat) = (0 : Nat) ∧
 (0 : Nat) = (0 : Nat) ∧
 (0 : Nat) = (0 : Nat) ∧
 Value.slice none (0 : Nat) (0 : Nat) =
 Value.slice none (0 : Nat) (0 : Nat) ∧
 (0 : Nat) = (0 : Nat) ∧
 Prod.snd x_1 = (0 : Nat) ∧
 (bif false then
 if
 Int.ofNat (List.length ys_1) >
 Int.ofNat (List.length ys) then
 Int.ofNat (List.length ys_1)
 else Int.ofNat (List.length ys)
 else
 if
 Int.ofNat (List.length ys_1) <
 Int.ofNat (List.length ys) then
 Int.ofNat (List.length ys_1)
 else Int.ofNat (List.length ys)) =
 Int.ofNat m ∧
 (0 : Int) = Int.ofNat (Prod.snd x_1) ∧
 (47 : Nat) = (47 : Nat) ∧
 d =
 KeyV.tick
 (List.getD ks (Prod.fst x_1 - (1 : Nat)) zKey) ∧
 (3 : Nat) = (3 : Nat) ∧
 ys =
 lR
 (KeyV.n
 (List.getD ks (Prod.fst x_1 - (1 : Nat))
 zKey))
 (KeyV.q
 (List.getD ks (Prod.fst x_1 - (1 : Nat))
 zKey)) ∧
 (47 : Nat) = (47 : Nat) ∧
 d_1 =
 KeyV.tick
 (List.getD ks (Prod.fst x_1) zKey) ∧
 (3 : Nat) = (3 : Nat) ∧
 ys_1 =
 lR
 (KeyV.n
 (List.getD ks (Prod.fst x_1) zKey))
 (KeyV.q
 (List.getD ks (Prod.fst x_1)
 zKey)) ∧
 (25 : Nat) = (25 : Nat) ∧ False) ∧
 ∀ (x_1 : Nat × Nat),
 (((1 : Nat) ≤ Prod.fst x_1 ∧ Prod.fst x_1 < List.length ks) ∧
 atR ks t =
 (interp (List.getD ks (Prod.fst x_1 - (1 : Nat)) zKey)
 (List.getD ks (Prod.fst x_1) zKey) t,
 (2 : Nat) *
 KeyV.n (List.getD ks (Prod.fst x_1 - (1 : Nat)) zKey) +
 KeyV.n (List.getD ks (Prod.fst x_1) zKey) +
 (260 : Nat))) ∧
 Prod.snd x_1 ≤ m →
 List.length ks - Prod.fst x_1 = List.length ks - x →
 bif decide (Int.ofNat (Prod.snd x_1) < Int.ofNat m) then
 ((0 : Int) ≤ Int.ofNat (Prod.snd x_1) ∧
 Int.ofNat (Prod.snd x_1) <
 Int.ofNat
 (List.length
 (lR (KeyV.n (List.getD ks (Prod.fst x_1 - (1 : Nat)) zKey))
 (KeyV.q
 (List.getD ks (Prod.fst x_1 - (1 : Nat)) zKey))))) ∧
 ∃ (q : Rat),
 ∃ (n : Nat),
 ldE
 (lR
 (KeyV.n (List.getD ks (Prod.fst x_1 - (1 : Nat)) zKey))
 (KeyV.q (List.getD ks (Prod.fst x_1 - (1 : Nat)) zKey)))
 (Int.toNat (Int.ofNat (Prod.snd x_1))) (0 : Nat)
 (3 : Nat) =
 some [Ch.r q n] ∧
 ((0 : Int) ≤ Int.ofNat (Prod.snd x_1) ∧
 Int.ofNat (Prod.snd x_1) <
 Int.ofNat
 (List.length
 (lR (KeyV.n (List.getD ks (Prod.fst x_1) zKey))
 (KeyV.q (List.getD ks (Prod.fst x_1) zKey))))) ∧
 ∃ (q_1 : Rat),
 ∃ (n_1 : Nat),
 ldE
 (lR (KeyV.n (List.getD ks (Prod.fst x_1) zKey))
 (KeyV.q (List.getD ks (Prod.fst x_1) zKey)))
 (Int.toNat (Int.ofNat (Prod.snd x_1))) (0 : Nat)
 (3 : Nat) =
 some [Ch.r q_1 n_1] ∧
 ((0 : Int) ≤ Int.ofNat (Prod.snd x_1) ∧
 Int.ofNat (Prod.snd x_1) <
 Int.ofNat
 (List.length
 (lR
 (KeyV.n
 (List.getD ks (Prod.fst x_1 - (1 : Nat))
 zKey))
 (KeyV.q
 (List.getD ks (Prod.fst x_1 - (1 : Nat))
 zKey))))) ∧
 ∃ (q_2 : Rat),
 ∃ (n_2 : Nat),
 ldE
 (lR
 (KeyV.n
 (List.getD ks
 (Prod.fst x_1 - (1 : Nat)) zKey))
 (KeyV.q
 (List.getD ks
 (Prod.fst x_1 - (1 : Nat)) zKey)))
 (Int.toNat (Int.ofNat (Prod.snd x_1)))
 (0 : Nat) (3 : Nat) =
 some [Ch.r q_2 n_2] ∧
 n_1 + n_2 + (1 : Nat) ≤ (4294967296 : Nat) ∧
 (258 : Nat) + (n_1 + n_2 + (1 : Nat)) ≤
 (4294967296 : Nat) ∧
 n +
 ((258 : Nat) +
 (n_1 + n_2 + (1 : Nat))) +
 (1 : Nat) ≤
 (4294967296 : Nat) ∧
 ((Prod.snd x_1 + (1 : Nat)) *
 (40 : Nat) ≤
 (140737488355328 : Nat) ∧
 Prod.snd x_1 + (1 : Nat) ≤
 (9223372036854775807 : Nat)) ∧
 ∃ (x' : Nat × Nat),
 (((((1 : Nat) ≤ Prod.fst x' ∧
 Prod.fst x' <
 List.length ks) ∧
 atR ks t =
 (interp
 (List.getD ks
 (Prod.fst x' -
 (1 : Nat))
 zKey)
 (List.getD ks
 (Prod.fst x') zKey)
 t,
 (2 : Nat) *
 KeyV.n
 (List.getD ks
 (Prod.fst x' -
 (1 : Nat))
 zKey) +
 KeyV.n
 (List.getD ks
 (Prod.fst x')
 zKey) +
 (260 : Nat))) ∧
 Prod.snd x' ≤ m) ∧
 List.length ks - Prod.fst x' =
 List.length ks - x ∧
 m - Prod.snd x' <
 m - Prod.snd x_1) ∧
 (0 : Nat) = (0 : Nat) ∧
 (0 : Nat) = (0 : Nat) ∧
 (0 : Nat) = (0 : Nat) ∧
 (0 : Nat) = (0 : Nat) ∧
 Prod.snd x_1 + (1 : Nat) =
 Prod.snd x' ∧
 Int.ofNat m =
 Int.ofNat m ∧
 IntKind.wrap
 IntKind.i64
 (Int.ofNat
 (Prod.snd
 x_1) +
 (1 : Int)) =
 Int.ofNat
 (Prod.snd x') ∧
 (47 : Nat) =
 (47 : Nat) ∧
 KeyV.tick
 (List.getD
 ks
 (Prod.fst
 x_1 -
 (1 :
 Nat))
 zKey) =
 KeyV.tick
 (List.getD
 ks
 (Prod.fst
 x' -
 (1 :
 Nat))
 zKey) ∧
 (3 : Nat) =
 (3 : Nat) ∧
 lR
 (KeyV.n
 (List.getD
 ks
 (Prod.fst
 x_1 -
 (1 :
 Nat))
 zKey))
 (KeyV.q
 (List.getD
 ks
 (Prod.fst
 x_1 -
 (1 :
 Nat))
 zKey)) =
 lR
 (KeyV.n
 (List.getD
 ks
 (Prod.fst
 x' -
 (1 :
 Nat))
 zKey))
 (KeyV.q
 (List.getD
 ks
 (Prod.fst
 x' -
 (1 :
 Nat))
 zKey)) ∧
 (47 : Nat) =
 (47 :
 Nat) ∧
 KeyV.tick
 (List.getD
 ks
 (Prod.fst
 x_1)
 zKey) =
 KeyV.tick
 (List.getD
 ks
 (Prod.fst
 x')
 zKey) ∧
 (3 :
 Nat) =
 (3 :
 Nat) ∧
 lR
 (KeyV.n
 (List.getD
 ks
 (Prod.fst
 x_1)
 zKey))
 (KeyV.q
 (List.getD
 ks
 (Prod.fst
 x_1)
 zKey)) =
 lR
 (KeyV.n
 (List.getD
 ks
 (Prod.fst
 x')
 zKey))
 (KeyV.q
 (List.getD
 ks
 (Prod.fst
 x')
 zKey)) ∧
 (25 :
 Nat) =
 (25 :
 Nat) ∧
 fracT
 (List.getD
 ks
 (Prod.fst
 x_1 -
 (1 :
 Nat))
 zKey)
 (List.getD
 ks
 (Prod.fst
 x_1)
 zKey)
 t =
 fracT
 (List.getD
 ks
 (Prod.fst
 x' -
 (1 :
 Nat))
 zKey)
 (List.getD
 ks
 (Prod.fst
 x')
 zKey)
 t ∧
 (258 :
 Nat) ≤
 (258 :
 Nat) ∧
 (25 :
 Nat) =
 (25 :
 Nat) ∧
 (3 :
 Nat) =
 (3 :
 Nat) ∧
 (List.take
 (Prod.snd
 x_1)
 (List.map
 (fun
 (q :
 Rat) =>
 [Ch.r
 q
 ((2 :
 Nat) *
 KeyV.n
 (List.getD
 ks
 (Prod.fst
 x_1 -
 (1 :
 Nat))
 zKey) +
 KeyV.n
 (List.getD
 ks
 (Prod.fst
 x_1)
 zKey) +
 (260 :
 Nat))])
 (List.take
 (Prod.snd
 x_1)
 (interp
 (List.getD
 ks
 (Prod.fst
 x_1 -
 (1 :
 Nat))
 zKey)
 (List.getD
 ks
 (Prod.fst
 x_1)
 zKey)
 t))) ++
 [[Ch.r
 (q +
 fracT
 (List.getD
 ks
 (Prod.fst
 x_1 -
 (1 :
 Nat))
 zKey)
 (List.getD
 ks
 (Prod.fst
 x_1)
 zKey)
 t *
 (q_1 -
 q_2))
 (n +
 ((258 :
 Nat) +
 (n_1 +
 n_2 +
 (1 :
 Nat))) +
 (1 :
 Nat))]] =
 List.map
 (fun
 (q :
 Rat) =>
 [Ch.r
 q
 ((2 :
 Nat) *
 KeyV.n
 (List.getD
 ks
 (Prod.fst
 x' -
 (1 :
 Nat))
 zKey) +
 KeyV.n
 (List.getD
 ks
 (Prod.fst
 x')
 zKey) +
 (260 :
 Nat))])
 (List.take
 (Prod.snd
 x')
 (interp
 (List.getD
 ks
 (Prod.fst
 x' -
 (1 :
 Nat))
 zKey)
 (List.getD
 ks
 (Prod.fst
 x')
 zKey)
 t)) ∨
 RowLE
 (List.take
 (Prod.snd
 x_1)
 (List.map
 (fun
 (q :
 Rat) =>
 [Ch.r
 q
 ((2 :
 Nat) *
 KeyV.n
 (List.getD
 ks
 (Prod.fst
 x_1 -
 (1 :
 Nat))
 zKey) +
 KeyV.n
 (List.getD
 ks
 (Prod.fst
 x_1)
 zKey) +
 (260 :
 Nat))])
 (List.take
 (Prod.snd
 x_1)
 (interp
 (List.getD
 ks
 (Prod.fst
 x_1 -
 (1 :
 Nat))
 zKey)
 (List.getD
 ks
 (Prod.fst
 x_1)
 zKey)
 t))) ++
 [[Ch.r
 (q +
 fracT
 (List.getD
 ks
 (Prod.fst
 x_1 -
 (1 :
 Nat))
 zKey)
 (List.getD
 ks
 (Prod.fst
 x_1)
 zKey)
 t *
 (q_1 -
 q_2))
 (n +
 ((258 :
 Nat) +
 (n_1 +
 n_2 +
 (1 :
 Nat))) +
 (1 :
 Nat))]])
 (List.map
 (fun
 (q :
 Rat) =>
 [Ch.r
 q
 ((2 :
 Nat) *
 KeyV.n
 (List.getD
 ks
 (Prod.fst
 x' -
 (1 :
 Nat))
 zKey) +
 KeyV.n
 (List.getD
 ks
 (Prod.fst
 x')
 zKey) +
 (260 :
 Nat))])
 (List.take
 (Prod.snd
 x')
 (interp
 (List.getD
 ks
 (Prod.fst
 x' -
 (1 :
 Nat))
 zKey)
 (List.getD
 ks
 (Prod.fst
 x')
 zKey)
 t)))) ∧
 True
 else
 K
 (AV.x false
 [Ch.s (3 : Nat)
 (List.take (Prod.snd x_1)
 (List.drop (0 : Nat)
 (List.map
 (fun (q : Rat) =>
 [Ch.r q
 ((2 : Nat) *
 KeyV.n
 (List.getD ks (Prod.fst x_1 - (1 : Nat))
 zKey) +
 KeyV.n (List.getD ks (Prod.fst x_1) zKey) +
 (260 : Nat))])
 (List.take (Prod.snd x_1)
 (interp (List.getD ks (Prod.fst x_1 - (1 : Nat)) zKey)
 (List.getD ks (Prod.fst x_1) zKey) t)))))]))
 else
 ((0 : Int) ≤ IntKind.wrap IntKind.i64 (Int.ofNat (List.length (List.map keyCh ks)) - (1 : Int)) ∧
 IntKind.wrap IntKind.i64 (Int.ofNat (List.length (List.map keyCh ks)) - (1 : Int)) <
 Int.ofNat (List.length (List.map keyCh ks))) ∧
 ∃ (ys : List (List Ch)),
 ldE (List.map keyCh ks)
 (Int.toNat (IntKind.wrap IntKind.i64 (Int.ofNat (List.length (List.map keyCh ks)) - (1 : Int)))) (1 : Nat)
 (1 : Nat) =
 some [Ch.s (3 : Nat) ys] ∧
 ∃ (n : Nat),
 ∃ (qs : List Rat),
 ys = lR n qs ∧
 (n ≤ (1000000 : Nat) ∧ List.length qs ≤ (1000000 : Nat)) ∧
 K (AV.x false [Ch.s (3 : Nat) (lR (n + (65 : Nat)) qs)])) := by kernel_rfl
theorem g_tAt (ks : List KeyV) (m : Nat) (N : Nat) (t : Int) (hc : (KeysOK ks m N) ∧ ((N ≤ 10000 ∧ m ≤ 100000 ∧ 1 ≤ ks.length ∧ ks.length ≤ 100000) ∧ -4611686018427387904 ≤ t ∧ t < 4611686018427387904)) (K : AV → Prop) (hK : K (sR (atR ks t).2 (atR ks t).1)) : Holds (goal_tAt ks m N t K) := by
  refine ⟨?_⟩
  rw [goal_tAt_vc]
  try simp only [Int.ofNat_eq_natCast, true_and, and_true, Nat.zero_add, Nat.le_refl, true_implies, true_or, or_true]
  obtain ⟨hk, ⟨hN, hm, hn, hn2⟩, ht⟩ := hc
  obtain ⟨a, ha⟩ : ∃ a, ks[0]? = some a := ⟨_, List.getElem?_eq_getElem (by omega)⟩
  have ma := List.mem_of_getElem? ha
  simp only [List.length_map]
  refine bif_mk (fun h => by simp only [beq_iff_eq] at h; omega) (fun _ => ⟨by omega, _, key_ld0 ha, bif_mk (fun h => ⟨by omega, _, key_ld1 ha, a.n, a.q, rfl, ⟨by have := hk.n a ma; omega, by rw [hk.len a ma]; omega⟩, ?_⟩) (fun h => ⟨⟨1, ⟨by omega, ?_⟩, rfl⟩, fun x hx => bif_mk (fun hp => ?_) (fun hp => ?_)⟩)⟩)
  · have e : atR ks t = (a.q, a.n + 65) := at_first ha (of_decide_eq_true h)
    rw [e] at hK
    exact hK
  · exact at_later ha (of_decide_eq_false h)
  · obtain ⟨⟨hx1, hx2⟩, he⟩ := hx
    have hp : x < ks.length := by have := of_decide_eq_true hp; omega
    obtain ⟨y, hy⟩ : ∃ y, ks[x]? = some y := ⟨_, List.getElem?_eq_getElem hp⟩
    have my := List.mem_of_getElem? hy
    have hd : ks.drop x = y :: ks.drop (x + 1) := by
      rw [List.drop_eq_getElem_cons hp]
      rw [List.getElem?_eq_getElem hp] at hy
      rw [Option.some.inj hy]
    have hyt := hk.tick y my
    have hgy : ks.getD x zKey = y := by rw [List.getD_eq_getElem?_getD, hy]; rfl
    rw [hd] at he
    refine ⟨by omega, _, key_ld0 (by simpa using hy), bif_mk (fun hle => ?_) (fun hle => ?_)⟩
    · have hle := of_decide_eq_true hle
      refine ⟨x + 1, ⟨⟨⟨by omega, by omega⟩, ?_⟩, by omega⟩, by rw [w64 (by omega)]; simp⟩
      rw [he, atGo, if_pos hle, show x + 1 - 1 = x by omega, hgy]
    · have hle := of_decide_eq_false hle
      obtain ⟨w, hw⟩ : ∃ w, ks[x - 1]? = some w := ⟨_, List.getElem?_eq_getElem (by omega)⟩
      have mw := List.mem_of_getElem? hw
      have hgw : ks.getD (x - 1) zKey = w := by rw [List.getD_eq_getElem?_getD, hw]; rfl
      have hwt := hk.tick w mw
      have hinc := hk.inc (x - 1) w y hw (by rw [show x - 1 + 1 = x by omega]; exact hy)
      rw [atGo, if_neg hle, hgw] at he
      have e1 : IntKind.i64.wrap ((x : Int) - 1) = ((x - 1 : Nat) : Int) := by rw [w64 (by omega)]; omega
      rw [e1, Int.toNat_natCast]
      refine ⟨by omega, _, _, key_ld hw, by omega, _, _, key_ld (by simpa using hy), by omega, by omega, by omega, by omega, by omega, by omega, fun hne => ?_, fun h0 => ?_⟩
      · have lw := hk.len w mw
        have ly := hk.len y my
        have nw := hk.n w mw
        have ny := hk.n y my
        have li : (interp w y t).length = m := by unfold interp; rw [mix_len (by omega), lw]
        refine ⟨⟨(x, 0), ?_⟩, fun z hz htie => ?_⟩
        · simp only [hgw, hgy, lR_len, lw, ly]
          exact ⟨⟨⟨⟨⟨hx1, hp⟩, he⟩, by omega⟩, trivial⟩, trivial, by simp, rfl, trivial, trivial, trivial, trivial, rfl, by simp⟩
        · obtain ⟨i, k⟩ := z
          have hi : i = x := by simp only at hz htie; omega
          subst hi
          simp only [hgw, hgy, lR_len, lw, ly] at hz ⊢
          refine bif_mk (fun hkm => ?_) (fun hkm => ?_)
          · have hkm : k < m := by have := of_decide_eq_true hkm; omega
            obtain ⟨p, hpp⟩ : ∃ p, w.q[k]? = some p := ⟨_, List.getElem?_eq_getElem (by omega)⟩
            obtain ⟨r, hr⟩ : ∃ r, y.q[k]? = some r := ⟨_, List.getElem?_eq_getElem (by omega)⟩
            refine ⟨by omega, p, w.n, lR_ld (by simpa using hpp), by omega, r, y.n, lR_ld (by simpa using hr), by omega, p, w.n, lR_ld (by simpa using hpp), by omega, by omega, by omega, by omega, (i, k + 1), ?_⟩
            simp only [hgw, hgy]
            refine ⟨⟨⟨⟨⟨hx1, hp⟩, he⟩, by omega⟩, trivial, by omega⟩, trivial, by rw [w64 (by omega)]; simp, trivial, trivial, trivial, trivial, trivial, .inl ?_⟩
            rw [List.take_of_length_le (by rw [List.length_map, List.length_take]; omega), List.take_add_one, show (interp w y t)[k]? = some _ from mix_get hpp hr, List.map_append]
            simp only [Option.toList, List.map_cons, List.map_nil]
            rw [show w.n + (258 + (y.n + w.n + 1)) + 1 = 2 * w.n + y.n + 260 by omega]
          · have hkm : k = m := by have := of_decide_eq_false hkm; omega
            subst hkm
            rw [List.drop_zero, List.take_of_length_le (by rw [List.length_map, List.length_take]; omega), List.take_of_length_le (by omega)]
            rw [he] at hK
            exact hK
      · exfalso
        have := tick_lt hinc
        have h0 : (y.tick : Rat) - (w.tick : Rat) = 0 := h0
        grind
  · obtain ⟨⟨hx1, hx2⟩, he⟩ := hx
    have hp : x = ks.length := by have := of_decide_eq_false hp; omega
    subst hp
    obtain ⟨z, hz⟩ : ∃ z, ks[ks.length - 1]? = some z := ⟨_, List.getElem?_eq_getElem (by omega)⟩
    have mz := List.mem_of_getElem? hz
    rw [List.drop_length, show ks.getD (ks.length - 1) zKey = z by rw [List.getD_eq_getElem?_getD, hz]; rfl, atGo] at he
    rw [he] at hK
    have e1 : IntKind.i64.wrap ((ks.length : Int) - 1) = ((ks.length - 1 : Nat) : Int) := by rw [w64 (by omega)]; omega
    rw [e1, Int.toNat_natCast]
    exact ⟨by omega, _, key_ld1 hz, z.n, z.q, rfl, ⟨by have := hk.n z mz; omega, by rw [hk.len z mz]; omega⟩, hK⟩
def c_tAt : Ctr := fun as0 => match as0 with
  | [.x false [.s 2 xs], .x false [.v (.int .i64 t)]] => some fun K => ∃ ks m N, xs = ks.map keyCh ∧ ((KeysOK ks m N) ∧ ((N ≤ 10000 ∧ m ≤ 100000 ∧ 1 ≤ ks.length ∧ ks.length ≤ 100000) ∧ -4611686018427387904 ≤ t ∧ t < 4611686018427387904)) ∧ (K (sR (atR ks t).2 (atR ks t).1))
  | _ => none
theorem ok_tAt : CtrOK Tryd.prog tabG debT 16 c_tAt := by
  refine ⟨enters Tryd.func16 (by kernel_rfl), fun l T hT K hK => ?_⟩
  unfold c_tAt at hT
  split at hT
  · cases hT
    obtain ⟨ks, m, N, rfl, hc, hK⟩ := hK
    exact spec_ofL T50ok mixed Tryd.func16 (by kernel_rfl) (by kernel_rfl) (by rfl) (g_tAt _ _ _ _ hc K hK)
  · cases hT
def L51 : List (Nat × Ctr) := (16, c_tAt) :: L50
def T51 : Tabs := mkT L51 M48 X4
theorem L51ok : CtrsOK Tryd.prog tabG debT L51 := .cons ok_tAt L50ok
theorem T51ok : TabsOK Tryd.prog tabG debT T51 := mkTok L51ok M48ok X4ok
-- the newest table: L51 M48 X4 T51
end Go.Proofs
/- track: Speed, slow, Check. -/
namespace Go.Proofs
open Go Go.Eng
def spdR (ks : List KeyV) (t : Int) : List Rat := List.zipWith (fun x y => y - x) (atR ks t).1 (atR ks (t + 1)).1
def SlowR (a : ArmV) (x y : KeyV) : Prop := ∀ (i : Nat) (L : LinkV) (p q : Rat), a.links[i]? = some L → x.q[i]? = some p → y.q[i]? = some q → absR (q - p) ≤ L.sp * ((y.tick - x.tick : Int) : Rat)
structure TrackOK (a : ArmV) (ks : List KeyV) : Prop where
  arm : GoodArm a
  ne : 1 ≤ ks.length ∧ ks.length ≤ 60
  keys : ∃ N, N ≤ 10000 ∧ KeysOK ks a.links.length N
  fit : ∀ k ∈ ks, Fit a k.q
  slow : ∀ (i : Nat) (x y : KeyV), ks[i]? = some x → ks[i + 1]? = some y → SlowR a x y
def ot_tSpeed : OT := fun id => bif id.beq 9 then ([0, 1, 2, 3, 4, 5, 6, 7, 8, 9, 10, 11, 12], [[], [], [], [1, 2], [3, 1, 2], [], [], [5, 6], [7, 5, 6], [4, 3, 1, 2, 8, 7, 5, 6], [9, 4, 3, 1, 2, 8, 7, 5, 6], [0, 10, 9, 4, 3, 1, 2, 8, 7, 5, 6], [11, 0, 10, 9, 4, 3, 1, 2, 8, 7, 5, 6]]) else ([], [])
def goal_tSpeed (ks : List KeyV) (m : Nat) (N : Nat) (t : Int) (K : AV → Prop) : Prop := goalL T51 ot_tSpeed (fun _ => .inv ⟨Nat, fun k => ⟨[(5, sR (atR ks t).2 (atR ks t).1), (6, sR (atR ks (t + 1)).2 (atR ks (t + 1)).1), (7, .x false [.w 500 0 k]), (23, iA .i64 m), (24, iA .i64 k)], [(500, rowR ((atR ks (t + 1)).2 + (atR ks t).2 + 1) ((spdR ks t).take k))]⟩, fun k => k ≤ m, fun k => m - k, fun _ => 0⟩) Tryd.f19 [trkA ks, iA .i64 t] K
theorem goal_tSpeed_vc (ks : List KeyV) (m : Nat) (N : Nat) (t : Int) (K : AV → Prop) : goal_tSpeed ks m N t K = (
 ∃ (ks_1 : List KeyV),
 ∃ (m_1 : Nat),
 ∃ (N : Nat),
 List.map keyCh ks = List.map keyCh ks_1 ∧
 (KeysOK ks_1 m_1 N ∧
 (N ≤ (10000 : Nat) ∧ m_1 ≤ (100000 : Nat) ∧ (1 : Nat) ≤ List.length ks_1 ∧ List.length ks_1 ≤ (100000 : Nat)) ∧
 (-4611686018427387904 : Int) ≤ t ∧ t < (4611686018427387904 : Int)) ∧
 bif decide (t < (9223372036854775807 : Int)) then
 ∃ (ks_2 : List KeyV),
 ∃ (m_2 : Nat),
 ∃ (N : Nat),
 List.map keyCh ks = List.map keyCh ks_2 ∧
 (KeysOK ks_2 m_2 N ∧
 (N ≤ (10000 : Nat) ∧ m_2 ≤ (100000 : Nat) ∧ (1 : Nat) ≤ List.length ks_2 ∧ List.length ks_2 ≤ (100000 : Nat)) ∧
 (-4611686018427387904 : Int) ≤ IntKind.wrap IntKind.i64 (t + (1 : Int)) ∧
 IntKind.wrap IntKind.i64 (t + (1 : Int)) < (4611686018427387904 : Int)) ∧
 (∃ (x : Nat),
 (x ≤ m ∧ OfNat.ofNat (0 : Nat) = (0 : Nat)) ∧
 (3 : Nat) = (3 : Nat) ∧
 lR (Prod.snd (atR ks_1 t)) (Prod.fst (atR ks_1 t)) = lR (Prod.snd (atR ks t)) (Prod.fst (atR ks t)) ∧
 (3 : Nat) = (3 : Nat) ∧
 lR (Prod.snd (atR ks_2 (IntKind.wrap IntKind.i64 (t + (1 : Int)))))
 (Prod.fst (atR ks_2 (IntKind.wrap IntKind.i64 (t + (1 : Int))))) =
 lR (Prod.snd (atR ks (t + (1 : Int)))) (Prod.fst (atR ks (t + (1 : Int)))) ∧
 Value.slice none (0 : Nat) (0 : Nat) = Value.slice none (0 : Nat) (0 : Nat) ∧
 (0 : Nat) = (0 : Nat) ∧
 x = (0 : Nat) ∧
 (bif false then
 if
 Int.ofNat
 (List.length
 (lR (Prod.snd (atR ks_2 (IntKind.wrap IntKind.i64 (t + (1 : Int)))))
 (Prod.fst (atR ks_2 (IntKind.wrap IntKind.i64 (t + (1 : Int))))))) >
 Int.ofNat (List.length (lR (Prod.snd (atR ks_1 t)) (Prod.fst (atR ks_1 t)))) then
 Int.ofNat
 (List.length
 (lR (Prod.snd (atR ks_2 (IntKind.wrap IntKind.i64 (t + (1 : Int)))))
 (Prod.fst (atR ks_2 (IntKind.wrap IntKind.i64 (t + (1 : Int)))))))
 else Int.ofNat (List.length (lR (Prod.snd (atR ks_1 t)) (Prod.fst (atR ks_1 t))))
 else
 if
 Int.ofNat
 (List.length
 (lR (Prod.snd (atR ks_2 (IntKind.wrap IntKind.i64 (t + (1 : Int)))))
 (Prod.fst (atR ks_2 (IntKind.wrap IntKind.i64 (t + (1 : Int))))))) <
 Int.ofNat (List.length (lR (Prod.snd (atR ks_1 t)) (Prod.fst (atR ks_1 t)))) then
 Int.ofNat
 (List.length
 (lR (Prod.snd (atR ks_2 (IntKind.wrap IntKind.i64 (t + (1 : Int)))))
 (Prod.fst (atR ks_2 (IntKind.wrap IntKind.i64 (t + (1 : Int)))))))
 else Int.ofNat (List.length (lR (Prod.snd (atR ks_1 t)) (Prod.fst (atR ks_1 t))))) =
 Int.ofNat m ∧
 (0 : Int) = Int.ofNat x ∧
 List.map
 (fun (q : Rat) =>
 [Ch.r q (Prod.snd (atR ks (t + (1 : Int))) + Prod.snd (atR ks t) + (1 : Nat))])
 (List.take x (spdR ks t)) =
 [] ∧
 True) ∧
 ∀ (x : Nat),
 x ≤ m →
 OfNat.ofNat (0 : Nat) = (0 : Nat) →
 bif decide (Int.ofNat x < Int.ofNat m) then
 ((0 : Int) ≤ Int.ofNat x ∧
 Int.ofNat x <
 Int.ofNat
 (List.length (lR (Prod.snd (atR ks (t + (1 : Int)))) (Prod.fst (atR ks (t + (1 : Int))))))) ∧
 ∃ (q : Rat),
 ∃ (n : Nat),
 ldE (lR (Prod.snd (atR ks (t + (1 : Int)))) (Prod.fst (atR ks (t + (1 : Int)))))
 (Int.toNat (Int.ofNat x)) (0 : Nat) (3 : Nat) =
 some [Ch.r q n] ∧
 ((0 : Int) ≤ Int.ofNat x ∧
 Int.ofNat x < Int.ofNat (List.length (lR (Prod.snd (atR ks t)) (Prod.fst (atR ks t))))) ∧
 ∃ (q_1 : Rat),
 ∃ (n_1 : Nat),
 ldE (lR (Prod.snd (atR ks t)) (Prod.fst (atR ks t))) (Int.toNat (Int.ofNat x)) (0 : Nat)
 (3 : Nat) =
 some [Ch.r q_1 n_1] ∧
 n + n_1 + (1 : Nat) ≤ (4294967296 : Nat) ∧
 ((x + (1 : Nat)) * (40 : Nat) ≤ (140737488355328 : Nat) ∧
 x + (1 : Nat) ≤ (9223372036854775807 : Nat)) ∧
 ∃ (x' : Nat),
 (x' ≤ m ∧ OfNat.ofNat (0 : Nat) = (0 : Nat) ∧ m - x' < m - x) ∧
 (3 : Nat) = (3 : Nat) ∧
 lR (Prod.snd (atR ks t)) (Prod.fst (atR ks t)) =
 lR (Prod.snd (atR ks t)) (Prod.fst (atR ks t)) ∧
 (3 : Nat) = (3 : Nat) ∧
 lR (Prod.snd (atR ks (t + (1 : Int)))) (Prod.fst (atR ks (t + (1 : Int)))) =
 lR (Prod.snd (atR ks (t + (1 : Int))))
 (Prod.fst (atR ks (t + (1 : Int)))) ∧
 (0 : Nat) = (0 : Nat) ∧
 x + (1 : Nat) = x' ∧
 Int.ofNat m = Int.ofNat m ∧
 IntKind.wrap IntKind.i64 (Int.ofNat x + (1 : Int)) = Int.ofNat x' ∧
 (25 : Nat) = (25 : Nat) ∧
 (3 : Nat) = (3 : Nat) ∧
 (List.take x
 (List.map
 (fun (q : Rat) =>
 [Ch.r q
 (Prod.snd (atR ks (t + (1 : Int))) +
 Prod.snd (atR ks t) +
 (1 : Nat))])
 (List.take x (spdR ks t))) ++
 [[Ch.r (q - q_1) (n + n_1 + (1 : Nat))]] =
 List.map
 (fun (q : Rat) =>
 [Ch.r q
 (Prod.snd (atR ks (t + (1 : Int))) +
 Prod.snd (atR ks t) +
 (1 : Nat))])
 (List.take x' (spdR ks t)) ∨
 RowLE
 (List.take x
 (List.map
 (fun (q : Rat) =>
 [Ch.r q
 (Prod.snd (atR ks (t + (1 : Int))) +
 Prod.snd (atR ks t) +
 (1 : Nat))])
 (List.take x (spdR ks t))) ++
 [[Ch.r (q - q_1) (n + n_1 + (1 : Nat))]])
 (List.map
 (fun (q : Rat) =>
 [Ch.r q
 (Prod.snd (atR ks (t + (1 : Int))) +
 Prod.snd (atR ks t) +
 (1 : Nat))])
 (List.take x' (spdR ks t)))) ∧
 True
 else
 K
 (AV.x false
 [Ch.s (3 : Nat)
 (List.take x
 (List.drop (0 : Nat)
 (List.map
 (fun (q : Rat) =>
 [Ch.r q (Prod.snd (atR ks (t + (1 : Int))) + Prod.snd (atR ks t) + (1 : Nat))])
 (List.take x (spdR ks t)))))])
 else
 (∃ (x : Nat),
 (x ≤ m ∧ OfNat.ofNat (0 : Nat) = (0 : Nat)) ∧
 (3 : Nat) = (3 : Nat) ∧
 lR (Prod.snd (atR ks_1 t)) (Prod.fst (atR ks_1 t)) = lR (Prod.snd (atR ks t)) (Prod.fst (atR ks t)) ∧
 (3 : Nat) = (3 : Nat) ∧
 lR (Prod.snd (atR ks_1 t)) (Prod.fst (atR ks_1 t)) =
 lR (Prod.snd (atR ks (t + (1 : Int)))) (Prod.fst (atR ks (t + (1 : Int)))) ∧
 Value.slice none (0 : Nat) (0 : Nat) = Value.slice none (0 : Nat) (0 : Nat) ∧
 (0 : Nat) = (0 : Nat) ∧
 x = (0 : Nat) ∧
 (bif false then
 if
 Int.ofNat (List.length (lR (Prod.snd (atR ks_1 t)) (Prod.fst (atR ks_1 t)))) >
 Int.ofNat (List.length (lR (Prod.snd (atR ks_1 t)) (Prod.fst (atR ks_1 t)))) then
 Int.ofNat (List.length (lR (Prod.snd (atR ks_1 t)) (Prod.fst (atR ks_1 t))))
 else Int.ofNat (List.length (lR (Prod.snd (atR ks_1 t)) (Prod.fst (atR ks_1 t))))
 else
 if
 Int.ofNat (List.length (lR (Prod.snd (atR ks_1 t)) (Prod.fst (atR ks_1 t)))) <
 Int.ofNat (List.length (lR (Prod.snd (atR ks_1 t)) (Prod.fst (atR ks_1 t)))) then
 Int.ofNat (List.length (lR (Prod.snd (atR ks_1 t)) (Prod.fst (atR ks_1 t))))
 else Int.ofNat (List.length (lR (Prod.snd (atR ks_1 t)) (Prod.fst (atR ks_1 t))))) =
 Int.ofNat m ∧
 (0 : Int) = Int.ofNat x ∧
 List.map
 (fun (q : Rat) => [Ch.r q (Prod.snd (atR ks (t + (1 : Int))) + Prod.snd (atR ks t) + (1 : Nat))])
 (List.take x (spdR ks t)) =
 [] ∧
 True) ∧
 ∀ (x : Nat),
 x ≤ m →
 OfNat.ofNat (0 : Nat) = (0 : Nat) →
 bif decide (Int.ofNat x < Int.ofNat m) then
 ((0 : Int) ≤ Int.ofNat x ∧
 Int.ofNat x <
 Int.ofNat (List.length (lR (Prod.snd (atR ks (t + (1 : Int)))) (Prod.fst (atR ks (t + (1 : Int))))))) ∧
 ∃ (q : Rat),
 ∃ (n : Nat),
 ldE (lR (Prod.snd (atR ks (t + (1 : Int)))) (Prod.fst (atR ks (t + (1 : Int))))) (Int.toNat (Int.ofNat x))
 (0 : Nat) (3 : Nat) =
 some [Ch.r q n] ∧
 ((0 : Int) ≤ Int.ofNat x ∧
 Int.ofNat x < Int.ofNat (List.length (lR (Prod.snd (atR ks t)) (Prod.fst (atR ks t))))) ∧
 ∃ (q_1 : Rat),
 ∃ (n_1 : Nat),
 ldE (lR (Prod.snd (atR ks t)) (Prod.fst (atR ks t))) (Int.toNat (Int.ofNat x)) (0 : Nat) (3 : Nat) =
 some [Ch.r q_1 n_1] ∧
 n + n_1 + (1 : Nat) ≤ (4294967296 : Nat) ∧
 ((x + (1 : Nat)) * (40 : Nat) ≤ (140737488355328 : Nat) ∧
 x + (1 : Nat) ≤ (9223372036854775807 : Nat)) ∧
 ∃ (x' : Nat),
 (x' ≤ m ∧ OfNat.ofNat (0 : Nat) = (0 : Nat) ∧ m - x' < m - x) ∧
 (3 : Nat) = (3 : Nat) ∧
 lR (Prod.snd (atR ks t)) (Prod.fst (atR ks t)) =
 lR (Prod.snd (atR ks t)) (Prod.fst (atR ks t)) ∧
 (3 : Nat) = (3 : Nat) ∧
 lR (Prod.snd (atR ks (t + (1 : Int)))) (Prod.fst (atR ks (t + (1 : Int)))) =
 lR (Prod.snd (atR ks (t + (1 : Int)))) (Prod.fst (atR ks (t + (1 : Int)))) ∧
 (0 : Nat) = (0 : Nat) ∧
 x + (1 : Nat) = x' ∧
 Int.ofNat m = Int.ofNat m ∧
 IntKind.wrap IntKind.i64 (Int.ofNat x + (1 : Int)) = Int.ofNat x' ∧
 (25 : Nat) = (25 : Nat) ∧
 (3 : Nat) = (3 : Nat) ∧
 (List.take x
 (List.map
 (fun (q : Rat) =>
 [Ch.r q
 (Prod.snd (atR ks (t + (1 : Int))) +
 Prod.snd (atR ks t) +
 (1 : Nat))])
 (List.take x (spdR ks t))) ++
 [[Ch.r (q - q_1) (n + n_1 + (1 : Nat))]] =
 List.map
 (fun (q : Rat) =>
 [Ch.r q
 (Prod.snd (atR ks (t + (1 : Int))) + Prod.snd (atR ks t) +
 (1 : Nat))])
 (List.take x' (spdR ks t)) ∨
 RowLE
 (List.take x
 (List.map
 (fun (q : Rat) =>
 [Ch.r q
 (Prod.snd (atR ks (t + (1 : Int))) +
 Prod.snd (atR ks t) +
 (1 : Nat))])
 (List.take x (spdR ks t))) ++
 [[Ch.r (q - q_1) (n + n_1 + (1 : Nat))]])
 (List.map
 (fun (q : Rat) =>
 [Ch.r q
 (Prod.snd (atR ks (t + (1 : Int))) + Prod.snd (atR ks t) +
 (1 : Nat))])
 (List.take x' (spdR ks t)))) ∧
 True
 else
 K
 (AV.x false
 [Ch.s (3 : Nat)
 (List.take x
 (List.drop (0 : Nat)
 (List.map
 (fun (q : Rat) => [Ch.r q (Prod.snd (atR ks (t + (1 : Int))) + Prod.snd (atR ks t) + (1 : Nat))])
 (List.take x (spdR ks t)))))])) := by kernel_rfl
theorem g_tSpeed (ks : List KeyV) (m : Nat) (N : Nat) (t : Int) (hc : (KeysOK ks m N) ∧ ((N ≤ 10000 ∧ m ≤ 100000 ∧ 1 ≤ ks.length ∧ ks.length ≤ 100000) ∧ -4611686018427387904 ≤ t ∧ t + 1 < 4611686018427387904)) (K : AV → Prop) (hK : K (sR ((atR ks (t + 1)).2 + (atR ks t).2 + 1) (spdR ks t))) : Holds (goal_tSpeed ks m N t K) := by
  refine ⟨?_⟩
  rw [goal_tSpeed_vc]
  try simp only [Int.ofNat_eq_natCast, true_and, and_true, Nat.zero_add, Nat.le_refl, true_implies, true_or, or_true]
  obtain ⟨hk, ⟨hN, hm, hn, hn2⟩, ht⟩ := hc
  have hne : ks ≠ [] := fun e => by rw [e] at hn; simp at hn
  obtain ⟨b0, l0⟩ := at_bound (t := t) hk hne
  obtain ⟨b1, l1⟩ := at_bound (t := t + 1) hk hne
  have e1 : IntKind.i64.wrap (t + 1) = t + 1 := w64 (by omega)
  simp only [e1]
  have lz : (spdR ks t).length = m := by simp [spdR, l0, l1]
  refine ⟨ks, m, N, rfl, ⟨hk, ⟨hN, hm, hn, hn2⟩, by omega, by omega⟩, bif_mk (fun _ => ⟨ks, m, N, rfl, ⟨hk, ⟨hN, hm, hn, hn2⟩, by omega, by omega⟩, ⟨0, by omega, rfl, rfl, rfl, by simp [lR_len, l0, l1], rfl, by simp⟩, fun x hx => bif_mk (fun hp => ?_) (fun hp => ?_)⟩) (fun h => ?_)⟩
  · have hp : x < m := by have := of_decide_eq_true hp; omega
    obtain ⟨p, hpp⟩ : ∃ p, (atR ks t).1[x]? = some p := ⟨_, List.getElem?_eq_getElem (by omega)⟩
    obtain ⟨r, hr⟩ : ∃ r, (atR ks (t + 1)).1[x]? = some r := ⟨_, List.getElem?_eq_getElem (by omega)⟩
    refine ⟨by rw [lR_len]; omega, _, _, lR_ld (by simpa using hr), by rw [lR_len]; omega, _, _, lR_ld (by simpa using hpp), by omega, by omega, x + 1, ⟨by omega, by omega⟩, rfl, by rw [w64 (by omega)]; simp, .inl ?_⟩
    have hg : (spdR ks t)[x]? = some (r - p) := by simp [spdR, List.getElem?_zipWith, hpp, hr]
    rw [List.take_of_length_le (by rw [List.length_map, List.length_take]; omega), List.take_add_one, hg, List.map_append]
    rfl
  · have hp : x = m := by have := of_decide_eq_false hp; omega
    subst hp
    rw [List.drop_zero, List.take_of_length_le (by rw [List.length_map, List.length_take]; omega), List.take_of_length_le (by omega)]
    exact hK
  · have := of_decide_eq_false h; omega
def c_tSpeed : Ctr := fun as0 => match as0 with
  | [.x false [.s 2 xs], .x false [.v (.int .i64 t)]] => some fun K => ∃ ks m N, xs = ks.map keyCh ∧ ((KeysOK ks m N) ∧ ((N ≤ 10000 ∧ m ≤ 100000 ∧ 1 ≤ ks.length ∧ ks.length ≤ 100000) ∧ -4611686018427387904 ≤ t ∧ t + 1 < 4611686018427387904)) ∧ (K (sR ((atR ks (t + 1)).2 + (atR ks t).2 + 1) (spdR ks t)))
  | _ => none
theorem ok_tSpeed : CtrOK Tryd.prog tabG debT 19 c_tSpeed := by
  refine ⟨enters Tryd.func19 (by kernel_rfl), fun l T hT K hK => ?_⟩
  unfold c_tSpeed at hT
  split at hT
  · cases hT
    obtain ⟨ks, m, N, rfl, hc, hK⟩ := hK
    exact spec_ofL T51ok mixed Tryd.func19 (by kernel_rfl) (by kernel_rfl) (by rfl) (g_tSpeed _ _ _ _ hc K hK)
  · cases hT
def L52 : List (Nat × Ctr) := (19, c_tSpeed) :: L51
def T52 : Tabs := mkT L52 M48 X4
theorem L52ok : CtrsOK Tryd.prog tabG debT L52 := .cons ok_tSpeed L51ok
theorem T52ok : TabsOK Tryd.prog tabG debT T52 := mkTok L52ok M48ok X4ok
def ot_tSlow : OT := fun id => bif id.beq 5 then ([0, 1, 2, 3, 4, 5, 6, 7, 8, 9, 12, 13, 14, 10, 11, 15, 16, 17], [[], [0], [], [1, 0, 2], [3, 1, 0, 2], [], [5], [], [6, 5, 7], [8, 6, 5, 7], [4, 3, 1, 0, 2, 9, 8, 6, 5, 7], [10, 4, 3, 1, 0, 2, 9, 8, 6, 5, 7], [], [12], [], [13, 12, 14, 11, 10, 4, 3, 1, 0, 2, 9, 8, 6, 5, 7], [11, 10, 4, 3, 1, 0, 2, 9, 8, 6, 5, 7, 15, 13, 12, 14], [16, 11, 10, 4, 3, 1, 0, 2, 9, 8, 6, 5, 7, 15, 13, 12, 14]]) else ([], [])
def goal_tSlow (a : ArmV) (x : KeyV) (y : KeyV) (K : AV → Prop) : Prop := goalL T52 ot_tSlow (fun _ => .inv ⟨Nat, fun i => ⟨[(4, .x false [.p 4 0]), (5, .x false [.p 5 0]), (7, .x false [.p 7 0]), (17, .x false [.s 16 (a.links.map linkCh)]), (18, iA .i64 a.links.length), (19, iA .i64 i)], [(4, .box 47 (keyCh x)), (5, .box 47 (keyCh y)), (7, .box 25 [.r ((y.tick - x.tick : Int) : Rat) 64])]⟩, fun i => i ≤ a.links.length ∧ ∀ j L p q, j < i → a.links[j]? = some L → x.q[j]? = some p → y.q[j]? = some q → absR (q - p) ≤ L.sp * ((y.tick - x.tick : Int) : Rat), fun i => a.links.length - i, fun _ => 0⟩) Tryd.f79 [armA a, .x true (keyCh x), .x true (keyCh y)] K
theorem goal_tSlow_vc (a : ArmV) (x : KeyV) (y : KeyV) (K : AV → Prop) : goal_tSlow a x y K = (
 ((-9223372036854775808 : Int) ≤ IntKind.wrap IntKind.i64 (KeyV.tick y - KeyV.tick x) ∧
 IntKind.wrap IntKind.i64 (KeyV.tick y - KeyV.tick x) < (9223372036854775808 : Int)) ∧
 (∃ (x_1 : Nat),
 ((x_1 ≤ List.length (ArmV.links a) ∧
 ∀ (j : Nat) (L : LinkV) (p q : Rat),
 j < x_1 →
 (ArmV.links a)[j]? = some L →
 (KeyV.q x)[j]? = some p → (KeyV.q y)[j]? = some q → absR (q - p) ≤ LinkV.sp L * (((KeyV.tick y - KeyV.tick x) : Int) : Rat)) ∧
 OfNat.ofNat (0 : Nat) = (0 : Nat)) ∧
 (0 : Nat) = (0 : Nat) ∧
 (0 : Nat) = (0 : Nat) ∧
 (0 : Nat) = (0 : Nat) ∧
 (16 : Nat) = (16 : Nat) ∧
 List.map linkCh (ArmV.links a) = List.map linkCh (ArmV.links a) ∧
 Int.ofNat (List.length (List.map linkCh (ArmV.links a))) = Int.ofNat (List.length (ArmV.links a)) ∧
 (0 : Int) = Int.ofNat x_1 ∧
 (47 : Nat) = (47 : Nat) ∧
 KeyV.tick x = KeyV.tick x ∧
 (3 : Nat) = (3 : Nat) ∧
 lR (KeyV.n x) (KeyV.q x) = lR (KeyV.n x) (KeyV.q x) ∧
 (47 : Nat) = (47 : Nat) ∧
 KeyV.tick y = KeyV.tick y ∧
 (3 : Nat) = (3 : Nat) ∧
 lR (KeyV.n y) (KeyV.q y) = lR (KeyV.n y) (KeyV.q y) ∧
 (25 : Nat) = (25 : Nat) ∧
 (((IntKind.wrap IntKind.i64 (KeyV.tick y - KeyV.tick x)) : Int) : Rat) = (((KeyV.tick y - KeyV.tick x) : Int) : Rat) ∧
 (64 : Nat) ≤ (64 : Nat) ∧ True) ∧
 ∀ (x_1 : Nat),
 (x_1 ≤ List.length (ArmV.links a) ∧
 ∀ (j : Nat) (L : LinkV) (p q : Rat),
 j < x_1 →
 (ArmV.links a)[j]? = some L →
 (KeyV.q x)[j]? = some p → (KeyV.q y)[j]? = some q → absR (q - p) ≤ LinkV.sp L * (((KeyV.tick y - KeyV.tick x) : Int) : Rat)) →
 OfNat.ofNat (0 : Nat) = (0 : Nat) →
 bif decide (Int.ofNat x_1 < Int.ofNat (List.length (ArmV.links a))) then
 ((0 : Int) ≤ Int.ofNat x_1 ∧ Int.ofNat x_1 < Int.ofNat (List.length (List.map linkCh (ArmV.links a)))) ∧
 ∃ (q : Rat),
 ∃ (n : Nat),
 ∃ (q_1 : Rat),
 ∃ (n_1 : Nat),
 ∃ (q_2 : Rat),
 ∃ (n_2 : Nat),
 ∃ (q_3 : Rat),
 ∃ (n_3 : Nat),
 ∃ (q_4 : Rat),
 ∃ (n_4 : Nat),
 ∃ (ys : List (List Ch)),
 ldE (List.map linkCh (ArmV.links a)) (Int.toNat (Int.ofNat x_1)) (0 : Nat) (16 : Nat) =
 some [Ch.r q n, Ch.r q_1 n_1, Ch.r q_2 n_2, Ch.r q_3 n_3, Ch.r q_4 n_4, Ch.s (6 : Nat) ys] ∧
 ((0 : Int) ≤ Int.ofNat x_1 ∧ Int.ofNat x_1 < Int.ofNat (List.length (lR (KeyV.n y) (KeyV.q y)))) ∧
 ∃ (q : Rat),
 ∃ (n : Nat),
 ldE (lR (KeyV.n y) (KeyV.q y)) (Int.toNat (Int.ofNat x_1)) (0 : Nat) (3 : Nat) =
 some [Ch.r q n] ∧
 ((0 : Int) ≤ Int.ofNat x_1 ∧
 Int.ofNat x_1 < Int.ofNat (List.length (lR (KeyV.n x) (KeyV.q x)))) ∧
 ∃ (q_5 : Rat),
 ∃ (n_5 : Nat),
 ldE (lR (KeyV.n x) (KeyV.q x)) (Int.toNat (Int.ofNat x_1)) (0 : Nat) (3 : Nat) =
 some [Ch.r q_5 n_5] ∧
 n + n_5 + (1 : Nat) ≤ (4294967296 : Nat) ∧
 n + n_5 + (1 : Nat) ≤ (4294967296 : Nat) ∧
 n_3 + (64 : Nat) ≤ (4294967296 : Nat) ∧
 n + n_5 + (1 : Nat) + (n_3 + (64 : Nat)) ≤ (4294967296 : Nat) ∧
 bif
 decide
 (cmpR (absR (q - q_5)) (q_3 * (((KeyV.tick y - KeyV.tick x) : Int) : Rat)) >
 (0 : Int)) then
 K (AV.x false [Ch.v (Value.bool false)])
 else
 ∃ (x' : Nat),
 ((x' ≤ List.length (ArmV.links a) ∧
 ∀ (j : Nat) (L : LinkV) (p q : Rat),
 j < x' →
 (ArmV.links a)[j]? = some L →
 (KeyV.q x)[j]? = some p →
 (KeyV.q y)[j]? = some q →
 absR (q - p) ≤
 LinkV.sp L * (((KeyV.tick y - KeyV.tick x) : Int) : Rat)) ∧
 OfNat.ofNat (0 : Nat) = (0 : Nat) ∧
 List.length (ArmV.links a) - x' <
 List.length (ArmV.links a) - x_1) ∧
 (0 : Nat) = (0 : Nat) ∧
 (0 : Nat) = (0 : Nat) ∧
 (0 : Nat) = (0 : Nat) ∧
 (16 : Nat) = (16 : Nat) ∧
 List.map linkCh (ArmV.links a) =
 List.map linkCh (ArmV.links a) ∧
 Int.ofNat (List.length (ArmV.links a)) =
 Int.ofNat (List.length (ArmV.links a)) ∧
 IntKind.wrap IntKind.i64 (Int.ofNat x_1 + (1 : Int)) =
 Int.ofNat x' ∧
 (47 : Nat) = (47 : Nat) ∧
 KeyV.tick x = KeyV.tick x ∧
 (3 : Nat) = (3 : Nat) ∧
 lR (KeyV.n x) (KeyV.q x) =
 lR (KeyV.n x) (KeyV.q x) ∧
 (47 : Nat) = (47 : Nat) ∧
 KeyV.tick y = KeyV.tick y ∧
 (3 : Nat) = (3 : Nat) ∧
 lR (KeyV.n y) (KeyV.q y) =
 lR (KeyV.n y) (KeyV.q y) ∧
 (25 : Nat) = (25 : Nat) ∧
 (((KeyV.tick y - KeyV.tick x) : Int) : Rat) =
 (((KeyV.tick y - KeyV.tick x) : Int) : Rat) ∧
 (64 : Nat) ≤ (64 : Nat) ∧ True
 else K (AV.x false [Ch.v (Value.bool true)])) := by kernel_rfl
theorem g_tSlow (a : ArmV) (x : KeyV) (y : KeyV) (hc : (a.links.length ≤ 3 ∧ x.q.length = a.links.length ∧ y.q.length = a.links.length) ∧ (x.n ≤ 100000 ∧ y.n ≤ 100000) ∧ ((-1000000 ≤ x.tick ∧ x.tick ≤ 1000000) ∧ (-1000000 ≤ y.tick ∧ y.tick ≤ 1000000))) (K : AV → Prop) (hK : (SlowR a x y → K (.x false [.v (.bool true)])) ∧ (¬ SlowR a x y → K (.x false [.v (.bool false)]))) : Holds (goal_tSlow a x y K) := by
  refine ⟨?_⟩
  rw [goal_tSlow_vc]
  try simp only [Int.ofNat_eq_natCast, true_and, and_true, Nat.zero_add, Nat.le_refl, true_implies, true_or, or_true]
  obtain ⟨⟨h0, h1, h2⟩, ⟨h3, h4⟩, h5⟩ := hc
  obtain ⟨k1, k2⟩ := hK
  have e1 : IntKind.i64.wrap (y.tick - x.tick) = y.tick - x.tick := w64 (by omega)
  simp only [e1, List.length_map, lR_len]
  refine ⟨by omega, ⟨0, ⟨by omega, fun j L p q hj => by omega⟩, trivial, rfl, trivial⟩, fun i hi => bif_mk (fun hp => ?_) (fun hp => k1 fun j L p q hL hpp hq => hi.2 j L p q ?_ hL hpp hq)⟩
  · have hp : i < a.links.length := by have := of_decide_eq_true hp; omega
    obtain ⟨L, hL⟩ : ∃ L, a.links[i]? = some L := ⟨_, List.getElem?_eq_getElem hp⟩
    obtain ⟨q, hq⟩ : ∃ q, y.q[i]? = some q := ⟨_, List.getElem?_eq_getElem (by omega)⟩
    obtain ⟨p, hpp⟩ : ∃ p, x.q[i]? = some p := ⟨_, List.getElem?_eq_getElem (by omega)⟩
    refine ⟨by omega, _, _, _, _, _, _, _, _, _, _, _, link_ld (by simpa using hL), by omega, _, _, lR_ld (by simpa using hq), by omega, _, _, lR_ld (by simpa using hpp), by omega, by omega, by omega, by omega, bif_mk (fun h => k2 fun hs => ?_) (fun h => ⟨i + 1, ⟨⟨by omega, fun j M p' q' hj hM hp' hq' => ?_⟩, by omega⟩, by rw [w64 (by omega)]; simp⟩)⟩
    · have := (cmp_le _ _).2 (hs i L p q hL hpp hq)
      have := of_decide_eq_true h
      omega
    · by_cases e : j = i
      · subst e
        rw [hL] at hM; cases hM
        rw [hpp] at hp'; cases hp'
        rw [hq] at hq'; cases hq'
        exact (cmp_le _ _).1 (by have := of_decide_eq_false h; omega)
      · exact hi.2 j M p' q' (by omega) hM hp' hq'
  · have hp := of_decide_eq_false hp
    have := (List.getElem?_eq_some_iff.1 hL).1
    omega
def c_tSlow : Ctr := fun as0 => match as0 with
  | [.x true xs, .x true xk, .x true yk] => some fun K => ∃ a x y, xs = armCh a ∧ xk = keyCh x ∧ yk = keyCh y ∧ ((a.links.length ≤ 3 ∧ x.q.length = a.links.length ∧ y.q.length = a.links.length) ∧ (x.n ≤ 100000 ∧ y.n ≤ 100000) ∧ ((-1000000 ≤ x.tick ∧ x.tick ≤ 1000000) ∧ (-1000000 ≤ y.tick ∧ y.tick ≤ 1000000))) ∧ ((SlowR a x y → K (.x false [.v (.bool true)])) ∧ (¬ SlowR a x y → K (.x false [.v (.bool false)])))
  | _ => none
theorem ok_tSlow : CtrOK Tryd.prog tabG debT 79 c_tSlow := by
  refine ⟨enters Tryd.func79 (by kernel_rfl), fun l T hT K hK => ?_⟩
  unfold c_tSlow at hT
  split at hT
  · cases hT
    obtain ⟨a, x, y, rfl, rfl, rfl, hc, hK⟩ := hK
    exact spec_ofL T52ok mixed Tryd.func79 (by kernel_rfl) (by kernel_rfl) (by rfl) (g_tSlow _ _ _ hc K hK)
  · cases hT
def L53 : List (Nat × Ctr) := (79, c_tSlow) :: L52
def T53 : Tabs := mkT L53 M48 X4
theorem L53ok : CtrsOK Tryd.prog tabG debT L53 := .cons ok_tSlow L52ok
theorem T53ok : TabsOK Tryd.prog tabG debT T53 := mkTok L53ok M48ok X4ok
def ot_tCheck : OT := fun id => bif id.beq 17 then ([0, 1, 2, 3, 4, 5, 6, 7, 8], [[], [0], [], [], [3], [2, 4, 3], [5, 2, 4, 3], [6, 5, 2, 4, 3], [1, 0, 7, 6, 5, 2, 4, 3]]) else bif id.beq 19 then ([0, 1, 2, 3, 4, 5, 6, 7, 8], [[], [], [], [2], [1, 3, 2], [4, 1, 3, 2], [], [0, 5, 4, 1, 3, 2, 6], [7, 0, 5, 4, 1, 3, 2, 6]]) else ([], [])
def goal_tCheck (a : ArmV) (ks : List KeyV) (K : AV → Prop) : Prop := goalL T53 ot_tCheck (fun _ => .inv ⟨Nat, fun i => ⟨[(1, trkA ks), (2, .x false [.p 2 0]), (20, trkA ks), (21, iA .i64 ks.length), (22, iA .i64 i)], [(2, .box 34 (armCh a))]⟩, fun i => i ≤ ks.length, fun i => ks.length - i, fun _ => 0⟩) Tryd.f43 [armA a, trkA ks] K
theorem goal_tCheck_vc (a : ArmV) (ks : List KeyV) (K : AV → Prop) : goal_tCheck a ks K = (
 ∃ (a_1 : ArmV),
 [Ch.v (Value.string (ArmV.name a)), Ch.r (ArmV.x a) (63 : Nat), Ch.r (ArmV.y a) (63 : Nat), Ch.v (Value.bool (ArmV.half a)),
 Ch.r (ArmV.t a) (63 : Nat), Ch.s (16 : Nat) (List.map linkCh (ArmV.links a))] =
 [Ch.v (Value.string (ArmV.name a_1)), Ch.r (ArmV.x a_1) (63 : Nat), Ch.r (ArmV.y a_1) (63 : Nat), Ch.v (Value.bool (ArmV.half a_1)),
 Ch.r (ArmV.t a_1) (63 : Nat), Ch.s (16 : Nat) (List.map linkCh (ArmV.links a_1))] ∧
 GoodArm a_1 ∧
 bif Int.ofNat (List.length (List.map keyCh ks)) == (0 : Int) then K (AV.x false [Ch.v (Value.int IntKind.i64 (14 : Int))])
 else
 bif decide (Int.ofNat (List.length (List.map keyCh ks)) > (60 : Int)) then K (AV.x false [Ch.v (Value.int IntKind.i64 (2 : Int))])
 else
 (∃ (x : Nat),
 (x ≤ List.length ks ∧ OfNat.ofNat (0 : Nat) = (0 : Nat)) ∧
 (2 : Nat) = (2 : Nat) ∧
 List.map keyCh ks = List.map keyCh ks ∧
 (0 : Nat) = (0 : Nat) ∧
 (2 : Nat) = (2 : Nat) ∧
 List.map keyCh ks = List.map keyCh ks ∧
 Int.ofNat (List.length (List.map keyCh ks)) = Int.ofNat (List.length ks) ∧
 (0 : Int) = Int.ofNat x ∧
 (34 : Nat) = (34 : Nat) ∧
 ArmV.name a = ArmV.name a ∧
 ArmV.x a = ArmV.x a ∧
 (63 : Nat) ≤ (63 : Nat) ∧
 ArmV.y a = ArmV.y a ∧
 (63 : Nat) ≤ (63 : Nat) ∧
 ArmV.half a = ArmV.half a ∧
 ArmV.t a = ArmV.t a ∧
 (63 : Nat) ≤ (63 : Nat) ∧
 (16 : Nat) = (16 : Nat) ∧
 List.map linkCh (ArmV.links a) = List.map linkCh (ArmV.links a) ∧ True) ∧
 ∀ (x : Nat),
 x ≤ List.length ks →
 OfNat.ofNat (0 : Nat) = (0 : Nat) →
 bif decide (Int.ofNat x < Int.ofNat (List.length ks)) then
 ((0 : Int) ≤ Int.ofNat x ∧ Int.ofNat x < Int.ofNat (List.length (List.map keyCh ks))) ∧
 ∃ (d : Int),
 ∃ (ys : List (List Ch)),
 ldE (List.map keyCh ks) (Int.toNat (Int.ofNat x)) (0 : Nat) (2 : Nat) =
 some [Ch.v (Value.int IntKind.i64 d), Ch.s (3 : Nat) ys] ∧
 bif decide (d < (0 : Int)) then K (AV.x false [Ch.v (Value.int IntKind.i64 (1 : Int))])
 else
 bif decide (d > (2000 : Int)) then K (AV.x false [Ch.v (Value.int IntKind.i64 (1 : Int))])
 else
 ∃ (a_4 : ArmV),
 ∃ (n : Nat),
 ∃ (qs : List Rat),
 [Ch.v (Value.string (ArmV.name a)), Ch.r (ArmV.x a) (63 : Nat), Ch.r (ArmV.y a) (63 : Nat),
 Ch.v (Value.bool (ArmV.half a)), Ch.r (ArmV.t a) (63 : Nat),
 Ch.s (16 : Nat) (List.map linkCh (ArmV.links a))] =
 [Ch.v (Value.string (ArmV.name a_4)), Ch.r (ArmV.x a_4) (63 : Nat), Ch.r (ArmV.y a_4) (63 : Nat),
 Ch.v (Value.bool (ArmV.half a_4)), Ch.r (ArmV.t a_4) (63 : Nat),
 Ch.s (16 : Nat) (List.map linkCh (ArmV.links a_4))] ∧
 ys = lR n qs ∧
 (GoodArm a_4 ∧ n ≤ (1000000 : Nat) ∧ List.length qs = List.length (ArmV.links a_4)) ∧
 ((∀ (i : Nat) (L : LinkV) (q : Rat),
 (ArmV.links a_4)[i]? = some L → qs[i]? = some q → LinkV.lo L ≤ q ∧ q ≤ LinkV.hi L) →
 bif Int.ofNat x == (0 : Int) then
 ∃ (x' : Nat),
 (x' ≤ List.length ks ∧
 OfNat.ofNat (0 : Nat) = (0 : Nat) ∧ List.length ks - x' < List.length ks - x) ∧
 (2 : Nat) = (2 : Nat) ∧
 List.map keyCh ks = List.map keyCh ks ∧
 (0 : Nat) = (0 : Nat) ∧
 (2 : Nat) = (2 : Nat) ∧
 List.map keyCh ks = List.map keyCh ks ∧
 Int.ofNat (List.length ks) = Int.ofNat (List.length ks) ∧
 IntKind.wrap IntKind.i64 (Int.ofNat x + (1 : Int)) = Int.ofNat x' ∧
 (34 : Nat) = (34 : Nat) ∧
 ArmV.name a = ArmV.name a ∧
 ArmV.x a = ArmV.x a ∧
 (63 : Nat) ≤ (63 : Nat) ∧
 ArmV.y a = ArmV.y a ∧
 (63 : Nat) ≤ (63 : Nat) ∧
 ArmV.half a = ArmV.half a ∧
 ArmV.t a = ArmV.t a ∧
 (63 : Nat) ≤ (63 : Nat) ∧
 (16 : Nat) = (16 : Nat) ∧
 List.map linkCh (ArmV.links a) =
 List.map linkCh (ArmV.links a) ∧
 True
 else
 ((0 : Int) ≤ IntKind.wrap IntKind.i64 (Int.ofNat x - (1 : Int)) ∧
 IntKind.wrap IntKind.i64 (Int.ofNat x - (1 : Int)) <
 Int.ofNat (List.length (List.map keyCh ks))) ∧
 ∃ (d_1 : Int),
 ldE (List.map keyCh ks)
 (Int.toNat (IntKind.wrap IntKind.i64 (Int.ofNat x - (1 : Int)))) (0 : Nat)
 (1 : Nat) =
 some [Ch.v (Value.int IntKind.i64 d_1)] ∧
 bif decide (d ≤ d_1) then K (AV.x false [Ch.v (Value.int IntKind.i64 (9 : Int))])
 else
 ((0 : Int) ≤ IntKind.wrap IntKind.i64 (Int.ofNat x - (1 : Int)) ∧
 IntKind.wrap IntKind.i64 (Int.ofNat x - (1 : Int)) <
 Int.ofNat (List.length (List.map keyCh ks))) ∧
 ∃ (d_2 : Int),
 ∃ (ys_1 : List (List Ch)),
 ldE (List.map keyCh ks)
 (Int.toNat (IntKind.wrap IntKind.i64 (Int.ofNat x - (1 : Int))))
 (0 : Nat) (2 : Nat) =
 some [Ch.v (Value.int IntKind.i64 d_2), Ch.s (3 : Nat) ys_1] ∧
 ∃ (a_6 : ArmV),
 ∃ (x_1 : KeyV),
 ∃ (y : KeyV),
 [Ch.v (Value.string (ArmV.name a)), Ch.r (ArmV.x a) (63 : Nat),
 Ch.r (ArmV.y a) (63 : Nat), Ch.v (Value.bool (ArmV.half a)),
 Ch.r (ArmV.t a) (63 : Nat),
 Ch.s (16 : Nat) (List.map linkCh (ArmV.links a))] =
 [Ch.v (Value.string (ArmV.name a_6)),
 Ch.r (ArmV.x a_6) (63 : Nat), Ch.r (ArmV.y a_6) (63 : Nat),
 Ch.v (Value.bool (ArmV.half a_6)),
 Ch.r (ArmV.t a_6) (63 : Nat),
 Ch.s (16 : Nat) (List.map linkCh (ArmV.links a_6))] ∧
 [Ch.v (Value.int IntKind.i64 d_2), Ch.s (3 : Nat) ys_1] =
 [Ch.v (Value.int IntKind.i64 (KeyV.tick x_1)),
 Ch.s (3 : Nat) (lR (KeyV.n x_1) (KeyV.q x_1))] ∧
 [Ch.v (Value.int IntKind.i64 d), Ch.s (3 : Nat) ys] =
 [Ch.v (Value.int IntKind.i64 (KeyV.tick y)),
 Ch.s (3 : Nat) (lR (KeyV.n y) (KeyV.q y))] ∧
 ((List.length (ArmV.links a_6) ≤ (3 : Nat) ∧
 List.length (KeyV.q x_1) =
 List.length (ArmV.links a_6) ∧
 List.length (KeyV.q y) =
 List.length (ArmV.links a_6)) ∧
 (KeyV.n x_1 ≤ (100000 : Nat) ∧
 KeyV.n y ≤ (100000 : Nat)) ∧
 ((-1000000 : Int) ≤ KeyV.tick x_1 ∧
 KeyV.tick x_1 ≤ (1000000 : Int)) ∧
 (-1000000 : Int) ≤ KeyV.tick y ∧
 KeyV.tick y ≤ (1000000 : Int)) ∧
 ((∀ (i : Nat) (L : LinkV) (p q : Rat),
 (ArmV.links a_6)[i]? = some L →
 (KeyV.q x_1)[i]? = some p →
 (KeyV.q y)[i]? = some q →
 absR (q - p) ≤
 LinkV.sp L * (((KeyV.tick y - KeyV.tick x_1) : Int) : Rat)) →
 ∃ (x' : Nat),
 (x' ≤ List.length ks ∧
 OfNat.ofNat (0 : Nat) = (0 : Nat) ∧
 List.length ks - x' < List.length ks - x) ∧
 (2 : Nat) = (2 : Nat) ∧
 List.map keyCh ks = List.map keyCh ks ∧
 (0 : Nat) = (0 : Nat) ∧
 (2 : Nat) = (2 : Nat) ∧
 List.map keyCh ks = List.map keyCh ks ∧
 Int.ofNat (List.length ks) =
 Int.ofNat (List.length ks) ∧
 IntKind.wrap IntKind.i64
 (Int.ofNat x + (1 : Int)) =
 Int.ofNat x' ∧
 (34 : Nat) = (34 : Nat) ∧
 ArmV.name a = ArmV.name a ∧
 ArmV.x a = ArmV.x a ∧
 (63 : Nat) ≤ (63 : Nat) ∧
 ArmV.y a = ArmV.y a ∧
 (63 : Nat) ≤ (63 : Nat) ∧
 ArmV.half a =
 ArmV.half a ∧
 ArmV.t a = ArmV.t a ∧
 (63 : Nat) ≤
 (63 : Nat) ∧
 (16 : Nat) =
 (16 : Nat) ∧
 List.map linkCh
 (ArmV.links
 a) =
 List.map
 linkCh
 (ArmV.links
 a) ∧
 True) ∧
 (¬SlowR a_6 x_1 y →
 K
 (AV.x false
 [Ch.v (Value.int IntKind.i64 (19 : Int))]))) ∧
 (¬Fit a_4 qs → K (AV.x false [Ch.v (Value.int IntKind.i64 (17 : Int))]))
 else K (AV.x false [Ch.v (Value.int IntKind.i64 (0 : Int))])) := by kernel_rfl
theorem g_tCheck (a : ArmV) (ks : List KeyV) (hc : (TrackOK a ks)) (K : AV → Prop) (hK : K (iA .i64 0)) : Holds (goal_tCheck a ks K) := by
  refine ⟨?_⟩
  rw [goal_tCheck_vc]
  try simp only [Int.ofNat_eq_natCast, true_and, and_true, Nat.zero_add, Nat.le_refl, true_implies, true_or, or_true]
  obtain ⟨hg, hn, ⟨N, hN, hk⟩, hf, hs⟩ := hc
  have hl := hg.n
  simp only [List.length_map]
  refine ⟨a, rfl, hg, bif_mk (fun h => by simp only [beq_iff_eq] at h; omega) (fun _ => bif_mk (fun h => by have := of_decide_eq_true h; omega) (fun _ => ⟨⟨0, by omega, trivial, rfl⟩, fun x hx => bif_mk (fun hp => ?_) (fun _ => hK)⟩))⟩
  have hp : x < ks.length := by have := of_decide_eq_true hp; omega
  obtain ⟨y, hy⟩ : ∃ y, ks[x]? = some y := ⟨_, List.getElem?_eq_getElem hp⟩
  have my := List.mem_of_getElem? hy
  have ht := hk.tick y my
  have hny := hk.n y my
  have hly := hk.len y my
  refine ⟨by omega, _, _, key_ld (by simpa using hy), bif_mk (fun h => by have := of_decide_eq_true h; omega) (fun _ => bif_mk (fun h => by have := of_decide_eq_true h; omega) (fun _ => ⟨a, y.n, y.q, rfl, rfl, ⟨hg, by omega, hly⟩, fun _ => bif_mk (fun h0 => ⟨x + 1, ⟨by omega, by omega⟩, by rw [w64 (by omega)]; simp⟩) (fun h0 => ?_), fun h => absurd (hf y my) h⟩))⟩
  have h0 : x ≠ 0 := fun e => by subst e; simp at h0
  obtain ⟨w, hw⟩ : ∃ w, ks[x - 1]? = some w := ⟨_, List.getElem?_eq_getElem (by omega)⟩
  have mw := List.mem_of_getElem? hw
  have hinc := hk.inc (x - 1) w y hw (by rw [show x - 1 + 1 = x by omega]; exact hy)
  have hsl := hs (x - 1) w y hw (by rw [show x - 1 + 1 = x by omega]; exact hy)
  have hwt := hk.tick w mw
  have hnw := hk.n w mw
  have hlw := hk.len w mw
  have e1 : IntKind.i64.wrap ((x : Int) - 1) = ((x - 1 : Nat) : Int) := by rw [w64 (by omega)]; omega
  rw [e1, Int.toNat_natCast]
  refine ⟨by omega, _, key_ld0 hw, bif_mk (fun h => by have := of_decide_eq_true h; omega) (fun _ => ⟨by omega, _, _, key_ld hw, a, w, y, rfl, rfl, rfl, ⟨⟨by omega, hlw, hly⟩, ⟨by omega, by omega⟩, ⟨by omega, by omega⟩, by omega, by omega⟩, fun _ => ⟨x + 1, ⟨by omega, by omega⟩, by rw [w64 (by omega)]; simp⟩, fun h => absurd hsl h⟩)⟩
def c_tCheck : Ctr := fun as0 => match as0 with
  | [.x true xs, .x false [.s 2 ys]] => some fun K => ∃ a ks, xs = armCh a ∧ ys = ks.map keyCh ∧ ((TrackOK a ks)) ∧ (K (iA .i64 0))
  | _ => none
theorem ok_tCheck : CtrOK Tryd.prog tabG debT 43 c_tCheck := by
  refine ⟨enters Tryd.func43 (by kernel_rfl), fun l T hT K hK => ?_⟩
  unfold c_tCheck at hT
  split at hT
  · cases hT
    obtain ⟨a, ks, rfl, rfl, hc, hK⟩ := hK
    exact spec_ofL T53ok mixed Tryd.func43 (by kernel_rfl) (by kernel_rfl) (by rfl) (g_tCheck _ _ hc K hK)
  · cases hT
def L54 : List (Nat × Ctr) := (43, c_tCheck) :: L53
def T54 : Tabs := mkT L54 M48 X4
theorem L54ok : CtrsOK Tryd.prog tabG debT L54 := .cons ok_tCheck L53ok
theorem T54ok : TabsOK Tryd.prog tabG debT T54 := mkTok L54ok M48ok X4ok
-- the newest table: L54 M48 X4 T54
end Go.Proofs
/- gantmake.Track, tracks. -/
namespace Go.Proofs
open Go Go.Eng
structure MadeT (a : ArmV) (ks : List KeyV) : Prop where
  n : ∀ k ∈ ks, k.n = 63
  len : ∀ k ∈ ks, k.q.length = a.links.length
  fit : ∀ k ∈ ks, Fit a k.q
  tick : ∀ k ∈ ks, 0 ≤ k.tick ∧ k.tick ≤ 300
  inc : ∀ (i : Nat) (x y : KeyV), ks[i]? = some x → ks[i + 1]? = some y → x.tick + 48 ≤ y.tick
structure TkX where
  ks : List KeyV
  l : List Int
  n : Nat
  tick : Int
structure TkI (a : ArmV) (l : List Int) (x : TkX) : Prop where
  made : MadeT a x.ks
  last : ∀ k, x.ks[x.ks.length - 1]? = some k → k.tick = x.tick
  hl : x.l.length ≤ l.length
  hn : x.ks.length ≤ x.n ∧ 1 ≤ x.n ∧ x.n ≤ 4
  ht : 0 ≤ x.tick ∧ x.tick ≤ 10 + 67 * x.ks.length
theorem TkI.add {a : ArmV} {l : List Int} {x : TkX} (h : TkI a l x) (hlt : x.ks.length < x.n) {t : Int} (ht : (x.ks.length = 0 ∧ t = x.tick) ∨ (x.tick + 48 ≤ t ∧ t ≤ x.tick + 67)) {qs : List Rat} (hf : Fit a qs) (hq : qs.length = a.links.length) {l' : List Int} (hl : l'.length ≤ l.length) : TkI a l ⟨x.ks ++ [⟨t, 63, qs⟩], l', x.n, t⟩ := by
  obtain ⟨⟨m1, m2, m3, m4, m5⟩, last, _, hn, h2⟩ := h
  have both : ∀ {p : KeyV → Prop}, (∀ k ∈ x.ks, p k) → p ⟨t, 63, qs⟩ → ∀ k ∈ x.ks ++ [⟨t, 63, qs⟩], p k := fun h1 h2 k hk => by
    rcases List.mem_append.1 hk with hk | hk
    · exact h1 k hk
    · rw [List.mem_singleton.1 hk]; exact h2
  refine ⟨⟨both m1 rfl, both m2 hq, both m3 hf, both m4 ⟨by simp only; omega, by simp only; omega⟩, fun i u v hu hv => ?_⟩, fun k hk => ?_, hl, by simp only [List.length_append, List.length_cons, List.length_nil]; omega, by simp only [List.length_append, List.length_cons, List.length_nil]; omega⟩
  · have hiv := (List.getElem?_eq_some_iff.1 hv).1
    simp only [List.length_append, List.length_cons, List.length_nil] at hiv
    rw [List.getElem?_append_left (by omega)] at hu
    by_cases e : i + 1 < x.ks.length
    · rw [List.getElem?_append_left e] at hv
      exact m5 i u v hu hv
    · have e : i = x.ks.length - 1 := by omega
      have := last u (e ▸ hu)
      rw [List.getElem?_append_right (by omega), show i + 1 - x.ks.length = 0 by omega] at hv
      cases hv
      simp only
      omega
  · simp only [List.length_append, List.length_cons, List.length_nil] at hk
    rw [List.getElem?_append_right (by omega), show x.ks.length + (0 + 1) - 1 - x.ks.length = 0 by omega] at hk
    cases hk; rfl
def rowK (ks : List KeyV) : Blk := .row 47 2 (ks.map keyCh)
def inv_mTrack (a : ArmV) (l : List Int) : LI := fun _ => .inv ⟨TkX, fun x => ⟨[(2, .x false [.p 2 0]), (5, .x false [.p 11 0]), (6, .x false [.w 500 0 x.ks.length]), (7, iA .i64 x.tick), (16, iA .i64 x.n), (17, iA .i64 x.ks.length)], [(2, .box 34 (armCh a)), (11, stB x.l), (500, rowK x.ks)]⟩, TkI a l, fun x => x.n - x.ks.length, fun _ => 0⟩
def ot_mTrack : OT := fun _ => ([], [])
def goal_mTrack (a : ArmV) (l : List Int) (K : AV → Prop) : Prop := goalL T54 ot_mTrack (inv_mTrack a l) Tryd.f15 [armA a, .x false [.s 1 (ints l)]] K
theorem goal_mTrack_vc (a : ArmV) (l : List Int) (K : AV → Prop) : goal_mTrack a l K = (
 ∃ (l_1 : List Int),
 ints l = ints l_1 ∧
 ((1 : Int) ≤ (10 : Int) ∧ (10 : Int) < (9223372036854775808 : Int)) ∧
 List.length l_1 ≤ (9223372036854775807 : Nat) ∧
 ∀ (r : Int) (l' : List Int),
 (0 : Int) ≤ r ∧ r < (10 : Int) →
 List.length l' ≤ List.length l_1 →
 ∃ (l_2 : List Int),
 ints l' = ints l_2 ∧
 ((1 : Int) ≤ (4 : Int) ∧ (4 : Int) < (9223372036854775808 : Int)) ∧
 List.length l_2 ≤ (9223372036854775807 : Nat) ∧
 ∀ (r_1 : Int) (l' : List Int),
 (0 : Int) ≤ r_1 ∧ r_1 < (4 : Int) →
 List.length l' ≤ List.length l_2 →
 (∃ (x : TkX),
 (TkI a l x ∧ OfNat.ofNat (0 : Nat) = (0 : Nat)) ∧
 (0 : Nat) = (0 : Nat) ∧
 (0 : Nat) = (0 : Nat) ∧
 Value.slice none (0 : Nat) (0 : Nat) = Value.slice none (0 : Nat) (0 : Nat) ∧
 (0 : Nat) = (0 : Nat) ∧
 List.length (TkX.ks x) = (0 : Nat) ∧
 r = TkX.tick x ∧
 IntKind.wrap IntKind.i64 ((1 : Int) + r_1) = Int.ofNat (TkX.n x) ∧
 (0 : Int) = Int.ofNat (List.length (TkX.ks x)) ∧
 (34 : Nat) = (34 : Nat) ∧
 ArmV.name a = ArmV.name a ∧
 ArmV.x a = ArmV.x a ∧
 (63 : Nat) ≤ (63 : Nat) ∧
 ArmV.y a = ArmV.y a ∧
 (63 : Nat) ≤ (63 : Nat) ∧
 ArmV.half a = ArmV.half a ∧
 ArmV.t a = ArmV.t a ∧
 (63 : Nat) ≤ (63 : Nat) ∧
 (16 : Nat) = (16 : Nat) ∧
 List.map linkCh (ArmV.links a) = List.map linkCh (ArmV.links a) ∧
 (99 : Nat) = (99 : Nat) ∧
 (1 : Nat) = (1 : Nat) ∧
 ints l' = ints (TkX.l x) ∧
 List.map keyCh (TkX.ks x) = [] ∧ True) ∧
 ∀ (x : TkX),
 TkI a l x →
 OfNat.ofNat (0 : Nat) = (0 : Nat) →
 bif decide (Int.ofNat (List.length (TkX.ks x)) < Int.ofNat (TkX.n x)) then
 bif decide (Int.ofNat (List.length (TkX.ks x)) > (0 : Int)) then
 ∃ (l_3 : List Int),
 ints (TkX.l x) = ints l_3 ∧
 ((1 : Int) ≤ (20 : Int) ∧ (20 : Int) < (9223372036854775808 : Int)) ∧
 List.length l_3 ≤ (9223372036854775807 : Nat) ∧
 ∀ (r : Int) (l' : List Int),
 (0 : Int) ≤ r ∧ r < (20 : Int) →
 List.length l' ≤ List.length l_3 →
 ∃ (a_9 : ArmV),
 ∃ (l_4 : List Int),
 [Ch.v (Value.string (ArmV.name a)), Ch.r (ArmV.x a) (63 : Nat),
 Ch.r (ArmV.y a) (63 : Nat), Ch.v (Value.bool (ArmV.half a)),
 Ch.r (ArmV.t a) (63 : Nat),
 Ch.s (16 : Nat) (List.map linkCh (ArmV.links a))] =
 [Ch.v (Value.string (ArmV.name a_9)), Ch.r (ArmV.x a_9) (63 : Nat),
 Ch.r (ArmV.y a_9) (63 : Nat), Ch.v (Value.bool (ArmV.half a_9)),
 Ch.r (ArmV.t a_9) (63 : Nat),
 Ch.s (16 : Nat) (List.map linkCh (ArmV.links a_9))] ∧
 ints l' = ints l_4 ∧
 GoodArm a_9 ∧
 List.length l_4 ≤ (9223372036854775807 : Nat) ∧
 ∀ (qs : List Rat) (l' : List Int),
 (∀ (i : Nat) (L : LinkV) (q : Rat),
 (ArmV.links a_9)[i]? = some L →
 qs[i]? = some q → LinkV.lo L ≤ q ∧ q ≤ LinkV.hi L) →
 List.length qs = List.length (ArmV.links a_9) →
 List.length l' ≤ List.length l_4 →
 ((List.length (TkX.ks x) + (1 : Nat)) * (32 : Nat) ≤
 (140737488355328 : Nat) ∧
 List.length (TkX.ks x) + (1 : Nat) ≤
 (9223372036854775807 : Nat)) ∧
 ∃ (x' : TkX),
 (TkI a l x' ∧
 OfNat.ofNat (0 : Nat) = (0 : Nat) ∧
 TkX.n x' - List.length (TkX.ks x') <
 TkX.n x - List.length (TkX.ks x)) ∧
 (0 : Nat) = (0 : Nat) ∧
 (0 : Nat) = (0 : Nat) ∧
 (0 : Nat) = (0 : Nat) ∧
 List.length (TkX.ks x) + (1 : Nat) =
 List.length (TkX.ks x') ∧
 IntKind.wrap IntKind.i64
 (TkX.tick x +
 IntKind.wrap IntKind.i64 ((48 : Int) + r)) =
 TkX.tick x' ∧
 Int.ofNat (TkX.n x) = Int.ofNat (TkX.n x') ∧
 IntKind.wrap IntKind.i64
 (Int.ofNat (List.length (TkX.ks x)) +
 (1 : Int)) =
 Int.ofNat (List.length (TkX.ks x')) ∧
 (34 : Nat) = (34 : Nat) ∧
 ArmV.name a = ArmV.name a ∧
 ArmV.x a = ArmV.x a ∧
 (63 : Nat) ≤ (63 : Nat) ∧
 ArmV.y a = ArmV.y a ∧
 (63 : Nat) ≤ (63 : Nat) ∧
 ArmV.half a = ArmV.half a ∧
 ArmV.t a = ArmV.t a ∧
 (63 : Nat) ≤ (63 : Nat) ∧
 (16 : Nat) = (16 : Nat) ∧
 List.map linkCh
 (ArmV.links a) =
 List.map linkCh
 (ArmV.links a) ∧
 (99 : Nat) =
 (99 : Nat) ∧
 (1 : Nat) =
 (1 : Nat) ∧
 ints l' =
 ints
 (TkX.l x') ∧
 (47 : Nat) =
 (47 : Nat) ∧
 (2 : Nat) =
 (2 : Nat) ∧
 (List.take
 (List.length
 (TkX.ks
 x))
 (List.map
 keyCh
 (TkX.ks
 x)) ++
 [[Ch.v
 (Value.int
 IntKind.i64
 (IntKind.wrap
 IntKind.i64
 (TkX.tick
 x +
 IntKind.wrap
 IntKind.i64
 ((48 :
 Int) +
 r)))),
 Ch.s
 (3 :
 Nat)
 (List.take
 (List.length
 qs)
 (List.drop
 (0 :
 Nat)
 (List.map
 (fun
 (q :
 Rat) =>
 [Ch.r
 q
 (63 :
 Nat)])
 qs)))]] =
 List.map
 keyCh
 (TkX.ks
 x') ∨
 RowLE
 (List.take
 (List.length
 (TkX.ks
 x))
 (List.map
 keyCh
 (TkX.ks
 x)) ++
 [[Ch.v
 (Value.int
 IntKind.i64
 (IntKind.wrap
 IntKind.i64
 (TkX.tick
 x +
 IntKind.wrap
 IntKind.i64
 ((48 :
 Int) +
 r)))),
 Ch.s
 (3 :
 Nat)
 (List.take
 (List.length
 qs)
 (List.drop
 (0 :
 Nat)
 (List.map
 (fun
 (q :
 Rat) =>
 [Ch.r
 q
 (63 :
 Nat)])
 qs)))]])
 (List.map
 keyCh
 (TkX.ks
 x'))) ∧
 True
 else
 ∃ (a_7 : ArmV),
 ∃ (l_3 : List Int),
 [Ch.v (Value.string (ArmV.name a)), Ch.r (ArmV.x a) (63 : Nat), Ch.r (ArmV.y a) (63 : Nat),
 Ch.v (Value.bool (ArmV.half a)), Ch.r (ArmV.t a) (63 : Nat),
 Ch.s (16 : Nat) (List.map linkCh (ArmV.links a))] =
 [Ch.v (Value.string (ArmV.name a_7)), Ch.r (ArmV.x a_7) (63 : Nat),
 Ch.r (ArmV.y a_7) (63 : Nat), Ch.v (Value.bool (ArmV.half a_7)),
 Ch.r (ArmV.t a_7) (63 : Nat), Ch.s (16 : Nat) (List.map linkCh (ArmV.links a_7))] ∧
 ints (TkX.l x) = ints l_3 ∧
 GoodArm a_7 ∧
 List.length l_3 ≤ (9223372036854775807 : Nat) ∧
 ∀ (qs : List Rat) (l' : List Int),
 (∀ (i : Nat) (L : LinkV) (q : Rat),
 (ArmV.links a_7)[i]? = some L →
 qs[i]? = some q → LinkV.lo L ≤ q ∧ q ≤ LinkV.hi L) →
 List.length qs = List.length (ArmV.links a_7) →
 List.length l' ≤ List.length l_3 →
 ((List.length (TkX.ks x) + (1 : Nat)) * (32 : Nat) ≤ (140737488355328 : Nat) ∧
 List.length (TkX.ks x) + (1 : Nat) ≤ (9223372036854775807 : Nat)) ∧
 ∃ (x' : TkX),
 (TkI a l x' ∧
 OfNat.ofNat (0 : Nat) = (0 : Nat) ∧
 TkX.n x' - List.length (TkX.ks x') <
 TkX.n x - List.length (TkX.ks x)) ∧
 (0 : Nat) = (0 : Nat) ∧
 (0 : Nat) = (0 : Nat) ∧
 (0 : Nat) = (0 : Nat) ∧
 List.length (TkX.ks x) + (1 : Nat) = List.length (TkX.ks x') ∧
 TkX.tick x = TkX.tick x' ∧
 Int.ofNat (TkX.n x) = Int.ofNat (TkX.n x') ∧
 IntKind.wrap IntKind.i64
 (Int.ofNat (List.length (TkX.ks x)) + (1 : Int)) =
 Int.ofNat (List.length (TkX.ks x')) ∧
 (34 : Nat) = (34 : Nat) ∧
 ArmV.name a = ArmV.name a ∧
 ArmV.x a = ArmV.x a ∧
 (63 : Nat) ≤ (63 : Nat) ∧
 ArmV.y a = ArmV.y a ∧
 (63 : Nat) ≤ (63 : Nat) ∧
 ArmV.half a = ArmV.half a ∧
 ArmV.t a = ArmV.t a ∧
 (63 : Nat) ≤ (63 : Nat) ∧
 (16 : Nat) = (16 : Nat) ∧
 List.map linkCh (ArmV.links a) =
 List.map linkCh (ArmV.links a) ∧
 (99 : Nat) = (99 : Nat) ∧
 (1 : Nat) = (1 : Nat) ∧
 ints l' = ints (TkX.l x') ∧
 (47 : Nat) = (47 : Nat) ∧
 (2 : Nat) = (2 : Nat) ∧
 (List.take
 (List.length
 (TkX.ks x))
 (List.map keyCh
 (TkX.ks x)) ++
 [[Ch.v
 (Value.int
 IntKind.i64
 (TkX.tick
 x)),
 Ch.s (3 : Nat)
 (List.take
 (List.length
 qs)
 (List.drop
 (0 : Nat)
 (List.map
 (fun
 (q :
 Rat) =>
 [Ch.r
 q
 (63 :
 Nat)])
 qs)))]] =
 List.map keyCh
 (TkX.ks x') ∨
 RowLE
 (List.take
 (List.length
 (TkX.ks x))
 (List.map keyCh
 (TkX.ks x)) ++
 [[Ch.v
 (Value.int
 IntKind.i64
 (TkX.tick
 x)),
 Ch.s (3 : Nat)
 (List.take
 (List.length
 qs)
 (List.drop
 (0 : Nat)
 (List.map
 (fun
 (q :
 Rat) =>
 [Ch.r
 q
 (63 :
 Nat)])
 qs)))]])
 (List.map keyCh
 (TkX.ks x'))) ∧
 True
 else
 K
 (AV.x false
 [Ch.s (2 : Nat)
 (List.take (List.length (TkX.ks x)) (List.drop (0 : Nat) (List.map keyCh (TkX.ks x))))])) := by kernel_rfl
theorem g_mTrack (a : ArmV) (l : List Int) (hc : (GoodArm a) ∧ (l.length ≤ 9223372036854775807)) (K : AV → Prop) (hK : ∀ ks : List KeyV, MadeT a ks → 1 ≤ ks.length → ks.length ≤ 4 → K (trkA ks)) : Holds (goal_mTrack a l K) := by
  refine ⟨?_⟩
  rw [goal_mTrack_vc]
  try simp only [Int.ofNat_eq_natCast, true_and, and_true, Nat.zero_add, Nat.le_refl, true_implies, true_or, or_true]
  refine ⟨l, rfl, by omega, hc.2, fun r l1 hr h1 => ⟨l1, rfl, by omega, by omega, fun r2 l2 hr2 h2 => ?_⟩⟩
  rw [w64 (n := 1 + r2) (by omega)]
  have add : ∀ (x : TkX) (t : Int) (qs : List Rat), (List.take x.ks.length (List.map keyCh x.ks) ++ [keyCh ⟨t, 63, qs⟩]) = List.map keyCh (x.ks ++ [⟨t, 63, qs⟩]) := fun x t qs => by
    rw [List.take_of_length_le (by rw [List.length_map]; exact Nat.le_refl _), List.map_append]; rfl
  refine ⟨⟨⟨[], l2, (1 + r2).toNat, r⟩, ⟨⟨by simp, by simp, by simp, by simp, by simp⟩, by simp, by simp only; omega, by simp only [List.length_nil]; omega, by simp only; omega⟩, rfl, rfl, by simp only; omega, rfl, rfl, rfl⟩, fun x hx => bif_mk (fun hp => ?_) (fun hp => ?_)⟩
  · have hp := of_decide_eq_true hp
    have hn := hx.hn
    have ht := hx.ht
    have hl := hx.hl
    refine bif_mk (fun h0 => ⟨x.l, rfl, by omega, by omega, fun r l1 hr hl1 => ⟨a, l1, rfl, rfl, hc.1, by omega, fun qs l' hf hq hl' => ⟨by omega, ⟨x.ks ++ [⟨x.tick + (48 + r), 63, List.take qs.length (List.drop 0 qs)⟩], l', x.n, x.tick + (48 + r)⟩, ?_⟩⟩⟩) (fun h0 => ⟨a, x.l, rfl, rfl, hc.1, by omega, fun qs l' hf hq hl' => ⟨by omega, ⟨x.ks ++ [⟨x.tick, 63, List.take qs.length (List.drop 0 qs)⟩], l', x.n, x.tick⟩, ?_⟩⟩)
    · have h0 := of_decide_eq_true h0
      have e : List.take qs.length (List.drop 0 qs) = qs := by rw [List.drop_zero, List.take_length]
      simp only [e]
      rw [w64 (n := 48 + r) (by omega), w64 (n := x.tick + (48 + r)) (by omega)]
      refine ⟨⟨hx.add (by omega) (.inr ⟨by omega, by omega⟩) hf hq (by omega), by simp only [List.length_append, List.length_cons, List.length_nil]; omega⟩, by simp, by first | rfl | trivial, by first | rfl | trivial, by rw [w64 (by omega)]; simp, by first | rfl | trivial, .inl ?_⟩
      rw [show List.take qs.length (List.drop 0 (List.map (fun q => [Ch.r q 63]) qs)) = lR 63 qs by rw [List.drop_zero, List.take_of_length_le (by rw [List.length_map]; exact Nat.le_refl _)]; rfl]
      exact add x _ qs
    · have h0 := of_decide_eq_false h0
      have e : List.take qs.length (List.drop 0 qs) = qs := by rw [List.drop_zero, List.take_length]
      simp only [e]
      refine ⟨⟨hx.add (by omega) (.inl ⟨by omega, rfl⟩) hf hq (by omega), by simp only [List.length_append, List.length_cons, List.length_nil]; omega⟩, by simp, by first | rfl | trivial, by first | rfl | trivial, by rw [w64 (by omega)]; simp, by first | rfl | trivial, .inl ?_⟩
      rw [show List.take qs.length (List.drop 0 (List.map (fun q => [Ch.r q 63]) qs)) = lR 63 qs by rw [List.drop_zero, List.take_of_length_le (by rw [List.length_map]; exact Nat.le_refl _)]; rfl]
      exact add x _ qs
  · have hp := of_decide_eq_false hp
    have hn := hx.hn
    rw [List.drop_zero, List.take_of_length_le (by rw [List.length_map]; exact Nat.le_refl _)]
    exact hK x.ks hx.made (by omega) (by omega)
def c_mTrack : Ctr := fun as0 => match as0 with
  | [.x true xs, .x false [.s 1 ys]] => some fun K => ∃ a l, xs = armCh a ∧ ys = ints l ∧ ((GoodArm a) ∧ (l.length ≤ 9223372036854775807)) ∧ (∀ ks : List KeyV, MadeT a ks → 1 ≤ ks.length → ks.length ≤ 4 → K (trkA ks))
  | _ => none
theorem ok_mTrack : CtrOK Tryd.prog tabG debT 15 c_mTrack := by
  refine ⟨enters Tryd.func15 (by kernel_rfl), fun l T hT K hK => ?_⟩
  unfold c_mTrack at hT
  split at hT
  · cases hT
    obtain ⟨a, l, rfl, rfl, hc, hK⟩ := hK
    exact spec_ofL T54ok mixed Tryd.func15 (by kernel_rfl) (by kernel_rfl) (by rfl) (g_mTrack _ _ hc K hK)
  · cases hT
def L55 : List (Nat × Ctr) := (15, c_mTrack) :: L54
def T55 : Tabs := mkT L55 M48 X4
theorem L55ok : CtrsOK Tryd.prog tabG debT L55 := .cons ok_mTrack L54ok
theorem T55ok : TabsOK Tryd.prog tabG debT T55 := mkTok L55ok M48ok X4ok
def ot_kTracks : OT := fun id => bif id.beq 3 then ([0, 1, 2, 3, 4, 5, 6, 7, 8, 9, 10], [[], [0], [1, 0], [2, 1, 0], [3, 2, 1, 0], [4, 3, 2, 1, 0], [5, 4, 3, 2, 1, 0], [3, 2, 1, 0], [6, 5, 4, 3, 2, 1, 0, 7], [3, 2, 1, 0, 8, 6, 5, 4, 7], [9, 3, 2, 1, 0, 8, 6, 5, 4, 7]]) else ([], [])
def goal_kTracks  (K : AV → Prop) : Prop := goalL T55 ot_kTracks noL Tryd.f13 [] K
theorem goal_kTracks_vc (K : AV → Prop) : goal_kTracks K = (
 (((-9223372036854775808 : Int) < (0 : Int) ∧ (0 : Int) < (9223372036854775808 : Int)) ∧
 (0 : Int) < (1 : Int) ∧ (1 : Int) < (9223372036854775808 : Int)) ∧
 (((-9223372036854775808 : Int) < (1 : Int) ∧ (1 : Int) < (9223372036854775808 : Int)) ∧
 (0 : Int) < (1 : Int) ∧ (1 : Int) < (9223372036854775808 : Int)) ∧
 ∃ (ks : List KeyV),
 ∃ (m : Nat),
 ∃ (N : Nat),
 [[Ch.v (Value.int IntKind.i64 (10 : Int)), Ch.s (3 : Nat) [[Ch.r (mkRat (0 : Int) (1 : Nat)) (63 : Nat)]]],
 [Ch.v (Value.int IntKind.i64 (20 : Int)), Ch.s (3 : Nat) [[Ch.r (mkRat (1 : Int) (1 : Nat)) (63 : Nat)]]]] =
 List.map keyCh ks ∧
 (KeysOK ks m N ∧
 (N ≤ (10000 : Nat) ∧ m ≤ (100000 : Nat) ∧ (1 : Nat) ≤ List.length ks ∧ List.length ks ≤ (100000 : Nat)) ∧
 (-4611686018427387904 : Int) ≤ (15 : Int) ∧ (15 : Int) < (4611686018427387904 : Int)) ∧
 bif Int.ofNat (List.length (lR (Prod.snd (atR ks (15 : Int))) (Prod.fst (atR ks (15 : Int))))) == (1 : Int) then
 ((0 : Int) ≤ (0 : Int) ∧
 (0 : Int) < Int.ofNat (List.length (lR (Prod.snd (atR ks (15 : Int))) (Prod.fst (atR ks (15 : Int)))))) ∧
 ∃ (q : Rat),
 ∃ (n : Nat),
 ldE (lR (Prod.snd (atR ks (15 : Int))) (Prod.fst (atR ks (15 : Int)))) (0 : Nat) (0 : Nat) (3 : Nat) =
 some [Ch.r q n] ∧
 (((-9223372036854775808 : Int) < (1 : Int) ∧ (1 : Int) < (9223372036854775808 : Int)) ∧
 (0 : Int) < (2 : Int) ∧ (2 : Int) < (9223372036854775808 : Int)) ∧
 K (AV.x false [Ch.v (Value.bool (decide (q = mkRat (1 : Int) (Int.toNat (2 : Int))) && true))])
 else K (AV.x false [Ch.v (Value.bool false)])) := by kernel_rfl
theorem g_kTracks  (hc : True) (K : AV → Prop) (hK : K (.x false [.v (.bool true)])) : Holds (goal_kTracks  K) := by
  refine ⟨?_⟩
  rw [goal_kTracks_vc]
  try simp only [Int.ofNat_eq_natCast, true_and, and_true, Nat.zero_add, Nat.le_refl, true_implies, true_or, or_true]
  have e : (atR [⟨10, 63, [mkRat 0 1]⟩, ⟨20, 63, [mkRat 1 1]⟩] 15).1 = [mkRat 1 2] := by decide +kernel
  refine ⟨by omega, by omega, [⟨10, 63, [mkRat 0 1]⟩, ⟨20, 63, [mkRat 1 1]⟩], 1, 63, rfl, ⟨⟨?_, ?_, ?_, ?_⟩, by simp, by omega, by omega⟩, ?_⟩
  · intro k hk; simp at hk; rcases hk with rfl | rfl <;> rfl
  · intro k hk; simp at hk; rcases hk with rfl | rfl <;> simp
  · intro k hk; simp at hk; rcases hk with rfl | rfl <;> simp
  · intro i x y hx hy
    match i, hx, hy with
    | 0, hx, hy => cases hx; cases hy; simp
    | i + 1, hx, hy => cases hy
  · rw [e]
    refine bif_mk (fun _ => ⟨by rw [lR_len]; simp, _, _, rfl, by omega, ?_⟩) (fun h => ?_)
    · simpa using hK
    · rw [lR_len] at h; simp at h
def c_kTracks : Ctr := fun as0 => match as0 with
  | [] => some fun K => (True) ∧ (K (.x false [.v (.bool true)]))
  | _ => none
theorem ok_kTracks : CtrOK Tryd.prog tabG debT 13 c_kTracks := by
  refine ⟨enters Tryd.func13 (by kernel_rfl), fun l T hT K hK => ?_⟩
  unfold c_kTracks at hT
  split at hT
  · cases hT
    obtain ⟨hc, hK⟩ := hK
    exact spec_ofL T55ok mixed Tryd.func13 (by kernel_rfl) (by kernel_rfl) (by rfl) (g_kTracks  hc K hK)
  · cases hT
def L56 : List (Nat × Ctr) := (13, c_kTracks) :: L55
def T56 : Tabs := mkT L56 M48 X4
theorem L56ok : CtrsOK Tryd.prog tabG debT L56 := .cons ok_kTracks L55ok
theorem T56ok : TabsOK Tryd.prog tabG debT T56 := mkTok L56ok M48ok X4ok
-- the newest table: L56 M48 X4 T56
end Go.Proofs
