/- track: clone, Delay; keys compared. -/
import Derived.Test.YtmbpebgpiacppaaDoorK1
import Derived.Test.YtmbpebgpiacppaaDoorKLim
/- track: clone, Delay; keys compared. -/
namespace Go.Proofs
open Go Go.Eng
def L57 : List (Nat × Ctr) := (18, c_equalR) :: L56
def T57 : Tabs := mkT L57 M48 X4
theorem L57ok : CtrsOK Tryd.prog tabG debT L57 := .cons ok_equalR L56ok
theorem T57ok : TabsOK Tryd.prog tabG debT T57 := mkTok L57ok M48ok X4ok
def shK (d : Int) (k : KeyV) : KeyV := ⟨k.tick + d, k.n + 65, k.q⟩
/-- The first i ticks moved. -/
def shI (d : Int) (i : Nat) (ks : List KeyV) : List KeyV := (ks.take i).map (shK d) ++ (ks.drop i).map (shK 0)
def inv_clone (ks : List KeyV) : LI := fun _ => .inv ⟨Nat, fun k => ⟨[(3, .x false [.w 500 0 k]), (6, trkA ks), (7, iA .i64 ks.length), (8, iA .i64 k)], [(500, rowK ((ks.map (shK 0)).take k))]⟩, fun k => k ≤ ks.length, fun k => ks.length - k, fun _ => 0⟩
def ot_clone : OT := fun id => bif id.beq 5 then ([0, 1, 2, 3, 4, 5, 6, 7, 8, 9], [[], [], [1], [], [3], [4, 3], [2, 1, 5, 4, 3], [6, 2, 1, 5, 4, 3], [0, 7, 6, 2, 1, 5, 4, 3], [8, 0, 7, 6, 2, 1, 5, 4, 3]]) else ([], [])
def goal_clone (ks : List KeyV) : Prop := goalM (X := Unit) T57 ot_clone (inv_clone ks) Tryd.f84 [trkA ks] [] (fun _ => True) (fun _ => ⟨[(2, .x false [.w 0 0 ks.length])], [(0, rowK (ks.map (shK 0)))]⟩)
theorem goal_clone_vc (ks : List KeyV) : goal_clone ks = (
 (∃ (x : Nat),
 (x ≤ List.length ks ∧ OfNat.ofNat (0 : Nat) = (0 : Nat)) ∧
 Value.slice none (0 : Nat) (0 : Nat) = Value.slice none (0 : Nat) (0 : Nat) ∧
 (0 : Nat) = (0 : Nat) ∧
 x = (0 : Nat) ∧
 (2 : Nat) = (2 : Nat) ∧
 List.map keyCh ks = List.map keyCh ks ∧
 Int.ofNat (List.length (List.map keyCh ks)) = Int.ofNat (List.length ks) ∧
 (0 : Int) = Int.ofNat x ∧ List.map keyCh (List.take x (List.map (shK (0 : Int)) ks)) = [] ∧ True) ∧
 ∀ (x : Nat),
 x ≤ List.length ks →
 OfNat.ofNat (0 : Nat) = (0 : Nat) →
 bif decide (Int.ofNat x < Int.ofNat (List.length ks)) then
 ((0 : Int) ≤ Int.ofNat x ∧ Int.ofNat x < Int.ofNat (List.length (List.map keyCh ks))) ∧
 ∃ (d : Int),
 ∃ (ys : List (List Ch)),
 ldE (List.map keyCh ks) (Int.toNat (Int.ofNat x)) (0 : Nat) (2 : Nat) =
 some [Ch.v (Value.int IntKind.i64 d), Ch.s (3 : Nat) ys] ∧
 ∃ (n : Nat),
 ∃ (qs : List Rat),
 ys = lR n qs ∧
 (n ≤ (1000000 : Nat) ∧ List.length qs ≤ (1000000 : Nat)) ∧
 ((x + (1 : Nat)) * (32 : Nat) ≤ (140737488355328 : Nat) ∧ x + (1 : Nat) ≤ (9223372036854775807 : Nat)) ∧
 ∃ (x' : Nat),
 (x' ≤ List.length ks ∧ OfNat.ofNat (0 : Nat) = (0 : Nat) ∧ List.length ks - x' < List.length ks - x) ∧
 (0 : Nat) = (0 : Nat) ∧
 x + (1 : Nat) = x' ∧
 (2 : Nat) = (2 : Nat) ∧
 List.map keyCh ks = List.map keyCh ks ∧
 Int.ofNat (List.length ks) = Int.ofNat (List.length ks) ∧
 IntKind.wrap IntKind.i64 (Int.ofNat x + (1 : Int)) = Int.ofNat x' ∧
 (47 : Nat) = (47 : Nat) ∧
 (2 : Nat) = (2 : Nat) ∧
 (List.take x (List.map keyCh (List.take x (List.map (shK (0 : Int)) ks))) ++
 [[Ch.v (Value.int IntKind.i64 d), Ch.s (3 : Nat) (lR (n + (65 : Nat)) qs)]] =
 List.map keyCh (List.take x' (List.map (shK (0 : Int)) ks)) ∨
 RowLE
 (List.take x (List.map keyCh (List.take x (List.map (shK (0 : Int)) ks))) ++
 [[Ch.v (Value.int IntKind.i64 d), Ch.s (3 : Nat) (lR (n + (65 : Nat)) qs)]])
 (List.map keyCh (List.take x' (List.map (shK (0 : Int)) ks)))) ∧
 True
 else
 ∃ (x_1 : Unit),
 True ∧
 (0 : Nat) = (0 : Nat) ∧
 x = List.length ks ∧
 (47 : Nat) = (47 : Nat) ∧
 (2 : Nat) = (2 : Nat) ∧
 (List.map keyCh (List.take x (List.map (shK (0 : Int)) ks)) = List.map keyCh (List.map (shK (0 : Int)) ks) ∨
 RowLE (List.map keyCh (List.take x (List.map (shK (0 : Int)) ks)))
 (List.map keyCh (List.map (shK (0 : Int)) ks))) ∧
 True) := by kernel_rfl
theorem shI_zero (d : Int) (ks : List KeyV) : shI d 0 ks = ks.map (shK 0) := by unfold shI; simp
theorem shI_len (d : Int) (i : Nat) (ks : List KeyV) : (shI d i ks).length = ks.length := by
  unfold shI; simp only [List.length_append, List.length_map, List.length_take, List.length_drop]; omega
theorem shI_get {d : Int} {i : Nat} {ks : List KeyV} {k : KeyV} (h : ks[i]? = some k) : (shI d i ks)[i]? = some (shK 0 k) := by
  have hi := (List.getElem?_eq_some_iff.1 h).1
  unfold shI
  rw [List.getElem?_append_right (by simp; omega)]
  simp only [List.length_map, List.length_take, List.getElem?_map, List.getElem?_drop]
  rw [show i + (i - min i ks.length) = i by omega, h]; rfl
theorem shI_set {d : Int} {i : Nat} {ks : List KeyV} {k : KeyV} (h : ks[i]? = some k) : (shI d i ks).set i (shK d k) = shI d (i + 1) ks := by
  have hi := (List.getElem?_eq_some_iff.1 h).1
  have e : ks.drop i = k :: ks.drop (i + 1) := by
    rw [List.drop_eq_getElem_cons hi]
    rw [List.getElem?_eq_getElem hi] at h
    rw [Option.some.inj h]
  unfold shI
  rw [List.set_append_right _ _ (by simp; omega), e, List.take_add_one, h]
  simp only [List.length_map, List.length_take, List.map_cons]
  rw [show i - min i ks.length = 0 by omega]
  simp
theorem g_clone (ks : List KeyV) (h : ∀ k ∈ ks, k.n ≤ 100000 ∧ k.q.length ≤ 100000) (hl : ks.length ≤ 100000) : Holds (goal_clone ks) := by
  refine ⟨?_⟩
  rw [goal_clone_vc]
  simp only [Int.ofNat_eq_natCast, true_and, and_true, Nat.zero_add, Nat.le_refl, true_implies, true_or, or_true]
  refine ⟨⟨0, by omega, rfl, by simp, rfl, by simp⟩, fun x hx => bif_mk (fun hp => ?_) (fun hp => ?_)⟩
  · have hp : x < ks.length := by have := of_decide_eq_true hp; omega
    obtain ⟨k, hk⟩ : ∃ k, ks[x]? = some k := ⟨_, List.getElem?_eq_getElem hp⟩
    obtain ⟨h1, h2⟩ := h k (List.mem_of_getElem? hk)
    refine ⟨by rw [List.length_map]; omega, _, _, key_ld (by simpa using hk), k.n, k.q, rfl, ⟨by omega, by omega⟩, by omega, x + 1, ⟨by omega, by omega⟩, rfl, by rw [w64 (by omega)]; simp, .inl ?_⟩
    rw [List.take_of_length_le (by rw [List.length_map, List.length_take, List.length_map]; omega), List.take_add_one, List.getElem?_map, hk, List.map_append]
    simp [keyCh, shK]
  · have hp : x = ks.length := by have := of_decide_eq_false hp; omega
    subst hp
    exact ⟨(), rfl, .inl (by rw [List.take_of_length_le (by rw [List.length_map]; exact Nat.le_refl _)])⟩
def c_clone : CtrM := fun as0 H d => match as0 with
  | [.x false [.s 2 xs]] => match H d with
    | none => some fun K => ∃ ks : List KeyV, xs = ks.map keyCh ∧ (∀ k ∈ ks, k.n ≤ 100000 ∧ k.q.length ≤ 100000) ∧ ks.length ≤ 100000 ∧ K (.x false [.w d 0 ks.length]) (backH [(0, d)] (lookH [(0, rowK (ks.map (shK 0)))]) H)
    | some _ => none
  | _ => none
theorem ok_clone : CtrMOK Tryd.prog tabG debT 84 c_clone := by
  refine ⟨enters Tryd.func84 (by kernel_rfl), fun l H d T hT K hK => ?_⟩
  unfold c_clone at hT
  split at hT
  · split at hT
    · rename_i hd
      cases hT
      obtain ⟨ks, rfl, h0, hl, hK⟩ := hK
      exact specM_new T57ok mixed Tryd.func84 (by kernel_rfl) (by kernel_rfl) (by rfl) (by rfl) hd (by kernel_rfl) (g_clone ks h0 hl) hK
    · cases hT
  · cases hT
def M58 : List (Nat × CtrM) := (84, c_clone) :: M48
def T58 : Tabs := mkT L57 M58 X4
theorem M58ok : CtrMsOK Tryd.prog tabG debT M58 := .cons ok_clone M48ok
theorem T58ok : TabsOK Tryd.prog tabG debT T58 := mkTok L57ok M58ok X4ok
def ot_tDelay : OT := fun _ => ([], [])
def goal_tDelay (a : ArmV) (ks : List KeyV) (d : Int) (K : AV → Prop) : Prop := goalL T58 ot_tDelay (fun _ => .inv ⟨Nat, fun i => ⟨[(2, iA .i64 d), (9, .x false [.w 500 0 ks.length]), (45, iA .i64 ks.length), (46, iA .i64 i)], [(500, rowK (shI d i ks))]⟩, fun i => i ≤ ks.length, fun i => ks.length - i, fun _ => 0⟩) Tryd.f51 [armA a, trkA ks, iA .i64 d] K
theorem goal_tDelay_vc (a : ArmV) (ks : List KeyV) (d : Int) (K : AV → Prop) : goal_tDelay a ks d K = (
 ∃ (a_1 : ArmV),
 ∃ (ks_1 : List KeyV),
 [Ch.v (Value.string (ArmV.name a)), Ch.r (ArmV.x a) (63 : Nat), Ch.r (ArmV.y a) (63 : Nat), Ch.v (Value.bool (ArmV.half a)),
 Ch.r (ArmV.t a) (63 : Nat), Ch.s (16 : Nat) (List.map linkCh (ArmV.links a))] =
 [Ch.v (Value.string (ArmV.name a_1)), Ch.r (ArmV.x a_1) (63 : Nat), Ch.r (ArmV.y a_1) (63 : Nat), Ch.v (Value.bool (ArmV.half a_1)),
 Ch.r (ArmV.t a_1) (63 : Nat), Ch.s (16 : Nat) (List.map linkCh (ArmV.links a_1))] ∧
 List.map keyCh ks = List.map keyCh ks_1 ∧
 TrackOK a_1 ks_1 ∧
 bif decide (d < (-2000 : Int)) then
 K (AV.t [(false, [Ch.v (Value.slice none (0 : Nat) (0 : Nat))]), (false, [Ch.v (Value.int IntKind.i64 (1 : Int))])])
 else
 bif decide (d > (2000 : Int)) then
 K (AV.t [(false, [Ch.v (Value.slice none (0 : Nat) (0 : Nat))]), (false, [Ch.v (Value.int IntKind.i64 (1 : Int))])])
 else
 ((0 : Int) ≤ (0 : Int) ∧ (0 : Int) < Int.ofNat (List.length (List.map keyCh ks))) ∧
 ∃ (d_1 : Int),
 ldE (List.map keyCh ks) (0 : Nat) (0 : Nat) (1 : Nat) = some [Ch.v (Value.int IntKind.i64 d_1)] ∧
 bif decide (IntKind.wrap IntKind.i64 (d_1 + d) < (0 : Int)) then
 K (AV.t [(false, [Ch.v (Value.slice none (0 : Nat) (0 : Nat))]), (false, [Ch.v (Value.int IntKind.i64 (1 : Int))])])
 else
 ((0 : Int) ≤ IntKind.wrap IntKind.i64 (Int.ofNat (List.length (List.map keyCh ks)) - (1 : Int)) ∧
 IntKind.wrap IntKind.i64 (Int.ofNat (List.length (List.map keyCh ks)) - (1 : Int)) <
 Int.ofNat (List.length (List.map keyCh ks))) ∧
 ∃ (d_2 : Int),
 ldE (List.map keyCh ks)
 (Int.toNat (IntKind.wrap IntKind.i64 (Int.ofNat (List.length (List.map keyCh ks)) - (1 : Int)))) (0 : Nat)
 (1 : Nat) =
 some [Ch.v (Value.int IntKind.i64 d_2)] ∧
 bif decide (IntKind.wrap IntKind.i64 (d_2 + d) > (2000 : Int)) then
 K
 (AV.t
 [(false, [Ch.v (Value.slice none (0 : Nat) (0 : Nat))]),
 (false, [Ch.v (Value.int IntKind.i64 (19 : Int))])])
 else
 ∃ (ks_2 : List KeyV),
 List.map keyCh ks = List.map keyCh ks_2 ∧
 (∀ (k : KeyV), k ∈ ks_2 → KeyV.n k ≤ (100000 : Nat) ∧ List.length (KeyV.q k) ≤ (100000 : Nat)) ∧
 List.length ks_2 ≤ (100000 : Nat) ∧
 (∃ (x : Nat),
 (x ≤ List.length ks ∧ OfNat.ofNat (0 : Nat) = (0 : Nat)) ∧
 d = d ∧
 (0 : Nat) = (0 : Nat) ∧
 List.length ks_2 = List.length ks ∧
 Int.ofNat (List.length ks_2) = Int.ofNat (List.length ks) ∧
 (0 : Int) = Int.ofNat x ∧
 (47 : Nat) = (47 : Nat) ∧
 (2 : Nat) = (2 : Nat) ∧
 (List.map keyCh (List.map (shK (0 : Int)) ks_2) = List.map keyCh (shI d x ks) ∨
 RowLE (List.map keyCh (List.map (shK (0 : Int)) ks_2))
 (List.map keyCh (shI d x ks))) ∧
 True) ∧
 ∀ (x : Nat),
 x ≤ List.length ks →
 OfNat.ofNat (0 : Nat) = (0 : Nat) →
 bif decide (Int.ofNat x < Int.ofNat (List.length ks)) then
 ((0 : Int) ≤ Int.ofNat x ∧ Int.ofNat x < Int.ofNat (List.length ks)) ∧
 ∃ (d_3 : Int),
 ldE (List.map keyCh (shI d x ks)) ((0 : Nat) + Int.toNat (Int.ofNat x)) (0 : Nat)
 (1 : Nat) =
 some [Ch.v (Value.int IntKind.i64 d_3)] ∧
 ((0 : Int) ≤ Int.ofNat x ∧ Int.ofNat x < Int.ofNat (List.length ks)) ∧
 ∃ (el' : List Ch),
 stE (List.map keyCh (shI d x ks)) ((0 : Nat) + Int.toNat (Int.ofNat x)) (0 : Nat)
 [Ch.v (Value.int IntKind.i64 (IntKind.wrap IntKind.i64 (d_3 + d)))] =
 some el' ∧
 ∃ (x' : Nat),
 (x' ≤ List.length ks ∧
 OfNat.ofNat (0 : Nat) = (0 : Nat) ∧
 List.length ks - x' < List.length ks - x) ∧
 d = d ∧
 (0 : Nat) = (0 : Nat) ∧
 List.length ks = List.length ks ∧
 Int.ofNat (List.length ks) = Int.ofNat (List.length ks) ∧
 IntKind.wrap IntKind.i64 (Int.ofNat x + (1 : Int)) = Int.ofNat x' ∧
 (47 : Nat) = (47 : Nat) ∧
 (2 : Nat) = (2 : Nat) ∧
 (List.set (List.map keyCh (shI d x ks))
 ((0 : Nat) + Int.toNat (Int.ofNat x)) el' =
 List.map keyCh (shI d x' ks) ∨
 RowLE
 (List.set (List.map keyCh (shI d x ks))
 ((0 : Nat) + Int.toNat (Int.ofNat x)) el')
 (List.map keyCh (shI d x' ks))) ∧
 True
 else
 K
 (AV.t
 [(false,
 [Ch.s (2 : Nat)
 (List.take (List.length ks)
 (List.drop (0 : Nat) (List.map keyCh (shI d x ks))))]),
 (false, [Ch.v (Value.int IntKind.i64 (0 : Int))])])) := by kernel_rfl
theorem g_tDelay (a : ArmV) (ks : List KeyV) (d : Int) (hc : (TrackOK a ks) ∧ (-2000 ≤ d ∧ d ≤ 2000) ∧ ((∀ k ∈ ks, 0 ≤ k.tick + d ∧ k.tick + d ≤ 2000))) (K : AV → Prop) (hK : K (.t [(false, [.s 2 ((ks.map (shK d)).map keyCh)]), (false, [.v (.int .i64 0)])])) : Holds (goal_tDelay a ks d K) := by
  refine ⟨?_⟩
  rw [goal_tDelay_vc]
  try simp only [Int.ofNat_eq_natCast, true_and, and_true, Nat.zero_add, Nat.le_refl, true_implies, true_or, or_true]
  obtain ⟨ok, hd, ht⟩ := hc
  obtain ⟨N, hN, hk⟩ := ok.keys
  have h1 := ok.ne
  have hal := ok.arm.n
  obtain ⟨z, hz⟩ : ∃ z, ks[0]? = some z := ⟨_, List.getElem?_eq_getElem (by omega)⟩
  obtain ⟨w, hw⟩ : ∃ w, ks[ks.length - 1]? = some w := ⟨_, List.getElem?_eq_getElem (by omega)⟩
  have tz := hk.tick z (List.mem_of_getElem? hz)
  have tw := hk.tick w (List.mem_of_getElem? hw)
  have dz := ht z (List.mem_of_getElem? hz)
  have dw := ht w (List.mem_of_getElem? hw)
  have e1 : IntKind.i64.wrap ((ks.length : Int) - 1) = ((ks.length - 1 : Nat) : Int) := by rw [w64 (by omega)]; omega
  have e2 : IntKind.i64.wrap (z.tick + d) = z.tick + d := w64 (by omega)
  have e3 : IntKind.i64.wrap (w.tick + d) = w.tick + d := w64 (by omega)
  simp only [List.length_map, e1, Int.toNat_natCast]
  refine ⟨a, ks, rfl, rfl, ok, bif_mk (fun h => by have := of_decide_eq_true h; omega) (fun _ => bif_mk (fun h => by have := of_decide_eq_true h; omega) (fun _ => ⟨by omega, _, key_ld0 hz, bif_mk (fun h => by have := of_decide_eq_true h; omega) (fun _ => ⟨by omega, _, key_ld0 hw, bif_mk (fun h => by have := of_decide_eq_true h; omega) (fun _ => ⟨ks, rfl, fun k hk' => ⟨by have := hk.n k hk'; omega, by have := hk.len k hk'; omega⟩, by omega, ⟨0, by omega, rfl, rfl, rfl, .inl (by rw [shI_zero])⟩, fun x hx => bif_mk (fun hp => ?_) (fun hp => ?_)⟩)⟩)⟩))⟩
  · have hp : x < ks.length := by have := of_decide_eq_true hp; omega
    obtain ⟨k, hkk⟩ : ∃ k, ks[x]? = some k := ⟨_, List.getElem?_eq_getElem hp⟩
    have tk := hk.tick k (List.mem_of_getElem? hkk)
    have hg := shI_get (d := d) hkk
    refine ⟨by omega, _, key_ld0 hg, by omega, keyCh (shK d k), ?_, x + 1, ⟨by omega, by omega⟩, by rw [w64 (by omega)]; simp, .inl ?_⟩
    · have e : IntKind.i64.wrap ((shK 0 k).tick + d) = (shK d k).tick := by
        simp only [shK, Int.add_zero]
        exact w64 (by omega)
      rw [e]
      simp only [stE, List.getElem?_map, hg, Option.map_some]
      rfl
    · rw [← shI_set hkk, List.map_set]
  · have hp : x = ks.length := by have := of_decide_eq_false hp; omega
    subst hp
    have e : shI d ks.length ks = ks.map (shK d) := by unfold shI; simp
    rw [e, List.drop_zero, List.take_of_length_le (by simp)]
    exact hK
def c_tDelay : Ctr := fun as0 => match as0 with
  | [.x true xs, .x false [.s 2 ys], .x false [.v (.int .i64 d)]] => some fun K => ∃ (a : ArmV) (ks : List KeyV), xs = armCh a ∧ ys = ks.map keyCh ∧ ((TrackOK a ks) ∧ (-2000 ≤ d ∧ d ≤ 2000) ∧ ((∀ k ∈ ks, 0 ≤ k.tick + d ∧ k.tick + d ≤ 2000))) ∧ (K (.t [(false, [.s 2 ((ks.map (shK d)).map keyCh)]), (false, [.v (.int .i64 0)])]))
  | _ => none
theorem ok_tDelay : CtrOK Tryd.prog tabG debT 51 c_tDelay := by
  refine ⟨enters Tryd.func51 (by kernel_rfl), fun l T hT K hK => ?_⟩
  unfold c_tDelay at hT
  split at hT
  · cases hT
    obtain ⟨a, ks, rfl, rfl, hc, hK⟩ := hK
    exact spec_ofL T58ok mixed Tryd.func51 (by kernel_rfl) (by kernel_rfl) (by rfl) (g_tDelay _ _ _ hc K hK)
  · cases hT
def L59 : List (Nat × Ctr) := (51, c_tDelay) :: L57
def T59 : Tabs := mkT L59 M58 X4
theorem L59ok : CtrsOK Tryd.prog tabG debT L59 := .cons ok_tDelay L57ok
theorem T59ok : TabsOK Tryd.prog tabG debT T59 := mkTok L59ok M58ok X4ok
def tq (k : KeyV) : Int × List Rat := (k.tick, k.q)
def ot_kDel1 : OT := fun _ => ([], [])
def goal_kDel1 (x : KeyV) (y : KeyV) (K : AV → Prop) : Prop := goalL T59 ot_kDel1 noL Tryd.f53 [.x true (keyCh x), .x true (keyCh y)] K
theorem goal_kDel1_vc (x : KeyV) (y : KeyV) (K : AV → Prop) : goal_kDel1 x y K = (
 bif KeyV.tick x == KeyV.tick y then
 ∃ (a : Nat),
 ∃ (ps : List Rat),
 ∃ (b : Nat),
 ∃ (qs : List Rat),
 lR (KeyV.n x) (KeyV.q x) = lR a ps ∧
 lR (KeyV.n y) (KeyV.q y) = lR b qs ∧
 (List.length ps ≤ (1000000000 : Nat) ∧ List.length qs ≤ (1000000000 : Nat)) ∧
 K (AV.x false [Ch.v (Value.bool (decide (ps = qs)))])
 else K (AV.x false [Ch.v (Value.bool false)])) := by kernel_rfl
theorem g_kDel1 (x : KeyV) (y : KeyV) (hc : (x.q.length ≤ 1000000 ∧ y.q.length ≤ 1000000) ∧ (tq x = tq y)) (K : AV → Prop) (hK : K (.x false [.v (.bool true)])) : Holds (goal_kDel1 x y K) := by
  refine ⟨?_⟩
  rw [goal_kDel1_vc]
  try simp only [Int.ofNat_eq_natCast, true_and, and_true, Nat.zero_add, Nat.le_refl, true_implies, true_or, or_true]
  obtain ⟨⟨h1, h2⟩, h3⟩ := hc
  have e1 : x.tick = y.tick := congrArg (·.1) h3
  have e2 : x.q = y.q := congrArg (·.2) h3
  refine bif_mk (fun _ => ⟨x.n, x.q, y.n, y.q, rfl, rfl, ⟨by omega, by omega⟩, ?_⟩) (fun h => ?_)
  · rw [decide_eq_true e2]; exact hK
  · simp [e1] at h
def c_kDel1 : Ctr := fun as0 => match as0 with
  | [.x true xs, .x true ys] => some fun K => ∃ (x : KeyV) (y : KeyV), xs = keyCh x ∧ ys = keyCh y ∧ ((x.q.length ≤ 1000000 ∧ y.q.length ≤ 1000000) ∧ (tq x = tq y)) ∧ (K (.x false [.v (.bool true)]))
  | _ => none
theorem ok_kDel1 : CtrOK Tryd.prog tabG debT 53 c_kDel1 := by
  refine ⟨enters Tryd.func53 (by kernel_rfl), fun l T hT K hK => ?_⟩
  unfold c_kDel1 at hT
  split at hT
  · cases hT
    obtain ⟨x, y, rfl, rfl, hc, hK⟩ := hK
    exact spec_ofL T59ok mixed Tryd.func53 (by kernel_rfl) (by kernel_rfl) (by rfl) (g_kDel1 _ _ hc K hK)
  · cases hT
def L60 : List (Nat × Ctr) := (53, c_kDel1) :: L59
def T60 : Tabs := mkT L60 M58 X4
theorem L60ok : CtrsOK Tryd.prog tabG debT L60 := .cons ok_kDel1 L59ok
theorem T60ok : TabsOK Tryd.prog tabG debT T60 := mkTok L60ok M58ok X4ok
def ot_eqfK : OT := fun _ => ([], [])
def goal_eqfK (ks : List KeyV) (zs : List KeyV) (K : AV → Prop) : Prop := goalL T60 ot_eqfK (fun _ => .inv ⟨Nat, fun i => ⟨[(1, trkA zs), (2, .x false [.v (.func (.func 53) #[] #[])]), (15, trkA ks), (16, iA .i64 ks.length), (17, iA .i64 i)], []⟩, fun i => i ≤ ks.length, fun i => ks.length - i, fun _ => 0⟩) Tryd.f52 [trkA ks, trkA zs, .x false [.v (.func (.func 53) #[] #[])]] K
theorem goal_eqfK_vc (ks : List KeyV) (zs : List KeyV) (K : AV → Prop) : goal_eqfK ks zs K = (
 bif Int.ofNat (List.length (List.map keyCh ks)) != Int.ofNat (List.length (List.map keyCh zs)) then K (AV.x false [Ch.v (Value.bool false)])
 else
 (∃ (x : Nat),
 (x ≤ List.length ks ∧ OfNat.ofNat (0 : Nat) = (0 : Nat)) ∧
 (2 : Nat) = (2 : Nat) ∧
 List.map keyCh zs = List.map keyCh zs ∧
 Value.func (Fn.func (53 : Nat)) (Array.mk []) (Array.mk []) = Value.func (Fn.func (53 : Nat)) (Array.mk []) (Array.mk []) ∧
 (2 : Nat) = (2 : Nat) ∧
 List.map keyCh ks = List.map keyCh ks ∧
 Int.ofNat (List.length (List.map keyCh ks)) = Int.ofNat (List.length ks) ∧ (0 : Int) = Int.ofNat x ∧ True) ∧
 ∀ (x : Nat),
 x ≤ List.length ks →
 OfNat.ofNat (0 : Nat) = (0 : Nat) →
 bif decide (Int.ofNat x < Int.ofNat (List.length ks)) then
 ((0 : Int) ≤ Int.ofNat x ∧ Int.ofNat x < Int.ofNat (List.length (List.map keyCh ks))) ∧
 ∃ (d : Int),
 ∃ (ys : List (List Ch)),
 ldE (List.map keyCh ks) (Int.toNat (Int.ofNat x)) (0 : Nat) (2 : Nat) =
 some [Ch.v (Value.int IntKind.i64 d), Ch.s (3 : Nat) ys] ∧
 ((0 : Int) ≤ Int.ofNat x ∧ Int.ofNat x < Int.ofNat (List.length (List.map keyCh zs))) ∧
 ∃ (d_1 : Int),
 ∃ (ys_1 : List (List Ch)),
 ldE (List.map keyCh zs) (Int.toNat (Int.ofNat x)) (0 : Nat) (2 : Nat) =
 some [Ch.v (Value.int IntKind.i64 d_1), Ch.s (3 : Nat) ys_1] ∧
 ∃ (x_1 : KeyV),
 ∃ (y : KeyV),
 [Ch.v (Value.int IntKind.i64 d), Ch.s (3 : Nat) ys] =
 [Ch.v (Value.int IntKind.i64 (KeyV.tick x_1)), Ch.s (3 : Nat) (lR (KeyV.n x_1) (KeyV.q x_1))] ∧
 [Ch.v (Value.int IntKind.i64 d_1), Ch.s (3 : Nat) ys_1] =
 [Ch.v (Value.int IntKind.i64 (KeyV.tick y)), Ch.s (3 : Nat) (lR (KeyV.n y) (KeyV.q y))] ∧
 ((List.length (KeyV.q x_1) ≤ (1000000 : Nat) ∧ List.length (KeyV.q y) ≤ (1000000 : Nat)) ∧
 (KeyV.tick x_1, KeyV.q x_1) = (KeyV.tick y, KeyV.q y)) ∧
 ∃ (x' : Nat),
 (x' ≤ List.length ks ∧
 OfNat.ofNat (0 : Nat) = (0 : Nat) ∧ List.length ks - x' < List.length ks - x) ∧
 (2 : Nat) = (2 : Nat) ∧
 List.map keyCh zs = List.map keyCh zs ∧
 Value.func (Fn.func (53 : Nat)) (Array.mk []) (Array.mk []) =
 Value.func (Fn.func (53 : Nat)) (Array.mk []) (Array.mk []) ∧
 (2 : Nat) = (2 : Nat) ∧
 List.map keyCh ks = List.map keyCh ks ∧
 Int.ofNat (List.length ks) = Int.ofNat (List.length ks) ∧
 IntKind.wrap IntKind.i64 (Int.ofNat x + (1 : Int)) = Int.ofNat x' ∧ True
 else K (AV.x false [Ch.v (Value.bool true)])) := by kernel_rfl
theorem g_eqfK (ks : List KeyV) (zs : List KeyV) (hc : (ks.map tq = zs.map tq) ∧ (ks.length ≤ 100000 ∧ ∀ k ∈ ks, k.q.length ≤ 1000000)) (K : AV → Prop) (hK : K (.x false [.v (.bool true)])) : Holds (goal_eqfK ks zs K) := by
  refine ⟨?_⟩
  rw [goal_eqfK_vc]
  try simp only [Int.ofNat_eq_natCast, true_and, and_true, Nat.zero_add, Nat.le_refl, true_implies, true_or, or_true]
  obtain ⟨h1, h2, h3⟩ := hc
  have hl : ks.length = zs.length := by have := congrArg List.length h1; simpa using this
  simp only [List.length_map]
  refine bif_mk (fun h => by simp [hl] at h) (fun _ => ⟨⟨0, by omega, trivial, rfl⟩, fun x hx => bif_mk (fun hp => ?_) (fun _ => hK)⟩)
  have hp : x < ks.length := by have := of_decide_eq_true hp; omega
  obtain ⟨k, hk⟩ : ∃ k, ks[x]? = some k := ⟨_, List.getElem?_eq_getElem hp⟩
  obtain ⟨z, hz⟩ : ∃ z, zs[x]? = some z := ⟨_, List.getElem?_eq_getElem (by omega)⟩
  have e := congrArg (·[x]?) h1
  simp only [List.getElem?_map, hk, hz, Option.map_some] at e
  have e : tq k = tq z := Option.some.inj e
  have e2 : k.q = z.q := congrArg (·.2) e
  have h4 := h3 k (List.mem_of_getElem? hk)
  exact ⟨by omega, _, _, key_ld (by simpa using hk), by omega, _, _, key_ld (by simpa using hz), k, z, rfl, rfl, ⟨⟨h4, by rw [← e2]; exact h4⟩, e⟩, x + 1, ⟨by omega, by omega⟩, by rw [w64 (by omega)]; simp⟩
def c_eqfK : Ctr := fun as0 => match as0 with
  | [.x false [.s 2 xs], .x false [.s 2 ys], .x false [.v (.func (.func fid) ⟨[]⟩ ⟨[]⟩)]] => some fun K => ∃ (ks : List KeyV) (zs : List KeyV), xs = ks.map keyCh ∧ ys = zs.map keyCh ∧ fid = 53 ∧ ((ks.map tq = zs.map tq) ∧ (ks.length ≤ 100000 ∧ ∀ k ∈ ks, k.q.length ≤ 1000000)) ∧ (K (.x false [.v (.bool true)]))
  | _ => none
theorem ok_eqfK : CtrOK Tryd.prog tabG debT 52 c_eqfK := by
  refine ⟨enters Tryd.func52 (by kernel_rfl), fun l T hT K hK => ?_⟩
  unfold c_eqfK at hT
  split at hT
  · cases hT
    obtain ⟨ks, zs, rfl, rfl, rfl, hc, hK⟩ := hK
    exact spec_ofL T60ok mixed Tryd.func52 (by kernel_rfl) (by kernel_rfl) (by rfl) (g_eqfK _ _ hc K hK)
  · cases hT
def L61 : List (Nat × Ctr) := (52, c_eqfK) :: L60
def T61 : Tabs := mkT L61 M58 X4
theorem L61ok : CtrsOK Tryd.prog tabG debT L61 := .cons ok_eqfK L60ok
theorem T61ok : TabsOK Tryd.prog tabG debT T61 := mkTok L61ok M58ok X4ok
-- the newest table: L61 M58 X4 T61
end Go.Proofs
/- TrackDelays. -/
namespace Go.Proofs
open Go Go.Eng
def ot_tdel : OT := fun _ => ([], [])
def goal_tdel (l m : List Int) (x y : Int) (K : AV → Prop) : Prop := goalL T61 ot_tdel noL Tryd.f11 [.x false [.s 1 (ints l)], .x false [.s 1 (ints m)], iA .i64 x, iA .i64 y] K
theorem goal_tdel_vc (l : List Int) (m : List Int) (x : Int) (y : Int) (K : AV → Prop) : goal_tdel l m x y K = (
 True ∧
 ∃ (l_1 : List Int),
 ints l = ints l_1 ∧
 List.length l_1 ≤ (9223372036854775807 : Nat) ∧
 ∀ (a : ArmV),
 Made a ∧ (1 : Nat) ≤ List.length (ArmV.links a) →
 ∃ (a_2 : ArmV),
 ∃ (l : List Int),
 [Ch.v (Value.string (ArmV.name a)), Ch.r (ArmV.x a) (63 : Nat), Ch.r (ArmV.y a) (63 : Nat), Ch.v (Value.bool (ArmV.half a)),
 Ch.r (ArmV.t a) (63 : Nat), Ch.s (16 : Nat) (List.map linkCh (ArmV.links a))] =
 [Ch.v (Value.string (ArmV.name a_2)), Ch.r (ArmV.x a_2) (63 : Nat), Ch.r (ArmV.y a_2) (63 : Nat),
 Ch.v (Value.bool (ArmV.half a_2)), Ch.r (ArmV.t a_2) (63 : Nat), Ch.s (16 : Nat) (List.map linkCh (ArmV.links a_2))] ∧
 ints m = ints l ∧
 (GoodArm a_2 ∧ List.length l ≤ (9223372036854775807 : Nat)) ∧
 ∀ (ks : List KeyV),
 MadeT a_2 ks →
 (1 : Nat) ≤ List.length ks →
 List.length ks ≤ (4 : Nat) →
 ((0 : Int) < (300 : Int) ∧ (300 : Int) < (9223372036854775808 : Int)) ∧
 ((0 : Int) < (400 : Int) ∧ (400 : Int) < (9223372036854775808 : Int)) ∧
 ∃ (a_6 : ArmV),
 ∃ (ks_1 : List KeyV),
 [Ch.v (Value.string (ArmV.name a)), Ch.r (ArmV.x a) (63 : Nat), Ch.r (ArmV.y a) (63 : Nat),
 Ch.v (Value.bool (ArmV.half a)), Ch.r (ArmV.t a) (63 : Nat),
 Ch.s (16 : Nat) (List.map linkCh (ArmV.links a))] =
 [Ch.v (Value.string (ArmV.name a_6)), Ch.r (ArmV.x a_6) (63 : Nat), Ch.r (ArmV.y a_6) (63 : Nat),
 Ch.v (Value.bool (ArmV.half a_6)), Ch.r (ArmV.t a_6) (63 : Nat),
 Ch.s (16 : Nat) (List.map linkCh (ArmV.links a_6))] ∧
 List.map keyCh ks = List.map keyCh ks_1 ∧
 (TrackOK a_6 ks_1 ∧
 ((-2000 : Int) ≤ x % (300 : Int) ∧ x % (300 : Int) ≤ (2000 : Int)) ∧
 ∀ (k : KeyV),
 k ∈ ks_1 →
 (0 : Int) ≤ KeyV.tick k + x % (300 : Int) ∧
 KeyV.tick k + x % (300 : Int) ≤ (2000 : Int)) ∧
 ∃ (a_7 : ArmV),
 ∃ (ks_2 : List KeyV),
 [Ch.v (Value.string (ArmV.name a)), Ch.r (ArmV.x a) (63 : Nat), Ch.r (ArmV.y a) (63 : Nat),
 Ch.v (Value.bool (ArmV.half a)), Ch.r (ArmV.t a) (63 : Nat),
 Ch.s (16 : Nat) (List.map linkCh (ArmV.links a))] =
 [Ch.v (Value.string (ArmV.name a_7)), Ch.r (ArmV.x a_7) (63 : Nat),
 Ch.r (ArmV.y a_7) (63 : Nat), Ch.v (Value.bool (ArmV.half a_7)),
 Ch.r (ArmV.t a_7) (63 : Nat), Ch.s (16 : Nat) (List.map linkCh (ArmV.links a_7))] ∧
 List.map keyCh (List.map (shK (x % (300 : Int))) ks_1) = List.map keyCh ks_2 ∧
 (TrackOK a_7 ks_2 ∧
 ((-2000 : Int) ≤ IntKind.wrap IntKind.i64 ((0 : Int) - x % (300 : Int)) ∧
 IntKind.wrap IntKind.i64 ((0 : Int) - x % (300 : Int)) ≤ (2000 : Int)) ∧
 ∀ (k : KeyV),
 k ∈ ks_2 →
 (0 : Int) ≤
 KeyV.tick k + IntKind.wrap IntKind.i64 ((0 : Int) - x % (300 : Int)) ∧
 KeyV.tick k + IntKind.wrap IntKind.i64 ((0 : Int) - x % (300 : Int)) ≤
 (2000 : Int)) ∧
 ∃ (ks_3 : List KeyV),
 ∃ (m : Nat),
 ∃ (N : Nat),
 List.map keyCh (List.map (shK (x % (300 : Int))) ks_1) = List.map keyCh ks_3 ∧
 (KeysOK ks_3 m N ∧
 (N ≤ (10000 : Nat) ∧
 m ≤ (100000 : Nat) ∧
 (1 : Nat) ≤ List.length ks_3 ∧ List.length ks_3 ≤ (100000 : Nat)) ∧
 (-4611686018427387904 : Int) ≤
 IntKind.wrap IntKind.i64 (y % (400 : Int) + x % (300 : Int)) ∧
 IntKind.wrap IntKind.i64 (y % (400 : Int) + x % (300 : Int)) <
 (4611686018427387904 : Int)) ∧
 ∃ (ks_4 : List KeyV),
 ∃ (m : Nat),
 ∃ (N : Nat),
 List.map keyCh ks = List.map keyCh ks_4 ∧
 (KeysOK ks_4 m N ∧
 (N ≤ (10000 : Nat) ∧
 m ≤ (100000 : Nat) ∧
 (1 : Nat) ≤ List.length ks_4 ∧
 List.length ks_4 ≤ (100000 : Nat)) ∧
 (-4611686018427387904 : Int) ≤ y % (400 : Int) ∧
 y % (400 : Int) < (4611686018427387904 : Int)) ∧
 ∃ (a : Nat),
 ∃ (ps : List Rat),
 ∃ (b : Nat),
 ∃ (qs : List Rat),
 lR
 (Prod.snd
 (atR ks_3
 (IntKind.wrap IntKind.i64
 (y % (400 : Int) + x % (300 : Int)))))
 (Prod.fst
 (atR ks_3
 (IntKind.wrap IntKind.i64
 (y % (400 : Int) + x % (300 : Int))))) =
 lR a ps ∧
 lR (Prod.snd (atR ks_4 (y % (400 : Int))))
 (Prod.fst (atR ks_4 (y % (400 : Int)))) =
 lR b qs ∧
 (List.length ps ≤ (1000000000 : Nat) ∧
 List.length qs ≤ (1000000000 : Nat)) ∧
 bif decide (ps = qs) then
 ∃ (ks_5 : List KeyV),
 ∃ (zs : List KeyV),
 List.map keyCh ks = List.map keyCh ks_5 ∧
 List.map keyCh
 (List.map
 (shK
 (IntKind.wrap IntKind.i64
 ((0 : Int) - x % (300 : Int))))
 ks_2) =
 List.map keyCh zs ∧
 (53 : Nat) = (53 : Nat) ∧
 (List.map tq ks_5 = List.map tq zs ∧
 List.length ks_5 ≤ (100000 : Nat) ∧
 ∀ (k : KeyV),
 k ∈ ks_5 →
 List.length (KeyV.q k) ≤
 (1000000 : Nat)) ∧
 K
 (AV.x false
 [Ch.v (Value.bool true)])
 else K (AV.x false [Ch.v (Value.bool false)])) := by kernel_rfl
theorem go_delay (d : Int) : ∀ (ks : List KeyV) (a : KeyV) (t : Int), (atGo (shK d a) (ks.map (shK d)) (t + d)).1 = (atGo a ks t).1 := by
  intro ks
  induction ks with
  | nil => intro a t; rfl
  | cons b ks ih =>
    intro a t
    rw [List.map_cons, atGo, atGo]
    by_cases h : b.tick ≤ t
    · rw [if_pos h, if_pos (show (shK d b).tick ≤ t + d by simp only [shK]; omega)]
      exact ih b t
    · rw [if_neg h, if_neg (show ¬ (shK d b).tick ≤ t + d by simp only [shK]; omega)]
      simp only [interp]
      have e : fracT (shK d a) (shK d b) (t + d) = fracT a b t := by
        unfold fracT shK
        simp only [Rat.intCast_add]
        congr 1 <;> grind
      rw [e]; rfl
theorem at_delay (d : Int) (ks : List KeyV) (t : Int) : (atR (ks.map (shK d)) (t + d)).1 = (atR ks t).1 := by
  cases ks with
  | nil => rfl
  | cons a ks =>
    rw [List.map_cons, atR, atR]
    by_cases h : t ≤ a.tick
    · rw [if_pos h, if_pos (show t + d ≤ (shK d a).tick by simp only [shK]; omega)]; rfl
    · rw [if_neg h, if_neg (show ¬ t + d ≤ (shK d a).tick by simp only [shK]; omega)]
      exact go_delay d ks a t
theorem keys_delay {ks : List KeyV} {m N : Nat} {d : Int} (h : KeysOK ks m N) (ht : ∀ k ∈ ks, 0 ≤ k.tick + d ∧ k.tick + d ≤ 2000) : KeysOK (ks.map (shK d)) m (N + 65) := by
  have all : ∀ {p : KeyV → Prop}, (∀ k ∈ ks, p (shK d k)) → ∀ k ∈ ks.map (shK d), p k := fun hp k hk => by
    obtain ⟨k', hk', rfl⟩ := List.mem_map.1 hk
    exact hp k' hk'
  refine ⟨all fun k hk => h.len k hk, all fun k hk => by have := h.n k hk; simp only [shK]; omega, all fun k hk => ht k hk, fun i a b ha hb => ?_⟩
  rw [List.getElem?_map] at ha hb
  obtain ⟨a', ha', rfl⟩ := Option.map_eq_some_iff.1 ha
  obtain ⟨b', hb', rfl⟩ := Option.map_eq_some_iff.1 hb
  have := h.inc i a' b' ha' hb'
  simp only [shK]; omega
theorem track_delay {a : ArmV} {ks : List KeyV} {N : Nat} {d : Int} (ok : TrackOK a ks) (hk : KeysOK ks a.links.length N) (hN : N + 65 ≤ 10000) (ht : ∀ k ∈ ks, 0 ≤ k.tick + d ∧ k.tick + d ≤ 2000) : TrackOK a (ks.map (shK d)) := by
  refine ⟨ok.arm, by rw [List.length_map]; exact ok.ne, ⟨N + 65, hN, keys_delay hk ht⟩, fun k hk' => ?_, fun i x y hx hy => ?_⟩
  · obtain ⟨k', hk2, rfl⟩ := List.mem_map.1 hk'
    exact ok.fit k' hk2
  · rw [List.getElem?_map] at hx hy
    obtain ⟨x', hx', rfl⟩ := Option.map_eq_some_iff.1 hx
    obtain ⟨y', hy', rfl⟩ := Option.map_eq_some_iff.1 hy
    intro j L p q hL hp hq
    have := ok.slow i x' y' hx' hy' j L p q hL hp hq
    rw [show (shK d y').tick - (shK d x').tick = y'.tick - x'.tick by simp only [shK]; omega]
    exact this
theorem MadeT.keys {a : ArmV} {ks : List KeyV} (h : MadeT a ks) : KeysOK ks a.links.length 63 :=
  ⟨h.len, fun k hk => by rw [h.n k hk]; exact Nat.le_refl _, fun k hk => by have := h.tick k hk; omega, fun i x y hx hy => by have := h.inc i x y hx hy; omega⟩
theorem g_tdel (l m : List Int) (x y : Int) (hl : l.length ≤ 9223372036854775807) (hm : m.length ≤ 9223372036854775807) (K : AV → Prop) (hK : K (.x false [.v (.bool true)])) : Holds (goal_tdel l m x y K) := by
  refine ⟨?_⟩
  rw [goal_tdel_vc]
  simp only [Int.ofNat_eq_natCast, true_and, and_true, Nat.zero_add, Nat.le_refl, true_implies, true_or, or_true]
  refine ⟨l, rfl, hl, fun a ha => ⟨a, m, rfl, rfl, ⟨MadeA.good ha, hm⟩, fun ks hks h1 h4 => ?_⟩⟩
  have ok := hks.ok ha h1 h4
  have hk := hks.keys
  have hne : ks ≠ [] := fun e => by rw [e] at h1; simp at h1
  have hal := ok.arm.n
  have b1 := Int.emod_nonneg x (show (300 : Int) ≠ 0 by decide)
  have b2 := Int.emod_lt_of_pos x (show (0 : Int) < 300 by decide)
  have b3 := Int.emod_nonneg y (show (400 : Int) ≠ 0 by decide)
  have b4 := Int.emod_lt_of_pos y (show (0 : Int) < 400 by decide)
  generalize x % 300 = d at *
  generalize y % 400 = t at *
  have e1 : IntKind.i64.wrap (0 - d) = -d := by rw [w64 (by omega)]; omega
  have e2 : IntKind.i64.wrap (t + d) = t + d := w64 (by omega)
  simp only [e1, e2]
  have ht : ∀ k ∈ ks, 0 ≤ k.tick + d ∧ k.tick + d ≤ 2000 := fun k hk' => by have := hks.tick k hk'; omega
  have ok2 := track_delay ok hk (by omega) ht
  have hk2 := keys_delay hk ht
  have hl2 : (ks.map (shK d)).length = ks.length := List.length_map ..
  have ht2 : ∀ k ∈ ks.map (shK d), 0 ≤ k.tick + -d ∧ k.tick + -d ≤ 2000 := fun k hk' => by
    obtain ⟨k', hk3, rfl⟩ := List.mem_map.1 hk'
    have := hks.tick k' hk3
    simp only [shK]; omega
  obtain ⟨c0, l0⟩ := at_bound (t := t) hk hne
  obtain ⟨c1, l1⟩ := at_bound (t := t + d) hk2 (fun e => by rw [e] at hl2; simp at hl2; omega)
  refine ⟨by omega, by omega, a, ks, rfl, rfl, ⟨ok, by omega, ht⟩, a, ks.map (shK d), rfl, rfl, ⟨ok2, by omega, ht2⟩, ks.map (shK d), a.links.length, 128, rfl, ⟨hk2, ⟨by omega, by omega, by rw [hl2]; omega, by rw [hl2]; omega⟩, by omega⟩, ks, a.links.length, 63, rfl, ⟨hk, ⟨by omega, by omega, h1, by omega⟩, by omega⟩, _, _, _, _, rfl, rfl, ⟨by rw [l1]; omega, by rw [l0]; omega⟩, ?_⟩
  rw [decide_eq_true (at_delay d ks t)]
  refine ⟨ks, _, rfl, rfl, ⟨?_, by omega, fun k hk' => by rw [hk.len k hk']; omega⟩, hK⟩
  simp only [List.map_map]
  refine List.map_congr_left fun k _ => ?_
  simp only [Function.comp_apply, tq, shK]
  rw [Int.add_neg_cancel_right]
theorem spec_tdel (l m : List Int) (x y : Int) (hl : l.length ≤ 9223372036854775807) (hm : m.length ≤ 9223372036854775807) : Eng.Spec Tryd.prog tabG debT 11 [.x false [.s 1 (ints l)], .x false [.s 1 (ints m)], iA .i64 x, iA .i64 y] (fun av => av = .x false [.v (.bool true)]) :=
  spec_ofL T61ok mixed Tryd.func11 (by kernel_rfl) (by kernel_rfl) (by rfl) (g_tdel l m x y hl hm _ rfl)
end Go.Proofs
