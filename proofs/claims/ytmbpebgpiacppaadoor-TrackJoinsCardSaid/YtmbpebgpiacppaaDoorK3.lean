/- track: Cut. -/
import Derived.Test.YtmbpebgpiacppaaDoorK2
/- track: Cut. -/
namespace Go.Proofs
open Go Go.Eng
def inB (f t : Int) (k : KeyV) : Bool := decide (f < k.tick) && decide (k.tick < t)
def cutI (ks : List KeyV) (f t : Int) (i : Nat) : List KeyV := ⟨f, (atR ks f).2, (atR ks f).1⟩ :: ((ks.take i).filter (inB f t)).map (shK 0)
def cutK (ks : List KeyV) (f t : Int) : List KeyV := cutI ks f t ks.length ++ [⟨t, (atR ks t).2, (atR ks t).1⟩]
structure IsCut (ks : List KeyV) (f t : Int) (us : List KeyV) : Prop where
  eq : us = cutK ks f t
structure CutX where
  us : List KeyV
  i : Nat
def ot_tCut : OT := fun id => bif id.beq 11 then ([0, 1, 2, 3, 4, 5, 6, 7, 8, 9], [[], [], [1], [], [3], [4, 3], [2, 1, 5, 4, 3], [6, 2, 1, 5, 4, 3], [0, 7, 6, 2, 1, 5, 4, 3], [8, 0, 7, 6, 2, 1, 5, 4, 3]]) else ([], [])
def goal_tCut (a : ArmV) (ks : List KeyV) (f : Int) (t : Int) (K : AV → Prop) : Prop := goalL T61 ot_tCut (fun _ => .inv ⟨CutX, fun x => ⟨[(1, trkA ks), (2, iA .i64 f), (3, iA .i64 t), (11, .x false [.w 500 0 x.us.length]), (37, trkA ks), (38, iA .i64 ks.length), (39, iA .i64 x.i)], [(500, rowK x.us)]⟩, fun x => x.us = cutI ks f t x.i ∧ x.i ≤ ks.length, fun x => ks.length - x.i, fun _ => 0⟩) Tryd.f50 [armA a, trkA ks, iA .i64 f, iA .i64 t] K
theorem goal_tCut_vc (a : ArmV) (ks : List KeyV) (f : Int) (t : Int) (K : AV → Prop) : goal_tCut a ks f t K = (
 ∃ (a_1 : ArmV),
 ∃ (ks_1 : List KeyV),
 [Ch.v (Value.string (ArmV.name a)), Ch.r (ArmV.x a) (63 : Nat), Ch.r (ArmV.y a) (63 : Nat), Ch.v (Value.bool (ArmV.half a)),
 Ch.r (ArmV.t a) (63 : Nat), Ch.s (16 : Nat) (List.map linkCh (ArmV.links a))] =
 [Ch.v (Value.string (ArmV.name a_1)), Ch.r (ArmV.x a_1) (63 : Nat), Ch.r (ArmV.y a_1) (63 : Nat), Ch.v (Value.bool (ArmV.half a_1)),
 Ch.r (ArmV.t a_1) (63 : Nat), Ch.s (16 : Nat) (List.map linkCh (ArmV.links a_1))] ∧
 List.map keyCh ks = List.map keyCh ks_1 ∧
 TrackOK a_1 ks_1 ∧
 bif decide (f < (0 : Int)) then
 K (AV.t [(false, [Ch.v (Value.slice none (0 : Nat) (0 : Nat))]), (false, [Ch.v (Value.int IntKind.i64 (1 : Int))])])
 else
 bif decide (t ≤ f) then
 K (AV.t [(false, [Ch.v (Value.slice none (0 : Nat) (0 : Nat))]), (false, [Ch.v (Value.int IntKind.i64 (1 : Int))])])
 else
 bif decide (t > (2000 : Int)) then
 K (AV.t [(false, [Ch.v (Value.slice none (0 : Nat) (0 : Nat))]), (false, [Ch.v (Value.int IntKind.i64 (1 : Int))])])
 else
 ∃ (ks_2 : List KeyV),
 ∃ (m : Nat),
 ∃ (N : Nat),
 List.map keyCh ks = List.map keyCh ks_2 ∧
 (KeysOK ks_2 m N ∧
 (N ≤ (10000 : Nat) ∧ m ≤ (100000 : Nat) ∧ (1 : Nat) ≤ List.length ks_2 ∧ List.length ks_2 ≤ (100000 : Nat)) ∧
 (-4611686018427387904 : Int) ≤ f ∧ f < (4611686018427387904 : Int)) ∧
 (∃ (x : CutX),
 ((CutX.us x =
 KeyV.mk f (Prod.snd (atR ks f)) (Prod.fst (atR ks f)) ::
 List.map (shK (0 : Int)) (List.filter (inB f t) (List.take (CutX.i x) ks)) ∧
 CutX.i x ≤ List.length ks) ∧
 OfNat.ofNat (0 : Nat) = (0 : Nat)) ∧
 (2 : Nat) = (2 : Nat) ∧
 List.map keyCh ks = List.map keyCh ks ∧
 f = f ∧
 t = t ∧
 (0 : Nat) = (0 : Nat) ∧
 (1 : Nat) = List.length (CutX.us x) ∧
 (2 : Nat) = (2 : Nat) ∧
 List.map keyCh ks = List.map keyCh ks ∧
 Int.ofNat (List.length (List.map keyCh ks)) = Int.ofNat (List.length ks) ∧
 (0 : Int) = Int.ofNat (CutX.i x) ∧
 (47 : Nat) = (47 : Nat) ∧
 (2 : Nat) = (2 : Nat) ∧
 ([[Ch.v (Value.int IntKind.i64 f),
 Ch.s (3 : Nat) (lR (Prod.snd (atR ks_2 f)) (Prod.fst (atR ks_2 f)))]] =
 List.map keyCh (CutX.us x) ∨
 RowLE
 [[Ch.v (Value.int IntKind.i64 f),
 Ch.s (3 : Nat) (lR (Prod.snd (atR ks_2 f)) (Prod.fst (atR ks_2 f)))]]
 (List.map keyCh (CutX.us x))) ∧
 True) ∧
 ∀ (x : CutX),
 CutX.us x =
 KeyV.mk f (Prod.snd (atR ks f)) (Prod.fst (atR ks f)) ::
 List.map (shK (0 : Int)) (List.filter (inB f t) (List.take (CutX.i x) ks)) ∧
 CutX.i x ≤ List.length ks →
 OfNat.ofNat (0 : Nat) = (0 : Nat) →
 bif decide (Int.ofNat (CutX.i x) < Int.ofNat (List.length ks)) then
 ((0 : Int) ≤ Int.ofNat (CutX.i x) ∧
 Int.ofNat (CutX.i x) < Int.ofNat (List.length (List.map keyCh ks))) ∧
 ∃ (d : Int),
 ∃ (ys : List (List Ch)),
 ldE (List.map keyCh ks) (Int.toNat (Int.ofNat (CutX.i x))) (0 : Nat) (2 : Nat) =
 some [Ch.v (Value.int IntKind.i64 d), Ch.s (3 : Nat) ys] ∧
 bif decide (d > f) then
 bif decide (d < t) then
 ∃ (n : Nat),
 ∃ (qs : List Rat),
 ys = lR n qs ∧
 (n ≤ (1000000 : Nat) ∧ List.length qs ≤ (1000000 : Nat)) ∧
 ((List.length (CutX.us x) + (1 : Nat)) * (32 : Nat) ≤ (140737488355328 : Nat) ∧
 List.length (CutX.us x) + (1 : Nat) ≤ (9223372036854775807 : Nat)) ∧
 ∃ (x' : CutX),
 ((CutX.us x' =
 KeyV.mk f (Prod.snd (atR ks f)) (Prod.fst (atR ks f)) ::
 List.map (shK (0 : Int))
 (List.filter (inB f t) (List.take (CutX.i x') ks)) ∧
 CutX.i x' ≤ List.length ks) ∧
 OfNat.ofNat (0 : Nat) = (0 : Nat) ∧
 List.length ks - CutX.i x' < List.length ks - CutX.i x) ∧
 (2 : Nat) = (2 : Nat) ∧
 List.map keyCh ks = List.map keyCh ks ∧
 f = f ∧
 t = t ∧
 (0 : Nat) = (0 : Nat) ∧
 List.length (CutX.us x) + (1 : Nat) = List.length (CutX.us x') ∧
 (2 : Nat) = (2 : Nat) ∧
 List.map keyCh ks = List.map keyCh ks ∧
 Int.ofNat (List.length ks) = Int.ofNat (List.length ks) ∧
 IntKind.wrap IntKind.i64
 (Int.ofNat (CutX.i x) + (1 : Int)) =
 Int.ofNat (CutX.i x') ∧
 (47 : Nat) = (47 : Nat) ∧
 (2 : Nat) = (2 : Nat) ∧
 (List.take (List.length (CutX.us x))
 (List.map keyCh (CutX.us x)) ++
 [[Ch.v (Value.int IntKind.i64 d),
 Ch.s (3 : Nat)
 (lR (n + (65 : Nat)) qs)]] =
 List.map keyCh (CutX.us x') ∨
 RowLE
 (List.take (List.length (CutX.us x))
 (List.map keyCh (CutX.us x)) ++
 [[Ch.v (Value.int IntKind.i64 d),
 Ch.s (3 : Nat) (lR (n + (65 : Nat)) qs)]])
 (List.map keyCh (CutX.us x'))) ∧
 True
 else
 ∃ (x' : CutX),
 ((CutX.us x' =
 KeyV.mk f (Prod.snd (atR ks f)) (Prod.fst (atR ks f)) ::
 List.map (shK (0 : Int)) (List.filter (inB f t) (List.take (CutX.i x') ks)) ∧
 CutX.i x' ≤ List.length ks) ∧
 OfNat.ofNat (0 : Nat) = (0 : Nat) ∧
 List.length ks - CutX.i x' < List.length ks - CutX.i x) ∧
 (2 : Nat) = (2 : Nat) ∧
 List.map keyCh ks = List.map keyCh ks ∧
 f = f ∧
 t = t ∧
 (0 : Nat) = (0 : Nat) ∧
 List.length (CutX.us x) = List.length (CutX.us x') ∧
 (2 : Nat) = (2 : Nat) ∧
 List.map keyCh ks = List.map keyCh ks ∧
 Int.ofNat (List.length ks) = Int.ofNat (List.length ks) ∧
 IntKind.wrap IntKind.i64 (Int.ofNat (CutX.i x) + (1 : Int)) =
 Int.ofNat (CutX.i x') ∧
 (47 : Nat) = (47 : Nat) ∧
 (2 : Nat) = (2 : Nat) ∧
 (List.map keyCh (CutX.us x) = List.map keyCh (CutX.us x') ∨
 RowLE (List.map keyCh (CutX.us x))
 (List.map keyCh (CutX.us x'))) ∧
 True
 else
 ∃ (x' : CutX),
 ((CutX.us x' =
 KeyV.mk f (Prod.snd (atR ks f)) (Prod.fst (atR ks f)) ::
 List.map (shK (0 : Int)) (List.filter (inB f t) (List.take (CutX.i x') ks)) ∧
 CutX.i x' ≤ List.length ks) ∧
 OfNat.ofNat (0 : Nat) = (0 : Nat) ∧
 List.length ks - CutX.i x' < List.length ks - CutX.i x) ∧
 (2 : Nat) = (2 : Nat) ∧
 List.map keyCh ks = List.map keyCh ks ∧
 f = f ∧
 t = t ∧
 (0 : Nat) = (0 : Nat) ∧
 List.length (CutX.us x) = List.length (CutX.us x') ∧
 (2 : Nat) = (2 : Nat) ∧
 List.map keyCh ks = List.map keyCh ks ∧
 Int.ofNat (List.length ks) = Int.ofNat (List.length ks) ∧
 IntKind.wrap IntKind.i64 (Int.ofNat (CutX.i x) + (1 : Int)) =
 Int.ofNat (CutX.i x') ∧
 (47 : Nat) = (47 : Nat) ∧
 (2 : Nat) = (2 : Nat) ∧
 (List.map keyCh (CutX.us x) = List.map keyCh (CutX.us x') ∨
 RowLE (List.map keyCh (CutX.us x))
 (List.map keyCh (CutX.us x'))) ∧
 True
 else
 ∃ (ks_3 : List KeyV),
 ∃ (m : Nat),
 ∃ (N : Nat),
 List.map keyCh ks = List.map keyCh ks_3 ∧
 (KeysOK ks_3 m N ∧
 (N ≤ (10000 : Nat) ∧
 m ≤ (100000 : Nat) ∧ (1 : Nat) ≤ List.length ks_3 ∧ List.length ks_3 ≤ (100000 : Nat)) ∧
 (-4611686018427387904 : Int) ≤ t ∧ t < (4611686018427387904 : Int)) ∧
 ((List.length (CutX.us x) + (1 : Nat)) * (32 : Nat) ≤ (140737488355328 : Nat) ∧
 List.length (CutX.us x) + (1 : Nat) ≤ (9223372036854775807 : Nat)) ∧
 bif decide (Int.ofNat (List.length (CutX.us x) + (1 : Nat)) > (60 : Int)) then
 K
 (AV.t
 [(false, [Ch.v (Value.slice none (0 : Nat) (0 : Nat))]),
 (false, [Ch.v (Value.int IntKind.i64 (2 : Int))])])
 else
 K
 (AV.t
 [(false,
 [Ch.s (2 : Nat)
 (List.take (List.length (CutX.us x) + (1 : Nat))
 (List.drop (0 : Nat)
 (List.take (List.length (CutX.us x)) (List.map keyCh (CutX.us x)) ++
 [[Ch.v (Value.int IntKind.i64 t),
 Ch.s (3 : Nat)
 (lR (Prod.snd (atR ks_3 t)) (Prod.fst (atR ks_3 t)))]])))]),
 (false, [Ch.v (Value.int IntKind.i64 (0 : Int))])])) := by kernel_rfl
theorem g_tCut (a : ArmV) (ks : List KeyV) (f : Int) (t : Int) (hc : (TrackOK a ks) ∧ (ks.length ≤ 50) ∧ ((0 ≤ f ∧ f < t ∧ t ≤ 2000))) (K : AV → Prop) (hK : ∀ us : List KeyV, IsCut ks f t us → K (.t [(false, [.s 2 (us.map keyCh)]), (false, [.v (.int .i64 0)])])) : Holds (goal_tCut a ks f t K) := by
  refine ⟨?_⟩
  rw [goal_tCut_vc]
  try simp only [Int.ofNat_eq_natCast, true_and, and_true, Nat.zero_add, Nat.le_refl, true_implies, true_or, or_true]
  obtain ⟨ok, hn, h0, h1, h2⟩ := hc
  obtain ⟨N, hN, hk⟩ := ok.keys
  have hne := ok.ne
  have hal := ok.arm.n
  have step : ∀ {i : Nat} {k : KeyV}, ks[i]? = some k → cutI ks f t (i + 1) = bif inB f t k then cutI ks f t i ++ [shK 0 k] else cutI ks f t i := fun {i k} hki => by
    unfold cutI
    rw [List.take_add_one, hki]
    simp only [Option.toList, List.filter_append, List.map_append]
    cases hb : inB f t k <;> simp [List.filter, hb]
  have app : ∀ (us : List KeyV) (k : KeyV), List.take us.length (List.map keyCh us) ++ [keyCh k] = List.map keyCh (us ++ [k]) := fun us k => by
    rw [List.take_of_length_le (by rw [List.length_map]; exact Nat.le_refl _), List.map_append]; rfl
  have len : ∀ i, (cutI ks f t i).length ≤ ks.length + 1 := fun i => by
    unfold cutI
    have := List.length_filter_le (inB f t) (ks.take i)
    simp only [List.length_cons, List.length_map]
    have := List.length_take_le i ks
    have := List.length_take_le' i ks
    omega
  simp only [List.length_map]
  refine ⟨a, ks, rfl, rfl, ok, bif_mk (fun h => by have := of_decide_eq_true h; omega) (fun _ => bif_mk (fun h => by have := of_decide_eq_true h; omega) (fun _ => bif_mk (fun h => by have := of_decide_eq_true h; omega) (fun _ => ⟨ks, a.links.length, N, rfl, ⟨hk, ⟨hN, by omega, by omega, by omega⟩, by omega, by omega⟩, ⟨⟨cutI ks f t 0, 0⟩, ⟨rfl, by simp only; omega⟩, rfl, trivial, rfl, .inl rfl⟩, fun x hx => ?_⟩)))⟩
  obtain ⟨us, i⟩ := x
  obtain ⟨hu, hi⟩ := hx
  have hu : us = cutI ks f t i := hu
  simp only at hi ⊢
  have hlu := len i
  rw [← hu] at hlu
  refine bif_mk (fun hp => ?_) (fun hp => ?_)
  · have hp : i < ks.length := by have := of_decide_eq_true hp; omega
    obtain ⟨k, hkk⟩ : ∃ k, ks[i]? = some k := ⟨_, List.getElem?_eq_getElem hp⟩
    have mk := List.mem_of_getElem? hkk
    have hst := step hkk
    have h3 := hk.n k mk
    have h4 := hk.len k mk
    refine ⟨by omega, _, _, key_ld (by simpa using hkk), bif_mk (fun ha => bif_mk (fun hb => ?_) (fun hb => ?_)) (fun ha => ?_)⟩
    · have e : inB f t k = true := by
        have := of_decide_eq_true ha
        unfold inB
        rw [show decide (f < k.tick) = true from decide_eq_true (by omega), hb]; rfl
      rw [e, cond_true, ← hu] at hst
      refine ⟨k.n, k.q, rfl, ⟨by omega, by omega⟩, by omega, ⟨us ++ [shK 0 k], i + 1⟩, ⟨⟨hst.symm, by simp only; omega⟩, by simp only; omega⟩, by simp, by rw [w64 (by omega)]; simp, .inl ?_⟩
      rw [← app]
      simp only [keyCh, shK, Int.add_zero]
    · have e : inB f t k = false := by unfold inB; rw [hb, Bool.and_false]
      rw [e, cond_false, ← hu] at hst
      exact ⟨⟨us, i + 1⟩, ⟨⟨hst.symm, by simp only; omega⟩, by simp only; omega⟩, rfl, by rw [w64 (by omega)]; simp, .inl rfl⟩
    · have e : inB f t k = false := by
        have := of_decide_eq_false ha
        unfold inB
        rw [show decide (f < k.tick) = false from decide_eq_false (by omega)]; rfl
      rw [e, cond_false, ← hu] at hst
      exact ⟨⟨us, i + 1⟩, ⟨⟨hst.symm, by simp only; omega⟩, by simp only; omega⟩, rfl, by rw [w64 (by omega)]; simp, .inl rfl⟩
  · have hp : i = ks.length := by have := of_decide_eq_false hp; omega
    subst hp
    refine ⟨ks, a.links.length, N, rfl, ⟨hk, ⟨hN, by omega, by omega, by omega⟩, by omega, by omega⟩, by omega, bif_mk (fun h => by have := of_decide_eq_true h; omega) (fun _ => ?_)⟩
    have e := app us ⟨t, (atR ks t).2, (atR ks t).1⟩
    unfold keyCh at e
    unfold keyCh
    rw [e, List.drop_zero, List.take_of_length_le (by simp)]
    rw [hu]
    exact hK _ ⟨rfl⟩
def c_tCut : Ctr := fun as0 => match as0 with
  | [.x true xs, .x false [.s 2 ys], .x false [.v (.int .i64 f)], .x false [.v (.int .i64 t)]] => some fun K => ∃ (a : ArmV) (ks : List KeyV), xs = armCh a ∧ ys = ks.map keyCh ∧ ((TrackOK a ks) ∧ (ks.length ≤ 50) ∧ ((0 ≤ f ∧ f < t ∧ t ≤ 2000))) ∧ (∀ us : List KeyV, IsCut ks f t us → K (.t [(false, [.s 2 (us.map keyCh)]), (false, [.v (.int .i64 0)])]))
  | _ => none
theorem ok_tCut : CtrOK Tryd.prog tabG debT 50 c_tCut := by
  refine ⟨enters Tryd.func50 (by kernel_rfl), fun l T hT K hK => ?_⟩
  unfold c_tCut at hT
  split at hT
  · cases hT
    obtain ⟨a, ks, rfl, rfl, hc, hK⟩ := hK
    exact spec_ofL T61ok mixed Tryd.func50 (by kernel_rfl) (by kernel_rfl) (by rfl) (g_tCut _ _ _ _ hc K hK)
  · cases hT
def L62 : List (Nat × Ctr) := (50, c_tCut) :: L61
def T62 : Tabs := mkT L62 M58 X4
theorem L62ok : CtrsOK Tryd.prog tabG debT L62 := .cons ok_tCut L61ok
theorem T62ok : TabsOK Tryd.prog tabG debT T62 := mkTok L62ok M58ok X4ok
-- the newest table: L62 M58 X4 T62
end Go.Proofs
/- TrackCuts. -/
namespace Go.Proofs
open Go Go.Eng
def ot_tcut : OT := fun _ => ([], [])
def goal_tcut (l m : List Int) (x y z : Int) (K : AV → Prop) : Prop := goalL T62 ot_tcut noL Tryd.f10 [.x false [.s 1 (ints l)], .x false [.s 1 (ints m)], iA .i64 x, iA .i64 y, iA .i64 z] K
theorem goal_tcut_vc (l : List Int) (m : List Int) (x : Int) (y : Int) (z : Int) (K : AV → Prop) : goal_tcut l m x y z K = (
 True ∧
 ∃ (l_1 : List Int),
 ints l = ints l_1 ∧
 List.length l_1 ≤ (9223372036854775807 : Nat) ∧
 ∀ (a : ArmV),
 Made a ∧ (1 : Nat) ≤ List.length (ArmV.links a) →
 ∃ (a_2 : ArmV),
 ∃ (l : List Int),
 [Ch.v (Value.string (ArmV.name a)), Ch.r (ArmV.x a) (63 : Nat), Ch.r (ArmV.y a) (63 : Nat), Ch.v (Value.bool (ArmV.half a)),
 Ch.r (ArmV.t a) (63 : Nat), Ch.s (16 : Nat) (List.map linkCh (ArmV.links a))] =
 [Ch.v (Value.string (ArmV.name a_2)), Ch.r (ArmV.x a_2) (63 : Nat), Ch.r (ArmV.y a_2) (63 : Nat),
 Ch.v (Value.bool (ArmV.half a_2)), Ch.r (ArmV.t a_2) (63 : Nat), Ch.s (16 : Nat) (List.map linkCh (ArmV.links a_2))] ∧
 ints m = ints l ∧
 (GoodArm a_2 ∧ List.length l ≤ (9223372036854775807 : Nat)) ∧
 ∀ (ks : List KeyV),
 MadeT a_2 ks →
 (1 : Nat) ≤ List.length ks →
 List.length ks ≤ (4 : Nat) →
 ((0 : Int) < (200 : Int) ∧ (200 : Int) < (9223372036854775808 : Int)) ∧
 ((0 : Int) < (200 : Int) ∧ (200 : Int) < (9223372036854775808 : Int)) ∧
 ∃ (a_6 : ArmV),
 ∃ (ks_1 : List KeyV),
 [Ch.v (Value.string (ArmV.name a)), Ch.r (ArmV.x a) (63 : Nat), Ch.r (ArmV.y a) (63 : Nat),
 Ch.v (Value.bool (ArmV.half a)), Ch.r (ArmV.t a) (63 : Nat),
 Ch.s (16 : Nat) (List.map linkCh (ArmV.links a))] =
 [Ch.v (Value.string (ArmV.name a_6)), Ch.r (ArmV.x a_6) (63 : Nat), Ch.r (ArmV.y a_6) (63 : Nat),
 Ch.v (Value.bool (ArmV.half a_6)), Ch.r (ArmV.t a_6) (63 : Nat),
 Ch.s (16 : Nat) (List.map linkCh (ArmV.links a_6))] ∧
 List.map keyCh ks = List.map keyCh ks_1 ∧
 (TrackOK a_6 ks_1 ∧
 List.length ks_1 ≤ (50 : Nat) ∧
 (0 : Int) ≤ x % (200 : Int) ∧
 x % (200 : Int) <
 IntKind.wrap IntKind.i64
 (IntKind.wrap IntKind.i64 (x % (200 : Int) + (1 : Int)) + y % (200 : Int)) ∧
 IntKind.wrap IntKind.i64
 (IntKind.wrap IntKind.i64 (x % (200 : Int) + (1 : Int)) + y % (200 : Int)) ≤
 (2000 : Int)) ∧
 ∀ (us : List KeyV),
 IsCut ks_1 (x % (200 : Int))
 (IntKind.wrap IntKind.i64
 (IntKind.wrap IntKind.i64 (x % (200 : Int) + (1 : Int)) + y % (200 : Int)))
 us →
 ((0 : Int) <
 IntKind.wrap IntKind.i64
 (IntKind.wrap IntKind.i64
 (IntKind.wrap IntKind.i64
 (IntKind.wrap IntKind.i64 (x % (200 : Int) + (1 : Int)) + y % (200 : Int)) -
 x % (200 : Int)) +
 (1 : Int)) ∧
 IntKind.wrap IntKind.i64
 (IntKind.wrap IntKind.i64
 (IntKind.wrap IntKind.i64
 (IntKind.wrap IntKind.i64 (x % (200 : Int) + (1 : Int)) + y % (200 : Int)) -
 x % (200 : Int)) +
 (1 : Int)) <
 (9223372036854775808 : Int)) ∧
 ∃ (a_8 : ArmV),
 ∃ (ks_2 : List KeyV),
 [Ch.v (Value.string (ArmV.name a)), Ch.r (ArmV.x a) (63 : Nat),
 Ch.r (ArmV.y a) (63 : Nat), Ch.v (Value.bool (ArmV.half a)),
 Ch.r (ArmV.t a) (63 : Nat), Ch.s (16 : Nat) (List.map linkCh (ArmV.links a))] =
 [Ch.v (Value.string (ArmV.name a_8)), Ch.r (ArmV.x a_8) (63 : Nat),
 Ch.r (ArmV.y a_8) (63 : Nat), Ch.v (Value.bool (ArmV.half a_8)),
 Ch.r (ArmV.t a_8) (63 : Nat),
 Ch.s (16 : Nat) (List.map linkCh (ArmV.links a_8))] ∧
 List.map keyCh us = List.map keyCh ks_2 ∧
 TrackOK a_8 ks_2 ∧
 ∃ (ks_3 : List KeyV),
 ∃ (m : Nat),
 ∃ (N : Nat),
 List.map keyCh ks = List.map keyCh ks_3 ∧
 (KeysOK ks_3 m N ∧
 (N ≤ (10000 : Nat) ∧
 m ≤ (100000 : Nat) ∧
 (1 : Nat) ≤ List.length ks_3 ∧
 List.length ks_3 ≤ (100000 : Nat)) ∧
 (-4611686018427387904 : Int) ≤
 IntKind.wrap IntKind.i64
 (x % (200 : Int) +
 z %
 IntKind.wrap IntKind.i64
 (IntKind.wrap IntKind.i64
 (IntKind.wrap IntKind.i64
 (IntKind.wrap IntKind.i64
 (x % (200 : Int) + (1 : Int)) +
 y % (200 : Int)) -
 x % (200 : Int)) +
 (1 : Int))) ∧
 IntKind.wrap IntKind.i64
 (x % (200 : Int) +
 z %
 IntKind.wrap IntKind.i64
 (IntKind.wrap IntKind.i64
 (IntKind.wrap IntKind.i64
 (IntKind.wrap IntKind.i64
 (x % (200 : Int) + (1 : Int)) +
 y % (200 : Int)) -
 x % (200 : Int)) +
 (1 : Int))) <
 (4611686018427387904 : Int)) ∧
 ∃ (ks : List KeyV),
 ∃ (m : Nat),
 ∃ (N : Nat),
 List.map keyCh us = List.map keyCh ks ∧
 (KeysOK ks m N ∧
 (N ≤ (10000 : Nat) ∧
 m ≤ (100000 : Nat) ∧
 (1 : Nat) ≤ List.length ks ∧
 List.length ks ≤ (100000 : Nat)) ∧
 (-4611686018427387904 : Int) ≤
 IntKind.wrap IntKind.i64
 (x % (200 : Int) +
 z %
 IntKind.wrap IntKind.i64
 (IntKind.wrap IntKind.i64
 (IntKind.wrap IntKind.i64
 (IntKind.wrap IntKind.i64
 (x % (200 : Int) + (1 : Int)) +
 y % (200 : Int)) -
 x % (200 : Int)) +
 (1 : Int))) ∧
 IntKind.wrap IntKind.i64
 (x % (200 : Int) +
 z %
 IntKind.wrap IntKind.i64
 (IntKind.wrap IntKind.i64
 (IntKind.wrap IntKind.i64
 (IntKind.wrap IntKind.i64
 (x % (200 : Int) + (1 : Int)) +
 y % (200 : Int)) -
 x % (200 : Int)) +
 (1 : Int))) <
 (4611686018427387904 : Int)) ∧
 ∃ (a : Nat),
 ∃ (ps : List Rat),
 ∃ (b : Nat),
 ∃ (qs : List Rat),
 lR
 (Prod.snd
 (atR ks_3
 (IntKind.wrap IntKind.i64
 (x % (200 : Int) +
 z %
 IntKind.wrap IntKind.i64
 (IntKind.wrap IntKind.i64
 (IntKind.wrap IntKind.i64
 (IntKind.wrap IntKind.i64
 (x % (200 : Int) +
 (1 : Int)) +
 y % (200 : Int)) -
 x % (200 : Int)) +
 (1 : Int))))))
 (Prod.fst
 (atR ks_3
 (IntKind.wrap IntKind.i64
 (x % (200 : Int) +
 z %
 IntKind.wrap IntKind.i64
 (IntKind.wrap IntKind.i64
 (IntKind.wrap IntKind.i64
 (IntKind.wrap IntKind.i64
 (x % (200 : Int) +
 (1 : Int)) +
 y % (200 : Int)) -
 x % (200 : Int)) +
 (1 : Int)))))) =
 lR a ps ∧
 lR
 (Prod.snd
 (atR ks
 (IntKind.wrap IntKind.i64
 (x % (200 : Int) +
 z %
 IntKind.wrap IntKind.i64
 (IntKind.wrap IntKind.i64
 (IntKind.wrap IntKind.i64
 (IntKind.wrap
 IntKind.i64
 (x % (200 : Int) +
 (1 : Int)) +
 y % (200 : Int)) -
 x % (200 : Int)) +
 (1 : Int))))))
 (Prod.fst
 (atR ks
 (IntKind.wrap IntKind.i64
 (x % (200 : Int) +
 z %
 IntKind.wrap IntKind.i64
 (IntKind.wrap IntKind.i64
 (IntKind.wrap IntKind.i64
 (IntKind.wrap
 IntKind.i64
 (x % (200 : Int) +
 (1 : Int)) +
 y % (200 : Int)) -
 x % (200 : Int)) +
 (1 : Int)))))) =
 lR b qs ∧
 (List.length ps ≤ (1000000000 : Nat) ∧
 List.length qs ≤ (1000000000 : Nat)) ∧
 K
 (AV.x false
 [Ch.v (Value.bool (decide (ps = qs)))])) := by kernel_rfl
theorem go_seg {m N : Nat} : ∀ {ks : List KeyV} {a : KeyV} {t : Int} {i : Nat} {x y : KeyV}, KeysOK (a :: ks) m N → (a :: ks)[i]? = some x → (a :: ks)[i + 1]? = some y → x.tick ≤ t → t ≤ y.tick → (atGo a ks t).1 = interp x y t := by
  intro ks
  induction ks with
  | nil => intro a t i x y _ _ hy; simp at hy
  | cons b ks ih =>
    intro a t i x y h hx hy h1 h2
    cases i with
    | zero =>
      cases hx; cases hy
      by_cases e : b.tick ≤ t
      · have : t = b.tick := by omega
        subst this
        rw [atGo, if_pos e, go_start h.tail, interp_hi h.head h.head_len]
      · rw [atGo, if_neg e]
    | succ i =>
      have hx : (b :: ks)[i]? = some x := by simpa using hx
      have hy : (b :: ks)[i + 1]? = some y := by simpa using hy
      have hbx := h.tail.mono (Nat.zero_le i) (show (b :: ks)[0]? = some b from rfl) hx
      rw [atGo, if_pos (show b.tick ≤ t by omega)]
      exact ih h.tail hx hy h1 h2
theorem at_seg {m N : Nat} {ks : List KeyV} {t : Int} {i : Nat} {x y : KeyV} (h : KeysOK ks m N) (hx : ks[i]? = some x) (hy : ks[i + 1]? = some y) (h1 : x.tick ≤ t) (h2 : t ≤ y.tick) : (atR ks t).1 = interp x y t := by
  match ks, h, hx, hy with
  | a :: ks, h, hx, hy =>
    by_cases e : t ≤ a.tick
    · have hax := h.mono (Nat.zero_le i) (show (a :: ks)[0]? = some a from rfl) hx
      have : t = a.tick := by omega
      have hi : x.tick = a.tick := by omega
      have : i = 0 := by
        cases i with
        | zero => rfl
        | succ i =>
          have hb : ∃ b, (a :: ks)[1]? = some b := ⟨_, List.getElem?_eq_getElem (by have := (List.getElem?_eq_some_iff.1 hx).1; omega)⟩
          obtain ⟨b, hb⟩ := hb
          have h3 := h.inc 0 a b rfl hb
          have h4 := h.mono (show 1 ≤ i + 1 by omega) hb hx
          omega
      subst this
      cases hx
      rw [atR, if_pos e]
      subst t
      unfold interp
      rw [fracT_lo, mix_zero (by rw [h.len x (by simp), h.len y (List.mem_of_getElem? hy)])]
    · rw [atR, if_neg e]
      exact go_seg h hx hy h1 h2
theorem go_hi {m N : Nat} : ∀ {ks : List KeyV} {a z : KeyV} {t : Int}, KeysOK (a :: ks) m N → (a :: ks)[ks.length]? = some z → z.tick ≤ t → (atGo a ks t).1 = z.q := by
  intro ks
  induction ks with
  | nil => intro a z t _ hz _; cases hz; rfl
  | cons b ks ih =>
    intro a z t h hz ht
    have hz : (b :: ks)[ks.length]? = some z := by simpa using hz
    have := h.tail.mono (Nat.zero_le ks.length) (show (b :: ks)[0]? = some b from rfl) hz
    rw [atGo, if_pos (show b.tick ≤ t by omega)]
    exact ih h.tail hz ht
theorem at_hi {m N : Nat} {ks : List KeyV} {t : Int} {z : KeyV} (h : KeysOK ks m N) (hz : ks[ks.length - 1]? = some z) (ht : z.tick ≤ t) : (atR ks t).1 = z.q := by
  match ks, h, hz with
  | [], _, hz => cases hz
  | a :: ks, h, hz =>
    have hz : (a :: ks)[ks.length]? = some z := by simpa using hz
    by_cases e : t ≤ a.tick
    · rw [atR, if_pos e]
      have := h.mono (Nat.zero_le ks.length) (show (a :: ks)[0]? = some a from rfl) hz
      cases ks with
      | nil => cases hz; rfl
      | cons b ks =>
        have h2 := h.head
        have hz' : (b :: ks)[ks.length]? = some z := by simpa using hz
        have := h.tail.mono (Nat.zero_le ks.length) (show (b :: ks)[0]? = some b from rfl) hz'
        omega
    · rw [atR, if_neg e]
      exact go_hi h hz ht
theorem at_key {m N : Nat} {ks : List KeyV} {i : Nat} {k : KeyV} (h : KeysOK ks m N) (hk : ks[i]? = some k) : (atR ks k.tick).1 = k.q := by
  have hi := (List.getElem?_eq_some_iff.1 hk).1
  by_cases e : i = ks.length - 1
  · subst e; exact at_hi h hk (Int.le_refl _)
  · obtain ⟨y, hy⟩ : ∃ y, ks[i + 1]? = some y := ⟨_, List.getElem?_eq_getElem (by omega)⟩
    have := h.inc i k y hk hy
    rw [at_seg h hk hy (Int.le_refl _) (by omega)]
    unfold interp
    rw [fracT_lo, mix_zero (by rw [h.len k (List.mem_of_getElem? hk), h.len y (List.mem_of_getElem? hy)])]
/-- Between two ticks that no key lies strictly between, the motion is straight. -/
theorem lin_of {m N : Nat} {ks : List KeyV} (h : KeysOK ks m N) (hne : ks ≠ []) {x y : Int} (hno : ∀ k ∈ ks, ¬ (x < k.tick ∧ k.tick < y)) :
    (∃ z ∈ ks, ∀ t, x ≤ t → t ≤ y → (atR ks t).1 = z.q) ∨ (∃ (i : Nat) (a b : KeyV), ks[i]? = some a ∧ ks[i + 1]? = some b ∧ a.tick ≤ x ∧ y ≤ b.tick ∧ ∀ t, x ≤ t → t ≤ y → (atR ks t).1 = interp a b t) := by
  rcases at_three h hne x with ⟨z, hz, hx, _⟩ | ⟨i, a, b, ha, hb, h1, h2, _⟩ | ⟨z, hz, hx, _⟩
  · have := hno z (List.mem_of_getElem? hz)
    exact .inl ⟨z, List.mem_of_getElem? hz, fun t _ ht => by rw [at_first hz (by omega)]⟩
  · have := hno b (List.mem_of_getElem? hb)
    exact .inr ⟨i, a, b, ha, hb, h1, by omega, fun t ht ht2 => at_seg h ha hb (by omega) (by omega)⟩
  · exact .inl ⟨z, List.mem_of_getElem? hz, fun t ht _ => at_hi h hz (by omega)⟩
theorem mix_same (s : Rat) (p : List Rat) : mix s p p = p := by
  apply List.ext_getElem?
  intro i
  by_cases hi : i < p.length
  · obtain ⟨x, hx⟩ : ∃ x, p[i]? = some x := ⟨_, List.getElem?_eq_getElem hi⟩
    rw [mix_get hx hx, hx]; congr 1; grind
  · rw [List.getElem?_eq_none (by rw [mix_len rfl]; omega), List.getElem?_eq_none (by omega)]
theorem mix_mix {r s u : Rat} {p q : List Rat} (hl : p.length = q.length) : mix u (mix r p q) (mix s p q) = mix (r + u * (s - r)) p q := by
  apply List.ext_getElem?
  intro i
  by_cases hi : i < p.length
  · obtain ⟨x, hx⟩ : ∃ x, p[i]? = some x := ⟨_, List.getElem?_eq_getElem hi⟩
    obtain ⟨y, hy⟩ : ∃ y, q[i]? = some y := ⟨_, List.getElem?_eq_getElem (by omega)⟩
    rw [mix_get (mix_get hx hy) (mix_get hx hy), mix_get hx hy]; congr 1; grind
  · rw [List.getElem?_eq_none (by rw [mix_len (by rw [mix_len hl, mix_len hl]), mix_len hl]; omega), List.getElem?_eq_none (by rw [mix_len hl]; omega)]
theorem frac_frac {a b p q : KeyV} (hab : a.tick < b.tick) (hpq : p.tick < q.tick) (t : Int) : fracT a b p.tick + fracT p q t * (fracT a b q.tick - fracT a b p.tick) = fracT a b t := by
  have h1 := tick_lt hab
  have h2 := tick_lt hpq
  unfold fracT
  generalize (a.tick : Rat) = x at *
  generalize (b.tick : Rat) = y at *
  generalize (p.tick : Rat) = u at *
  generalize (q.tick : Rat) = v at *
  generalize (t : Rat) = w at *
  have e1 : y - x ≠ 0 := by grind
  have e2 : v - u ≠ 0 := by grind
  grind
theorem lin_interp {a : ArmV} {ks : List KeyV} (ok : TrackOK a ks) {p q : KeyV} (hlt : p.tick < q.tick) (hp : p.q = (atR ks p.tick).1) (hq : q.q = (atR ks q.tick).1) (hno : ∀ k ∈ ks, ¬ (p.tick < k.tick ∧ k.tick < q.tick)) :
    (∀ t, p.tick ≤ t → t ≤ q.tick → interp p q t = (atR ks t).1) ∧ SlowR a p q := by
  obtain ⟨N, hN, hk⟩ := ok.keys
  have hne : ks ≠ [] := fun e => by have := ok.ne; rw [e] at this; simp at this
  rcases lin_of hk hne hno with ⟨z, hz, hf⟩ | ⟨i, c, d, hc, hd, h1, h2, hf⟩
  · have e1 := hf p.tick (Int.le_refl _) (by omega)
    have e2 := hf q.tick (by omega) (Int.le_refl _)
    rw [e1] at hp; rw [e2] at hq
    refine ⟨fun t ht ht2 => by rw [hf t ht ht2]; unfold interp; rw [hp, hq, mix_same], fun j L u v hL hu hv => ?_⟩
    rw [hp] at hu; rw [hq] at hv; rw [hu] at hv; cases hv
    rw [show u - u = 0 by grind, absR_zero]
    have : (0 : Rat) ≤ ((q.tick - p.tick : Int) : Rat) := by
      have : (0 : Int) ≤ q.tick - p.tick := by omega
      exact_mod_cast this
    exact Rat.mul_nonneg (Rat.le_of_lt (ok.arm.links L (List.mem_of_getElem? hL)).sp) this
  · have e1 := hf p.tick (Int.le_refl _) (by omega)
    have e2 := hf q.tick (by omega) (Int.le_refl _)
    rw [e1] at hp; rw [e2] at hq
    have hcd := hk.inc i c d hc hd
    have hl : c.q.length = d.q.length := by rw [hk.len c (List.mem_of_getElem? hc), hk.len d (List.mem_of_getElem? hd)]
    refine ⟨fun t ht ht2 => ?_, fun j L u v hL hu hv => ?_⟩
    · rw [hf t ht ht2]
      unfold interp
      rw [hp, hq]
      unfold interp
      rw [mix_mix hl, frac_frac hcd hlt]
    · rw [hp] at hu; rw [hq] at hv
      unfold interp at hu hv
      have hj := (List.getElem?_eq_some_iff.1 hu).1
      rw [mix_len hl] at hj
      obtain ⟨r, hr⟩ : ∃ r, c.q[j]? = some r := ⟨_, List.getElem?_eq_getElem hj⟩
      obtain ⟨s, hs⟩ : ∃ s, d.q[j]? = some s := ⟨_, List.getElem?_eq_getElem (by omega)⟩
      rw [mix_get hr hs] at hu hv
      obtain rfl := Option.some.inj hu
      obtain rfl := Option.some.inj hv
      have hsl := ok.slow i c d hc hd j L r s hL hr hs
      have h1 := tick_lt hcd
      have h2 := tick_lt hlt
      have hsp := (ok.arm.links L (List.mem_of_getElem? hL)).sp
      obtain ⟨g1, g2⟩ := absR_ge (s - r)
      rw [Rat.intCast_sub] at hsl ⊢
      unfold fracT
      generalize (c.tick : Rat) = x at *
      generalize (d.tick : Rat) = y at *
      generalize (p.tick : Rat) = a1 at *
      generalize (q.tick : Rat) = b1 at *
      have hT : 0 < y - x := by grind
      have hi : 0 ≤ (y - x)⁻¹ := Rat.le_of_lt (Rat.inv_pos.2 hT)
      have e : (y - x) * (y - x)⁻¹ = 1 := by grind
      have hD : 0 ≤ (b1 - a1) * (y - x)⁻¹ := Rat.mul_nonneg (by grind) hi
      have ee : r + (b1 - x) / (y - x) * (s - r) - (r + (a1 - x) / (y - x) * (s - r)) = (s - r) * ((b1 - a1) * (y - x)⁻¹) := by
        rw [Rat.div_def, Rat.div_def]; grind
      rw [ee]
      have m1 := Rat.mul_le_mul_of_nonneg_right (show s - r ≤ L.sp * (y - x) by grind) hD
      have m2 := Rat.mul_le_mul_of_nonneg_right (show -(s - r) ≤ L.sp * (y - x) by grind) hD
      have e3 : L.sp * (y - x) * ((b1 - a1) * (y - x)⁻¹) = L.sp * (b1 - a1) := by
        rw [show L.sp * (y - x) * ((b1 - a1) * (y - x)⁻¹) = L.sp * (b1 - a1) * ((y - x) * (y - x)⁻¹) by grind, e, Rat.mul_one]
      rw [e3] at m1 m2
      rw [Rat.neg_mul] at m2
      exact abs_le m1 m2
theorem cut_keys {ks : List KeyV} {m N : Nat} {f t : Int} (h : KeysOK ks m N) (hne : ks ≠ []) (hf : 0 ≤ f) (hft : f < t) (ht : t ≤ 2000) :
    KeysOK (cutK ks f t) m (3 * N + 260) ∧ (∀ k ∈ cutK ks f t, k.q = (atR ks k.tick).1) ∧ (∀ (i : Nat) (p q : KeyV), (cutK ks f t)[i]? = some p → (cutK ks f t)[i + 1]? = some q → ∀ k ∈ ks, ¬ (p.tick < k.tick ∧ k.tick < q.tick)) := by
  have mem : ∀ {p : KeyV → Prop}, p ⟨f, (atR ks f).2, (atR ks f).1⟩ → (∀ k ∈ ks, f < k.tick → k.tick < t → p (shK 0 k)) → p ⟨t, (atR ks t).2, (atR ks t).1⟩ → ∀ k ∈ cutK ks f t, p k := fun {p} h1 h2 h3 k hk => by
    unfold cutK cutI at hk
    rw [List.take_length] at hk
    rcases List.mem_append.1 hk with hk | hk
    · rcases List.mem_cons.1 hk with rfl | hk
      · exact h1
      · obtain ⟨k', hk', rfl⟩ := List.mem_map.1 hk
        obtain ⟨hm, hb⟩ := List.mem_filter.1 hk'
        unfold inB at hb
        simp only [Bool.and_eq_true, decide_eq_true_eq] at hb
        exact h2 k' hm hb.1 hb.2
    · rw [List.mem_singleton.1 hk]; exact h3
  have inn : ∀ k ∈ ks, f < k.tick → k.tick < t → shK 0 k ∈ cutK ks f t := fun k hk h1 h2 => by
    unfold cutK cutI
    rw [List.take_length]
    refine List.mem_append_left _ (List.mem_cons_of_mem _ (List.mem_map.2 ⟨k, List.mem_filter.2 ⟨hk, ?_⟩, rfl⟩))
    unfold inB
    rw [decide_eq_true h1, decide_eq_true h2]; rfl
  have sorted : (cutK ks f t).Pairwise fun a b => a.tick < b.tick := by
    have s0 : ks.Pairwise fun a b => a.tick < b.tick := by
      rw [List.pairwise_iff_getElem]
      intro i j hi hj hij
      have h1 := h.inc i ks[i] ks[i + 1] (List.getElem?_eq_getElem hi) (List.getElem?_eq_getElem (by omega))
      have h2 := h.mono (show i + 1 ≤ j by omega) (List.getElem?_eq_getElem (by omega)) (List.getElem?_eq_getElem hj)
      omega
    have s1 : ((ks.filter (inB f t)).map (shK 0)).Pairwise fun a b => a.tick < b.tick := by
      rw [List.pairwise_map]
      exact (s0.filter _).imp fun hab => by simp only [shK]; omega
    have bnd : ∀ k ∈ (ks.filter (inB f t)).map (shK 0), f < k.tick ∧ k.tick < t := fun k hk => by
      obtain ⟨k', hk', rfl⟩ := List.mem_map.1 hk
      have hb := (List.mem_filter.1 hk').2
      unfold inB at hb
      simp only [Bool.and_eq_true, decide_eq_true_eq] at hb
      simp only [shK]; omega
    unfold cutK cutI
    rw [List.take_length, List.pairwise_append, List.pairwise_cons]
    refine ⟨⟨fun k hk => (bnd k hk).1, s1⟩, List.pairwise_singleton _ _, fun a ha b hb => ?_⟩
    rw [List.mem_singleton.1 hb]
    rcases List.mem_cons.1 ha with rfl | ha
    · exact hft
    · exact (bnd a ha).2
  have bf := at_bound (t := f) h hne
  have bt := at_bound (t := t) h hne
  refine ⟨⟨mem bf.2 (fun k hk _ _ => h.len k hk) bt.2, mem bf.1 (fun k hk _ _ => by have := h.n k hk; simp only [shK]; omega) bt.1, mem ⟨hf, by simp only; omega⟩ (fun k hk _ _ => by have := h.tick k hk; simp only [shK]; omega) ⟨by simp only; omega, ht⟩, fun i a b ha hb => ?_⟩, mem rfl (fun k hk _ _ => ?_) rfl, fun i p q hp hq k hk hpq => ?_⟩
  · have hi := (List.getElem?_eq_some_iff.1 ha)
    have hj := (List.getElem?_eq_some_iff.1 hb)
    have := List.pairwise_iff_getElem.1 sorted i (i + 1) hi.1 hj.1 (by omega)
    rw [hi.2, hj.2] at this
    exact this
  · obtain ⟨i, hi⟩ := List.getElem?_of_mem hk
    simp only [shK, Int.add_zero]
    exact (at_key h hi).symm
  · have hi := (List.getElem?_eq_some_iff.1 hp)
    have hj := (List.getElem?_eq_some_iff.1 hq)
    have tp : f ≤ p.tick := mem (p := fun k => f ≤ k.tick) (Int.le_refl _) (fun k _ h1 _ => by simp only [shK]; omega) (by simp only; omega) p (List.mem_of_getElem? hp)
    have tq : q.tick ≤ t := mem (p := fun k => k.tick ≤ t) (by simp only; omega) (fun k _ _ h1 => by simp only [shK]; omega) (Int.le_refl _) q (List.mem_of_getElem? hq)
    obtain ⟨j, hjk⟩ := List.getElem?_of_mem (inn k hk (by omega) (by omega))
    have hl := (List.getElem?_eq_some_iff.1 hjk)
    have pw := List.pairwise_iff_getElem.1 sorted
    rcases Nat.lt_trichotomy j i with h1 | h1 | h1
    · have := pw j i hl.1 hi.1 h1
      rw [hl.2, hi.2] at this
      simp only [shK] at this; omega
    · subst h1
      rw [hp] at hjk; cases hjk
      simp only [shK] at hpq; omega
    · by_cases h2 : j = i + 1
      · subst h2
        rw [hq] at hjk; cases hjk
        simp only [shK] at hpq; omega
      · have := pw (i + 1) j hj.1 hl.1 (by omega)
        rw [hj.2, hl.2] at this
        simp only [shK] at this; omega
theorem cut_len (ks : List KeyV) (f t : Int) : 2 ≤ (cutK ks f t).length ∧ (cutK ks f t).length ≤ ks.length + 2 := by
  unfold cutK cutI
  rw [List.take_length]
  have := List.length_filter_le (inB f t) ks
  simp only [List.length_append, List.length_cons, List.length_map, List.length_nil]
  omega
theorem cut_ok {a : ArmV} {ks : List KeyV} (ok : TrackOK a ks) {N : Nat} (h : KeysOK ks a.links.length N) (hN : 3 * N + 260 ≤ 10000) (hl : ks.length ≤ 50) {f t : Int} (hf : 0 ≤ f) (hft : f < t) (ht : t ≤ 2000) : TrackOK a (cutK ks f t) := by
  have hne : ks ≠ [] := fun e => by have := ok.ne; rw [e] at this; simp at this
  obtain ⟨h1, h2, h3⟩ := cut_keys h hne hf hft ht
  have hlen := cut_len ks f t
  refine ⟨ok.arm, ⟨by omega, by omega⟩, ⟨_, hN, h1⟩, fun k hk => by rw [h2 k hk]; exact (track_lim ok k.tick).1, fun i p q hp hq => ?_⟩
  exact (lin_interp ok (h1.inc i p q hp hq) (h2 p (List.mem_of_getElem? hp)) (h2 q (List.mem_of_getElem? hq)) (h3 i p q hp hq)).2
theorem cut_at {a : ArmV} {ks : List KeyV} (ok : TrackOK a ks) {N : Nat} (h : KeysOK ks a.links.length N) {f t : Int} (hf : 0 ≤ f) (hft : f < t) (ht : t ≤ 2000) {n : Int} (h4 : f ≤ n) (h5 : n ≤ t) : (atR (cutK ks f t) n).1 = (atR ks n).1 := by
  have hne : ks ≠ [] := fun e => by have := ok.ne; rw [e] at this; simp at this
  obtain ⟨h1, h2, h3⟩ := cut_keys h hne hf hft ht
  have hlen := cut_len ks f t
  have hfirst : (cutK ks f t)[0]? = some ⟨f, (atR ks f).2, (atR ks f).1⟩ := rfl
  have hlast : (cutK ks f t)[(cutK ks f t).length - 1]? = some ⟨t, (atR ks t).2, (atR ks t).1⟩ := by
    unfold cutK
    rw [List.length_append, List.getElem?_append_right (by simp)]
    simp
  rcases at_three h1 (fun e => by rw [e] at hlen; simp at hlen) n with ⟨z, hz, h6, _⟩ | ⟨i, p, q, hp, hq, h6, h7, h8, _⟩ | ⟨z, hz, h6, h8, _⟩
  · rw [hfirst] at hz; cases hz
    simp only at h6; omega
  · rw [h8]
    exact (lin_interp ok (h1.inc i p q hp hq) (h2 p (List.mem_of_getElem? hp)) (h2 q (List.mem_of_getElem? hq)) (h3 i p q hp hq)).1 n h6 (by omega)
  · rw [hlast] at hz; cases hz
    simp only at h6
    rw [h8, show n = t by omega]
theorem g_tcut (l m : List Int) (x y z : Int) (hl : l.length ≤ 9223372036854775807) (hm : m.length ≤ 9223372036854775807) (K : AV → Prop) (hK : K (.x false [.v (.bool true)])) : Holds (goal_tcut l m x y z K) := by
  refine ⟨?_⟩
  rw [goal_tcut_vc]
  simp only [Int.ofNat_eq_natCast, true_and, and_true, Nat.zero_add, Nat.le_refl, true_implies, true_or, or_true]
  refine ⟨l, rfl, hl, fun a ha => ⟨a, m, rfl, rfl, ⟨MadeA.good ha, hm⟩, fun ks hks h1 h4 => ?_⟩⟩
  have ok := hks.ok ha h1 h4
  have hk := hks.keys
  have hal := ok.arm.n
  have b1 := Int.emod_nonneg x (show (200 : Int) ≠ 0 by decide)
  have b2 := Int.emod_lt_of_pos x (show (0 : Int) < 200 by decide)
  have b3 := Int.emod_nonneg y (show (200 : Int) ≠ 0 by decide)
  have b4 := Int.emod_lt_of_pos y (show (0 : Int) < 200 by decide)
  generalize x % 200 = f at *
  have e1 : IntKind.i64.wrap (IntKind.i64.wrap (f + 1) + y % 200) = f + 1 + y % 200 := by rw [w64 (n := f + 1) (by omega), w64 (by omega)]
  simp only [e1]
  generalize ht : f + 1 + y % 200 = t at *
  have e2 : IntKind.i64.wrap (IntKind.i64.wrap (t - f) + 1) = t - f + 1 := by rw [w64 (n := t - f) (by omega), w64 (by omega)]
  simp only [e2]
  have b5 := Int.emod_nonneg z (show t - f + 1 ≠ 0 by omega)
  have b6 := Int.emod_lt_of_pos z (show 0 < t - f + 1 by omega)
  have e3 : IntKind.i64.wrap (f + z % (t - f + 1)) = f + z % (t - f + 1) := w64 (by omega)
  simp only [e3]
  refine ⟨by omega, by omega, a, ks, rfl, rfl, ⟨ok, by omega, by omega, by omega, by omega⟩, fun us hus => ?_⟩
  obtain rfl := hus.eq
  have hne : ks ≠ [] := fun e => by rw [e] at h1; simp at h1
  have ok2 := cut_ok ok hk (by omega) (by omega) (f := f) (t := t) (by omega) (by omega) (by omega)
  have hk2 := (cut_keys hk hne (f := f) (t := t) (by omega) (by omega) (by omega)).1
  have hl2 := ok2.ne
  have at2 := cut_at ok hk (f := f) (t := t) (by omega) (by omega) (by omega) (n := f + z % (t - f + 1)) (by omega) (by omega)
  obtain ⟨c0, l0⟩ := at_bound (t := f + z % (t - f + 1)) hk hne
  obtain ⟨c1, l1⟩ := at_bound (t := f + z % (t - f + 1)) hk2 (fun e => by rw [e] at hl2; simp at hl2)
  refine ⟨by omega, a, _, rfl, rfl, ok2, ks, a.links.length, 63, rfl, ⟨hk, ⟨by omega, by omega, h1, by omega⟩, by omega, by omega⟩, _, a.links.length, 449, rfl, ⟨hk2, ⟨by omega, by omega, hl2.1, by omega⟩, by omega, by omega⟩, _, _, _, _, rfl, rfl, ⟨by rw [l0]; omega, by rw [l1]; omega⟩, ?_⟩
  rw [decide_eq_true at2.symm]
  exact hK
theorem spec_tcut (l m : List Int) (x y z : Int) (hl : l.length ≤ 9223372036854775807) (hm : m.length ≤ 9223372036854775807) : Eng.Spec Tryd.prog tabG debT 10 [.x false [.s 1 (ints l)], .x false [.s 1 (ints m)], iA .i64 x, iA .i64 y, iA .i64 z] (fun av => av = .x false [.v (.bool true)]) :=
  spec_ofL T62ok mixed Tryd.func10 (by kernel_rfl) (by kernel_rfl) (by rfl) (g_tcut l m x y z hl hm _ rfl)
end Go.Proofs
