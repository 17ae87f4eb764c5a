/- Still, with velocities that are not small; SingleStill. -/
import Derived.Test.YtdbkndfkgdbhpaaDoorSA
/- Still, with velocities that are not small; SingleStill. -/
namespace Go.Proofs
open Go Go.Eng
def inv_velW (a : ArmV) (b : Nat) (qs : List Rat) (d : Nat) (vs : List Rat) : LI := fun _ => .inv ⟨VlX, fun x => ⟨[(1, sR b qs), (2, sR d vs), (6, .x false [.p 6 0]), (8, sVv 132800001 x.cs), (10, .x false [.p 10 0]), (35, iA .i64 a.links.length), (36, iA .i64 x.i)],
  [(6, .box 27 (zeroR ++ zeroR)), (10, .box 27 [.r x.x (64 + 664030000 * x.i), .r x.y (64 + 664030000 * x.i)])]⟩, VlI a qs vs, fun x => a.links.length - x.i, fun _ => 0⟩
def stillV (qs ws : List Rat) : List Rat := List.zipWith (fun q w => w / rateV q 1) qs ws
structure StX where
  fs : List FrV
  f : FrV
  wl : List (Rat × Nat)
  i : Nat
structure StI (a : ArmV) (qs : List Rat) (x : StX) : Prop where
  eq : x.fs ++ [x.f] = framesV (baseV a) a.links qs
  len : x.fs.length = a.links.length
  null : NullW (colV x.f x.fs) x.wl
  bits : ∀ p ∈ x.wl, p.2 ≤ 531200005
  wlen : x.wl.length = a.links.length
  le : x.i ≤ a.links.length
def inv_still (a : ArmV) (b : Nat) (qs : List Rat) : LI := fun _ => .inv ⟨StX, fun x => ⟨[(1, sR b qs), (8, .x false [.s 3 (lRb x.wl)]), (9, .x false [.w 500 0 x.i]), (27, iA .i64 a.links.length), (28, iA .i64 x.i)],
  [(500, rowR 531210000 ((stillV qs (x.wl.map (·.1))).take x.i))]⟩, StI a qs, fun x => a.links.length - x.i, fun _ => 0⟩
def ot_sVelW : OT := fun id => bif id.beq 10 then ([0, 1, 2, 3, 4, 5, 6, 7, 8, 9, 10, 11, 12, 13, 14, 15, 16], [[], [], [], [1, 2], [3, 1, 2], [], [], [5, 6], [7, 5, 6], [], [], [9, 10], [11, 9, 10], [8, 7, 5, 6, 12, 11, 9, 10], [4, 3, 1, 2, 13, 8, 7, 5, 6, 12, 11, 9, 10], [0, 14, 4, 3, 1, 2, 13, 8, 7, 5, 6, 12, 11, 9, 10], [15, 0, 14, 4, 3, 1, 2, 13, 8, 7, 5, 6, 12, 11, 9, 10]]) else ([], [])
def goal_sVelW (a : ArmV) (b : Nat) (qs : List Rat) (d : Nat) (vs : List Rat) (K : AV → Prop) : Prop := goalL T125 ot_sVelW (inv_velW a b qs d vs) Tryd.f28 [armA a, sR b qs, sR d vs] K
theorem goal_sVelW_vc (a : ArmV) (b : Nat) (qs : List Rat) (d : Nat) (vs : List Rat) (K : AV → Prop) : goal_sVelW a b qs d vs K = (
 ∃ (a_1 : ArmV),
 ∃ (b_1 : Nat),
 ∃ (qs_1 : List Rat),
 [Ch.v (Value.string (ArmV.name a)), Ch.r (ArmV.x a) (63 : Nat), Ch.r (ArmV.y a) (63 : Nat), Ch.v (Value.bool (ArmV.half a)),
 Ch.r (ArmV.t a) (63 : Nat), Ch.s (16 : Nat) (List.map linkCh (ArmV.links a))] =
 [Ch.v (Value.string (ArmV.name a_1)), Ch.r (ArmV.x a_1) (63 : Nat), Ch.r (ArmV.y a_1) (63 : Nat),
 Ch.v (Value.bool (ArmV.half a_1)), Ch.r (ArmV.t a_1) (63 : Nat), Ch.s (16 : Nat) (List.map linkCh (ArmV.links a_1))] ∧
 lR b qs = lR b_1 qs_1 ∧
 (GoodArm a_1 ∧ b_1 ≤ (400 : Nat) ∧ List.length qs_1 = List.length (ArmV.links a_1)) ∧
 ∀ (fs : List FrV) (f : FrV),
 fs ++ [f] = framesV (baseV a_1) (ArmV.links a_1) qs_1 →
 List.length fs = List.length (ArmV.links a_1) →
 bif Int.ofNat (List.length (lR d vs)) != Int.ofNat (List.length (lR b qs)) then
 K
 (AV.t
 [(true,
 [Ch.v (Value.bool false), Ch.v (Value.string (ByteArray.mk (Array.mk []))),
 Ch.v (Value.string (ByteArray.mk (Array.mk []))), Ch.v (Value.bool false),
 Ch.v (Value.string (ByteArray.mk (Array.mk []))), Ch.v (Value.string (ByteArray.mk (Array.mk [])))]),
 (false, [Ch.v (Value.int IntKind.i64 (1 : Int))])])
 else
 ((-9223372036854775808 : Int) ≤ (0 : Int) ∧ (0 : Int) < (9223372036854775808 : Int)) ∧
 ((-9223372036854775808 : Int) ≤ (0 : Int) ∧ (0 : Int) < (9223372036854775808 : Int)) ∧
 (∃ (x : VlX),
 (VlI a qs vs x ∧ OfNat.ofNat (0 : Nat) = (0 : Nat)) ∧
 (3 : Nat) = (3 : Nat) ∧
 lR b qs = lR b qs ∧
 (3 : Nat) = (3 : Nat) ∧
 lR d vs = lR d vs ∧
 (0 : Nat) = (0 : Nat) ∧
 (6 : Nat) = (6 : Nat) ∧
 List.map (vecN (132800001 : Nat)) (colV f fs) = List.map (vecN (132800001 : Nat)) (VlX.cs x) ∧
 (0 : Nat) = (0 : Nat) ∧
 Int.ofNat (List.length (List.map (vecN (132800001 : Nat)) (colV f fs))) =
 Int.ofNat (List.length (ArmV.links a)) ∧
 (0 : Int) = Int.ofNat (VlX.i x) ∧
 (27 : Nat) = (27 : Nat) ∧
 false = false ∧
 ByteArray.mk (Array.mk []) = ByteArray.mk (Array.mk []) ∧
 ByteArray.mk (Array.mk []) = ByteArray.mk (Array.mk []) ∧
 false = false ∧
 ByteArray.mk (Array.mk []) = ByteArray.mk (Array.mk []) ∧
 ByteArray.mk (Array.mk []) = ByteArray.mk (Array.mk []) ∧
 (27 : Nat) = (27 : Nat) ∧
 (((0 : Int) : Int) : Rat) = VlX.x x ∧
 (64 : Nat) ≤ (64 : Nat) + (664030000 : Nat) * VlX.i x ∧
 (((0 : Int) : Int) : Rat) = VlX.y x ∧
 (64 : Nat) ≤ (64 : Nat) + (664030000 : Nat) * VlX.i x ∧ True) ∧
 ∀ (x : VlX),
 VlI a qs vs x →
 OfNat.ofNat (0 : Nat) = (0 : Nat) →
 bif decide (Int.ofNat (VlX.i x) < Int.ofNat (List.length (ArmV.links a))) then
 ((0 : Int) ≤ Int.ofNat (VlX.i x) ∧
 Int.ofNat (VlX.i x) < Int.ofNat (List.length (List.map (vecN (132800001 : Nat)) (VlX.cs x)))) ∧
 ∃ (q : Rat),
 ∃ (n : Nat),
 ∃ (q_1 : Rat),
 ∃ (n_1 : Nat),
 ldE (List.map (vecN (132800001 : Nat)) (VlX.cs x)) (Int.toNat (Int.ofNat (VlX.i x))) (0 : Nat)
 (6 : Nat) =
 some [Ch.r q n, Ch.r q_1 n_1] ∧
 ((0 : Int) ≤ Int.ofNat (VlX.i x) ∧ Int.ofNat (VlX.i x) < Int.ofNat (List.length (lR b qs))) ∧
 ∃ (q_2 : Rat),
 ∃ (n_2 : Nat),
 ldE (lR b qs) (Int.toNat (Int.ofNat (VlX.i x))) (0 : Nat) (3 : Nat) =
 some [Ch.r q_2 n_2] ∧
 ((0 : Int) ≤ Int.ofNat (VlX.i x) ∧
 Int.ofNat (VlX.i x) < Int.ofNat (List.length (lR d vs))) ∧
 ∃ (q_3 : Rat),
 ∃ (n_3 : Nat),
 ldE (lR d vs) (Int.toNat (Int.ofNat (VlX.i x))) (0 : Nat) (3 : Nat) =
 some [Ch.r q_3 n_3] ∧
 (2 : Nat) * n_2 + n_3 ≤ (4294967000 : Nat) ∧
 ∀ (n_4 : Nat),
 n_4 ≤ (2 : Nat) * n_2 + n_3 + (200 : Nat) →
 (n + n_4 ≤ (4294967296 : Nat) ∧ n_1 + n_4 ≤ (4294967296 : Nat)) ∧
 ((64 : Nat) + (664030000 : Nat) * VlX.i x + (n + n_4) ≤
 (4294967290 : Nat) ∧
 (64 : Nat) + (664030000 : Nat) * VlX.i x + (n_1 + n_4) ≤
 (4294967290 : Nat)) ∧
 ∃ (x' : VlX),
 (VlI a qs vs x' ∧
 OfNat.ofNat (0 : Nat) = (0 : Nat) ∧
 List.length (ArmV.links a) - VlX.i x' <
 List.length (ArmV.links a) - VlX.i x) ∧
 (3 : Nat) = (3 : Nat) ∧
 lR b qs = lR b qs ∧
 (3 : Nat) = (3 : Nat) ∧
 lR d vs = lR d vs ∧
 (0 : Nat) = (0 : Nat) ∧
 (6 : Nat) = (6 : Nat) ∧
 List.map (vecN (132800001 : Nat)) (VlX.cs x) =
 List.map (vecN (132800001 : Nat)) (VlX.cs x') ∧
 (0 : Nat) = (0 : Nat) ∧
 Int.ofNat (List.length (ArmV.links a)) =
 Int.ofNat (List.length (ArmV.links a)) ∧
 IntKind.wrap IntKind.i64
 (Int.ofNat (VlX.i x) + (1 : Int)) =
 Int.ofNat (VlX.i x') ∧
 (27 : Nat) = (27 : Nat) ∧
 false = false ∧
 ByteArray.mk (Array.mk []) =
 ByteArray.mk (Array.mk []) ∧
 ByteArray.mk (Array.mk []) =
 ByteArray.mk (Array.mk []) ∧
 false = false ∧
 ByteArray.mk (Array.mk []) =
 ByteArray.mk (Array.mk []) ∧
 ByteArray.mk (Array.mk []) =
 ByteArray.mk (Array.mk []) ∧
 (27 : Nat) = (27 : Nat) ∧
 VlX.x x +
 q * rateV q_2 q_3 =
 VlX.x x' ∧
 (64 : Nat) +
 (664030000 :
 Nat) *
 VlX.i x +
 (n + n_4) +
 (1 : Nat) ≤
 (64 : Nat) +
 (664030000 : Nat) *
 VlX.i x' ∧
 VlX.y x +
 q_1 *
 rateV q_2 q_3 =
 VlX.y x' ∧
 (64 : Nat) +
 (664030000 :
 Nat) *
 VlX.i x +
 (n_1 + n_4) +
 (1 : Nat) ≤
 (64 : Nat) +
 (664030000 :
 Nat) *
 VlX.i x' ∧
 True
 else
 K
 (AV.t
 [(true,
 [Ch.r (VlX.x x) ((64 : Nat) + (664030000 : Nat) * VlX.i x),
 Ch.r (VlX.y x) ((64 : Nat) + (664030000 : Nat) * VlX.i x)]),
 (false, [Ch.v (Value.int IntKind.i64 (0 : Int))])])) := by kernel_rfl
theorem g_sVelW (a : ArmV) (b : Nat) (qs : List Rat) (d : Nat) (vs : List Rat) (hc : (GoodArm a) ∧ (b ≤ 400 ∧ qs.length = a.links.length) ∧ (d ≤ 531210000 ∧ vs.length = a.links.length)) (K : AV → Prop) (hK : ∀ (fs : List FrV) (f : FrV), fs ++ [f] = framesV (baseV a) a.links qs → fs.length = a.links.length → ∀ n m, n ≤ 1992090064 → m ≤ 1992090064 → K (.t [(true, [.r (velV (colV f fs) qs vs 0 0).1 n, .r (velV (colV f fs) qs vs 0 0).2 m]), (false, [.v (.int .i64 0)])])) : Holds (goal_sVelW a b qs d vs K) := by
  refine ⟨?_⟩
  rw [goal_sVelW_vc]
  try simp only [Int.ofNat_eq_natCast, true_and, and_true, Nat.zero_add, Nat.le_refl, true_implies, true_or, or_true]
  obtain ⟨hg, ⟨hb, hq⟩, hd, hv⟩ := hc
  have hn := hg.n
  have hcl : ∀ (fs : List FrV) f, (colV f fs).length = fs.length := fun _ _ => by simp [colV]
  refine ⟨a, b, qs, rfl, rfl, ⟨hg, hb, hq⟩, fun fs f hf hl => ?_⟩
  simp only [lR_len, List.length_map, hcl]
  refine bif_mk (fun h => by simp [hq, hv] at h) (fun _ => ⟨by omega, by omega, ⟨⟨colV f fs, 0, 0, 0⟩, ⟨by rw [hcl, hl], ⟨fs, f, hf, hl, rfl⟩, rfl, by simp⟩, rfl, by omega, rfl, rfl, by simp, rfl, by simp⟩, fun x hx => bif_mk (fun hp => ?_) (fun hp => ?_)⟩)
  · have hp : x.i < a.links.length := by have := of_decide_eq_true hp; omega
    have hxl := hx.len
    obtain ⟨c, hcx⟩ : ∃ c, x.cs[x.i]? = some c := ⟨_, List.getElem?_eq_getElem (by omega)⟩
    obtain ⟨q, hqx⟩ : ∃ q, qs[x.i]? = some q := ⟨_, List.getElem?_eq_getElem (by omega)⟩
    obtain ⟨w, hwx⟩ : ∃ w, vs[x.i]? = some w := ⟨_, List.getElem?_eq_getElem (by omega)⟩
    have he := hx.eq
    rw [drop_get hcx, drop_get hqx, drop_get hwx, velV] at he
    exact ⟨by omega, _, _, _, _, vec_ld (by simpa using hcx), by omega, _, _, lR_ld (by simpa using hqx), by omega, _, _, lR_ld (by simpa using hwx), by omega, fun n hn' => ⟨by omega, by omega, ⟨x.cs, _, _, x.i + 1⟩, ⟨⟨hxl, hx.cs, he, hp⟩, by simp only; omega⟩, rfl, by rw [w64 (by omega)]; simp, rfl, by simp only; omega, rfl, by simp only; omega⟩⟩
  · have hp : x.i = a.links.length := by have := of_decide_eq_false hp; have := hx.le; omega
    obtain ⟨fs', f', h1, h2, h3⟩ := hx.cs
    have hxl := hx.len
    have he := hx.eq
    rw [List.drop_of_length_le (by omega : x.cs.length ≤ x.i), velV] at he
    have := hK fs' f' h1 h2 (64 + 664030000 * x.i) (64 + 664030000 * x.i) (by omega) (by omega)
    rw [← h3, ← he] at this
    exact this
    all_goals intros; contradiction
def c_sVelW : Ctr := fun as0 => match as0 with
  | [.x true xs, .x false [.s 3 ys], .x false [.s 3 zs]] => some fun K => ∃ (a : ArmV) (b : Nat) (qs : List Rat) (d : Nat) (vs : List Rat), xs = armCh a ∧ ys = lR b qs ∧ zs = lR d vs ∧ ((GoodArm a) ∧ (b ≤ 400 ∧ qs.length = a.links.length) ∧ (d ≤ 531210000 ∧ vs.length = a.links.length)) ∧ (∀ (fs : List FrV) (f : FrV), fs ++ [f] = framesV (baseV a) a.links qs → fs.length = a.links.length → ∀ n m, n ≤ 1992090064 → m ≤ 1992090064 → K (.t [(true, [.r (velV (colV f fs) qs vs 0 0).1 n, .r (velV (colV f fs) qs vs 0 0).2 m]), (false, [.v (.int .i64 0)])]))
  | _ => none
theorem ok_sVelW : CtrOK Tryd.prog tabG debT 28 c_sVelW := by
  refine ⟨enters Tryd.func28 (by kernel_rfl), fun l T hT K hK => ?_⟩
  unfold c_sVelW at hT
  split at hT
  · cases hT
    obtain ⟨a, b, qs, d, vs, rfl, rfl, rfl, hc, hK⟩ := hK
    exact spec_ofL T125ok mixed Tryd.func28 (by kernel_rfl) (by kernel_rfl) (by rfl) (g_sVelW _ _ _ _ _ hc K hK)
  · cases hT
def L126 : List (Nat × Ctr) := (28, c_sVelW) :: L125
def T126 : Tabs := mkT L126 M122 X4
theorem L126ok : CtrsOK Tryd.prog tabG debT L126 := .cons ok_sVelW L125ok
theorem T126ok : TabsOK Tryd.prog tabG debT T126 := mkTok L126ok M122ok X4ok
def ot_sStill : OT := fun id => bif id.beq 11 then ([0, 1, 2, 3, 4, 5, 6, 7, 14, 8, 9, 10, 11, 12, 13, 15, 16], [[], [], [0, 1], [2, 0, 1], [], [], [4, 5], [6, 4, 5], [], [7, 6, 4, 5, 8], [3, 2, 0, 1, 9, 7, 6, 4, 5, 8], [10, 3, 2, 0, 1, 9, 7, 6, 4, 5, 8], [11, 10, 3, 2, 0, 1, 9, 7, 6, 4, 5, 8], [11, 10, 3, 2, 0, 1, 9, 7, 6, 4, 5, 8], [], [14, 12, 11, 10, 3, 2, 0, 1, 9, 7, 6, 4, 5, 8], [13, 11, 10, 3, 2, 0, 1, 9, 7, 6, 4, 5, 8, 15, 14, 12]]) else ([], [])
def goal_sStill (a : ArmV) (b : Nat) (qs : List Rat) (K : AV → Prop) : Prop := goalL T126 ot_sStill (inv_still a b qs) Tryd.f43 [armA a, sR b qs] K
theorem goal_sStill_vc (a : ArmV) (b : Nat) (qs : List Rat) (K : AV → Prop) : goal_sStill a b qs K = (
 ∃ (a_1 : ArmV),
 ∃ (b_1 : Nat),
 ∃ (qs_1 : List Rat),
 [Ch.v (Value.string (ArmV.name a)), Ch.r (ArmV.x a) (63 : Nat), Ch.r (ArmV.y a) (63 : Nat), Ch.v (Value.bool (ArmV.half a)),
 Ch.r (ArmV.t a) (63 : Nat), Ch.s (16 : Nat) (List.map linkCh (ArmV.links a))] =
 [Ch.v (Value.string (ArmV.name a_1)), Ch.r (ArmV.x a_1) (63 : Nat), Ch.r (ArmV.y a_1) (63 : Nat),
 Ch.v (Value.bool (ArmV.half a_1)), Ch.r (ArmV.t a_1) (63 : Nat), Ch.s (16 : Nat) (List.map linkCh (ArmV.links a_1))] ∧
 lR b qs = lR b_1 qs_1 ∧
 (GoodArm a_1 ∧ b_1 ≤ (400 : Nat) ∧ List.length qs_1 = List.length (ArmV.links a_1)) ∧
 ∀ (fs : List FrV) (f : FrV),
 fs ++ [f] = framesV (baseV a_1) (ArmV.links a_1) qs_1 →
 List.length fs = List.length (ArmV.links a_1) →
 ∃ (l : List (Rat × Rat)),
 ∃ (n : Nat),
 List.map (vecN (132800001 : Nat)) (colV f fs) = List.map (vecN n) l ∧
 (((1 : Nat) ≤ List.length l ∧ List.length l ≤ (3 : Nat)) ∧ (64 : Nat) ≤ n ∧ n ≤ (200000000 : Nat)) ∧
 (∀ (wl : List (Rat × Nat)),
 (∀ (p : Rat × Nat), p ∈ wl → Prod.snd p ≤ (4 : Nat) * n + (1 : Nat)) →
 NullW l wl →
 lRb wl ≠ [] ∧
 (∃ (x : StX),
 (StI a qs x ∧ OfNat.ofNat (0 : Nat) = (0 : Nat)) ∧
 (3 : Nat) = (3 : Nat) ∧
 lR b qs = lR b qs ∧
 (3 : Nat) = (3 : Nat) ∧
 lRb wl = lRb (StX.wl x) ∧
 Value.slice none (0 : Nat) (0 : Nat) = Value.slice none (0 : Nat) (0 : Nat) ∧
 (0 : Nat) = (0 : Nat) ∧
 StX.i x = (0 : Nat) ∧
 Int.ofNat (List.length (lRb wl)) = Int.ofNat (List.length (ArmV.links a)) ∧
 (0 : Int) = Int.ofNat (StX.i x) ∧
 List.map (fun (q : Rat) => [Ch.r q (531210000 : Nat)])
 (List.take (StX.i x)
 (stillV qs (List.map (fun (x : Rat × Nat) => Prod.fst x) (StX.wl x)))) =
 [] ∧
 True) ∧
 ∀ (x : StX),
 StI a qs x →
 OfNat.ofNat (0 : Nat) = (0 : Nat) →
 bif decide (Int.ofNat (StX.i x) < Int.ofNat (List.length (ArmV.links a))) then
 ((0 : Int) ≤ Int.ofNat (StX.i x) ∧
 Int.ofNat (StX.i x) < Int.ofNat (List.length (lRb (StX.wl x)))) ∧
 ∃ (q : Rat),
 ∃ (n : Nat),
 ldE (lRb (StX.wl x)) (Int.toNat (Int.ofNat (StX.i x))) (0 : Nat) (3 : Nat) =
 some [Ch.r q n] ∧
 ((0 : Int) ≤ Int.ofNat (StX.i x) ∧
 Int.ofNat (StX.i x) < Int.ofNat (List.length (lR b qs))) ∧
 ∃ (q_1 : Rat),
 ∃ (n_1 : Nat),
 ldE (lR b qs) (Int.toNat (Int.ofNat (StX.i x))) (0 : Nat) (3 : Nat) =
 some [Ch.r q_1 n_1] ∧
 ((-9223372036854775808 : Int) ≤ (1 : Int) ∧
 (1 : Int) < (9223372036854775808 : Int)) ∧
 (2 : Nat) * n_1 + (64 : Nat) ≤ (4294967000 : Nat) ∧
 ∀ (n_2 : Nat),
 n_2 ≤ (2 : Nat) * n_1 + (64 : Nat) + (200 : Nat) →
 n + n_2 ≤ (4294967296 : Nat) ∧
 (rateV q_1 (((1 : Int) : Int) : Rat) ≠ (OfNat.ofNat (0 : Nat) : Rat) →
 ((StX.i x + (1 : Nat)) * (40 : Nat) ≤ (140737488355328 : Nat) ∧
 StX.i x + (1 : Nat) ≤ (9223372036854775807 : Nat)) ∧
 ∃ (x' : StX),
 (StI a qs x' ∧
 OfNat.ofNat (0 : Nat) = (0 : Nat) ∧
 List.length (ArmV.links a) - StX.i x' <
 List.length (ArmV.links a) - StX.i x) ∧
 (3 : Nat) = (3 : Nat) ∧
 lR b qs = lR b qs ∧
 (3 : Nat) = (3 : Nat) ∧
 lRb (StX.wl x) = lRb (StX.wl x') ∧
 (0 : Nat) = (0 : Nat) ∧
 StX.i x + (1 : Nat) = StX.i x' ∧
 Int.ofNat (List.length (ArmV.links a)) =
 Int.ofNat (List.length (ArmV.links a)) ∧
 IntKind.wrap IntKind.i64
 (Int.ofNat (StX.i x) + (1 : Int)) =
 Int.ofNat (StX.i x') ∧
 (25 : Nat) = (25 : Nat) ∧
 (3 : Nat) = (3 : Nat) ∧
 (List.take (StX.i x)
 (List.map
 (fun (q : Rat) =>
 [Ch.r q
 (531210000 : Nat)])
 (List.take (StX.i x)
 (stillV qs
 (List.map
 (fun
 (x :
 Rat × Nat) =>
 Prod.fst x)
 (StX.wl x))))) ++
 [[Ch.r
 (q /
 rateV q_1 (((1 : Int) : Int) : Rat))
 (n + n_2)]] =
 List.map
 (fun (q : Rat) =>
 [Ch.r q (531210000 : Nat)])
 (List.take (StX.i x')
 (stillV qs
 (List.map
 (fun (x : Rat × Nat) =>
 Prod.fst x)
 (StX.wl x')))) ∨
 RowLE
 (List.take (StX.i x)
 (List.map
 (fun (q : Rat) =>
 [Ch.r q
 (531210000 : Nat)])
 (List.take (StX.i x)
 (stillV qs
 (List.map
 (fun
 (x :
 Rat × Nat) =>
 Prod.fst x)
 (StX.wl x))))) ++
 [[Ch.r
 (q /
 rateV q_1 (((1 : Int) : Int) : Rat))
 (n + n_2)]])
 (List.map
 (fun (q : Rat) =>
 [Ch.r q (531210000 : Nat)])
 (List.take (StX.i x')
 (stillV qs
 (List.map
 (fun (x : Rat × Nat) =>
 Prod.fst x)
 (StX.wl x')))))) ∧
 True) ∧
 (rateV q_1 (((1 : Int) : Int) : Rat) = (OfNat.ofNat (0 : Nat) : Rat) →
 ((StX.i x + (1 : Nat)) * (40 : Nat) ≤ (140737488355328 : Nat) ∧
 StX.i x + (1 : Nat) ≤ (9223372036854775807 : Nat)) ∧
 ∃ (x' : StX),
 (StI a qs x' ∧
 OfNat.ofNat (0 : Nat) = (0 : Nat) ∧
 List.length (ArmV.links a) - StX.i x' <
 List.length (ArmV.links a) - StX.i x) ∧
 (3 : Nat) = (3 : Nat) ∧
 lR b qs = lR b qs ∧
 (3 : Nat) = (3 : Nat) ∧
 lRb (StX.wl x) = lRb (StX.wl x') ∧
 (0 : Nat) = (0 : Nat) ∧
 StX.i x + (1 : Nat) = StX.i x' ∧
 Int.ofNat (List.length (ArmV.links a)) =
 Int.ofNat (List.length (ArmV.links a)) ∧
 IntKind.wrap IntKind.i64
 (Int.ofNat (StX.i x) + (1 : Int)) =
 Int.ofNat (StX.i x') ∧
 (25 : Nat) = (25 : Nat) ∧
 (3 : Nat) = (3 : Nat) ∧
 (List.take (StX.i x)
 (List.map
 (fun (q : Rat) =>
 [Ch.r q
 (531210000 : Nat)])
 (List.take (StX.i x)
 (stillV qs
 (List.map
 (fun
 (x :
 Rat × Nat) =>
 Prod.fst x)
 (StX.wl x))))) ++
 [[Ch.v (Value.bool false),
 Ch.v
 (Value.string
 (ByteArray.mk
 (Array.mk []))),
 Ch.v
 (Value.string
 (ByteArray.mk
 (Array.mk [])))]] =
 List.map
 (fun (q : Rat) =>
 [Ch.r q (531210000 : Nat)])
 (List.take (StX.i x')
 (stillV qs
 (List.map
 (fun (x : Rat × Nat) =>
 Prod.fst x)
 (StX.wl x')))) ∨
 RowLE
 (List.take (StX.i x)
 (List.map
 (fun (q : Rat) =>
 [Ch.r q
 (531210000 : Nat)])
 (List.take (StX.i x)
 (stillV qs
 (List.map
 (fun
 (x :
 Rat × Nat) =>
 Prod.fst x)
 (StX.wl x))))) ++
 [[Ch.v (Value.bool false),
 Ch.v
 (Value.string
 (ByteArray.mk
 (Array.mk []))),
 Ch.v
 (Value.string
 (ByteArray.mk
 (Array.mk [])))]])
 (List.map
 (fun (q : Rat) =>
 [Ch.r q (531210000 : Nat)])
 (List.take (StX.i x')
 (stillV qs
 (List.map
 (fun (x : Rat × Nat) =>
 Prod.fst x)
 (StX.wl x')))))) ∧
 True)
 else
 K
 (AV.t
 [(false,
 [Ch.s (3 : Nat)
 (List.take (StX.i x)
 (List.drop (0 : Nat)
 (List.map (fun (q : Rat) => [Ch.r q (531210000 : Nat)])
 (List.take (StX.i x)
 (stillV qs
 (List.map (fun (x : Rat × Nat) => Prod.fst x) (StX.wl x)))))))]),
 (false, [Ch.v (Value.int IntKind.i64 (0 : Int))])])) ∧
 (rankV l = Int.ofNat (List.length l) →
 True ∧
 K
 (AV.t
 [(false, [Ch.v (Value.slice none (0 : Nat) (0 : Nat))]),
 (false, [Ch.v (Value.int IntKind.i64 (4 : Int))])]))) := by kernel_rfl
theorem g_sStill (a : ArmV) (b : Nat) (qs : List Rat) (hc : (GoodArm a) ∧ (b ≤ 400 ∧ qs.length = a.links.length)) (K : AV → Prop) (hK : ∀ (fs : List FrV) (f : FrV), fs ++ [f] = framesV (baseV a) a.links qs → fs.length = a.links.length → (∀ wl, NullW (colV f fs) wl → K (.t [(false, [.s 3 (lR 531210000 (stillV qs (wl.map (·.1))))]), (false, [.v (.int .i64 0)])])) ∧ (rankV (colV f fs) = a.links.length → K (.t [(false, [.v (.slice none 0 0)]), (false, [.v (.int .i64 4)])]))) : Holds (goal_sStill a b qs K) := by
  refine ⟨?_⟩
  rw [goal_sStill_vc]
  try simp only [Int.ofNat_eq_natCast, true_and, and_true, Nat.zero_add, Nat.le_refl, true_implies, true_or, or_true]
  obtain ⟨hg, hb, hq⟩ := hc
  have hn := hg.n
  refine ⟨a, b, qs, rfl, rfl, ⟨hg, hb, hq⟩, fun fs f hf hl => ?_⟩
  have cl : (colV f fs).length = a.links.length := by simp [colV, hl]
  obtain ⟨k1, k2⟩ := hK fs f hf hl
  refine ⟨colV f fs, 132800001, rfl, ⟨by omega, by omega, by omega⟩, fun wl hwb hw => ⟨?_, ⟨⟨fs, f, wl, 0⟩, ⟨hf, hl, hw, fun p hp => by have := hwb p hp; omega, by rw [hw.len, cl], by simp⟩, rfl, rfl, by simp [lRb, hw.len, cl], rfl, rfl⟩, fun x hx => bif_mk (fun hp => ?_) (fun hp => ?_)⟩, fun hr => k2 (by rw [hr, cl])⟩
  · intro e
    have h0 : (lRb wl).length = a.links.length := by simp [lRb, hw.len, cl]
    rw [e] at h0
    simp only [List.length_nil] at h0
    omega
  · have hp : x.i < a.links.length := by have := of_decide_eq_true hp; omega
    have hxw := hx.wlen
    obtain ⟨p, hpx⟩ : ∃ p, x.wl[x.i]? = some p := ⟨_, List.getElem?_eq_getElem (by omega)⟩
    obtain ⟨q, hqx⟩ : ∃ q, qs[x.i]? = some q := ⟨_, List.getElem?_eq_getElem (by omega)⟩
    have hb2 := hx.bits p (List.mem_of_getElem? hpx)
    have ht : (stillV qs (x.wl.map (·.1)))[x.i]? = some (p.1 / rateV q 1) := by simp [stillV, List.getElem?_zipWith, hpx, hqx]
    refine ⟨by simp [lRb]; omega, p.1, p.2, by simp only [ldE, lRb, List.getElem?_map, Int.toNat_natCast, hpx]; rfl, by rw [lR_len]; omega, _, _, lR_ld (by simpa using hqx), by omega, by omega, fun r hr => ⟨by omega, fun _ => ⟨by omega, ⟨x.fs, x.f, x.wl, x.i + 1⟩, ⟨⟨hx.eq, hx.len, hx.null, hx.bits, hx.wlen, hp⟩, by simp only; omega⟩, rfl, rfl, by rw [w64 (by omega)]; simp, .inr ?_⟩, fun h0 => absurd h0 (rate_ne q)⟩⟩
    rw [List.take_of_length_le (by rw [List.length_map, List.length_take]; omega), List.take_add_one, ht]
    exact lR_snoc _ _ (by omega)
  · have hp : x.i = a.links.length := by have := of_decide_eq_false hp; have := hx.le; omega
    have hxw := hx.wlen
    have := (hK x.fs x.f hx.eq hx.len).1 x.wl hx.null
    rw [List.drop_zero, List.take_of_length_le (by rw [List.length_map, List.length_take]; omega), List.take_of_length_le (by simp [stillV]; omega)]
    exact this
def c_sStill : Ctr := fun as0 => match as0 with
  | [.x true xs, .x false [.s 3 ys]] => some fun K => ∃ (a : ArmV) (b : Nat) (qs : List Rat), xs = armCh a ∧ ys = lR b qs ∧ ((GoodArm a) ∧ (b ≤ 400 ∧ qs.length = a.links.length)) ∧ (∀ (fs : List FrV) (f : FrV), fs ++ [f] = framesV (baseV a) a.links qs → fs.length = a.links.length → (∀ wl, NullW (colV f fs) wl → K (.t [(false, [.s 3 (lR 531210000 (stillV qs (wl.map (·.1))))]), (false, [.v (.int .i64 0)])])) ∧ (rankV (colV f fs) = a.links.length → K (.t [(false, [.v (.slice none 0 0)]), (false, [.v (.int .i64 4)])])))
  | _ => none
theorem ok_sStill : CtrOK Tryd.prog tabG debT 43 c_sStill := by
  refine ⟨enters Tryd.func43 (by kernel_rfl), fun l T hT K hK => ?_⟩
  unfold c_sStill at hT
  split at hT
  · cases hT
    obtain ⟨a, b, qs, rfl, rfl, hc, hK⟩ := hK
    exact spec_ofL T126ok mixed Tryd.func43 (by kernel_rfl) (by kernel_rfl) (by rfl) (g_sStill _ _ _ hc K hK)
  · cases hT
def L127 : List (Nat × Ctr) := (43, c_sStill) :: L126
def T127 : Tabs := mkT L127 M122 X4
theorem L127ok : CtrsOK Tryd.prog tabG debT L127 := .cons ok_sStill L126ok
theorem T127ok : TabsOK Tryd.prog tabG debT T127 := mkTok L127ok M122ok X4ok
def ot_kNz : OT := fun _ => ([], [])
def goal_kNz (q : Rat) (n : Nat) (K : AV → Prop) : Prop := goalL T127 ot_kNz noL Tryd.f46 [rA q n] K
theorem goal_kNz_vc (q : Rat) (n : Nat) (K : AV → Prop) : goal_kNz q n K = (
 n ≤ (4294967296 : Nat) ∧ K (AV.x false [Ch.v (Value.bool (sgnR q != (0 : Int)))])) := by kernel_rfl
theorem g_kNz (q : Rat) (n : Nat) (hc : (n ≤ 4294967296)) (K : AV → Prop) (hK : K (.x false [.v (.bool (sgnR q != 0))])) : Holds (goal_kNz q n K) := by
  refine ⟨?_⟩
  rw [goal_kNz_vc]
  try simp only [Int.ofNat_eq_natCast, true_and, and_true, Nat.zero_add, Nat.le_refl, true_implies, true_or, or_true]
  exact ⟨hc, hK⟩
def c_kNz : Ctr := fun as0 => match as0 with
  | [.x true [.r q n]] => some fun K => ((n ≤ 4294967296)) ∧ (K (.x false [.v (.bool (sgnR q != 0))]))
  | _ => none
theorem ok_kNz : CtrOK Tryd.prog tabG debT 46 c_kNz := by
  refine ⟨enters Tryd.func46 (by kernel_rfl), fun l T hT K hK => ?_⟩
  unfold c_kNz at hT
  split at hT
  · cases hT
    obtain ⟨hc, hK⟩ := hK
    exact spec_ofL T127ok mixed Tryd.func46 (by kernel_rfl) (by kernel_rfl) (by rfl) (g_kNz _ _ hc K hK)
  · cases hT
def L128 : List (Nat × Ctr) := (46, c_kNz) :: L127
def T128 : Tabs := mkT L128 M122 X4
theorem L128ok : CtrsOK Tryd.prog tabG debT L128 := .cons ok_kNz L127ok
theorem T128ok : TabsOK Tryd.prog tabG debT T128 := mkTok L128ok M122ok X4ok
def ot_iNz : OT := fun _ => ([], [])
def goal_iNz (n : Nat) (qs : List Rat) (K : AV → Prop) : Prop := goalL T128 ot_iNz (fun _ => .inv ⟨Nat, fun i => ⟨[(0, sR n qs), (1, .x false [.v (.func (.func 46) #[] #[])]), (7, iA .i64 qs.length), (8, iA .i64 i)], []⟩, fun i => i ≤ qs.length ∧ ∀ (j : Nat) q, j < i → qs[j]? = some q → q = 0, fun i => qs.length - i, fun _ => 0⟩) Tryd.f83 [sR n qs, .x false [.v (.func (.func 46) #[] #[])]] K
theorem goal_iNz_vc (n : Nat) (qs : List Rat) (K : AV → Prop) : goal_iNz n qs K = (
 (∃ (x : Nat),
 ((x ≤ List.length qs ∧ ∀ (j : Nat) (q : Rat), j < x → qs[j]? = some q → q = OfNat.ofNat (0 : Nat)) ∧
 OfNat.ofNat (0 : Nat) = (0 : Nat)) ∧
 (3 : Nat) = (3 : Nat) ∧
 lR n qs = lR n qs ∧
 Value.func (Fn.func (46 : Nat)) (Array.mk []) (Array.mk []) = Value.func (Fn.func (46 : Nat)) (Array.mk []) (Array.mk []) ∧
 Int.ofNat (List.length (lR n qs)) = Int.ofNat (List.length qs) ∧ (0 : Int) = Int.ofNat x ∧ True) ∧
 ∀ (x : Nat),
 (x ≤ List.length qs ∧ ∀ (j : Nat) (q : Rat), j < x → qs[j]? = some q → q = OfNat.ofNat (0 : Nat)) →
 OfNat.ofNat (0 : Nat) = (0 : Nat) →
 bif decide (Int.ofNat x < Int.ofNat (List.length qs)) then
 ((0 : Int) ≤ Int.ofNat x ∧ Int.ofNat x < Int.ofNat (List.length (lR n qs))) ∧
 ∃ (q : Rat),
 ∃ (n_1 : Nat),
 ldE (lR n qs) (Int.toNat (Int.ofNat x)) (0 : Nat) (3 : Nat) = some [Ch.r q n_1] ∧
 n_1 ≤ (4294967296 : Nat) ∧
 bif sgnR q != (0 : Int) then K (AV.x false [Ch.v (Value.int IntKind.i64 (Int.ofNat x))])
 else
 ∃ (x' : Nat),
 ((x' ≤ List.length qs ∧ ∀ (j : Nat) (q : Rat), j < x' → qs[j]? = some q → q = OfNat.ofNat (0 : Nat)) ∧
 OfNat.ofNat (0 : Nat) = (0 : Nat) ∧ List.length qs - x' < List.length qs - x) ∧
 (3 : Nat) = (3 : Nat) ∧
 lR n qs = lR n qs ∧
 Value.func (Fn.func (46 : Nat)) (Array.mk []) (Array.mk []) =
 Value.func (Fn.func (46 : Nat)) (Array.mk []) (Array.mk []) ∧
 Int.ofNat (List.length qs) = Int.ofNat (List.length qs) ∧
 IntKind.wrap IntKind.i64 (Int.ofNat x + (1 : Int)) = Int.ofNat x' ∧ True
 else K (AV.x false [Ch.v (Value.int IntKind.i64 (-1 : Int))])) := by kernel_rfl
theorem g_iNz (n : Nat) (qs : List Rat) (hc : (n ≤ 4294967296 ∧ qs.length ≤ 1000000) ∧ (∃ q ∈ qs, q ≠ 0)) (K : AV → Prop) (hK : ∀ i : Int, 0 ≤ i → K (iA .i64 i)) : Holds (goal_iNz n qs K) := by
  refine ⟨?_⟩
  rw [goal_iNz_vc]
  try simp only [Int.ofNat_eq_natCast, true_and, and_true, Nat.zero_add, Nat.le_refl, true_implies, true_or, or_true]
  obtain ⟨⟨h1, h2⟩, q0, hq0, hn0⟩ := hc
  simp only [lR_len]
  refine ⟨⟨0, ⟨by omega, fun j q h => by omega⟩, trivial, rfl⟩, fun x hx => bif_mk (fun hp => ?_) (fun hp => ?_)⟩
  · have hp : x < qs.length := by have := of_decide_eq_true hp; omega
    obtain ⟨q, hq⟩ : ∃ q, qs[x]? = some q := ⟨_, List.getElem?_eq_getElem hp⟩
    refine ⟨by omega, _, _, lR_ld (by simpa using hq), by omega, bif_mk (fun _ => hK _ (by omega)) (fun h => ⟨x + 1, ⟨⟨by omega, fun j w hj hw => ?_⟩, by omega⟩, by rw [w64 (by omega)]; simp⟩)⟩
    rw [sgn_ne] at h
    by_cases e : j = x
    · subst e; rw [hq] at hw; cases hw; simpa using h
    · exact hx.2 j w (by omega) hw
  · exfalso
    have hp := of_decide_eq_false hp
    obtain ⟨j, hj, e⟩ := List.getElem_of_mem hq0
    exact hn0 (hx.2 j q0 (by omega) (by rw [List.getElem?_eq_getElem hj, e]))
def c_iNz : Ctr := fun as0 => match as0 with
  | [.x false [.s 3 xs], .x false [.v (.func (.func fid) ⟨[]⟩ ⟨[]⟩)]] => some fun K => ∃ (n : Nat) (qs : List Rat), xs = lR n qs ∧ fid = 46 ∧ ((n ≤ 4294967296 ∧ qs.length ≤ 1000000) ∧ (∃ q ∈ qs, q ≠ 0)) ∧ (∀ i : Int, 0 ≤ i → K (iA .i64 i))
  | _ => none
theorem ok_iNz : CtrOK Tryd.prog tabG debT 83 c_iNz := by
  refine ⟨enters Tryd.func83 (by kernel_rfl), fun l T hT K hK => ?_⟩
  unfold c_iNz at hT
  split at hT
  · cases hT
    obtain ⟨n, qs, rfl, rfl, hc, hK⟩ := hK
    exact spec_ofL T128ok mixed Tryd.func83 (by kernel_rfl) (by kernel_rfl) (by rfl) (g_iNz _ _ hc K hK)
  · cases hT
def L129 : List (Nat × Ctr) := (83, c_iNz) :: L128
def T129 : Tabs := mkT L129 M122 X4
theorem L129ok : CtrsOK Tryd.prog tabG debT L129 := .cons ok_iNz L128ok
theorem T129ok : TabsOK Tryd.prog tabG debT T129 := mkTok L129ok M122ok X4ok
def ot_cNz : OT := fun _ => ([], [])
def goal_cNz (n : Nat) (qs : List Rat) (K : AV → Prop) : Prop := goalL T129 ot_cNz noL Tryd.f45 [sR n qs, .x false [.v (.func (.func 46) #[] #[])]] K
theorem goal_cNz_vc (n : Nat) (qs : List Rat) (K : AV → Prop) : goal_cNz n qs K = (
 ∃ (n_1 : Nat),
 ∃ (qs_1 : List Rat),
 lR n qs = lR n_1 qs_1 ∧
 (46 : Nat) = (46 : Nat) ∧
 ((n_1 ≤ (4294967296 : Nat) ∧ List.length qs_1 ≤ (1000000 : Nat)) ∧ ∃ (q : Rat), List.Mem q qs_1 ∧ q ≠ OfNat.ofNat (0 : Nat)) ∧
 ∀ (i : Int), (0 : Int) ≤ i → K (AV.x false [Ch.v (Value.bool (decide (i ≥ (0 : Int))))])) := by kernel_rfl
theorem g_cNz (n : Nat) (qs : List Rat) (hc : (n ≤ 4294967296 ∧ qs.length ≤ 1000000) ∧ (∃ q ∈ qs, q ≠ 0)) (K : AV → Prop) (hK : K (.x false [.v (.bool true)])) : Holds (goal_cNz n qs K) := by
  refine ⟨?_⟩
  rw [goal_cNz_vc]
  try simp only [Int.ofNat_eq_natCast, true_and, and_true, Nat.zero_add, Nat.le_refl, true_implies, true_or, or_true]
  exact ⟨n, qs, rfl, hc, fun i hi => by rw [decide_eq_true (show i ≥ 0 from hi)]; exact hK⟩
def c_cNz : Ctr := fun as0 => match as0 with
  | [.x false [.s 3 xs], .x false [.v (.func (.func fid) ⟨[]⟩ ⟨[]⟩)]] => some fun K => ∃ (n : Nat) (qs : List Rat), xs = lR n qs ∧ fid = 46 ∧ ((n ≤ 4294967296 ∧ qs.length ≤ 1000000) ∧ (∃ q ∈ qs, q ≠ 0)) ∧ (K (.x false [.v (.bool true)]))
  | _ => none
theorem ok_cNz : CtrOK Tryd.prog tabG debT 45 c_cNz := by
  refine ⟨enters Tryd.func45 (by kernel_rfl), fun l T hT K hK => ?_⟩
  unfold c_cNz at hT
  split at hT
  · cases hT
    obtain ⟨n, qs, rfl, rfl, hc, hK⟩ := hK
    exact spec_ofL T129ok mixed Tryd.func45 (by kernel_rfl) (by kernel_rfl) (by rfl) (g_cNz _ _ hc K hK)
  · cases hT
def L130 : List (Nat × Ctr) := (45, c_cNz) :: L129
def T130 : Tabs := mkT L130 M122 X4
theorem L130ok : CtrsOK Tryd.prog tabG debT L130 := .cons ok_cNz L129ok
theorem T130ok : TabsOK Tryd.prog tabG debT T130 := mkTok L130ok M122ok X4ok
-- the newest table: L130 M122 X4 T130
def ot_still : OT := fun id => bif id.beq 10 then ([0, 1, 2, 3, 4, 5, 6, 7, 8, 9, 10, 11, 12, 13, 14, 15, 16, 17, 18], [[], [0], [1, 0], [2, 1, 0], [2, 1, 0], [3, 2, 1, 0, 4], [2, 1, 0, 5, 3, 4], [6, 2, 1, 0, 5, 3, 4], [7, 6, 2, 1, 0, 5, 3, 4], [7, 6, 2, 1, 0, 5, 3, 4], [9, 7, 6, 2, 1, 0, 5, 3, 4], [10, 9, 7, 6, 2, 1, 0, 5, 3, 4], [8, 7, 6, 2, 1, 0, 5, 3, 4, 11, 10, 9], [7, 6, 2, 1, 0, 5, 3, 4, 12, 8, 11, 10, 9], [13, 7, 6, 2, 1, 0, 5, 3, 4, 12, 8, 11, 10, 9], [14, 13, 7, 6, 2, 1, 0, 5, 3, 4, 12, 8, 11, 10, 9], [15, 14, 13, 7, 6, 2, 1, 0, 5, 3, 4, 12, 8, 11, 10, 9], [14, 13, 7, 6, 2, 1, 0, 5, 3, 4, 12, 8, 11, 10, 9, 16, 15], [17, 14, 13, 7, 6, 2, 1, 0, 5, 3, 4, 12, 8, 11, 10, 9, 16, 15]]) else ([], [])
def goal_sstill (l m : List Int) (K : AV → Prop) : Prop := goalL T130 ot_still noL Tryd.f8 [.x false [.s 1 (ints l)], .x false [.s 1 (ints m)]] K
theorem goal_sstill_vc (l : List Int) (m : List Int) (K : AV → Prop) : goal_sstill l m K = (
 True ∧
 ∃ (l_1 : List Int),
 ints l = ints l_1 ∧
 List.length l_1 ≤ (9223372036854775807 : Nat) ∧
 ∀ (a : ArmV),
 Made a ∧ (1 : Nat) ≤ List.length (ArmV.links a) →
 ∃ (a_2 : ArmV),
 ∃ (l : List Int),
 [Ch.v (Value.string (ArmV.name a)), Ch.r (ArmV.x a) (63 : Nat), Ch.r (ArmV.y a) (63 : Nat), Ch.v (Value.bool (ArmV.half a)),
 Ch.r (ArmV.t a) (63 : Nat), Ch.s (16 : Nat) (List.map linkCh (ArmV.links a))] =
 [Ch.v (Value.string (ArmV.name a_2)), Ch.r (ArmV.x a_2) (63 : Nat), Ch.r (ArmV.y a_2) (63 : Nat),
 Ch.v (Value.bool (ArmV.half a_2)), Ch.r (ArmV.t a_2) (63 : Nat), Ch.s (16 : Nat) (List.map linkCh (ArmV.links a_2))] ∧
 ints m = ints l ∧
 (GoodArm a_2 ∧ List.length l ≤ (9223372036854775807 : Nat)) ∧
 ∀ (qs : List Rat),
 (∀ (i : Nat) (L : LinkV) (q : Rat),
 (ArmV.links a_2)[i]? = some L → qs[i]? = some q → LinkV.lo L ≤ q ∧ q ≤ LinkV.hi L) →
 List.length qs = List.length (ArmV.links a_2) →
 ∃ (a_5 : ArmV),
 ∃ (b : Nat),
 ∃ (qs_1 : List Rat),
 [Ch.v (Value.string (ArmV.name a)), Ch.r (ArmV.x a) (63 : Nat), Ch.r (ArmV.y a) (63 : Nat),
 Ch.v (Value.bool (ArmV.half a)), Ch.r (ArmV.t a) (63 : Nat),
 Ch.s (16 : Nat) (List.map linkCh (ArmV.links a))] =
 [Ch.v (Value.string (ArmV.name a_5)), Ch.r (ArmV.x a_5) (63 : Nat), Ch.r (ArmV.y a_5) (63 : Nat),
 Ch.v (Value.bool (ArmV.half a_5)), Ch.r (ArmV.t a_5) (63 : Nat),
 Ch.s (16 : Nat) (List.map linkCh (ArmV.links a_5))] ∧
 lR (63 : Nat) qs = lR b qs_1 ∧
 (GoodArm a_5 ∧ b ≤ (400 : Nat) ∧ List.length qs_1 = List.length (ArmV.links a_5)) ∧
 ∀ (fs : List FrV) (f : FrV),
 fs ++ [f] = framesV (baseV a_5) (ArmV.links a_5) qs_1 →
 List.length fs = List.length (ArmV.links a_5) →
 (∀ (wl : List (Rat × Nat)),
 NullW (colV f fs) wl →
 ∃ (a_9 : ArmV),
 ∃ (b : Nat),
 ∃ (qs_2 : List Rat),
 [Ch.v (Value.string (ArmV.name a)), Ch.r (ArmV.x a) (63 : Nat),
 Ch.r (ArmV.y a) (63 : Nat), Ch.v (Value.bool (ArmV.half a)),
 Ch.r (ArmV.t a) (63 : Nat),
 Ch.s (16 : Nat) (List.map linkCh (ArmV.links a))] =
 [Ch.v (Value.string (ArmV.name a_9)), Ch.r (ArmV.x a_9) (63 : Nat),
 Ch.r (ArmV.y a_9) (63 : Nat), Ch.v (Value.bool (ArmV.half a_9)),
 Ch.r (ArmV.t a_9) (63 : Nat),
 Ch.s (16 : Nat) (List.map linkCh (ArmV.links a_9))] ∧
 lR (63 : Nat) qs = lR b qs_2 ∧
 (GoodArm a_9 ∧
 b ≤ (400 : Nat) ∧ List.length qs_2 = List.length (ArmV.links a_9)) ∧
 ∀ (fs : List FrV) (f : FrV),
 fs ++ [f] = framesV (baseV a_9) (ArmV.links a_9) qs_2 →
 List.length fs = List.length (ArmV.links a_9) →
 ∃ (a_12 : ArmV),
 ∃ (b : Nat),
 ∃ (qs_3 : List Rat),
 ∃ (d : Nat),
 ∃ (vs : List Rat),
 [Ch.v (Value.string (ArmV.name a)),
 Ch.r (ArmV.x a) (63 : Nat),
 Ch.r (ArmV.y a) (63 : Nat),
 Ch.v (Value.bool (ArmV.half a)),
 Ch.r (ArmV.t a) (63 : Nat),
 Ch.s (16 : Nat) (List.map linkCh (ArmV.links a))] =
 [Ch.v (Value.string (ArmV.name a_12)),
 Ch.r (ArmV.x a_12) (63 : Nat),
 Ch.r (ArmV.y a_12) (63 : Nat),
 Ch.v (Value.bool (ArmV.half a_12)),
 Ch.r (ArmV.t a_12) (63 : Nat),
 Ch.s (16 : Nat) (List.map linkCh (ArmV.links a_12))] ∧
 lR (63 : Nat) qs = lR b qs_3 ∧
 lR (531210000 : Nat)
 (stillV qs_1
 (List.map (fun (x : Rat × Nat) => Prod.fst x)
 wl)) =
 lR d vs ∧
 (GoodArm a_12 ∧
 (b ≤ (400 : Nat) ∧
 List.length qs_3 =
 List.length (ArmV.links a_12)) ∧
 d ≤ (531210000 : Nat) ∧
 List.length vs =
 List.length (ArmV.links a_12)) ∧
 ∀ (fs_1 : List FrV) (f_1 : FrV),
 fs_1 ++ [f_1] =
 framesV (baseV a_12) (ArmV.links a_12) qs_3 →
 List.length fs_1 =
 List.length (ArmV.links a_12) →
 ∀ (n m : Nat),
 n ≤ (1992090064 : Nat) →
 m ≤ (1992090064 : Nat) →
 (((-9223372036854775808 : Int) <
 (0 : Int) ∧
 (0 : Int) <
 (9223372036854775808 : Int)) ∧
 (-9223372036854775808 : Int) <
 (0 : Int) ∧
 (0 : Int) <
 (9223372036854775808 : Int)) ∧
 (n + (63 : Nat) ≤ (4294967290 : Nat) ∧
 m + (63 : Nat) ≤
 (4294967290 : Nat)) ∧
 bif
 decide
 (Prod.fst
 (velV (colV f_1 fs_1)
 qs_3 vs (0 : Rat)
 (0 : Rat)) =
 Prod.fst
 (pt1 (0 : Int)
 (0 : Int))) &&
 decide
 (Prod.snd
 (velV (colV f_1 fs_1)
 qs_3 vs (0 : Rat)
 (0 : Rat)) =
 Prod.snd
 (pt1 (0 : Int)
 (0 : Int))) then
 bif
 decide
 (rankV (colV f fs) <
 Int.ofNat
 (List.length
 (List.map linkCh
 (ArmV.links
 a)))) then
 ∃ (n : Nat),
 ∃ (qs : List Rat),
 lR (531210000 : Nat)
 (stillV qs_1
 (List.map
 (fun
 (x :
 Rat ×
 Nat) =>
 Prod.fst x)
 wl)) =
 lR n qs ∧
 (46 : Nat) = (46 : Nat) ∧
 ((n ≤
 (4294967296 :
 Nat) ∧
 List.length qs ≤
 (1000000 :
 Nat)) ∧
 ∃ (q : Rat),
 List.Mem q qs ∧
 q ≠
 OfNat.ofNat
 (0 : Nat)) ∧
 K
 (AV.x false
 [Ch.v
 (Value.bool
 true)])
 else
 K
 (AV.x false
 [Ch.v (Value.bool false)])
 else
 K
 (AV.x false
 [Ch.v (Value.bool false)])) ∧
 (rankV (colV f fs) = Int.ofNat (List.length (ArmV.links a_5)) →
 ∃ (a_9 : ArmV),
 ∃ (b : Nat),
 ∃ (qs_2 : List Rat),
 [Ch.v (Value.string (ArmV.name a)), Ch.r (ArmV.x a) (63 : Nat),
 Ch.r (ArmV.y a) (63 : Nat), Ch.v (Value.bool (ArmV.half a)),
 Ch.r (ArmV.t a) (63 : Nat),
 Ch.s (16 : Nat) (List.map linkCh (ArmV.links a))] =
 [Ch.v (Value.string (ArmV.name a_9)), Ch.r (ArmV.x a_9) (63 : Nat),
 Ch.r (ArmV.y a_9) (63 : Nat), Ch.v (Value.bool (ArmV.half a_9)),
 Ch.r (ArmV.t a_9) (63 : Nat),
 Ch.s (16 : Nat) (List.map linkCh (ArmV.links a_9))] ∧
 lR (63 : Nat) qs = lR b qs_2 ∧
 (GoodArm a_9 ∧
 b ≤ (400 : Nat) ∧ List.length qs_2 = List.length (ArmV.links a_9)) ∧
 ∀ (fs : List FrV) (f : FrV),
 fs ++ [f] = framesV (baseV a_9) (ArmV.links a_9) qs_2 →
 List.length fs = List.length (ArmV.links a_9) →
 K
 (AV.x false
 [Ch.v
 (Value.bool
 (rankV (colV f fs) ==
 Int.ofNat
 (List.length (List.map linkCh (ArmV.links a)))))]))) := by kernel_rfl
theorem g_sstill (l m : List Int) (hl : l.length ≤ 9223372036854775807) (hm : m.length ≤ 9223372036854775807) (K : AV → Prop) (hK : K (.x false [.v (.bool true)])) : Holds (goal_sstill l m K) := by
  refine ⟨?_⟩
  rw [goal_sstill_vc]
  simp only [Int.ofNat_eq_natCast, true_and, and_true, Nat.zero_add, Nat.le_refl, true_implies, true_or, or_true]
  refine ⟨l, rfl, hl, fun a ha => ⟨a, m, rfl, rfl, ⟨MadeA.good ha, hm⟩, fun qs _ hq => ⟨a, 63, qs, rfl, rfl, ⟨MadeA.good ha, by omega, hq⟩, fun fs f hf hfl => ⟨fun wl hw => ⟨a, 63, qs, rfl, rfl, ⟨MadeA.good ha, by omega, hq⟩, fun fs1 f1 hf1 _ => ⟨a, 63, qs, 531210000, stillV qs (wl.map (·.1)), rfl, rfl, rfl, ⟨MadeA.good ha, ⟨by omega, hq⟩, by omega, ?_⟩, fun fs2 f2 hf2 _ n m hn hm' => ⟨by omega, by omega, ?_⟩⟩⟩, fun hr => ⟨a, 63, qs, rfl, rfl, ⟨MadeA.good ha, by omega, hq⟩, fun fs1 f1 hf1 _ => ?_⟩⟩⟩⟩⟩
  · have := hw.len
    simp [stillV, colV, hfl, hq] at this ⊢
    omega
  · obtain ⟨e1, e2⟩ := snoc_inj (hf.trans hf1.symm)
    subst e1 e2
    obtain ⟨e1, e2⟩ := snoc_inj (hf.trans hf2.symm)
    subst e1 e2
    have hn := (MadeA.good ha).n
    have hwl := hw.len
    have cl : (colV f fs).length = a.links.length := by simp [colV, hfl]
    have e := vel_still (colV f fs) qs (wl.map (·.1)) 0 0 (by rw [List.length_map]; omega)
    rw [hw.dot] at e
    unfold stillV
    rw [e]
    have hr := hw.rank
    refine bif_mk (fun _ => bif_mk (fun _ => ⟨531210000, stillV qs (wl.map (·.1)), rfl, ⟨⟨by omega, by simp [stillV]; omega⟩, ?_⟩, hK⟩) (fun h => ?_)) (fun h => absurd h (by decide +kernel))
    · obtain ⟨p, hp, hp0⟩ := hw.nz
      obtain ⟨j, hj, e⟩ := List.getElem_of_mem hp
      have hq' : qs[j]? = some qs[j] := List.getElem?_eq_getElem (by omega)
      have hg : (stillV qs (wl.map (·.1)))[j]? = some (p.1 / rateV qs[j] 1) := by
        simp [stillV, List.getElem?_zipWith, hq', List.getElem?_eq_getElem hj, e]
      refine ⟨_, List.mem_of_getElem? hg, fun e0 => hp0 ?_⟩
      have := Rat.div_mul_cancel (a := p.1) (rate_ne qs[j])
      rw [e0, Rat.zero_mul] at this
      exact this.symm
    · have h := of_decide_eq_false h
      rw [List.length_map] at h
      omega
  · obtain ⟨e1, e2⟩ := snoc_inj (hf.trans hf1.symm)
    subst e1 e2
    rw [List.length_map, hr]
    simpa using hK
theorem spec_sstill (l m : List Int) (hl : l.length ≤ 9223372036854775807) (hm : m.length ≤ 9223372036854775807) : Eng.Spec Tryd.prog tabG debT 8 [.x false [.s 1 (ints l)], .x false [.s 1 (ints m)]] (fun av => av = .x false [.v (.bool true)]) :=
  spec_ofL T130ok mixed Tryd.func8 (by kernel_rfl) (by kernel_rfl) (by rfl) (g_sstill l m hl hm _ rfl)
end Go.Proofs
