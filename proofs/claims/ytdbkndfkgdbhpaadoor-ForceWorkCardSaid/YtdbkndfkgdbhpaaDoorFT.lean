/- Torques, power. -/
import Derived.Test.YtdbkndfkgdbhpaaDoorFA
/- Torques, power. -/
namespace Go.Proofs
open Go Go.Eng
def inv_torq (a : ArmV) (qs : List Rat) (u : Rat) (c : Nat) (v : Rat) (d : Nat) : LI := fun _ => .inv ⟨TqX, fun x => ⟨[(5, .x false [.p 5 0]), (10, .x false [.p 10 0]), (11, .x false [.w 500 0 x.i]), (34, .x false [.s 10 (x.fs.map frCh)]), (35, iA .i64 a.links.length), (36, iA .i64 x.i)],
  [(5, .box 27 [.r u c, .r v d]), (10, .box 27 [.r x.f.x 120000000, .r x.f.y 120000000]), (500, rowR (265600010 + c + d) ((torqV x.f u v x.fs).take x.i))]⟩, TqI a qs, fun x => a.links.length - x.i, fun _ => 0⟩
structure PwX where
  ts : List Rat
  s : Rat
  i : Nat
structure PwI (a : ArmV) (qs : List Rat) (u v : Rat) (rs : List Rat) (x : PwX) : Prop where
  len : x.ts.length = a.links.length
  ts : ∃ fs f, fs ++ [f] = framesV (baseV a) a.links qs ∧ fs.length = a.links.length ∧ x.ts = torqV f u v fs
  eq : powV (x.ts.drop x.i) (rs.drop x.i) x.s = powV x.ts rs 0
  le : x.i ≤ a.links.length
def inv_pow (a : ArmV) (qs : List Rat) (u : Rat) (c : Nat) (v : Rat) (d : Nat) (r : Nat) (rs : List Rat) : LI := fun _ => .inv ⟨PwX, fun x => ⟨[(2, sR r rs), (8, .x false [.p 8 0]), (10, sR (265600010 + c + d) x.ts), (12, .x false [.p 12 0]), (36, iA .i64 a.links.length), (37, iA .i64 x.i)],
  [(8, .box 25 zeroR), (12, .box 25 [.r x.s (64 + 265700000 * x.i)])]⟩, PwI a qs u v rs, fun x => a.links.length - x.i, fun _ => 0⟩
def ot_oTorq : OT := fun id => bif id.beq 9 then ([0, 1, 2, 3, 5, 4, 6, 7, 8, 9], [[], [], [], [2], [1, 3, 2], [], [4, 1, 3, 2, 5], [6, 4, 1, 3, 2, 5], [0, 7, 6, 4, 1, 3, 2, 5], [8, 0, 7, 6, 4, 1, 3, 2, 5]]) else ([], [])
def goal_oTorq (a : ArmV) (b : Nat) (qs : List Rat) (u : Rat) (c : Nat) (v : Rat) (d : Nat) (K : AV → Prop) : Prop := goalL T117 ot_oTorq (inv_torq a qs u c v d) Tryd.f17 [armA a, sR b qs, .x true [.r u c, .r v d]] K
theorem goal_oTorq_vc (a : ArmV) (b : Nat) (qs : List Rat) (u : Rat) (c : Nat) (v : Rat) (d : Nat) (K : AV → Prop) : goal_oTorq a b qs u c v d K = (
 ∃ (a_1 : ArmV),
 ∃ (b_1 : Nat),
 ∃ (qs_1 : List Rat),
 [Ch.v (Value.string (ArmV.name a)), Ch.r (ArmV.x a) (63 : Nat), Ch.r (ArmV.y a) (63 : Nat), Ch.v (Value.bool (ArmV.half a)),
 Ch.r (ArmV.t a) (63 : Nat), Ch.s (16 : Nat) (List.map linkCh (ArmV.links a))] =
 [Ch.v (Value.string (ArmV.name a_1)), Ch.r (ArmV.x a_1) (63 : Nat), Ch.r (ArmV.y a_1) (63 : Nat),
 Ch.v (Value.bool (ArmV.half a_1)), Ch.r (ArmV.t a_1) (63 : Nat), Ch.s (16 : Nat) (List.map linkCh (ArmV.links a_1))] ∧
 lR b qs = lR b_1 qs_1 ∧
 (GoodArm a_1 ∧ b_1 ≤ (400 : Nat) ∧ List.length qs_1 = List.length (ArmV.links a_1)) ∧
 ∀ (fs : List FrV) (f : FrV),
 fs ++ [f] = framesV (baseV a_1) (ArmV.links a_1) qs_1 →
 List.length fs = List.length (ArmV.links a_1) →
 ((0 : Int) ≤
 IntKind.wrap IntKind.i64
 (Int.ofNat
 (List.length
 (List.map frCh fs ++
 [[Ch.r (FrV.x f) (bnd (List.length (ArmV.links a_1))),
 Ch.r (FrV.y f) (bnd (List.length (ArmV.links a_1))), Ch.v (Value.bool (FrV.h f)),
 Ch.r (FrV.t f) (bnd (List.length (ArmV.links a_1)))]])) -
 (1 : Int)) ∧
 IntKind.wrap IntKind.i64
 (Int.ofNat
 (List.length
 (List.map frCh fs ++
 [[Ch.r (FrV.x f) (bnd (List.length (ArmV.links a_1))),
 Ch.r (FrV.y f) (bnd (List.length (ArmV.links a_1))), Ch.v (Value.bool (FrV.h f)),
 Ch.r (FrV.t f) (bnd (List.length (ArmV.links a_1)))]])) -
 (1 : Int)) <
 Int.ofNat
 (List.length
 (List.map frCh fs ++
 [[Ch.r (FrV.x f) (bnd (List.length (ArmV.links a_1))), Ch.r (FrV.y f) (bnd (List.length (ArmV.links a_1))),
 Ch.v (Value.bool (FrV.h f)), Ch.r (FrV.t f) (bnd (List.length (ArmV.links a_1)))]]))) ∧
 ∃ (q : Rat),
 ∃ (n : Nat),
 ∃ (q_1 : Rat),
 ∃ (n_1 : Nat),
 ldE
 (List.map frCh fs ++
 [[Ch.r (FrV.x f) (bnd (List.length (ArmV.links a_1))),
 Ch.r (FrV.y f) (bnd (List.length (ArmV.links a_1))), Ch.v (Value.bool (FrV.h f)),
 Ch.r (FrV.t f) (bnd (List.length (ArmV.links a_1)))]])
 (Int.toNat
 (IntKind.wrap IntKind.i64
 (Int.ofNat
 (List.length
 (List.map frCh fs ++
 [[Ch.r (FrV.x f) (bnd (List.length (ArmV.links a_1))),
 Ch.r (FrV.y f) (bnd (List.length (ArmV.links a_1))), Ch.v (Value.bool (FrV.h f)),
 Ch.r (FrV.t f) (bnd (List.length (ArmV.links a_1)))]])) -
 (1 : Int))))
 (0 : Nat) (6 : Nat) =
 some [Ch.r q n, Ch.r q_1 n_1] ∧
 ((0 : Int) ≤ (0 : Int) ∧
 (0 : Int) ≤
 IntKind.wrap IntKind.i64
 (Int.ofNat
 (List.length
 (List.map frCh fs ++
 [[Ch.r (FrV.x f) (bnd (List.length (ArmV.links a_1))),
 Ch.r (FrV.y f) (bnd (List.length (ArmV.links a_1))), Ch.v (Value.bool (FrV.h f)),
 Ch.r (FrV.t f) (bnd (List.length (ArmV.links a_1)))]])) -
 (1 : Int)) ∧
 IntKind.wrap IntKind.i64
 (Int.ofNat
 (List.length
 (List.map frCh fs ++
 [[Ch.r (FrV.x f) (bnd (List.length (ArmV.links a_1))),
 Ch.r (FrV.y f) (bnd (List.length (ArmV.links a_1))), Ch.v (Value.bool (FrV.h f)),
 Ch.r (FrV.t f) (bnd (List.length (ArmV.links a_1)))]])) -
 (1 : Int)) ≤
 Int.ofNat
 (List.length
 (List.map frCh fs ++
 [[Ch.r (FrV.x f) (bnd (List.length (ArmV.links a_1))),
 Ch.r (FrV.y f) (bnd (List.length (ArmV.links a_1))), Ch.v (Value.bool (FrV.h f)),
 Ch.r (FrV.t f) (bnd (List.length (ArmV.links a_1)))]]))) ∧
 (∃ (x : TqX),
 (TqI a qs x ∧ OfNat.ofNat (0 : Nat) = (0 : Nat)) ∧
 (0 : Nat) = (0 : Nat) ∧
 (0 : Nat) = (0 : Nat) ∧
 Value.slice none (0 : Nat) (0 : Nat) = Value.slice none (0 : Nat) (0 : Nat) ∧
 (0 : Nat) = (0 : Nat) ∧
 TqX.i x = (0 : Nat) ∧
 (10 : Nat) = (10 : Nat) ∧
 List.take
 (Int.toNat
 (IntKind.wrap IntKind.i64
 (Int.ofNat
 (List.length
 (List.map frCh fs ++
 [[Ch.r (FrV.x f) (bnd (List.length (ArmV.links a_1))),
 Ch.r (FrV.y f) (bnd (List.length (ArmV.links a_1))),
 Ch.v (Value.bool (FrV.h f)),
 Ch.r (FrV.t f) (bnd (List.length (ArmV.links a_1)))]])) -
 (1 : Int))) -
 (0 : Nat))
 (List.drop (0 : Nat)
 (List.map frCh fs ++
 [[Ch.r (FrV.x f) (bnd (List.length (ArmV.links a_1))),
 Ch.r (FrV.y f) (bnd (List.length (ArmV.links a_1))),
 Ch.v (Value.bool (FrV.h f)),
 Ch.r (FrV.t f) (bnd (List.length (ArmV.links a_1)))]])) =
 List.map frCh (TqX.fs x) ∧
 Int.ofNat
 (List.length
 (List.take
 (Int.toNat
 (IntKind.wrap IntKind.i64
 (Int.ofNat
 (List.length
 (List.map frCh fs ++
 [[Ch.r (FrV.x f) (bnd (List.length (ArmV.links a_1))),
 Ch.r (FrV.y f) (bnd (List.length (ArmV.links a_1))),
 Ch.v (Value.bool (FrV.h f)),
 Ch.r (FrV.t f) (bnd (List.length (ArmV.links a_1)))]])) -
 (1 : Int))) -
 (0 : Nat))
 (List.drop (0 : Nat)
 (List.map frCh fs ++
 [[Ch.r (FrV.x f) (bnd (List.length (ArmV.links a_1))),
 Ch.r (FrV.y f) (bnd (List.length (ArmV.links a_1))),
 Ch.v (Value.bool (FrV.h f)),
 Ch.r (FrV.t f) (bnd (List.length (ArmV.links a_1)))]])))) =
 Int.ofNat (List.length (ArmV.links a)) ∧
 (0 : Int) = Int.ofNat (TqX.i x) ∧
 (27 : Nat) = (27 : Nat) ∧
 u = u ∧
 c ≤ c ∧
 v = v ∧
 d ≤ d ∧
 (27 : Nat) = (27 : Nat) ∧
 q = FrV.x (TqX.f x) ∧
 n ≤ (120000000 : Nat) ∧
 q_1 = FrV.y (TqX.f x) ∧
 n_1 ≤ (120000000 : Nat) ∧
 List.map (fun (q : Rat) => [Ch.r q ((265600010 : Nat) + c + d)])
 (List.take (TqX.i x) (torqV (TqX.f x) u v (TqX.fs x))) =
 [] ∧
 True) ∧
 ∀ (x : TqX),
 TqI a qs x →
 OfNat.ofNat (0 : Nat) = (0 : Nat) →
 bif decide (Int.ofNat (TqX.i x) < Int.ofNat (List.length (ArmV.links a))) then
 ((0 : Int) ≤ Int.ofNat (TqX.i x) ∧
 Int.ofNat (TqX.i x) < Int.ofNat (List.length (List.map frCh (TqX.fs x)))) ∧
 ∃ (q : Rat),
 ∃ (n : Nat),
 ∃ (q_2 : Rat),
 ∃ (n_2 : Nat),
 ∃ (b : Bool),
 ∃ (q_3 : Rat),
 ∃ (n_3 : Nat),
 ldE (List.map frCh (TqX.fs x)) (Int.toNat (Int.ofNat (TqX.i x))) (0 : Nat)
 (10 : Nat) =
 some [Ch.r q n, Ch.r q_2 n_2, Ch.v (Value.bool b), Ch.r q_3 n_3] ∧
 ((120000000 : Nat) + n ≤ (4294967290 : Nat) ∧
 (120000000 : Nat) + n_2 ≤ (4294967290 : Nat)) ∧
 (120000000 : Nat) + n + (1 : Nat) + ((120000000 : Nat) + n_2 + (1 : Nat)) +
 c +
 d ≤
 (4294967290 : Nat) ∧
 ((TqX.i x + (1 : Nat)) * (40 : Nat) ≤ (140737488355328 : Nat) ∧
 TqX.i x + (1 : Nat) ≤ (9223372036854775807 : Nat)) ∧
 ∃ (x' : TqX),
 (TqI a qs x' ∧
 OfNat.ofNat (0 : Nat) = (0 : Nat) ∧
 List.length (ArmV.links a) - TqX.i x' <
 List.length (ArmV.links a) - TqX.i x) ∧
 (0 : Nat) = (0 : Nat) ∧
 (0 : Nat) = (0 : Nat) ∧
 (0 : Nat) = (0 : Nat) ∧
 TqX.i x + (1 : Nat) = TqX.i x' ∧
 (10 : Nat) = (10 : Nat) ∧
 List.map frCh (TqX.fs x) = List.map frCh (TqX.fs x') ∧
 Int.ofNat (List.length (ArmV.links a)) =
 Int.ofNat (List.length (ArmV.links a)) ∧
 IntKind.wrap IntKind.i64
 (Int.ofNat (TqX.i x) + (1 : Int)) =
 Int.ofNat (TqX.i x') ∧
 (27 : Nat) = (27 : Nat) ∧
 u = u ∧
 c ≤ c ∧
 v = v ∧
 d ≤ d ∧
 (27 : Nat) = (27 : Nat) ∧
 FrV.x (TqX.f x) = FrV.x (TqX.f x') ∧
 (120000000 : Nat) ≤ (120000000 : Nat) ∧
 FrV.y (TqX.f x) = FrV.y (TqX.f x') ∧
 (120000000 : Nat) ≤
 (120000000 : Nat) ∧
 (25 : Nat) = (25 : Nat) ∧
 (3 : Nat) = (3 : Nat) ∧
 (List.take (TqX.i x)
 (List.map
 (fun (q : Rat) =>
 [Ch.r q
 ((265600010 :
 Nat) +
 c +
 d)])
 (List.take
 (TqX.i x)
 (torqV (TqX.f x)
 u v
 (TqX.fs
 x)))) ++
 [[Ch.r
 ((FrV.x
 (TqX.f
 x) -
 q) *
 v -
 (FrV.y
 (TqX.f
 x) -
 q_2) *
 u)
 ((120000000 :
 Nat) +
 n +
 (1 :
 Nat) +
 d +
 ((120000000 :
 Nat) +
 n_2 +
 (1 :
 Nat) +
 c) +
 (1 : Nat))]] =
 List.map
 (fun (q : Rat) =>
 [Ch.r q
 ((265600010 :
 Nat) +
 c +
 d)])
 (List.take (TqX.i x')
 (torqV (TqX.f x') u
 v (TqX.fs x'))) ∨
 RowLE
 (List.take (TqX.i x)
 (List.map
 (fun (q : Rat) =>
 [Ch.r q
 ((265600010 :
 Nat) +
 c +
 d)])
 (List.take
 (TqX.i x)
 (torqV (TqX.f x)
 u v
 (TqX.fs
 x)))) ++
 [[Ch.r
 ((FrV.x
 (TqX.f
 x) -
 q) *
 v -
 (FrV.y
 (TqX.f
 x) -
 q_2) *
 u)
 ((120000000 :
 Nat) +
 n +
 (1 :
 Nat) +
 d +
 ((120000000 :
 Nat) +
 n_2 +
 (1 :
 Nat) +
 c) +
 (1 : Nat))]])
 (List.map
 (fun (q : Rat) =>
 [Ch.r q
 ((265600010 :
 Nat) +
 c +
 d)])
 (List.take (TqX.i x')
 (torqV (TqX.f x') u
 v
 (TqX.fs x'))))) ∧
 True
 else
 K
 (AV.t
 [(false,
 [Ch.s (3 : Nat)
 (List.take (TqX.i x)
 (List.drop (0 : Nat)
 (List.map (fun (q : Rat) => [Ch.r q ((265600010 : Nat) + c + d)])
 (List.take (TqX.i x) (torqV (TqX.f x) u v (TqX.fs x))))))]),
 (false, [Ch.v (Value.int IntKind.i64 (0 : Int))])])) := by kernel_rfl
theorem g_oTorq (a : ArmV) (b : Nat) (qs : List Rat) (u : Rat) (c : Nat) (v : Rat) (d : Nat) (hc : (GoodArm a) ∧ (b ≤ 400 ∧ qs.length = a.links.length) ∧ (c ≤ 300000000 ∧ d ≤ 300000000)) (K : AV → Prop) (hK : ∀ (fs : List FrV) (f : FrV), fs ++ [f] = framesV (baseV a) a.links qs → fs.length = a.links.length → K (.t [(false, [.s 3 (lR (265600010 + c + d) (torqV f u v fs))]), (false, [.v (.int .i64 0)])])) : Holds (goal_oTorq a b qs u c v d K) := by
  refine ⟨?_⟩
  rw [goal_oTorq_vc]
  try simp only [Int.ofNat_eq_natCast, true_and, and_true, Nat.zero_add, Nat.le_refl, true_implies, true_or, or_true]
  obtain ⟨hg, ⟨hb, hq⟩, hcd⟩ := hc
  have hn := hg.n
  refine ⟨a, b, qs, rfl, rfl, ⟨hg, hb, hq⟩, fun fs f hf hl => ?_⟩
  have hbn : bnd a.links.length ≤ 120000000 := bnd_le hn.2
  simp only [List.length_append, List.length_map, List.length_cons, List.length_nil]
  rw [w64 (by omega)]
  have e : ((((fs.length + (0 + 1) : Nat) : Int) - 1).toNat) = a.links.length := by omega
  rw [e]
  have hg2 : (fs ++ [f])[a.links.length]? = some f := by rw [← hl]; simp
  obtain ⟨m, hm, ld, _⟩ := frs_at hbn hg2
  have e2 : List.take (a.links.length - 0) (List.drop 0 (fs.map frCh ++ [frN (bnd a.links.length) f])) = fs.map frCh := by
    rw [Nat.sub_zero, List.drop_zero, List.take_left' (by simp [hl])]
  have e3 : List.length (List.take (a.links.length - 0) (List.drop 0 (fs.map frCh ++ [frN (bnd a.links.length) f]))) = a.links.length := by
    rw [e2, List.length_map, hl]
  refine ⟨by omega, _, m, _, m, ld, by omega, ⟨⟨fs, f, 0⟩, ⟨hf, hl, by simp⟩, rfl, e2, congrArg Int.ofNat e3, rfl, rfl, hm, rfl, hm, rfl⟩, fun x hx => bif_mk (fun hp => ?_) (fun hp => ?_)⟩
  · have hp : x.i < a.links.length := by have := of_decide_eq_true hp; omega
    have hxl := hx.len
    obtain ⟨g, hgx⟩ : ∃ g, x.fs[x.i]? = some g := ⟨_, List.getElem?_eq_getElem (by omega)⟩

    have ht : (torqV x.f u v x.fs)[x.i]? = some ((x.f.x - g.x) * v - (x.f.y - g.y) * u) := by simp [torqV, hgx]
    refine ⟨by omega, _, _, _, _, _, _, _, fr_ld (by simpa using hgx), by omega, by omega, by omega, ⟨x.fs, x.f, x.i + 1⟩, ⟨⟨hx.eq, hxl, hp⟩, by simp only; omega⟩, rfl, rfl, by rw [w64 (by omega)]; simp, rfl, rfl, .inr ?_⟩
    rw [List.take_of_length_le (by rw [List.length_map, List.length_take]; omega), List.take_add_one, ht]
    exact lR_snoc _ _ (by omega)
  · have hp : x.i = a.links.length := by have := of_decide_eq_false hp; have := hx.le; omega
    have hxl := hx.len
    have := hK x.fs x.f hx.eq hx.len
    rw [List.drop_zero, List.take_of_length_le (by rw [List.length_map, List.length_take]; omega), List.take_of_length_le (by simp [torqV]; omega)]
    exact this
def c_oTorq : Ctr := fun as0 => match as0 with
  | [.x true xs, .x false [.s 3 ys], .x true [.r u c, .r v d]] => some fun K => ∃ (a : ArmV) (b : Nat) (qs : List Rat), xs = armCh a ∧ ys = lR b qs ∧ ((GoodArm a) ∧ (b ≤ 400 ∧ qs.length = a.links.length) ∧ (c ≤ 300000000 ∧ d ≤ 300000000)) ∧ (∀ (fs : List FrV) (f : FrV), fs ++ [f] = framesV (baseV a) a.links qs → fs.length = a.links.length → K (.t [(false, [.s 3 (lR (265600010 + c + d) (torqV f u v fs))]), (false, [.v (.int .i64 0)])]))
  | _ => none
theorem ok_oTorq : CtrOK Tryd.prog tabG debT 17 c_oTorq := by
  refine ⟨enters Tryd.func17 (by kernel_rfl), fun l T hT K hK => ?_⟩
  unfold c_oTorq at hT
  split at hT
  · cases hT
    obtain ⟨a, b, qs, rfl, rfl, hc, hK⟩ := hK
    exact spec_ofL T117ok mixed Tryd.func17 (by kernel_rfl) (by kernel_rfl) (by rfl) (g_oTorq _ _ _ _ _ _ _ hc K hK)
  · cases hT
def L118 : List (Nat × Ctr) := (17, c_oTorq) :: L117
def T118 : Tabs := mkT L118 M79 X4
theorem L118ok : CtrsOK Tryd.prog tabG debT L118 := .cons ok_oTorq L117ok
theorem T118ok : TabsOK Tryd.prog tabG debT T118 := mkTok L118ok M79ok X4ok
def ot_oPow : OT := fun id => bif id.beq 10 then ([0, 1, 2, 3, 4, 5, 6, 7, 8, 9, 10, 11], [[], [], [], [1, 2], [3, 1, 2], [], [], [5, 6], [7, 5, 6], [4, 3, 1, 2, 8, 7, 5, 6], [0, 9, 4, 3, 1, 2, 8, 7, 5, 6], [10, 0, 9, 4, 3, 1, 2, 8, 7, 5, 6]]) else ([], [])
def goal_oPow (a : ArmV) (b : Nat) (qs : List Rat) (r : Nat) (rs : List Rat) (u : Rat) (c : Nat) (v : Rat) (d : Nat) (K : AV → Prop) : Prop := goalL T118 ot_oPow (inv_pow a qs u c v d r rs) Tryd.f42 [armA a, sR b qs, sR r rs, .x true [.r u c, .r v d]] K
theorem goal_oPow_vc (a : ArmV) (b : Nat) (qs : List Rat) (r : Nat) (rs : List Rat) (u : Rat) (c : Nat) (v : Rat) (d : Nat) (K : AV → Prop) : goal_oPow a b qs r rs u c v d K = (
 ∃ (a_1 : ArmV),
 ∃ (b_1 : Nat),
 ∃ (qs_1 : List Rat),
 [Ch.v (Value.string (ArmV.name a)), Ch.r (ArmV.x a) (63 : Nat), Ch.r (ArmV.y a) (63 : Nat), Ch.v (Value.bool (ArmV.half a)),
 Ch.r (ArmV.t a) (63 : Nat), Ch.s (16 : Nat) (List.map linkCh (ArmV.links a))] =
 [Ch.v (Value.string (ArmV.name a_1)), Ch.r (ArmV.x a_1) (63 : Nat), Ch.r (ArmV.y a_1) (63 : Nat),
 Ch.v (Value.bool (ArmV.half a_1)), Ch.r (ArmV.t a_1) (63 : Nat), Ch.s (16 : Nat) (List.map linkCh (ArmV.links a_1))] ∧
 lR b qs = lR b_1 qs_1 ∧
 (GoodArm a_1 ∧
 (b_1 ≤ (400 : Nat) ∧ List.length qs_1 = List.length (ArmV.links a_1)) ∧ c ≤ (300000000 : Nat) ∧ d ≤ (300000000 : Nat)) ∧
 ∀ (fs : List FrV) (f : FrV),
 fs ++ [f] = framesV (baseV a_1) (ArmV.links a_1) qs_1 →
 List.length fs = List.length (ArmV.links a_1) →
 bif Int.ofNat (List.length (lR r rs)) != Int.ofNat (List.length (lR ((265600010 : Nat) + c + d) (torqV f u v fs))) then
 K
 (AV.t
 [(true,
 [Ch.v (Value.bool false), Ch.v (Value.string (ByteArray.mk (Array.mk []))),
 Ch.v (Value.string (ByteArray.mk (Array.mk [])))]),
 (false, [Ch.v (Value.int IntKind.i64 (1 : Int))])])
 else
 ((-9223372036854775808 : Int) ≤ (0 : Int) ∧ (0 : Int) < (9223372036854775808 : Int)) ∧
 (∃ (x : PwX),
 (PwI a qs u v rs x ∧ OfNat.ofNat (0 : Nat) = (0 : Nat)) ∧
 (3 : Nat) = (3 : Nat) ∧
 lR r rs = lR r rs ∧
 (0 : Nat) = (0 : Nat) ∧
 (3 : Nat) = (3 : Nat) ∧
 lR ((265600010 : Nat) + c + d) (torqV f u v fs) = lR ((265600010 : Nat) + c + d) (PwX.ts x) ∧
 (0 : Nat) = (0 : Nat) ∧
 Int.ofNat (List.length (lR ((265600010 : Nat) + c + d) (torqV f u v fs))) =
 Int.ofNat (List.length (ArmV.links a)) ∧
 (0 : Int) = Int.ofNat (PwX.i x) ∧
 (25 : Nat) = (25 : Nat) ∧
 false = false ∧
 ByteArray.mk (Array.mk []) = ByteArray.mk (Array.mk []) ∧
 ByteArray.mk (Array.mk []) = ByteArray.mk (Array.mk []) ∧
 (25 : Nat) = (25 : Nat) ∧
 (((0 : Int) : Int) : Rat) = PwX.s x ∧ (64 : Nat) ≤ (64 : Nat) + (265700000 : Nat) * PwX.i x ∧ True) ∧
 ∀ (x : PwX),
 PwI a qs u v rs x →
 OfNat.ofNat (0 : Nat) = (0 : Nat) →
 bif decide (Int.ofNat (PwX.i x) < Int.ofNat (List.length (ArmV.links a))) then
 ((0 : Int) ≤ Int.ofNat (PwX.i x) ∧
 Int.ofNat (PwX.i x) < Int.ofNat (List.length (lR ((265600010 : Nat) + c + d) (PwX.ts x)))) ∧
 ∃ (q : Rat),
 ∃ (n : Nat),
 ldE (lR ((265600010 : Nat) + c + d) (PwX.ts x)) (Int.toNat (Int.ofNat (PwX.i x))) (0 : Nat)
 (3 : Nat) =
 some [Ch.r q n] ∧
 ((0 : Int) ≤ Int.ofNat (PwX.i x) ∧ Int.ofNat (PwX.i x) < Int.ofNat (List.length (lR r rs))) ∧
 ∃ (q_1 : Rat),
 ∃ (n_1 : Nat),
 ldE (lR r rs) (Int.toNat (Int.ofNat (PwX.i x))) (0 : Nat) (3 : Nat) = some [Ch.r q_1 n_1] ∧
 n + n_1 ≤ (4294967296 : Nat) ∧
 (64 : Nat) + (265700000 : Nat) * PwX.i x + (n + n_1) + (1 : Nat) ≤ (4294967296 : Nat) ∧
 ∃ (x' : PwX),
 (PwI a qs u v rs x' ∧
 OfNat.ofNat (0 : Nat) = (0 : Nat) ∧
 List.length (ArmV.links a) - PwX.i x' < List.length (ArmV.links a) - PwX.i x) ∧
 (3 : Nat) = (3 : Nat) ∧
 lR r rs = lR r rs ∧
 (0 : Nat) = (0 : Nat) ∧
 (3 : Nat) = (3 : Nat) ∧
 lR ((265600010 : Nat) + c + d) (PwX.ts x) =
 lR ((265600010 : Nat) + c + d) (PwX.ts x') ∧
 (0 : Nat) = (0 : Nat) ∧
 Int.ofNat (List.length (ArmV.links a)) =
 Int.ofNat (List.length (ArmV.links a)) ∧
 IntKind.wrap IntKind.i64 (Int.ofNat (PwX.i x) + (1 : Int)) =
 Int.ofNat (PwX.i x') ∧
 (25 : Nat) = (25 : Nat) ∧
 false = false ∧
 ByteArray.mk (Array.mk []) = ByteArray.mk (Array.mk []) ∧
 ByteArray.mk (Array.mk []) = ByteArray.mk (Array.mk []) ∧
 (25 : Nat) = (25 : Nat) ∧
 PwX.s x + q * q_1 = PwX.s x' ∧
 (64 : Nat) + (265700000 : Nat) * PwX.i x + (n + n_1) +
 (1 : Nat) ≤
 (64 : Nat) + (265700000 : Nat) * PwX.i x' ∧
 True
 else
 K
 (AV.t
 [(true, [Ch.r (PwX.s x) ((64 : Nat) + (265700000 : Nat) * PwX.i x)]),
 (false, [Ch.v (Value.int IntKind.i64 (0 : Int))])])) := by kernel_rfl
theorem g_oPow (a : ArmV) (b : Nat) (qs : List Rat) (r : Nat) (rs : List Rat) (u : Rat) (c : Nat) (v : Rat) (d : Nat) (hc : (GoodArm a) ∧ (b ≤ 400 ∧ qs.length = a.links.length) ∧ (r ≤ 10000 ∧ rs.length = a.links.length) ∧ (c ≤ 1000 ∧ d ≤ 1000)) (K : AV → Prop) (hK : ∀ (fs : List FrV) (f : FrV), fs ++ [f] = framesV (baseV a) a.links qs → fs.length = a.links.length → ∀ n, n ≤ 800000000 → K (.t [(true, [.r (powV (torqV f u v fs) rs 0) n]), (false, [.v (.int .i64 0)])])) : Holds (goal_oPow a b qs r rs u c v d K) := by
  refine ⟨?_⟩
  rw [goal_oPow_vc]
  try simp only [Int.ofNat_eq_natCast, true_and, and_true, Nat.zero_add, Nat.le_refl, true_implies, true_or, or_true]
  obtain ⟨hg, ⟨hb, hq⟩, ⟨hr, hrs⟩, hcd⟩ := hc
  have hn := hg.n
  have hcl : ∀ (fs : List FrV) f, (torqV f u v fs).length = fs.length := fun _ _ => by simp [torqV]
  refine ⟨a, b, qs, rfl, rfl, ⟨hg, ⟨hb, hq⟩, by omega⟩, fun fs f hf hl => ?_⟩
  simp only [lR_len, hcl]
  refine bif_mk (fun h => by simp [hl, hrs] at h) (fun _ => ⟨by omega, ⟨⟨torqV f u v fs, 0, 0⟩, ⟨by rw [hcl, hl], ⟨fs, f, hf, hl, rfl⟩, rfl, by simp⟩, rfl, by omega, rfl, rfl, by simp⟩, fun x hx => bif_mk (fun hp => ?_) (fun hp => ?_)⟩)
  · have hp : x.i < a.links.length := by have := of_decide_eq_true hp; omega
    have hxl := hx.len
    obtain ⟨q, hqx⟩ : ∃ q, x.ts[x.i]? = some q := ⟨_, List.getElem?_eq_getElem (by omega)⟩
    obtain ⟨w, hwx⟩ : ∃ w, rs[x.i]? = some w := ⟨_, List.getElem?_eq_getElem (by omega)⟩
    have he := hx.eq
    rw [drop_get hqx, drop_get hwx, powV] at he
    exact ⟨by omega, _, _, lR_ld (by simpa using hqx), by omega, _, _, lR_ld (by simpa using hwx), by omega, by omega, ⟨x.ts, _, x.i + 1⟩, ⟨⟨hxl, hx.ts, he, hp⟩, by simp only; omega⟩, rfl, by rw [w64 (by omega)]; simp, rfl, by simp only; omega⟩
  · have hp : x.i = a.links.length := by have := of_decide_eq_false hp; have := hx.le; omega
    obtain ⟨fs', f', h1, h2, h3⟩ := hx.ts
    have hxl := hx.len
    have he := hx.eq
    rw [List.drop_of_length_le (by omega : x.ts.length ≤ x.i), powV] at he
    have := hK fs' f' h1 h2 (64 + 265700000 * x.i) (by omega)
    rw [← h3, ← he] at this
    exact this
    all_goals intros; contradiction
def c_oPow : Ctr := fun as0 => match as0 with
  | [.x true xs, .x false [.s 3 ys], .x false [.s 3 zs], .x true [.r u c, .r v d]] => some fun K => ∃ (a : ArmV) (b : Nat) (qs : List Rat) (r : Nat) (rs : List Rat), xs = armCh a ∧ ys = lR b qs ∧ zs = lR r rs ∧ ((GoodArm a) ∧ (b ≤ 400 ∧ qs.length = a.links.length) ∧ (r ≤ 10000 ∧ rs.length = a.links.length) ∧ (c ≤ 1000 ∧ d ≤ 1000)) ∧ (∀ (fs : List FrV) (f : FrV), fs ++ [f] = framesV (baseV a) a.links qs → fs.length = a.links.length → ∀ n, n ≤ 800000000 → K (.t [(true, [.r (powV (torqV f u v fs) rs 0) n]), (false, [.v (.int .i64 0)])]))
  | _ => none
theorem ok_oPow : CtrOK Tryd.prog tabG debT 42 c_oPow := by
  refine ⟨enters Tryd.func42 (by kernel_rfl), fun l T hT K hK => ?_⟩
  unfold c_oPow at hT
  split at hT
  · cases hT
    obtain ⟨a, b, qs, r, rs, rfl, rfl, rfl, hc, hK⟩ := hK
    exact spec_ofL T118ok mixed Tryd.func42 (by kernel_rfl) (by kernel_rfl) (by rfl) (g_oPow _ _ _ _ _ _ _ _ _ hc K hK)
  · cases hT
def L119 : List (Nat × Ctr) := (42, c_oPow) :: L118
def T119 : Tabs := mkT L119 M79 X4
theorem L119ok : CtrsOK Tryd.prog tabG debT L119 := .cons ok_oPow L118ok
theorem T119ok : TabsOK Tryd.prog tabG debT T119 := mkTok L119ok M79ok X4ok
def ot_kLoads : OT := fun id => bif id.beq 2 then ([0, 1, 2, 3, 4, 5, 6, 7, 8, 9, 10, 11, 12, 13, 14, 15, 16, 17, 18, 19, 20, 21], [[], [0], [1, 0], [2, 1, 0], [3, 2, 1, 0], [4, 3, 2, 1, 0], [2, 1, 0, 5, 4, 3], [6, 2, 1, 0, 5, 4, 3], [7, 6, 2, 1, 0, 5, 4, 3], [8, 7, 6, 2, 1, 0, 5, 4, 3], [9, 8, 7, 6, 2, 1, 0, 5, 4, 3], [7, 6, 2, 1, 0, 5, 4, 3], [10, 9, 8, 7, 6, 2, 1, 0, 5, 4, 3, 11], [7, 6, 2, 1, 0, 5, 4, 3, 12, 10, 9, 8, 11], [13, 7, 6, 2, 1, 0, 5, 4, 3, 12, 10, 9, 8, 11], [14, 13, 7, 6, 2, 1, 0, 5, 4, 3, 12, 10, 9, 8, 11], [15, 14, 13, 7, 6, 2, 1, 0, 5, 4, 3, 12, 10, 9, 8, 11], [16, 15, 14, 13, 7, 6, 2, 1, 0, 5, 4, 3, 12, 10, 9, 8, 11], [14, 13, 7, 6, 2, 1, 0, 5, 4, 3, 12, 10, 9, 8, 11], [17, 16, 15, 14, 13, 7, 6, 2, 1, 0, 5, 4, 3, 12, 10, 9, 8, 11, 18], [14, 13, 7, 6, 2, 1, 0, 5, 4, 3, 12, 10, 9, 8, 11, 19, 17, 16, 15, 18], [20, 14, 13, 7, 6, 2, 1, 0, 5, 4, 3, 12, 10, 9, 8, 11, 19, 17, 16, 15, 18]]) else ([], [])
def goal_kLoads  (K : AV → Prop) : Prop := goalL T119 ot_kLoads noL Tryd.f12 [] K
theorem goal_kLoads_vc (K : AV → Prop) : goal_kLoads K = (
 ∃ (ns : List Int),
 [[Ch.v (Value.int IntKind.i64 (3 : Int))], [Ch.v (Value.int IntKind.i64 (2 : Int))]] = ints ns ∧
 (List.length ns ≤ (3 : Nat) ∧ ∀ (n : Int), n ∈ ns → (1 : Int) ≤ n ∧ n ≤ (1000 : Int)) ∧
 (((-9223372036854775808 : Int) < (0 : Int) ∧ (0 : Int) < (9223372036854775808 : Int)) ∧
 (0 : Int) < (1 : Int) ∧ (1 : Int) < (9223372036854775808 : Int)) ∧
 (((-9223372036854775808 : Int) < (0 : Int) ∧ (0 : Int) < (9223372036854775808 : Int)) ∧
 (0 : Int) < (1 : Int) ∧ (1 : Int) < (9223372036854775808 : Int)) ∧
 (((-9223372036854775808 : Int) < (0 : Int) ∧ (0 : Int) < (9223372036854775808 : Int)) ∧
 (-9223372036854775808 : Int) < (1 : Int) ∧ (1 : Int) < (9223372036854775808 : Int)) ∧
 ∃ (a : ArmV),
 ∃ (b : Nat),
 ∃ (qs : List Rat),
 [Ch.v (Value.string (ArmV.name (sampleV ns))), Ch.r (ArmV.x (sampleV ns)) (63 : Nat),
 Ch.r (ArmV.y (sampleV ns)) (63 : Nat), Ch.v (Value.bool false), Ch.r (ArmV.t (sampleV ns)) (63 : Nat),
 Ch.s (16 : Nat) (List.map linkCh (ArmV.links (sampleV ns)))] =
 [Ch.v (Value.string (ArmV.name a)), Ch.r (ArmV.x a) (63 : Nat), Ch.r (ArmV.y a) (63 : Nat),
 Ch.v (Value.bool (ArmV.half a)), Ch.r (ArmV.t a) (63 : Nat), Ch.s (16 : Nat) (List.map linkCh (ArmV.links a))] ∧
 [[Ch.r (mkRat (0 : Int) (1 : Nat)) (63 : Nat)], [Ch.r (mkRat (0 : Int) (1 : Nat)) (63 : Nat)]] = lR b qs ∧
 (GoodArm a ∧
 (b ≤ (400 : Nat) ∧ List.length qs = List.length (ArmV.links a)) ∧
 (63 : Nat) ≤ (300000000 : Nat) ∧ (63 : Nat) ≤ (300000000 : Nat)) ∧
 ∀ (fs : List FrV) (f : FrV),
 fs ++ [f] = framesV (baseV a) (ArmV.links a) qs →
 List.length fs = List.length (ArmV.links a) →
 bif
 Int.ofNat
 (List.length
 (lR (265600136 : Nat)
 (torqV f (Prod.fst (mkRat (0 : Int) (1 : Nat), mkRat (1 : Int) (1 : Nat)))
 (Prod.snd (mkRat (0 : Int) (1 : Nat), mkRat (1 : Int) (1 : Nat))) fs))) ==
 (2 : Int) then
 ((0 : Int) ≤ (0 : Int) ∧
 (0 : Int) <
 Int.ofNat
 (List.length
 (lR (265600136 : Nat)
 (torqV f (Prod.fst (mkRat (0 : Int) (1 : Nat), mkRat (1 : Int) (1 : Nat)))
 (Prod.snd (mkRat (0 : Int) (1 : Nat), mkRat (1 : Int) (1 : Nat))) fs)))) ∧
 ∃ (q : Rat),
 ∃ (n : Nat),
 ldE
 (lR (265600136 : Nat)
 (torqV f (Prod.fst (mkRat (0 : Int) (1 : Nat), mkRat (1 : Int) (1 : Nat)))
 (Prod.snd (mkRat (0 : Int) (1 : Nat), mkRat (1 : Int) (1 : Nat))) fs))
 (0 : Nat) (0 : Nat) (3 : Nat) =
 some [Ch.r q n] ∧
 (((-9223372036854775808 : Int) < (5 : Int) ∧ (5 : Int) < (9223372036854775808 : Int)) ∧
 (0 : Int) < (1 : Int) ∧ (1 : Int) < (9223372036854775808 : Int)) ∧
 bif decide (q = mkRat (5 : Int) (Int.toNat (1 : Int))) && true then
 ((0 : Int) ≤ (1 : Int) ∧
 (1 : Int) <
 Int.ofNat
 (List.length
 (lR (265600136 : Nat)
 (torqV f (Prod.fst (mkRat (0 : Int) (1 : Nat), mkRat (1 : Int) (1 : Nat)))
 (Prod.snd (mkRat (0 : Int) (1 : Nat), mkRat (1 : Int) (1 : Nat))) fs)))) ∧
 ∃ (q : Rat),
 ∃ (n : Nat),
 ldE
 (lR (265600136 : Nat)
 (torqV f (Prod.fst (mkRat (0 : Int) (1 : Nat), mkRat (1 : Int) (1 : Nat)))
 (Prod.snd (mkRat (0 : Int) (1 : Nat), mkRat (1 : Int) (1 : Nat))) fs))
 (1 : Nat) (0 : Nat) (3 : Nat) =
 some [Ch.r q n] ∧
 (((-9223372036854775808 : Int) < (2 : Int) ∧ (2 : Int) < (9223372036854775808 : Int)) ∧
 (0 : Int) < (1 : Int) ∧ (1 : Int) < (9223372036854775808 : Int)) ∧
 K
 (AV.x false
 [Ch.v (Value.bool (decide (q = mkRat (2 : Int) (Int.toNat (1 : Int))) && true))])
 else K (AV.x false [Ch.v (Value.bool false)])
 else K (AV.x false [Ch.v (Value.bool false)])) := by kernel_rfl
theorem g_kLoads  (hc : True) (K : AV → Prop) (hK : K (.x false [.v (.bool true)])) : Holds (goal_kLoads  K) := by
  refine ⟨?_⟩
  rw [goal_kLoads_vc]
  try simp only [Int.ofNat_eq_natCast, true_and, and_true, Nat.zero_add, Nat.le_refl, true_implies, true_or, or_true]
  have key : torqV ((framesV (baseV (sampleV [3, 2])) (sampleV [3, 2]).links [mkRat 0 1, mkRat 0 1]).getD 2 ⟨0, 0, false, 0⟩) (mkRat 0 1) (mkRat 1 1) ((framesV (baseV (sampleV [3, 2])) (sampleV [3, 2]).links [mkRat 0 1, mkRat 0 1]).take 2) = [mkRat 5 1, mkRat 2 1] := by decide +kernel
  refine ⟨[3, 2], rfl, ⟨by simp, by simp⟩, by omega, by omega, by omega, sampleV [3, 2], 63, [mkRat 0 1, mkRat 0 1], rfl, rfl, ⟨sample_good (by simp) (by simp), ⟨by omega, rfl⟩, by omega, by omega⟩, fun fs f hf hl => ?_⟩
  obtain ⟨e1, e2⟩ := snoc_of hf (show fs.length = 2 from hl)
  rw [← e1, ← e2] at key
  rw [key]
  exact bif_mk (fun _ => ⟨by simp [lR], _, _, lR_ld (i := 0) rfl, by omega, bif_mk (fun _ => ⟨by simp [lR], _, _, lR_ld (i := 1) rfl, by omega, by simpa using hK⟩) (fun h => by simp at h)⟩) (fun h => by simp [lR] at h)
def c_kLoads : Ctr := fun as0 => match as0 with
  | [] => some fun K => (True) ∧ (K (.x false [.v (.bool true)]))
  | _ => none
theorem ok_kLoads : CtrOK Tryd.prog tabG debT 12 c_kLoads := by
  refine ⟨enters Tryd.func12 (by kernel_rfl), fun l T hT K hK => ?_⟩
  unfold c_kLoads at hT
  split at hT
  · cases hT
    obtain ⟨hc, hK⟩ := hK
    exact spec_ofL T119ok mixed Tryd.func12 (by kernel_rfl) (by kernel_rfl) (by rfl) (g_kLoads  hc K hK)
  · cases hT
def L120 : List (Nat × Ctr) := (12, c_kLoads) :: L119
def T120 : Tabs := mkT L120 M79 X4
theorem L120ok : CtrsOK Tryd.prog tabG debT L120 := .cons ok_kLoads L119ok
theorem T120ok : TabsOK Tryd.prog tabG debT T120 := mkTok L120ok M79ok X4ok
-- the newest table: L120 M79 X4 T120
end Go.Proofs
