/- track: Check of tracks one after the other, Join. -/
import Derived.Test.YtmbpebgpiacppaaDoorK3
/- track: Check of tracks one after the other, Join. -/
namespace Go.Proofs
open Go Go.Eng
/-- All is well but, perhaps, from key j to the next one. -/
structure NearOK (a : ArmV) (ks : List KeyV) (j N : Nat) : Prop where
  arm : GoodArm a
  ne : 1 ≤ ks.length ∧ ks.length ≤ 60
  hN : N ≤ 10000
  len : ∀ k ∈ ks, k.q.length = a.links.length
  n : ∀ k ∈ ks, k.n ≤ N
  tick : ∀ k ∈ ks, 0 ≤ k.tick ∧ k.tick ≤ 2000
  fit : ∀ k ∈ ks, Fit a k.q
  inc : ∀ (i : Nat) (x y : KeyV), i ≠ j → ks[i]? = some x → ks[i + 1]? = some y → x.tick < y.tick ∧ SlowR a x y
structure IsJoin (ts us : List KeyV) (js : List KeyV) : Prop where
  eq : js = (ts ++ us).map (shK 0)
theorem TrackOK.near {a : ArmV} {ks : List KeyV} (h : TrackOK a ks) {N : Nat} (hN : N ≤ 10000) (hk : KeysOK ks a.links.length N) : NearOK a ks ks.length N :=
  ⟨h.arm, h.ne, hN, hk.len, hk.n, hk.tick, h.fit, fun i x y _ hx hy => ⟨hk.inc i x y hx hy, h.slow i x y hx hy⟩⟩
theorem join_near {a : ArmV} {ts us : List KeyV} (ot : TrackOK a ts) (ou : TrackOK a us) (nt : ∀ k ∈ ts, k.n ≤ 200) (nu : ∀ k ∈ us, k.n ≤ 200) (lt : ts.length ≤ 20) (lu : us.length ≤ 20) : NearOK a ((ts ++ us).map (shK 0)) (ts.length - 1) 265 := by
  obtain ⟨N1, hN1, kt⟩ := ot.keys
  obtain ⟨N2, hN2, ku⟩ := ou.keys
  have l1 := ot.ne
  have all : ∀ {p : KeyV → Prop}, (∀ k ∈ ts, p (shK 0 k)) → (∀ k ∈ us, p (shK 0 k)) → ∀ k ∈ (ts ++ us).map (shK 0), p k := fun h1 h2 k hk => by
    obtain ⟨k', hk', rfl⟩ := List.mem_map.1 hk
    rcases List.mem_append.1 hk' with h | h
    · exact h1 k' h
    · exact h2 k' h
  refine ⟨ot.arm, by simp; omega, by omega, all kt.len ku.len, all (fun k hk => by have := nt k hk; simp only [shK]; omega) (fun k hk => by have := nu k hk; simp only [shK]; omega), all (fun k hk => by have := kt.tick k hk; simp only [shK]; omega) (fun k hk => by have := ku.tick k hk; simp only [shK]; omega), all ot.fit ou.fit, fun i x y hi hx hy => ?_⟩
  rw [List.getElem?_map] at hx hy
  obtain ⟨x', hx', rfl⟩ := Option.map_eq_some_iff.1 hx
  obtain ⟨y', hy', rfl⟩ := Option.map_eq_some_iff.1 hy
  have key : x'.tick < y'.tick ∧ SlowR a x' y' := by
    by_cases h : i + 1 < ts.length
    · rw [List.getElem?_append_left (by omega)] at hx'
      rw [List.getElem?_append_left h] at hy'
      exact ⟨kt.inc i x' y' hx' hy', ot.slow i x' y' hx' hy'⟩
    · rw [List.getElem?_append_right (by omega)] at hx'
      rw [List.getElem?_append_right (by omega), show i + 1 - ts.length = i - ts.length + 1 by omega] at hy'
      exact ⟨ku.inc _ x' y' hx' hy', ou.slow _ x' y' hx' hy'⟩
  have e0 : ∀ k : KeyV, (shK 0 k).tick = k.tick := fun k => by simp [shK]
  refine ⟨by rw [e0, e0]; exact key.1, ?_⟩
  unfold SlowR
  rw [e0, e0]
  exact key.2
def ot_tCheckJ : OT := fun id => bif id.beq 17 then ([0, 1, 2, 3, 4, 5, 6, 7, 8], [[], [0], [], [], [3], [2, 4, 3], [5, 2, 4, 3], [6, 5, 2, 4, 3], [1, 0, 7, 6, 5, 2, 4, 3]]) else bif id.beq 19 then ([0, 1, 2, 3, 4, 5, 6, 7, 8], [[], [], [], [2], [1, 3, 2], [4, 1, 3, 2], [], [0, 5, 4, 1, 3, 2, 6], [7, 0, 5, 4, 1, 3, 2, 6]]) else ([], [])
def goal_tCheckJ (a : ArmV) (ks : List KeyV) (j : Nat) (N : Nat) (K : AV → Prop) : Prop := goalL T62 ot_tCheckJ (fun _ => .inv ⟨Nat, fun i => ⟨[(1, trkA ks), (2, .x false [.p 2 0]), (20, trkA ks), (21, iA .i64 ks.length), (22, iA .i64 i)], [(2, .box 34 (armCh a))]⟩, fun i => i ≤ ks.length ∧ (∀ x y, j + 1 < i → ks[j]? = some x → ks[j + 1]? = some y → x.tick < y.tick ∧ SlowR a x y), fun i => ks.length - i, fun _ => 0⟩) Tryd.f43 [armA a, trkA ks] K
theorem goal_tCheckJ_vc (a : ArmV) (ks : List KeyV) (j : Nat) (N : Nat) (K : AV → Prop) : goal_tCheckJ a ks j N K = (
 ∃ (a_1 : ArmV),
 [Ch.v (Value.string (ArmV.name a)), Ch.r (ArmV.x a) (63 : Nat), Ch.r (ArmV.y a) (63 : Nat), Ch.v (Value.bool (ArmV.half a)),
 Ch.r (ArmV.t a) (63 : Nat), Ch.s (16 : Nat) (List.map linkCh (ArmV.links a))] =
 [Ch.v (Value.string (ArmV.name a_1)), Ch.r (ArmV.x a_1) (63 : Nat), Ch.r (ArmV.y a_1) (63 : Nat), Ch.v (Value.bool (ArmV.half a_1)),
 Ch.r (ArmV.t a_1) (63 : Nat), Ch.s (16 : Nat) (List.map linkCh (ArmV.links a_1))] ∧
 GoodArm a_1 ∧
 bif Int.ofNat (List.length (List.map keyCh ks)) == (0 : Int) then K (AV.x false [Ch.v (Value.int IntKind.i64 (14 : Int))])
 else
 bif decide (Int.ofNat (List.length (List.map keyCh ks)) > (60 : Int)) then K (AV.x false [Ch.v (Value.int IntKind.i64 (2 : Int))])
 else
 (∃ (x : Nat),
 ((x ≤ List.length ks ∧
 ∀ (x_1 y : KeyV),
 j + (1 : Nat) < x →
 ks[j]? = some x_1 →
 ks[j + (1 : Nat)]? = some y →
 KeyV.tick x_1 < KeyV.tick y ∧
 ∀ (i : Nat) (L : LinkV) (p q : Rat),
 (ArmV.links a)[i]? = some L →
 (KeyV.q x_1)[i]? = some p →
 (KeyV.q y)[i]? = some q → absR (q - p) ≤ LinkV.sp L * (((KeyV.tick y - KeyV.tick x_1) : Int) : Rat)) ∧
 OfNat.ofNat (0 : Nat) = (0 : Nat)) ∧
 (2 : Nat) = (2 : Nat) ∧
 List.map keyCh ks = List.map keyCh ks ∧
 (0 : Nat) = (0 : Nat) ∧
 (2 : Nat) = (2 : Nat) ∧
 List.map keyCh ks = List.map keyCh ks ∧
 Int.ofNat (List.length (List.map keyCh ks)) = Int.ofNat (List.length ks) ∧
 (0 : Int) = Int.ofNat x ∧
 (34 : Nat) = (34 : Nat) ∧
 ArmV.name a = ArmV.name a ∧
 ArmV.x a = ArmV.x a ∧
 (63 : Nat) ≤ (63 : Nat) ∧
 ArmV.y a = ArmV.y a ∧
 (63 : Nat) ≤ (63 : Nat) ∧
 ArmV.half a = ArmV.half a ∧
 ArmV.t a = ArmV.t a ∧
 (63 : Nat) ≤ (63 : Nat) ∧
 (16 : Nat) = (16 : Nat) ∧
 List.map linkCh (ArmV.links a) = List.map linkCh (ArmV.links a) ∧ True) ∧
 ∀ (x : Nat),
 (x ≤ List.length ks ∧
 ∀ (x_1 y : KeyV),
 j + (1 : Nat) < x →
 ks[j]? = some x_1 →
 ks[j + (1 : Nat)]? = some y →
 KeyV.tick x_1 < KeyV.tick y ∧
 ∀ (i : Nat) (L : LinkV) (p q : Rat),
 (ArmV.links a)[i]? = some L →
 (KeyV.q x_1)[i]? = some p →
 (KeyV.q y)[i]? = some q → absR (q - p) ≤ LinkV.sp L * (((KeyV.tick y - KeyV.tick x_1) : Int) : Rat)) →
 OfNat.ofNat (0 : Nat) = (0 : Nat) →
 bif decide (Int.ofNat x < Int.ofNat (List.length ks)) then
 ((0 : Int) ≤ Int.ofNat x ∧ Int.ofNat x < Int.ofNat (List.length (List.map keyCh ks))) ∧
 ∃ (d : Int),
 ∃ (ys : List (List Ch)),
 ldE (List.map keyCh ks) (Int.toNat (Int.ofNat x)) (0 : Nat) (2 : Nat) =
 some [Ch.v (Value.int IntKind.i64 d), Ch.s (3 : Nat) ys] ∧
 bif decide (d < (0 : Int)) then K (AV.x false [Ch.v (Value.int IntKind.i64 (1 : Int))])
 else
 bif decide (d > (2000 : Int)) then K (AV.x false [Ch.v (Value.int IntKind.i64 (1 : Int))])
 else
 ∃ (a_4 : ArmV),
 ∃ (n : Nat),
 ∃ (qs : List Rat),
 [Ch.v (Value.string (ArmV.name a)), Ch.r (ArmV.x a) (63 : Nat), Ch.r (ArmV.y a) (63 : Nat),
 Ch.v (Value.bool (ArmV.half a)), Ch.r (ArmV.t a) (63 : Nat),
 Ch.s (16 : Nat) (List.map linkCh (ArmV.links a))] =
 [Ch.v (Value.string (ArmV.name a_4)), Ch.r (ArmV.x a_4) (63 : Nat), Ch.r (ArmV.y a_4) (63 : Nat),
 Ch.v (Value.bool (ArmV.half a_4)), Ch.r (ArmV.t a_4) (63 : Nat),
 Ch.s (16 : Nat) (List.map linkCh (ArmV.links a_4))] ∧
 ys = lR n qs ∧
 (GoodArm a_4 ∧ n ≤ (1000000 : Nat) ∧ List.length qs = List.length (ArmV.links a_4)) ∧
 ((∀ (i : Nat) (L : LinkV) (q : Rat),
 (ArmV.links a_4)[i]? = some L → qs[i]? = some q → LinkV.lo L ≤ q ∧ q ≤ LinkV.hi L) →
 bif Int.ofNat x == (0 : Int) then
 ∃ (x' : Nat),
 ((x' ≤ List.length ks ∧
 ∀ (x y : KeyV),
 j + (1 : Nat) < x' →
 ks[j]? = some x →
 ks[j + (1 : Nat)]? = some y →
 KeyV.tick x < KeyV.tick y ∧
 ∀ (i : Nat) (L : LinkV) (p q : Rat),
 (ArmV.links a)[i]? = some L →
 (KeyV.q x)[i]? = some p →
 (KeyV.q y)[i]? = some q →
 absR (q - p) ≤ LinkV.sp L * (((KeyV.tick y - KeyV.tick x) : Int) : Rat)) ∧
 OfNat.ofNat (0 : Nat) = (0 : Nat) ∧ List.length ks - x' < List.length ks - x) ∧
 (2 : Nat) = (2 : Nat) ∧
 List.map keyCh ks = List.map keyCh ks ∧
 (0 : Nat) = (0 : Nat) ∧
 (2 : Nat) = (2 : Nat) ∧
 List.map keyCh ks = List.map keyCh ks ∧
 Int.ofNat (List.length ks) = Int.ofNat (List.length ks) ∧
 IntKind.wrap IntKind.i64 (Int.ofNat x + (1 : Int)) = Int.ofNat x' ∧
 (34 : Nat) = (34 : Nat) ∧
 ArmV.name a = ArmV.name a ∧
 ArmV.x a = ArmV.x a ∧
 (63 : Nat) ≤ (63 : Nat) ∧
 ArmV.y a = ArmV.y a ∧
 (63 : Nat) ≤ (63 : Nat) ∧
 ArmV.half a = ArmV.half a ∧
 ArmV.t a = ArmV.t a ∧
 (63 : Nat) ≤ (63 : Nat) ∧
 (16 : Nat) = (16 : Nat) ∧
 List.map linkCh (ArmV.links a) =
 List.map linkCh (ArmV.links a) ∧
 True
 else
 ((0 : Int) ≤ IntKind.wrap IntKind.i64 (Int.ofNat x - (1 : Int)) ∧
 IntKind.wrap IntKind.i64 (Int.ofNat x - (1 : Int)) <
 Int.ofNat (List.length (List.map keyCh ks))) ∧
 ∃ (d_1 : Int),
 ldE (List.map keyCh ks)
 (Int.toNat (IntKind.wrap IntKind.i64 (Int.ofNat x - (1 : Int)))) (0 : Nat)
 (1 : Nat) =
 some [Ch.v (Value.int IntKind.i64 d_1)] ∧
 bif decide (d ≤ d_1) then K (AV.x false [Ch.v (Value.int IntKind.i64 (9 : Int))])
 else
 ((0 : Int) ≤ IntKind.wrap IntKind.i64 (Int.ofNat x - (1 : Int)) ∧
 IntKind.wrap IntKind.i64 (Int.ofNat x - (1 : Int)) <
 Int.ofNat (List.length (List.map keyCh ks))) ∧
 ∃ (d_2 : Int),
 ∃ (ys_1 : List (List Ch)),
 ldE (List.map keyCh ks)
 (Int.toNat (IntKind.wrap IntKind.i64 (Int.ofNat x - (1 : Int))))
 (0 : Nat) (2 : Nat) =
 some [Ch.v (Value.int IntKind.i64 d_2), Ch.s (3 : Nat) ys_1] ∧
 ∃ (a_6 : ArmV),
 ∃ (x_1 : KeyV),
 ∃ (y : KeyV),
 [Ch.v (Value.string (ArmV.name a)), Ch.r (ArmV.x a) (63 : Nat),
 Ch.r (ArmV.y a) (63 : Nat), Ch.v (Value.bool (ArmV.half a)),
 Ch.r (ArmV.t a) (63 : Nat),
 Ch.s (16 : Nat) (List.map linkCh (ArmV.links a))] =
 [Ch.v (Value.string (ArmV.name a_6)),
 Ch.r (ArmV.x a_6) (63 : Nat), Ch.r (ArmV.y a_6) (63 : Nat),
 Ch.v (Value.bool (ArmV.half a_6)),
 Ch.r (ArmV.t a_6) (63 : Nat),
 Ch.s (16 : Nat) (List.map linkCh (ArmV.links a_6))] ∧
 [Ch.v (Value.int IntKind.i64 d_2), Ch.s (3 : Nat) ys_1] =
 [Ch.v (Value.int IntKind.i64 (KeyV.tick x_1)),
 Ch.s (3 : Nat) (lR (KeyV.n x_1) (KeyV.q x_1))] ∧
 [Ch.v (Value.int IntKind.i64 d), Ch.s (3 : Nat) ys] =
 [Ch.v (Value.int IntKind.i64 (KeyV.tick y)),
 Ch.s (3 : Nat) (lR (KeyV.n y) (KeyV.q y))] ∧
 ((List.length (ArmV.links a_6) ≤ (3 : Nat) ∧
 List.length (KeyV.q x_1) =
 List.length (ArmV.links a_6) ∧
 List.length (KeyV.q y) =
 List.length (ArmV.links a_6)) ∧
 (KeyV.n x_1 ≤ (100000 : Nat) ∧
 KeyV.n y ≤ (100000 : Nat)) ∧
 ((-1000000 : Int) ≤ KeyV.tick x_1 ∧
 KeyV.tick x_1 ≤ (1000000 : Int)) ∧
 (-1000000 : Int) ≤ KeyV.tick y ∧
 KeyV.tick y ≤ (1000000 : Int)) ∧
 ((∀ (i : Nat) (L : LinkV) (p q : Rat),
 (ArmV.links a_6)[i]? = some L →
 (KeyV.q x_1)[i]? = some p →
 (KeyV.q y)[i]? = some q →
 absR (q - p) ≤
 LinkV.sp L * (((KeyV.tick y - KeyV.tick x_1) : Int) : Rat)) →
 ∃ (x' : Nat),
 ((x' ≤ List.length ks ∧
 ∀ (x y : KeyV),
 j + (1 : Nat) < x' →
 ks[j]? = some x →
 ks[j + (1 : Nat)]? = some y →
 KeyV.tick x < KeyV.tick y ∧
 ∀ (i : Nat) (L : LinkV) (p q : Rat),
 (ArmV.links a)[i]? = some L →
 (KeyV.q x)[i]? = some p →
 (KeyV.q y)[i]? = some q →
 absR (q - p) ≤
 LinkV.sp L *
 (((KeyV.tick y -
 KeyV.tick x) : Int) : Rat)) ∧
 OfNat.ofNat (0 : Nat) = (0 : Nat) ∧
 List.length ks - x' < List.length ks - x) ∧
 (2 : Nat) = (2 : Nat) ∧
 List.map keyCh ks = List.map keyCh ks ∧
 (0 : Nat) = (0 : Nat) ∧
 (2 : Nat) = (2 : Nat) ∧
 List.map keyCh ks = List.map keyCh ks ∧
 Int.ofNat (List.length ks) =
 Int.ofNat (List.length ks) ∧
 IntKind.wrap IntKind.i64
 (Int.ofNat x + (1 : Int)) =
 Int.ofNat x' ∧
 (34 : Nat) = (34 : Nat) ∧
 ArmV.name a = ArmV.name a ∧
 ArmV.x a = ArmV.x a ∧
 (63 : Nat) ≤ (63 : Nat) ∧
 ArmV.y a = ArmV.y a ∧
 (63 : Nat) ≤ (63 : Nat) ∧
 ArmV.half a =
 ArmV.half a ∧
 ArmV.t a = ArmV.t a ∧
 (63 : Nat) ≤
 (63 : Nat) ∧
 (16 : Nat) =
 (16 : Nat) ∧
 List.map linkCh
 (ArmV.links
 a) =
 List.map
 linkCh
 (ArmV.links
 a) ∧
 True) ∧
 (¬SlowR a_6 x_1 y →
 K
 (AV.x false
 [Ch.v (Value.int IntKind.i64 (19 : Int))]))) ∧
 (¬Fit a_4 qs → K (AV.x false [Ch.v (Value.int IntKind.i64 (17 : Int))]))
 else K (AV.x false [Ch.v (Value.int IntKind.i64 (0 : Int))])) := by kernel_rfl
theorem g_tCheckJ (a : ArmV) (ks : List KeyV) (j : Nat) (N : Nat) (hc : (NearOK a ks j N)) (K : AV → Prop) (hK : ((∀ x y, ks[j]? = some x → ks[j + 1]? = some y → x.tick < y.tick ∧ SlowR a x y) → K (iA .i64 0)) ∧ (∀ x y, ks[j]? = some x → ks[j + 1]? = some y → y.tick ≤ x.tick → K (iA .i64 9)) ∧ (∀ x y, ks[j]? = some x → ks[j + 1]? = some y → x.tick < y.tick → ¬ SlowR a x y → K (iA .i64 19))) : Holds (goal_tCheckJ a ks j N K) := by
  refine ⟨?_⟩
  rw [goal_tCheckJ_vc]
  try simp only [Int.ofNat_eq_natCast, true_and, and_true, Nat.zero_add, Nat.le_refl, true_implies, true_or, or_true]
  obtain ⟨hg, hn, hN, hlen, hnn, htk, hf, hs⟩ := hc
  obtain ⟨k0, k9, k19⟩ := hK
  have hl := hg.n
  simp only [List.length_map]
  refine ⟨a, rfl, hg, bif_mk (fun h => by simp only [beq_iff_eq] at h; omega) (fun _ => bif_mk (fun h => by have := of_decide_eq_true h; omega) (fun _ => ⟨⟨0, ⟨by omega, fun _ _ h => by omega⟩, trivial, rfl⟩, fun x hx => bif_mk (fun hp => ?_) (fun hp => k0 fun u v hu hv => hx.2 u v ?_ hu hv)⟩))⟩
  · have hp : x < ks.length := by have := of_decide_eq_true hp; omega
    obtain ⟨y, hy⟩ : ∃ y, ks[x]? = some y := ⟨_, List.getElem?_eq_getElem hp⟩
    have my := List.mem_of_getElem? hy
    have ht := htk y my
    have hny := hnn y my
    have hly := hlen y my
    refine ⟨by omega, _, _, key_ld (by simpa using hy), bif_mk (fun h => by have := of_decide_eq_true h; omega) (fun _ => bif_mk (fun h => by have := of_decide_eq_true h; omega) (fun _ => ⟨a, y.n, y.q, rfl, rfl, ⟨hg, by omega, hly⟩, fun _ => bif_mk (fun h0 => ⟨x + 1, ⟨⟨by omega, fun u v h => ?_⟩, by omega⟩, by rw [w64 (by omega)]; simp⟩) (fun h0 => ?_), fun h => absurd (hf y my) h⟩))⟩
    · simp at h0; omega
    · have h0 : x ≠ 0 := fun e => by subst e; simp at h0
      obtain ⟨w, hw⟩ : ∃ w, ks[x - 1]? = some w := ⟨_, List.getElem?_eq_getElem (by omega)⟩
      have mw := List.mem_of_getElem? hw
      have hy' : ks[x - 1 + 1]? = some y := by rw [show x - 1 + 1 = x by omega]; exact hy
      have hwt := htk w mw
      have hnw := hnn w mw
      have hlw := hlen w mw
      have e1 : IntKind.i64.wrap ((x : Int) - 1) = ((x - 1 : Nat) : Int) := by rw [w64 (by omega)]; omega
      rw [e1, Int.toNat_natCast]
      have next : w.tick < y.tick → SlowR a w y → ∃ x' : Nat, ((x' ≤ ks.length ∧ ∀ (u v : KeyV), j + 1 < x' → ks[j]? = some u → ks[j + 1]? = some v → u.tick < v.tick ∧ SlowR a u v) ∧ ks.length - x' < ks.length - x) ∧ IntKind.i64.wrap ((x : Int) + 1) = x' := fun g1 g2 => by
        refine ⟨x + 1, ⟨⟨by omega, fun u v h hu hv => ?_⟩, by omega⟩, by rw [w64 (by omega)]; simp⟩
        by_cases e : j = x - 1
        · subst e
          rw [hw] at hu; cases hu
          rw [hy'] at hv; cases hv
          exact ⟨g1, g2⟩
        · exact hx.2 u v (by omega) hu hv
      refine ⟨by omega, _, key_ld0 hw, bif_mk (fun h => ?_) (fun h => ⟨by omega, _, _, key_ld hw, a, w, y, rfl, rfl, rfl, ⟨⟨by omega, hlw, hly⟩, ⟨by omega, by omega⟩, ⟨by omega, by omega⟩, by omega, by omega⟩, fun hsl => next (by have := of_decide_eq_false h; omega) hsl, fun hsl => ?_⟩)⟩
      · have h := of_decide_eq_true h
        by_cases e : x - 1 = j
        · subst e; exact k9 w y hw hy' h
        · have := (hs (x - 1) w y e hw hy').1; omega
      · have h := of_decide_eq_false h
        by_cases e : x - 1 = j
        · subst e; exact k19 w y hw hy' (by omega) hsl
        · exact absurd (hs (x - 1) w y e hw hy').2 hsl
  · have hp := of_decide_eq_false hp
    have := (List.getElem?_eq_some_iff.1 hv).1
    omega
def c_tCheckJ : Ctr := fun as0 => match as0 with
  | [.x true xs, .x false [.s 2 ys]] => some fun K => ∃ (a : ArmV) (ks : List KeyV) (j : Nat) (N : Nat), xs = armCh a ∧ ys = ks.map keyCh ∧ ((NearOK a ks j N)) ∧ (((∀ x y, ks[j]? = some x → ks[j + 1]? = some y → x.tick < y.tick ∧ SlowR a x y) → K (iA .i64 0)) ∧ (∀ x y, ks[j]? = some x → ks[j + 1]? = some y → y.tick ≤ x.tick → K (iA .i64 9)) ∧ (∀ x y, ks[j]? = some x → ks[j + 1]? = some y → x.tick < y.tick → ¬ SlowR a x y → K (iA .i64 19)))
  | _ => none
theorem ok_tCheckJ : CtrOK Tryd.prog tabG debT 43 c_tCheckJ := by
  refine ⟨enters Tryd.func43 (by kernel_rfl), fun l T hT K hK => ?_⟩
  unfold c_tCheckJ at hT
  split at hT
  · cases hT
    obtain ⟨a, ks, j, N, rfl, rfl, hc, hK⟩ := hK
    exact spec_ofL T62ok mixed Tryd.func43 (by kernel_rfl) (by kernel_rfl) (by rfl) (g_tCheckJ _ _ _ _ hc K hK)
  · cases hT
def L63 : List (Nat × Ctr) := (43, c_tCheckJ) :: L61
def T63 : Tabs := mkT L63 M58 X4
theorem L63ok : CtrsOK Tryd.prog tabG debT L63 := .cons ok_tCheckJ L61ok
theorem T63ok : TabsOK Tryd.prog tabG debT T63 := mkTok L63ok M58ok X4ok
def ot_tJoin : OT := fun _ => ([], [])
def goal_tJoin (a : ArmV) (ts : List KeyV) (us : List KeyV) (w : KeyV) (z : KeyV) (K : AV → Prop) : Prop := goalL T63 ot_tJoin (fun _ => .unroll 4) Tryd.f54 [armA a, trkA ts, trkA us] K
theorem goal_tJoin_vc (a : ArmV) (ts : List KeyV) (us : List KeyV) (w : KeyV) (z : KeyV) (K : AV → Prop) : goal_tJoin a ts us w z K = (
 ((0 : Int) ≤ (0 : Int) ∧ (0 : Int) < (2 : Int)) ∧
 ∃ (ys : List (List Ch)),
 some [Ch.s (2 : Nat) (List.map keyCh ts)] = some [Ch.s (2 : Nat) ys] ∧
 ∃ (a_1 : ArmV),
 ∃ (ks : List KeyV),
 ∃ (j : Nat),
 ∃ (N : Nat),
 [Ch.v (Value.string (ArmV.name a)), Ch.r (ArmV.x a) (63 : Nat), Ch.r (ArmV.y a) (63 : Nat), Ch.v (Value.bool (ArmV.half a)),
 Ch.r (ArmV.t a) (63 : Nat), Ch.s (16 : Nat) (List.map linkCh (ArmV.links a))] =
 [Ch.v (Value.string (ArmV.name a_1)), Ch.r (ArmV.x a_1) (63 : Nat), Ch.r (ArmV.y a_1) (63 : Nat),
 Ch.v (Value.bool (ArmV.half a_1)), Ch.r (ArmV.t a_1) (63 : Nat), Ch.s (16 : Nat) (List.map linkCh (ArmV.links a_1))] ∧
 ys = List.map keyCh ks ∧
 NearOK a_1 ks j N ∧
 ((∀ (x y : KeyV),
 ks[j]? = some x →
 ks[j + (1 : Nat)]? = some y →
 KeyV.tick x < KeyV.tick y ∧
 ∀ (i : Nat) (L : LinkV) (p q : Rat),
 (ArmV.links a_1)[i]? = some L →
 (KeyV.q x)[i]? = some p →
 (KeyV.q y)[i]? = some q → absR (q - p) ≤ LinkV.sp L * (((KeyV.tick y - KeyV.tick x) : Int) : Rat)) →
 ((0 : Int) ≤ (1 : Int) ∧ (1 : Int) < (2 : Int)) ∧
 ∃ (ys : List (List Ch)),
 some [Ch.s (2 : Nat) (List.map keyCh us)] = some [Ch.s (2 : Nat) ys] ∧
 ∃ (a_3 : ArmV),
 ∃ (ks : List KeyV),
 ∃ (j : Nat),
 ∃ (N : Nat),
 [Ch.v (Value.string (ArmV.name a)), Ch.r (ArmV.x a) (63 : Nat), Ch.r (ArmV.y a) (63 : Nat),
 Ch.v (Value.bool (ArmV.half a)), Ch.r (ArmV.t a) (63 : Nat),
 Ch.s (16 : Nat) (List.map linkCh (ArmV.links a))] =
 [Ch.v (Value.string (ArmV.name a_3)), Ch.r (ArmV.x a_3) (63 : Nat), Ch.r (ArmV.y a_3) (63 : Nat),
 Ch.v (Value.bool (ArmV.half a_3)), Ch.r (ArmV.t a_3) (63 : Nat),
 Ch.s (16 : Nat) (List.map linkCh (ArmV.links a_3))] ∧
 ys = List.map keyCh ks ∧
 NearOK a_3 ks j N ∧
 ((∀ (x y : KeyV),
 ks[j]? = some x →
 ks[j + (1 : Nat)]? = some y →
 KeyV.tick x < KeyV.tick y ∧
 ∀ (i : Nat) (L : LinkV) (p q : Rat),
 (ArmV.links a_3)[i]? = some L →
 (KeyV.q x)[i]? = some p →
 (KeyV.q y)[i]? = some q →
 absR (q - p) ≤ LinkV.sp L * (((KeyV.tick y - KeyV.tick x) : Int) : Rat)) →
 ∃ (ks : List KeyV),
 List.map keyCh ts = List.map keyCh ks ∧
 (∀ (k : KeyV),
 k ∈ ks → KeyV.n k ≤ (100000 : Nat) ∧ List.length (KeyV.q k) ≤ (100000 : Nat)) ∧
 List.length ks ≤ (100000 : Nat) ∧
 ∃ (ks_1 : List KeyV),
 List.map keyCh us = List.map keyCh ks_1 ∧
 (∀ (k : KeyV),
 k ∈ ks_1 →
 KeyV.n k ≤ (100000 : Nat) ∧ List.length (KeyV.q k) ≤ (100000 : Nat)) ∧
 List.length ks_1 ≤ (100000 : Nat) ∧
 ((List.length ks +
 List.length
 (List.take (List.length ks_1)
 (List.drop (0 : Nat)
 (List.map keyCh (List.map (shK (0 : Int)) ks_1))))) *
 (32 : Nat) ≤
 (140737488355328 : Nat) ∧
 List.length ks +
 List.length
 (List.take (List.length ks_1)
 (List.drop (0 : Nat)
 (List.map keyCh (List.map (shK (0 : Int)) ks_1)))) ≤
 (9223372036854775807 : Nat)) ∧
 ∃ (a_5 : ArmV),
 ∃ (ks_2 : List KeyV),
 ∃ (j : Nat),
 ∃ (N : Nat),
 [Ch.v (Value.string (ArmV.name a)), Ch.r (ArmV.x a) (63 : Nat),
 Ch.r (ArmV.y a) (63 : Nat), Ch.v (Value.bool (ArmV.half a)),
 Ch.r (ArmV.t a) (63 : Nat),
 Ch.s (16 : Nat) (List.map linkCh (ArmV.links a))] =
 [Ch.v (Value.string (ArmV.name a_5)),
 Ch.r (ArmV.x a_5) (63 : Nat), Ch.r (ArmV.y a_5) (63 : Nat),
 Ch.v (Value.bool (ArmV.half a_5)),
 Ch.r (ArmV.t a_5) (63 : Nat),
 Ch.s (16 : Nat) (List.map linkCh (ArmV.links a_5))] ∧
 List.take
 (List.length ks +
 List.length
 (List.take (List.length ks_1)
 (List.drop (0 : Nat)
 (List.map keyCh
 (List.map (shK (0 : Int)) ks_1)))))
 (List.drop (0 : Nat)
 (List.take (List.length ks)
 (List.map keyCh (List.map (shK (0 : Int)) ks)) ++
 List.take (List.length ks_1)
 (List.drop (0 : Nat)
 (List.map keyCh
 (List.map (shK (0 : Int)) ks_1))))) =
 List.map keyCh ks_2 ∧
 NearOK a_5 ks_2 j N ∧
 ((∀ (x y : KeyV),
 ks_2[j]? = some x →
 ks_2[j + (1 : Nat)]? = some y →
 KeyV.tick x < KeyV.tick y ∧
 ∀ (i : Nat) (L : LinkV) (p q : Rat),
 (ArmV.links a_5)[i]? = some L →
 (KeyV.q x)[i]? = some p →
 (KeyV.q y)[i]? = some q →
 absR (q - p) ≤
 LinkV.sp L *
 (((KeyV.tick y - KeyV.tick x) : Int) : Rat)) →
 K
 (AV.t
 [(false,
 [Ch.s (2 : Nat)
 (List.take
 (List.length ks +
 List.length
 (List.take (List.length ks_1)
 (List.drop (0 : Nat)
 (List.map keyCh
 (List.map (shK (0 : Int))
 ks_1)))))
 (List.drop (0 : Nat)
 (List.take (List.length ks)
 (List.map keyCh
 (List.map (shK (0 : Int)) ks)) ++
 List.take (List.length ks_1)
 (List.drop (0 : Nat)
 (List.map keyCh
 (List.map (shK (0 : Int))
 ks_1))))))]),
 (false,
 [Ch.v (Value.int IntKind.i64 (0 : Int))])])) ∧
 (∀ (x y : KeyV),
 ks_2[j]? = some x →
 ks_2[j + (1 : Nat)]? = some y →
 KeyV.tick y ≤ KeyV.tick x →
 K
 (AV.t
 [(false,
 [Ch.v
 (Value.slice none (0 : Nat)
 (0 : Nat))]),
 (false,
 [Ch.v
 (Value.int IntKind.i64
 (9 : Int))])])) ∧
 ∀ (x y : KeyV),
 ks_2[j]? = some x →
 ks_2[j + (1 : Nat)]? = some y →
 KeyV.tick x < KeyV.tick y →
 ¬SlowR a_5 x y →
 K
 (AV.t
 [(false,
 [Ch.v
 (Value.slice none (0 : Nat)
 (0 : Nat))]),
 (false,
 [Ch.v
 (Value.int IntKind.i64
 (19 : Int))])])) ∧
 (∀ (x y : KeyV),
 ks[j]? = some x →
 ks[j + (1 : Nat)]? = some y →
 KeyV.tick y ≤ KeyV.tick x →
 K
 (AV.t
 [(false, [Ch.v (Value.slice none (0 : Nat) (0 : Nat))]),
 (false, [Ch.v (Value.int IntKind.i64 (9 : Int))])])) ∧
 ∀ (x y : KeyV),
 ks[j]? = some x →
 ks[j + (1 : Nat)]? = some y →
 KeyV.tick x < KeyV.tick y →
 ¬SlowR a_3 x y →
 K
 (AV.t
 [(false, [Ch.v (Value.slice none (0 : Nat) (0 : Nat))]),
 (false, [Ch.v (Value.int IntKind.i64 (19 : Int))])])) ∧
 (∀ (x y : KeyV),
 ks[j]? = some x →
 ks[j + (1 : Nat)]? = some y →
 KeyV.tick y ≤ KeyV.tick x →
 K
 (AV.t
 [(false, [Ch.v (Value.slice none (0 : Nat) (0 : Nat))]),
 (false, [Ch.v (Value.int IntKind.i64 (9 : Int))])])) ∧
 ∀ (x y : KeyV),
 ks[j]? = some x →
 ks[j + (1 : Nat)]? = some y →
 KeyV.tick x < KeyV.tick y →
 ¬SlowR a_1 x y →
 K
 (AV.t
 [(false, [Ch.v (Value.slice none (0 : Nat) (0 : Nat))]),
 (false, [Ch.v (Value.int IntKind.i64 (19 : Int))])])) := by kernel_rfl
theorem g_tJoin (a : ArmV) (ts : List KeyV) (us : List KeyV) (w : KeyV) (z : KeyV) (hc : (TrackOK a ts ∧ ts.length ≤ 20 ∧ ts[ts.length - 1]? = some w) ∧ (TrackOK a us ∧ us.length ≤ 20 ∧ us[0]? = some z) ∧ ((∀ k ∈ ts, k.n ≤ 200) ∧ ∀ k ∈ us, k.n ≤ 200)) (K : AV → Prop) (hK : (w.tick < z.tick → SlowR a w z → ∀ js : List KeyV, IsJoin ts us js → K (.t [(false, [.s 2 (js.map keyCh)]), (false, [.v (.int .i64 0)])])) ∧ (z.tick ≤ w.tick → K (.t [(false, [.v (.slice none 0 0)]), (false, [.v (.int .i64 9)])])) ∧ (w.tick < z.tick → K (.t [(false, [.v (.slice none 0 0)]), (false, [.v (.int .i64 19)])]))) : Holds (goal_tJoin a ts us w z K) := by
  refine ⟨?_⟩
  rw [goal_tJoin_vc]
  try simp only [Int.ofNat_eq_natCast, true_and, and_true, Nat.zero_add, Nat.le_refl, true_implies, true_or, or_true]
  obtain ⟨⟨ot, lt, hw⟩, ⟨ou, lu, hz⟩, nt, nu⟩ := hc
  obtain ⟨k0, k9, k19⟩ := hK
  obtain ⟨N1, hN1, kt⟩ := ot.keys
  obtain ⟨N2, hN2, ku⟩ := ou.keys
  have hal := ot.arm.n
  have l1 := ot.ne
  have l2 := ou.ne
  have no : ∀ {l : List KeyV} {x : KeyV}, l[l.length]? = some x → False := fun h => by
    have := (List.getElem?_eq_some_iff.1 h).1; omega
  have sm : ∀ (ks : List KeyV), (∀ k ∈ ks, k.n ≤ 200) → (∀ k ∈ ks, k.q.length = a.links.length) → ∀ k ∈ ks, k.n ≤ 100000 ∧ k.q.length ≤ 100000 := fun ks h1 h2 k hk => ⟨by have := h1 k hk; omega, by rw [h2 k hk]; omega⟩
  have et : List.take us.length (List.drop 0 (List.map keyCh (List.map (shK 0) us))) = List.map keyCh (List.map (shK 0) us) := by rw [List.drop_zero, List.take_of_length_le (by simp)]
  have ej : List.take (ts.length + (List.map keyCh (List.map (shK 0) us)).length) (List.drop 0 (List.take ts.length (List.map keyCh (List.map (shK 0) ts)) ++ List.map keyCh (List.map (shK 0) us))) = List.map keyCh (List.map (shK 0) (ts ++ us)) := by
    rw [List.drop_zero, List.take_of_length_le (by simp), List.take_of_length_le (by simp), List.map_append, List.map_append]
  have near := join_near ot ou nt nu lt lu
  have jl : ((ts ++ us).map (shK 0)).length = ts.length + us.length := by simp
  have g1 : ((ts ++ us).map (shK 0))[ts.length - 1]? = some (shK 0 w) := by rw [List.getElem?_map, List.getElem?_append_left (by omega), hw]; rfl
  have g2 : ((ts ++ us).map (shK 0))[ts.length - 1 + 1]? = some (shK 0 z) := by rw [List.getElem?_map, List.getElem?_append_right (by omega), show ts.length - 1 + 1 - ts.length = 0 by omega, hz]; rfl
  have e0 : ∀ k : KeyV, (shK 0 k).tick = k.tick := fun k => by simp [shK]
  have sl : SlowR a (shK 0 w) (shK 0 z) ↔ SlowR a w z := by unfold SlowR; rw [e0, e0]; exact Iff.rfl
  refine ⟨by omega, _, rfl, a, ts, ts.length, N1, rfl, rfl, ot.near hN1 kt, fun _ => ⟨by omega, _, rfl, a, us, us.length, N2, rfl, rfl, ou.near hN2 ku, fun _ => ⟨ts, rfl, sm ts nt kt.len, by omega, us, rfl, sm us nu ku.len, by omega, by rw [et]; simp only [List.length_map]; omega, a, (ts ++ us).map (shK 0), ts.length - 1, 265, rfl, by rw [et]; exact ej, near, fun h => ?_, fun x y hx hy h => ?_, fun x y hx hy h hs => ?_⟩, fun x y hx => (no hx).elim, fun x y hx => (no hx).elim⟩, fun x y hx => (no hx).elim, fun x y hx => (no hx).elim⟩
  · obtain ⟨h1, h2⟩ := h _ _ g1 g2
    rw [e0, e0] at h1
    rw [et, ej]
    exact k0 h1 (sl.1 h2) _ ⟨rfl⟩
  · rw [g1] at hx; cases hx
    rw [g2] at hy; cases hy
    rw [e0, e0] at h
    exact k9 h
  · rw [g1] at hx; cases hx
    rw [g2] at hy; cases hy
    rw [e0, e0] at h
    exact k19 h
def c_tJoin : Ctr := fun as0 => match as0 with
  | [.x true xs, .x false [.s 2 ys], .x false [.s 2 zs]] => some fun K => ∃ (a : ArmV) (ts : List KeyV) (us : List KeyV) (w : KeyV) (z : KeyV), xs = armCh a ∧ ys = ts.map keyCh ∧ zs = us.map keyCh ∧ ((TrackOK a ts ∧ ts.length ≤ 20 ∧ ts[ts.length - 1]? = some w) ∧ (TrackOK a us ∧ us.length ≤ 20 ∧ us[0]? = some z) ∧ ((∀ k ∈ ts, k.n ≤ 200) ∧ ∀ k ∈ us, k.n ≤ 200)) ∧ ((w.tick < z.tick → SlowR a w z → ∀ js : List KeyV, IsJoin ts us js → K (.t [(false, [.s 2 (js.map keyCh)]), (false, [.v (.int .i64 0)])])) ∧ (z.tick ≤ w.tick → K (.t [(false, [.v (.slice none 0 0)]), (false, [.v (.int .i64 9)])])) ∧ (w.tick < z.tick → K (.t [(false, [.v (.slice none 0 0)]), (false, [.v (.int .i64 19)])])))
  | _ => none
theorem ok_tJoin : CtrOK Tryd.prog tabG debT 54 c_tJoin := by
  refine ⟨enters Tryd.func54 (by kernel_rfl), fun l T hT K hK => ?_⟩
  unfold c_tJoin at hT
  split at hT
  · cases hT
    obtain ⟨a, ts, us, w, z, rfl, rfl, rfl, hc, hK⟩ := hK
    exact spec_ofL T63ok mixed Tryd.func54 (by kernel_rfl) (by kernel_rfl) (by rfl) (g_tJoin _ _ _ _ _ hc K hK)
  · cases hT
def L64 : List (Nat × Ctr) := (54, c_tJoin) :: L63
def T64 : Tabs := mkT L64 M58 X4
theorem L64ok : CtrsOK Tryd.prog tabG debT L64 := .cons ok_tJoin L63ok
theorem T64ok : TabsOK Tryd.prog tabG debT T64 := mkTok L64ok M58ok X4ok
-- the newest table: L64 M58 X4 T64
end Go.Proofs
/- TrackJoins. -/
namespace Go.Proofs
open Go Go.Eng
def ot_tjoin : OT := fun id => bif id.beq 5 then ([0, 1, 2, 4, 3, 5, 6, 7, 8, 9, 10, 11, 12], [[], [], [], [1, 2], [], [4, 3, 1, 2], [5, 4, 3, 1, 2], [0, 3, 1, 2, 6, 5, 4], [7, 0, 3, 1, 2, 6, 5, 4], [8, 7, 0, 3, 1, 2, 6, 5, 4], [8, 7, 0, 3, 1, 2, 6, 5, 4], [9, 8, 7, 0, 3, 1, 2, 6, 5, 4], [10, 8, 7, 0, 3, 1, 2, 6, 5, 4, 11, 9]]) else bif id.beq 10 then ([0, 1, 2, 3, 4, 5, 6, 7, 8, 9, 10, 11, 12, 13, 14, 15, 16, 17, 18, 19, 20, 21, 22, 23, 24, 25, 26, 27, 28, 29, 30, 31, 32, 33, 34], [[], [0], [1, 0], [2, 1, 0], [3, 2, 1, 0], [4, 3, 2, 1, 0], [5, 4, 3, 2, 1, 0], [2, 1, 0], [2, 1, 0], [8, 2, 1, 0], [9, 8, 2, 1, 0], [7, 2, 1, 0, 10, 9, 8], [11, 7, 2, 1, 0, 10, 9, 8], [12, 11, 7, 2, 1, 0, 10, 9, 8], [6, 5, 4, 3, 2, 1, 0, 13, 12, 11, 7, 10, 9, 8], [2, 1, 0, 14, 6, 5, 4, 3, 13, 12, 11, 7, 10, 9, 8], [15, 2, 1, 0, 14, 6, 5, 4, 3, 13, 12, 11, 7, 10, 9, 8], [16, 15, 2, 1, 0, 14, 6, 5, 4, 3, 13, 12, 11, 7, 10, 9, 8], [17, 16, 15, 2, 1, 0, 14, 6, 5, 4, 3, 13, 12, 11, 7, 10, 9, 8], [18, 17, 16, 15, 2, 1, 0, 14, 6, 5, 4, 3, 13, 12, 11, 7, 10, 9, 8], [19, 18, 17, 16, 15, 2, 1, 0, 14, 6, 5, 4, 3, 13, 12, 11, 7, 10, 9, 8], [20, 19, 18, 17, 16, 15, 2, 1, 0, 14, 6, 5, 4, 3, 13, 12, 11, 7, 10, 9, 8], [21, 20, 19, 18, 17, 16, 15, 2, 1, 0, 14, 6, 5, 4, 3, 13, 12, 11, 7, 10, 9, 8], [22, 21, 20, 19, 18, 17, 16, 15, 2, 1, 0, 14, 6, 5, 4, 3, 13, 12, 11, 7, 10, 9, 8], [19, 18, 17, 16, 15, 2, 1, 0, 14, 6, 5, 4, 3, 13, 12, 11, 7, 10, 9, 8], [19, 18, 17, 16, 15, 2, 1, 0, 14, 6, 5, 4, 3, 13, 12, 11, 7, 10, 9, 8], [25, 19, 18, 17, 16, 15, 2, 1, 0, 14, 6, 5, 4, 3, 13, 12, 11, 7, 10, 9, 8], [26, 25, 19, 18, 17, 16, 15, 2, 1, 0, 14, 6, 5, 4, 3, 13, 12, 11, 7, 10, 9, 8], [24, 19, 18, 17, 16, 15, 2, 1, 0, 14, 6, 5, 4, 3, 13, 12, 11, 7, 10, 9, 8, 27, 26, 25], [28, 24, 19, 18, 17, 16, 15, 2, 1, 0, 14, 6, 5, 4, 3, 13, 12, 11, 7, 10, 9, 8, 27, 26, 25], [29, 28, 24, 19, 18, 17, 16, 15, 2, 1, 0, 14, 6, 5, 4, 3, 13, 12, 11, 7, 10, 9, 8, 27, 26, 25], [23, 22, 21, 20, 19, 18, 17, 16, 15, 2, 1, 0, 14, 6, 5, 4, 3, 13, 12, 11, 7, 10, 9, 8, 30, 29, 28, 24, 27, 26, 25], [19, 18, 17, 16, 15, 2, 1, 0, 14, 6, 5, 4, 3, 13, 12, 11, 7, 10, 9, 8, 31, 23, 22, 21, 20, 30, 29, 28, 24, 27, 26, 25], [16, 15, 2, 1, 0, 14, 6, 5, 4, 3, 13, 12, 11, 7, 10, 9, 8, 32, 19, 18, 17, 31, 23, 22, 21, 20, 30, 29, 28, 24, 27, 26, 25], [33, 16, 15, 2, 1, 0, 14, 6, 5, 4, 3, 13, 12, 11, 7, 10, 9, 8, 32, 19, 18, 17, 31, 23, 22, 21, 20, 30, 29, 28, 24, 27, 26, 25]]) else bif id.beq 11 then ([0, 1, 2, 3, 4, 5, 6, 7, 8, 9, 10, 11, 12], [[], [], [1], [2, 1], [0, 3, 2, 1], [4, 0, 3, 2, 1], [5, 4, 0, 3, 2, 1], [], [7], [8, 7], [9, 8, 7], [6, 5, 4, 0, 3, 2, 1], [10, 9, 8, 7, 11, 6, 5, 4, 0, 3, 2, 1]]) else ([], [])
def goal_tjoin (l m k : List Int) (x : Int) (K : AV → Prop) : Prop := goalL T64 ot_tjoin noL Tryd.f12 [.x false [.s 1 (ints l)], .x false [.s 1 (ints m)], .x false [.s 1 (ints k)], iA .i64 x] K
theorem goal_tjoin_vc (l : List Int) (m : List Int) (k : List Int) (x : Int) (K : AV → Prop) : goal_tjoin l m k x K = (
 True ∧
 ∃ (l_1 : List Int),
 ints l = ints l_1 ∧
 List.length l_1 ≤ (9223372036854775807 : Nat) ∧
 ∀ (a : ArmV),
 Made a ∧ (1 : Nat) ≤ List.length (ArmV.links a) →
 ∃ (a_2 : ArmV),
 ∃ (l : List Int),
 [Ch.v (Value.string (ArmV.name a)), Ch.r (ArmV.x a) (63 : Nat), Ch.r (ArmV.y a) (63 : Nat), Ch.v (Value.bool (ArmV.half a)),
 Ch.r (ArmV.t a) (63 : Nat), Ch.s (16 : Nat) (List.map linkCh (ArmV.links a))] =
 [Ch.v (Value.string (ArmV.name a_2)), Ch.r (ArmV.x a_2) (63 : Nat), Ch.r (ArmV.y a_2) (63 : Nat),
 Ch.v (Value.bool (ArmV.half a_2)), Ch.r (ArmV.t a_2) (63 : Nat), Ch.s (16 : Nat) (List.map linkCh (ArmV.links a_2))] ∧
 ints m = ints l ∧
 (GoodArm a_2 ∧ List.length l ≤ (9223372036854775807 : Nat)) ∧
 ∀ (ks : List KeyV),
 MadeT a_2 ks →
 (1 : Nat) ≤ List.length ks →
 List.length ks ≤ (4 : Nat) →
 ∃ (a_6 : ArmV),
 ∃ (l : List Int),
 [Ch.v (Value.string (ArmV.name a)), Ch.r (ArmV.x a) (63 : Nat), Ch.r (ArmV.y a) (63 : Nat),
 Ch.v (Value.bool (ArmV.half a)), Ch.r (ArmV.t a) (63 : Nat),
 Ch.s (16 : Nat) (List.map linkCh (ArmV.links a))] =
 [Ch.v (Value.string (ArmV.name a_6)), Ch.r (ArmV.x a_6) (63 : Nat), Ch.r (ArmV.y a_6) (63 : Nat),
 Ch.v (Value.bool (ArmV.half a_6)), Ch.r (ArmV.t a_6) (63 : Nat),
 Ch.s (16 : Nat) (List.map linkCh (ArmV.links a_6))] ∧
 ints k = ints l ∧
 (GoodArm a_6 ∧ List.length l ≤ (9223372036854775807 : Nat)) ∧
 ∀ (ks_1 : List KeyV),
 MadeT a_6 ks_1 →
 (1 : Nat) ≤ List.length ks_1 →
 List.length ks_1 ≤ (4 : Nat) →
 ((0 : Int) < (300 : Int) ∧ (300 : Int) < (9223372036854775808 : Int)) ∧
 ∃ (a_10 : ArmV),
 ∃ (ks_2 : List KeyV),
 [Ch.v (Value.string (ArmV.name a)), Ch.r (ArmV.x a) (63 : Nat),
 Ch.r (ArmV.y a) (63 : Nat), Ch.v (Value.bool (ArmV.half a)),
 Ch.r (ArmV.t a) (63 : Nat), Ch.s (16 : Nat) (List.map linkCh (ArmV.links a))] =
 [Ch.v (Value.string (ArmV.name a_10)), Ch.r (ArmV.x a_10) (63 : Nat),
 Ch.r (ArmV.y a_10) (63 : Nat), Ch.v (Value.bool (ArmV.half a_10)),
 Ch.r (ArmV.t a_10) (63 : Nat),
 Ch.s (16 : Nat) (List.map linkCh (ArmV.links a_10))] ∧
 List.map keyCh ks_1 = List.map keyCh ks_2 ∧
 (TrackOK a_10 ks_2 ∧
 ((-2000 : Int) ≤ IntKind.wrap IntKind.i64 ((150 : Int) + x % (300 : Int)) ∧
 IntKind.wrap IntKind.i64 ((150 : Int) + x % (300 : Int)) ≤ (2000 : Int)) ∧
 ∀ (k : KeyV),
 k ∈ ks_2 →
 (0 : Int) ≤
 KeyV.tick k +
 IntKind.wrap IntKind.i64 ((150 : Int) + x % (300 : Int)) ∧
 KeyV.tick k +
 IntKind.wrap IntKind.i64 ((150 : Int) + x % (300 : Int)) ≤
 (2000 : Int)) ∧
 bif Int.ofNat (List.length (List.map keyCh ks)) == (0 : Int) then
 K (AV.x false [Ch.v (Value.bool false)])
 else
 bif
 Int.ofNat
 (List.length
 (List.map keyCh
 (List.map
 (shK (IntKind.wrap IntKind.i64 ((150 : Int) + x % (300 : Int))))
 ks_2))) ==
 (0 : Int) then
 K (AV.x false [Ch.v (Value.bool false)])
 else
 ∃ (a_11 : ArmV),
 ∃ (ts : List KeyV),
 ∃ (us : List KeyV),
 ∃ (w : KeyV),
 ∃ (z : KeyV),
 [Ch.v (Value.string (ArmV.name a)), Ch.r (ArmV.x a) (63 : Nat),
 Ch.r (ArmV.y a) (63 : Nat), Ch.v (Value.bool (ArmV.half a)),
 Ch.r (ArmV.t a) (63 : Nat),
 Ch.s (16 : Nat) (List.map linkCh (ArmV.links a))] =
 [Ch.v (Value.string (ArmV.name a_11)),
 Ch.r (ArmV.x a_11) (63 : Nat),
 Ch.r (ArmV.y a_11) (63 : Nat),
 Ch.v (Value.bool (ArmV.half a_11)),
 Ch.r (ArmV.t a_11) (63 : Nat),
 Ch.s (16 : Nat) (List.map linkCh (ArmV.links a_11))] ∧
 List.map keyCh ks = List.map keyCh ts ∧
 List.map keyCh
 (List.map
 (shK
 (IntKind.wrap IntKind.i64
 ((150 : Int) + x % (300 : Int))))
 ks_2) =
 List.map keyCh us ∧
 ((TrackOK a_11 ts ∧
 List.length ts ≤ (20 : Nat) ∧
 ts[List.length ts - (1 : Nat)]? = some w) ∧
 (TrackOK a_11 us ∧
 List.length us ≤ (20 : Nat) ∧
 us[(0 : Nat)]? = some z) ∧
 (∀ (k : KeyV), k ∈ ts → KeyV.n k ≤ (200 : Nat)) ∧
 ∀ (k : KeyV), k ∈ us → KeyV.n k ≤ (200 : Nat)) ∧
 (KeyV.tick w < KeyV.tick z →
 (∀ (i : Nat) (L : LinkV) (p q : Rat),
 (ArmV.links a_11)[i]? = some L →
 (KeyV.q w)[i]? = some p →
 (KeyV.q z)[i]? = some q →
 absR (q - p) ≤
 LinkV.sp L *
 (((KeyV.tick z - KeyV.tick w) : Int) : Rat)) →
 ∀ (js : List KeyV),
 IsJoin ts us js →
 ((0 : Int) ≤
 IntKind.wrap IntKind.i64
 (Int.ofNat
 (List.length (List.map keyCh ks)) -
 (1 : Int)) ∧
 IntKind.wrap IntKind.i64
 (Int.ofNat
 (List.length (List.map keyCh ks)) -
 (1 : Int)) <
 Int.ofNat
 (List.length (List.map keyCh ks))) ∧
 ∃ (d : Int),
 ldE (List.map keyCh ks)
 (Int.toNat
 (IntKind.wrap IntKind.i64
 (Int.ofNat
 (List.length
 (List.map keyCh ks)) -
 (1 : Int))))
 (0 : Nat) (1 : Nat) =
 some [Ch.v (Value.int IntKind.i64 d)] ∧
 ((0 : Int) ≤ (0 : Int) ∧
 (0 : Int) <
 Int.ofNat
 (List.length
 (List.map keyCh
 (List.map
 (shK
 (IntKind.wrap IntKind.i64
 ((150 : Int) +
 x % (300 : Int))))
 ks_2)))) ∧
 ∃ (d_1 : Int),
 ldE
 (List.map keyCh
 (List.map
 (shK
 (IntKind.wrap IntKind.i64
 ((150 : Int) +
 x % (300 : Int))))
 ks_2))
 (0 : Nat) (0 : Nat) (1 : Nat) =
 some
 [Ch.v
 (Value.int IntKind.i64
 d_1)] ∧
 bif
 Int.ofNat
 (List.length
 (List.map keyCh js)) ==
 IntKind.wrap IntKind.i64
 (Int.ofNat
 (List.length
 (List.map keyCh ks)) +
 Int.ofNat
 (List.length
 (List.map keyCh
 (List.map
 (shK
 (IntKind.wrap
 IntKind.i64
 ((150 : Int) +
 x %
 (300 :
 Int))))
 ks_2)))) then
 bif decide (d_1 > d) then
 ∃ (ks_3 : List KeyV),
 ∃ (m : Nat),
 ∃ (N : Nat),
 List.map keyCh js =
 List.map keyCh ks_3 ∧
 (KeysOK ks_3 m N ∧
 (N ≤ (10000 : Nat) ∧
 m ≤
 (100000 :
 Nat) ∧
 (1 : Nat) ≤
 List.length
 ks_3 ∧
 List.length
 ks_3 ≤
 (100000 :
 Nat)) ∧
 (-4611686018427387904 :
 Int) ≤
 d ∧
 d <
 (4611686018427387904 :
 Int)) ∧
 ∃ (ks_4 : List KeyV),
 ∃ (m : Nat),
 ∃ (N : Nat),
 List.map keyCh
 ks =
 List.map
 keyCh
 ks_4 ∧
 (KeysOK ks_4 m
 N ∧
 (N ≤
 (10000 :
 Nat) ∧
 m ≤
 (100000 :
 Nat) ∧
 (1 :
 Nat) ≤
 List.length
 ks_4 ∧
 List.length
 ks_4 ≤
 (100000 :
 Nat)) ∧
 (-4611686018427387904 :
 Int) ≤
 d ∧
 d <
 (4611686018427387904 :
 Int)) ∧
 ∃ (a : Nat),
 ∃ (ps :
 List
 Rat),
 ∃ (b :
 Nat),
 ∃ (qs
 :
 List
 Rat),
 lR
 (Prod.snd
 (atR
 ks_3
 d))
 (Prod.fst
 (atR
 ks_3
 d)) =
 lR
 a
 ps ∧
 lR
 (Prod.snd
 (atR
 ks_4
 d))
 (Prod.fst
 (atR
 ks_4
 d)) =
 lR
 b
 qs ∧
 (List.length
 ps ≤
 (1000000000 :
 Nat) ∧
 List.length
 qs ≤
 (1000000000 :
 Nat)) ∧
 bif
 decide
 (ps =
 qs) then
 ∃
 (ks_5
 :
 List
 KeyV),
 ∃
 (m
 :
 Nat),
 ∃
 (N
 :
 Nat),
 List.map
 keyCh
 js =
 List.map
 keyCh
 ks_5 ∧
 (KeysOK
 ks_5
 m
 N ∧
 (N ≤
 (10000 :
 Nat) ∧
 m ≤
 (100000 :
 Nat) ∧
 (1 :
 Nat) ≤
 List.length
 ks_5 ∧
 List.length
 ks_5 ≤
 (100000 :
 Nat)) ∧
 (-4611686018427387904 :
 Int) ≤
 IntKind.wrap
 IntKind.i64
 (d -
 (3 :
 Int)) ∧
 IntKind.wrap
 IntKind.i64
 (d -
 (3 :
 Int)) <
 (4611686018427387904 :
 Int)) ∧
 ∃
 (ks_6
 :
 List
 KeyV),
 ∃
 (m
 :
 Nat),
 ∃
 (N
 :
 Nat),
 List.map
 keyCh
 ks =
 List.map
 keyCh
 ks_6 ∧
 (KeysOK
 ks_6
 m
 N ∧
 (N ≤
 (10000 :
 Nat) ∧
 m ≤
 (100000 :
 Nat) ∧
 (1 :
 Nat) ≤
 List.length
 ks_6 ∧
 List.length
 ks_6 ≤
 (100000 :
 Nat)) ∧
 (-4611686018427387904 :
 Int) ≤
 IntKind.wrap
 IntKind.i64
 (d -
 (3 :
 Int)) ∧
 IntKind.wrap
 IntKind.i64
 (d -
 (3 :
 Int)) <
 (4611686018427387904 :
 Int)) ∧
 ∃
 (a
 :
 Nat),
 ∃
 (ps
 :
 List
 Rat),
 ∃
 (b
 :
 Nat),
 ∃
 (qs
 :
 List
 Rat),
 lR
 (Prod.snd
 (atR
 ks_5
 (IntKind.wrap
 IntKind.i64
 (d -
 (3 :
 Int)))))
 (Prod.fst
 (atR
 ks_5
 (IntKind.wrap
 IntKind.i64
 (d -
 (3 :
 Int))))) =
 lR
 a
 ps ∧
 lR
 (Prod.snd
 (atR
 ks_6
 (IntKind.wrap
 IntKind.i64
 (d -
 (3 :
 Int)))))
 (Prod.fst
 (atR
 ks_6
 (IntKind.wrap
 IntKind.i64
 (d -
 (3 :
 Int))))) =
 lR
 b
 qs ∧
 (List.length
 ps ≤
 (1000000000 :
 Nat) ∧
 List.length
 qs ≤
 (1000000000 :
 Nat)) ∧
 bif
 decide
 (ps =
 qs) then
 ∃
 (ks
 :
 List
 KeyV),
 ∃
 (m
 :
 Nat),
 ∃
 (N
 :
 Nat),
 List.map
 keyCh
 js =
 List.map
 keyCh
 ks ∧
 (KeysOK
 ks
 m
 N ∧
 (N ≤
 (10000 :
 Nat) ∧
 m ≤
 (100000 :
 Nat) ∧
 (1 :
 Nat) ≤
 List.length
 ks ∧
 List.length
 ks ≤
 (100000 :
 Nat)) ∧
 (-4611686018427387904 :
 Int) ≤
 IntKind.wrap
 IntKind.i64
 (d_1 +
 (7 :
 Int)) ∧
 IntKind.wrap
 IntKind.i64
 (d_1 +
 (7 :
 Int)) <
 (4611686018427387904 :
 Int)) ∧
 ∃
 (ks_7
 :
 List
 KeyV),
 ∃
 (m
 :
 Nat),
 ∃
 (N
 :
 Nat),
 List.map
 keyCh
 (List.map
 (shK
 (IntKind.wrap
 IntKind.i64
 ((150 :
 Int) +
 x %
 (300 :
 Int))))
 ks_2) =
 List.map
 keyCh
 ks_7 ∧
 (KeysOK
 ks_7
 m
 N ∧
 (N ≤
 (10000 :
 Nat) ∧
 m ≤
 (100000 :
 Nat) ∧
 (1 :
 Nat) ≤
 List.length
 ks_7 ∧
 List.length
 ks_7 ≤
 (100000 :
 Nat)) ∧
 (-4611686018427387904 :
 Int) ≤
 IntKind.wrap
 IntKind.i64
 (d_1 +
 (7 :
 Int)) ∧
 IntKind.wrap
 IntKind.i64
 (d_1 +
 (7 :
 Int)) <
 (4611686018427387904 :
 Int)) ∧
 ∃
 (a
 :
 Nat),
 ∃
 (ps
 :
 List
 Rat),
 ∃
 (b
 :
 Nat),
 ∃
 (qs
 :
 List
 Rat),
 lR
 (Prod.snd
 (atR
 ks
 (IntKind.wrap
 IntKind.i64
 (d_1 +
 (7 :
 Int)))))
 (Prod.fst
 (atR
 ks
 (IntKind.wrap
 IntKind.i64
 (d_1 +
 (7 :
 Int))))) =
 lR
 a
 ps ∧
 lR
 (Prod.snd
 (atR
 ks_7
 (IntKind.wrap
 IntKind.i64
 (d_1 +
 (7 :
 Int)))))
 (Prod.fst
 (atR
 ks_7
 (IntKind.wrap
 IntKind.i64
 (d_1 +
 (7 :
 Int))))) =
 lR
 b
 qs ∧
 (List.length
 ps ≤
 (1000000000 :
 Nat) ∧
 List.length
 qs ≤
 (1000000000 :
 Nat)) ∧
 K
 (AV.x
 false
 [Ch.v
 (Value.bool
 (decide
 (ps =
 qs)))])
 else
 K
 (AV.x
 false
 [Ch.v
 (Value.bool
 false)])
 else
 K
 (AV.x
 false
 [Ch.v
 (Value.bool
 false)])
 else
 K
 (AV.x false
 [Ch.v (Value.bool false)])
 else
 K
 (AV.x false
 [Ch.v (Value.bool false)])) ∧
 (KeyV.tick z ≤ KeyV.tick w →
 ((0 : Int) ≤ (0 : Int) ∧
 (0 : Int) <
 Int.ofNat
 (List.length
 (List.map keyCh
 (List.map
 (shK
 (IntKind.wrap IntKind.i64
 ((150 : Int) + x % (300 : Int))))
 ks_2)))) ∧
 ∃ (d : Int),
 ldE
 (List.map keyCh
 (List.map
 (shK
 (IntKind.wrap IntKind.i64
 ((150 : Int) + x % (300 : Int))))
 ks_2))
 (0 : Nat) (0 : Nat) (1 : Nat) =
 some [Ch.v (Value.int IntKind.i64 d)] ∧
 ((0 : Int) ≤
 IntKind.wrap IntKind.i64
 (Int.ofNat
 (List.length
 (List.map keyCh ks)) -
 (1 : Int)) ∧
 IntKind.wrap IntKind.i64
 (Int.ofNat
 (List.length
 (List.map keyCh ks)) -
 (1 : Int)) <
 Int.ofNat
 (List.length (List.map keyCh ks))) ∧
 ∃ (d_1 : Int),
 ldE (List.map keyCh ks)
 (Int.toNat
 (IntKind.wrap IntKind.i64
 (Int.ofNat
 (List.length
 (List.map keyCh ks)) -
 (1 : Int))))
 (0 : Nat) (1 : Nat) =
 some
 [Ch.v (Value.int IntKind.i64 d_1)] ∧
 bif decide (d ≤ d_1) then
 K
 (AV.x false
 [Ch.v (Value.bool true)])
 else
 K
 (AV.x false
 [Ch.v (Value.bool false)])) ∧
 (KeyV.tick w < KeyV.tick z →
 ((0 : Int) ≤ (0 : Int) ∧
 (0 : Int) <
 Int.ofNat
 (List.length
 (List.map keyCh
 (List.map
 (shK
 (IntKind.wrap IntKind.i64
 ((150 : Int) + x % (300 : Int))))
 ks_2)))) ∧
 ∃ (d : Int),
 ldE
 (List.map keyCh
 (List.map
 (shK
 (IntKind.wrap IntKind.i64
 ((150 : Int) + x % (300 : Int))))
 ks_2))
 (0 : Nat) (0 : Nat) (1 : Nat) =
 some [Ch.v (Value.int IntKind.i64 d)] ∧
 ((0 : Int) ≤
 IntKind.wrap IntKind.i64
 (Int.ofNat
 (List.length
 (List.map keyCh ks)) -
 (1 : Int)) ∧
 IntKind.wrap IntKind.i64
 (Int.ofNat
 (List.length
 (List.map keyCh ks)) -
 (1 : Int)) <
 Int.ofNat
 (List.length (List.map keyCh ks))) ∧
 ∃ (d_1 : Int),
 ldE (List.map keyCh ks)
 (Int.toNat
 (IntKind.wrap IntKind.i64
 (Int.ofNat
 (List.length
 (List.map keyCh ks)) -
 (1 : Int))))
 (0 : Nat) (1 : Nat) =
 some
 [Ch.v (Value.int IntKind.i64 d_1)] ∧
 K
 (AV.x false
 [Ch.v
 (Value.bool
 (decide (d > d_1)))]))) := by kernel_rfl
theorem at_left {ts us : List KeyV} {m N : Nat} (h : KeysOK (ts ++ us) m N) (ht : KeysOK ts m N) (hne : ts ≠ []) {w : KeyV} (hw : ts[ts.length - 1]? = some w) {t : Int} (hle : t ≤ w.tick) : (atR (ts ++ us) t).1 = (atR ts t).1 := by
  have l1 : 1 ≤ ts.length := by cases ts; exact absurd rfl hne; simp
  rcases at_three ht hne t with ⟨z, hz, h1, h2, _⟩ | ⟨i, x, y, hx, hy, h1, h2, h3, _⟩ | ⟨z, hz, h1, h2, _⟩
  · rw [h2, at_first (a := z) (by rw [List.getElem?_append_left (by omega)]; exact hz) (by omega)]
  · have := (List.getElem?_eq_some_iff.1 hy).1
    rw [h3]
    exact at_seg (i := i) h (by rw [List.getElem?_append_left (by omega)]; exact hx) (by rw [List.getElem?_append_left (by omega)]; exact hy) h1 (by omega)
  · rw [hw] at hz; cases hz
    rw [h2, show t = w.tick by omega]
    exact at_key (i := ts.length - 1) h (by rw [List.getElem?_append_left (by omega)]; exact hw)
theorem at_right {ts us : List KeyV} {m N : Nat} (h : KeysOK (ts ++ us) m N) (hu : KeysOK us m N) (hne : us ≠ []) {z : KeyV} (hz : us[0]? = some z) {t : Int} (hle : z.tick ≤ t) : (atR (ts ++ us) t).1 = (atR us t).1 := by
  have l1 : 1 ≤ us.length := by cases us; exact absurd rfl hne; simp
  rcases at_three hu hne t with ⟨z', hz', h1, h2, _⟩ | ⟨i, x, y, hx, hy, h1, h2, h3, _⟩ | ⟨z', hz', h1, h2, _⟩
  · rw [hz] at hz'; cases hz'; omega
  · rw [h3]
    exact at_seg (i := ts.length + i) h (by rw [List.getElem?_append_right (by omega), show ts.length + i - ts.length = i by omega]; exact hx) (by rw [List.getElem?_append_right (by omega), show ts.length + i + 1 - ts.length = i + 1 by omega]; exact hy) h1 (by omega)
  · rw [h2]
    exact at_hi h (by rw [List.length_append, List.getElem?_append_right (by omega), show ts.length + us.length - 1 - ts.length = us.length - 1 by omega]; exact hz') h1
theorem at_sh0 (ks : List KeyV) (t : Int) : (atR (ks.map (shK 0)) t).1 = (atR ks t).1 := by
  have := at_delay 0 ks t
  rwa [Int.add_zero] at this
theorem KeysOK.weak {ks : List KeyV} {m N N' : Nat} (h : KeysOK ks m N) (hN : N ≤ N') : KeysOK ks m N' := ⟨h.len, fun k hk => Nat.le_trans (h.n k hk) hN, h.tick, h.inc⟩
theorem KeysOK.app {ts us : List KeyV} {m N : Nat} (ht : KeysOK ts m N) (hu : KeysOK us m N) {w z : KeyV} (hw : ts[ts.length - 1]? = some w) (hz : us[0]? = some z) (hlt : w.tick < z.tick) : KeysOK (ts ++ us) m N := by
  have all : ∀ {p : KeyV → Prop}, (∀ k ∈ ts, p k) → (∀ k ∈ us, p k) → ∀ k ∈ ts ++ us, p k := fun h1 h2 k hk => (List.mem_append.1 hk).elim (h1 k) (h2 k)
  have l1 := (List.getElem?_eq_some_iff.1 hw).1
  refine ⟨all ht.len hu.len, all ht.n hu.n, all ht.tick hu.tick, fun i a b ha hb => ?_⟩
  by_cases h : i + 1 < ts.length
  · rw [List.getElem?_append_left (by omega)] at ha
    rw [List.getElem?_append_left h] at hb
    exact ht.inc i a b ha hb
  · by_cases h2 : i < ts.length
    · rw [List.getElem?_append_left h2, show i = ts.length - 1 by omega, hw] at ha
      rw [List.getElem?_append_right (by omega), show i + 1 - ts.length = 0 by omega, hz] at hb
      cases ha; cases hb
      exact hlt
    · rw [List.getElem?_append_right (by omega)] at ha
      rw [List.getElem?_append_right (by omega), show i + 1 - ts.length = i - ts.length + 1 by omega] at hb
      exact hu.inc _ a b ha hb
theorem g_tjoin (l m k : List Int) (x : Int) (hl : l.length ≤ 9223372036854775807) (hm : m.length ≤ 9223372036854775807) (hk : k.length ≤ 9223372036854775807) (K : AV → Prop) (hK : K (.x false [.v (.bool true)])) : Holds (goal_tjoin l m k x K) := by
  refine ⟨?_⟩
  rw [goal_tjoin_vc]
  simp only [Int.ofNat_eq_natCast, true_and, and_true, Nat.zero_add, Nat.le_refl, true_implies, true_or, or_true]
  have b1 := Int.emod_nonneg x (show (300 : Int) ≠ 0 by decide)
  have b2 := Int.emod_lt_of_pos x (show (0 : Int) < 300 by decide)
  have e1 : IntKind.i64.wrap (150 + x % 300) = 150 + x % 300 := w64 (by omega)
  simp only [e1]
  generalize hd : 150 + x % 300 = d at *
  refine ⟨l, rfl, hl, fun a ha => ⟨a, m, rfl, rfl, ⟨MadeA.good ha, hm⟩, fun ts hts h1 h4 => ⟨a, k, rfl, rfl, ⟨MadeA.good ha, hk⟩, fun vs hvs h5 h6 => ?_⟩⟩⟩
  have ot := hts.ok ha h1 h4
  have ov := hvs.ok ha h5 h6
  have kt := hts.keys
  have kv := hvs.keys
  have hal := ot.arm.n
  have htv : ∀ k ∈ vs, 0 ≤ k.tick + d ∧ k.tick + d ≤ 2000 := fun k hk' => by have := hvs.tick k hk'; omega
  have ou := track_delay ov kv (by omega) htv
  have ku := keys_delay kv htv
  have lu : (vs.map (shK d)).length = vs.length := List.length_map ..
  obtain ⟨w, hw⟩ : ∃ w, ts[ts.length - 1]? = some w := ⟨_, List.getElem?_eq_getElem (by omega)⟩
  obtain ⟨z, hz⟩ : ∃ z, (vs.map (shK d))[0]? = some z := ⟨_, List.getElem?_eq_getElem (by omega)⟩
  have tw := kt.tick w (List.mem_of_getElem? hw)
  have tz := ku.tick z (List.mem_of_getElem? hz)
  have e2 : IntKind.i64.wrap ((ts.length : Int) - 1) = ((ts.length - 1 : Nat) : Int) := by rw [w64 (by omega)]; omega
  have e3 : IntKind.i64.wrap ((ts.length : Int) + vs.length) = ((ts.length + vs.length : Nat) : Int) := by rw [w64 (by omega)]; omega
  simp only [List.length_map, e2, e3, Int.toNat_natCast]
  refine ⟨by omega, a, vs, rfl, rfl, ⟨ov, by omega, htv⟩, bif_mk (fun h => by simp only [beq_iff_eq] at h; omega) (fun _ => bif_mk (fun h => by simp only [beq_iff_eq] at h; omega) (fun _ => ⟨a, ts, vs.map (shK d), w, z, rfl, rfl, rfl, ⟨⟨ot, by omega, hw⟩, ⟨ou, by omega, hz⟩, fun k hk => by rw [hts.n k hk]; omega, fun k hk => by have := ku.n k hk; omega⟩, fun hlt hsl js hjs => ?_, fun hle => ?_, fun hlt => ?_⟩))⟩
  · have nt : ts ≠ [] := fun e => by rw [e] at h1; simp at h1
    have nu : vs.map (shK d) ≠ [] := fun e => by rw [e] at lu; simp at lu; omega
    have kA := (kt.weak (N' := 128) (by omega)).app (ku.weak (by omega)) hw hz hlt
    have kJ : KeysOK js a.links.length 193 := by
      rw [hjs.eq]
      exact keys_delay (N := 128) kA (fun k hk => by have := kA.tick k hk; omega)
    have aJ : ∀ t, (atR js t).1 = (atR (ts ++ vs.map (shK d)) t).1 := fun t => by rw [hjs.eq, at_sh0]
    have lJ : js.length = ts.length + vs.length := by rw [hjs.eq]; simp
    have nJ : js ≠ [] := fun e => by rw [e] at lJ; simp at lJ; omega
    have bJ : ∀ t, (atR js t).1.length = a.links.length := fun t => (at_bound kJ nJ).2
    have bT : ∀ t, (atR ts t).1.length = a.links.length := fun t => (at_bound kt nt).2
    have bU : ∀ t, (atR (vs.map (shK d)) t).1.length = a.links.length := fun t => (at_bound ku nu).2
    have q1 : (atR js w.tick).1 = (atR ts w.tick).1 := (aJ _).trans (at_left kA (kt.weak (by omega)) nt hw (Int.le_refl _))
    have e4 : IntKind.i64.wrap (w.tick - 3) = w.tick - 3 := w64 (by omega)
    have e5 : IntKind.i64.wrap (z.tick + 7) = z.tick + 7 := w64 (by omega)
    have q2 : (atR js (w.tick - 3)).1 = (atR ts (w.tick - 3)).1 := (aJ _).trans (at_left kA (kt.weak (by omega)) nt hw (by omega))
    have q3 : (atR js (z.tick + 7)).1 = (atR (vs.map (shK d)) (z.tick + 7)).1 := (aJ _).trans (at_right kA (ku.weak (by omega)) nu hz (by omega))
    refine ⟨by omega, _, key_ld0 hw, by omega, _, key_ld0 hz, ?_⟩
    simp only [e3, e4, e5]
    refine bif_mk (fun _ => bif_mk (fun _ => ⟨js, _, 193, rfl, ⟨kJ, ⟨by omega, by omega, by omega, by omega⟩, by omega, by omega⟩, ts, _, 63, rfl, ⟨kt, ⟨by omega, by omega, h1, by omega⟩, by omega, by omega⟩, _, _, _, _, rfl, rfl, ⟨by rw [bJ]; omega, by rw [bT]; omega⟩, bif_mk (fun _ => ⟨js, _, 193, rfl, ⟨kJ, ⟨by omega, by omega, by omega, by omega⟩, by omega, by omega⟩, ts, _, 63, rfl, ⟨kt, ⟨by omega, by omega, h1, by omega⟩, by omega, by omega⟩, _, _, _, _, rfl, rfl, ⟨by rw [bJ]; omega, by rw [bT]; omega⟩, bif_mk (fun _ => ⟨js, _, 193, rfl, ⟨kJ, ⟨by omega, by omega, by omega, by omega⟩, by omega, by omega⟩, vs.map (shK d), _, 128, rfl, ⟨ku, ⟨by omega, by omega, by omega, by omega⟩, by omega, by omega⟩, _, _, _, _, rfl, rfl, ⟨by rw [bJ]; omega, by rw [bU]; omega⟩, ?_⟩) (fun h => absurd q2 (of_decide_eq_false h))⟩) (fun h => absurd q1 (of_decide_eq_false h))⟩) (fun h => by have := of_decide_eq_false h; omega)) (fun h => by simp [lJ] at h)
    rw [decide_eq_true q3]
    exact hK
  · exact ⟨by omega, _, key_ld0 hz, by omega, _, key_ld0 hw, bif_mk (fun _ => hK) (fun h => absurd hle (of_decide_eq_false h))⟩
  · refine ⟨by omega, _, key_ld0 hz, by omega, _, key_ld0 hw, ?_⟩
    rw [show decide (z.tick > w.tick) = true from decide_eq_true hlt]
    exact hK
theorem spec_tjoin (l m k : List Int) (x : Int) (hl : l.length ≤ 9223372036854775807) (hm : m.length ≤ 9223372036854775807) (hk : k.length ≤ 9223372036854775807) : Eng.Spec Tryd.prog tabG debT 12 [.x false [.s 1 (ints l)], .x false [.s 1 (ints m)], .x false [.s 1 (ints k)], iA .i64 x] (fun av => av = .x false [.v (.bool true)]) :=
  spec_ofL T64ok mixed Tryd.func12 (by kernel_rfl) (by kernel_rfl) (by rfl) (g_tjoin l m k x hl hm hk _ rfl)
end Go.Proofs
