/- SinSpan, cut, Spread, Boxes, spans, between. -/
import Derived.Test.YtdbkndfkgdbhpaaGreatDoorPB
/- SinSpan, cut, Spread, Boxes, spans, between. -/
namespace Go.Proofs
open Go Go.Eng
def spN (n : Nat) (s : Sp) : List Ch := [.r s.lo n, .r s.hi n]
def sinAt (t : Sp) : Nat → Sp
  | 0 => spSin0 t
  | 1 => spSin1 t (spSin0 t) (-1)
  | _ => spSin t
def rowI2 : Blk := .row 3 1 (ints [-1, 1])
def inv_sinsp (l : Rat) (a : Nat) (h : Rat) (b : Nat) : LI := fun _ => .inv ⟨Nat, fun i => ⟨[(1, .x false [.p 1 0]), (2, .x false [.p 2 0]), (3, .x false [.p 3 0]), (21, .x false [.w 500 0 2]), (22, iA .i64 2), (23, iA .i64 i)], [(1, .box 58 [.r l a, .r h b]), (2, .box 58 (zeroR ++ zeroR)), (3, .box 58 (spN (4 * (a + b) + 400) (sinAt ⟨l, h⟩ i))), (500, rowI2)]⟩, fun i => i ≤ 2, fun i => 2 - i, fun _ => 0⟩
def loN (n : Nat) (l : LoV) : List Ch := [.r l.x.lo n, .r l.x.hi n, .r l.y.lo n, .r l.y.hi n, .r l.c.lo n, .r l.c.hi n, .r l.s.lo n, .r l.s.hi n]
def lb : Nat → Nat
  | 0 => 700
  | i + 1 => 4 * lb i + 9000
structure SpX where
  ls : List LoV
  l : LoV
  b : FrV
  i : Nat
structure SpI (a : ArmV) (ts : List Sp) (qs : List Rat) (x : SpX) : Prop where
  n : x.ls.length = x.i
  le : x.i ≤ a.links.length
  eq : x.ls ++ spreadV x.l (a.links.drop x.i) (ts.drop x.i) = spreadV (loBase a) a.links ts
  has : x.l.has x.b
  qs : HasQ (ts.drop x.i) (qs.drop x.i)
def inv_spread (a : ArmV) (B : Nat) (ts : List Sp) (qs : List Rat) : LI := fun _ => .inv ⟨SpX, fun x => ⟨[(1, .x false [.s 6 (ts.map (spN B))]), (2, .x false [.p 2 0]), (8, .x false [.p 8 0]), (9, .x false [.w 500 0 x.i]), (43, .x false [.s 16 (a.links.map linkCh)]), (44, iA .i64 a.links.length), (45, iA .i64 x.i)],
  [(2, .box 44 (armCh a)), (8, .box 60 (loN (lb x.i) x.l)), (500, .row 60 24 (x.ls.map (loN 240000)))]⟩, SpI a ts qs, fun x => a.links.length - x.i, fun _ => 0⟩
def spansV (ps qs : List Rat) : List Sp := List.zipWith (fun p q => ⟨minR p q, maxR p q⟩) ps qs
def inv_spans (ps qs : List Rat) (a b : Nat) : LI := fun _ => .inv ⟨Nat, fun i => ⟨[(0, sR a ps), (1, sR b qs), (5, .x false [.w 500 0 i]), (11, iA .i64 ps.length), (12, iA .i64 i)], [(500, .row 58 6 (((spansV ps qs).take i).map (spN (max a b))))]⟩, fun i => i ≤ ps.length, fun i => ps.length - i, fun _ => 0⟩
structure BtX where
  vs : List Rat
  l : List Int
structure BtI (ps qs : List Rat) (l : List Int) (x : BtX) : Prop where
  le : x.vs.length ≤ ps.length
  hl : x.l.length ≤ l.length
  has : ∀ (i : Nat) v s, x.vs[i]? = some v → (spansV ps qs)[i]? = some s → s.has v
def inv_betw (ps qs : List Rat) (a b : Nat) (l : List Int) : LI := fun _ => .inv ⟨BtX, fun x => ⟨[(0, sR a ps), (1, sR b qs), (7, .x false [.p 12 0]), (8, .x false [.w 500 0 x.vs.length]), (17, iA .i64 ps.length), (18, iA .i64 x.vs.length)], [(12, stB x.l), (500, rowR (2 * a + b + 65) x.vs)]⟩, BtI ps qs l, fun x => ps.length - x.vs.length, fun _ => 0⟩
theorem drop_get' {α : Type} {l : List α} {i : Nat} {a : α} (h : l[i]? = some a) : l.drop i = a :: l.drop (i + 1) := by
  obtain ⟨hi, e⟩ := List.getElem?_eq_some_iff.1 h
  rw [List.drop_eq_getElem_cons hi, e]
theorem lR_snoc' {n N : Nat} (qs : List Rat) (q : Rat) (h : n ≤ N) : RowLE (lR N qs ++ [[Ch.r q n]]) (lR N (qs ++ [q])) := by
  have e : lR N (qs ++ [q]) = lR N qs ++ [[Ch.r q N]] := by simp [lR]
  rw [e]
  refine row_snoc ?_ ⟨.r h .nil, rfl⟩
  refine ⟨rfl, fun i x y hx hy => ?_⟩
  rw [hx] at hy
  cases hy
  simp only [lR, List.getElem?_map, Option.map_eq_some_iff] at hx
  obtain ⟨q, _, rfl⟩ := hx
  exact ⟨.r (Nat.le_refl _) .nil, rfl⟩
theorem maxR_self (p : Rat) : maxR p p = p := by unfold maxR; split <;> rfl
theorem sinAt_ok (t : Sp) (i : Nat) : (sinAt t i).lo ≤ (sinAt t i).hi := by
  have h0 : (spSin0 t).has (sinT false t.lo) := spJoin_l (spOf_has _)
  have h1 := h0.sub (spSin1_sub0 t (spSin0 t) (-1))
  have h2 := h1.sub (spSin1_sub0 t (spSin1 t (spSin0 t) (-1)) 1)
  match i with
  | 0 => exact h0.ok
  | 1 => exact h1.ok
  | _ + 2 => exact h2.ok
theorem sinAt_next (t : Sp) (i : Nat) (d : Int) (h : ([-1, 1] : List Int)[i]? = some d) : sinAt t (i + 1) = spSin1 t (sinAt t i) (d : Rat) := by
  match i, h with
  | 0, h => cases h; rfl
  | 1, h => cases h; rfl
theorem sp_ld {n : Nat} {ts : List Sp} {i : Nat} {t : Sp} (h : ts[i]? = some t) : ldE (ts.map (spN n)) i 0 6 = some [.r t.lo n, .r t.hi n] := by
  simp only [ldE, List.getElem?_map, h]; rfl
theorem lb_le {i : Nat} (h : i ≤ 2) : lb i ≤ 56200 := by
  have : i = 0 ∨ i = 1 ∨ i = 2 := by omega
  rcases this with e | e | e <;> rw [e] <;> decide
theorem lb_le3 {i : Nat} (h : i ≤ 3) : lb i ≤ 240000 := by
  have : i = 0 ∨ i = 1 ∨ i = 2 ∨ i = 3 := by omega
  rcases this with e | e | e | e <;> rw [e] <;> decide
theorem los_le (N : Nat) (ls : List LoV) : RowLE (ls.map (loN N)) (ls.map (loN N)) := by
  refine ⟨rfl, fun i x y hx hy => ?_⟩
  rw [hx] at hy
  cases hy
  simp only [List.getElem?_map, Option.map_eq_some_iff] at hx
  obtain ⟨q, _, rfl⟩ := hx
  have r := Nat.le_refl N
  exact ⟨.r r (.r r (.r r (.r r (.r r (.r r (.r r (.r r .nil))))))), rfl⟩
theorem lo_snoc {n1 n2 n3 n4 n5 n6 n7 n8 N : Nat} (ls : List LoV) (l : LoV) (h1 : n1 ≤ N) (h2 : n2 ≤ N) (h3 : n3 ≤ N) (h4 : n4 ≤ N) (h5 : n5 ≤ N) (h6 : n6 ≤ N) (h7 : n7 ≤ N) (h8 : n8 ≤ N) :
    RowLE (ls.map (loN N) ++ [[.r l.x.lo n1, .r l.x.hi n2, .r l.y.lo n3, .r l.y.hi n4, .r l.c.lo n5, .r l.c.hi n6, .r l.s.lo n7, .r l.s.hi n8]]) ((ls ++ [l]).map (loN N)) := by
  rw [List.map_append]
  exact row_snoc (los_le N ls) ⟨.r h1 (.r h2 (.r h3 (.r h4 (.r h5 (.r h6 (.r h7 (.r h8 .nil))))))), rfl⟩
theorem spans_len {ps qs : List Rat} (h : ps.length = qs.length) : (spansV ps qs).length = ps.length := by simp [spansV, h]
theorem spans_get {ps qs : List Rat} {i : Nat} {p q : Rat} (hp : ps[i]? = some p) (hq : qs[i]? = some q) : (spansV ps qs)[i]? = some ⟨minR p q, maxR p q⟩ := by
  simp [spansV, List.getElem?_zipWith, hp, hq]
theorem eighth {r : Int} (h : 0 ≤ r ∧ r < 9) : 0 ≤ mkRat r 8 ∧ mkRat r 8 ≤ 1 := by
  refine ⟨mkRat_nn h.1, ?_⟩
  have : r = 0 ∨ r = 1 ∨ r = 2 ∨ r = 3 ∨ r = 4 ∨ r = 5 ∨ r = 6 ∨ r = 7 ∨ r = 8 := by omega
  rcases this with rfl | rfl | rfl | rfl | rfl | rfl | rfl | rfl | rfl <;> decide +kernel
theorem betw_has {p q k : Rat} (h0 : 0 ≤ k) (h1 : k ≤ 1) : (⟨minR p q, maxR p q⟩ : Sp).has (p + k * (q - p)) := by
  have a1 := minR_le_l p q
  have a2 := minR_le_r p q
  have b1 := le_maxR_l p q
  have b2 := le_maxR_r p q
  generalize minR p q = m at *
  generalize maxR p q = n at *
  have c1 := mul_nn h0 (show 0 ≤ q - m by grind)
  have c2 := mul_nn (show 0 ≤ 1 - k by grind) (show 0 ≤ p - m by grind)
  have c3 := mul_nn h0 (show 0 ≤ n - q by grind)
  have c4 := mul_nn (show 0 ≤ 1 - k by grind) (show 0 ≤ n - p by grind)
  exact ⟨by show m ≤ _; grind, by show _ ≤ n; grind⟩
def ot_uSinSpan : OT := fun id => bif id.beq 2 then ([0, 1, 5, 6, 11, 2, 3, 4, 7, 8, 9, 10, 12], [[], [0], [1, 0], [2, 1, 0], [3, 2, 1, 0], [], [5], [6, 5, 4, 3, 2, 1, 0], [7, 6, 5, 4, 3, 2, 1, 0], [8, 7, 6, 5, 4, 3, 2, 1, 0], [4, 3, 2, 1, 0, 9, 8, 7, 6, 5], [], [11, 10, 4, 3, 2, 1, 0, 9, 8, 7, 6, 5]]) else bif id.beq 8 then ([0, 1, 2, 3, 4], [[], [], [1], [0, 2, 1], [3, 0, 2, 1]]) else ([], [])
def goal_uSinSpan (l : Rat) (a : Nat) (h : Rat) (b : Nat) (K : AV → Prop) : Prop := goalL T146 ot_uSinSpan (inv_sinsp l a h b) Tryz.f67 [.x true [.r l a, .r h b]] K
theorem goal_uSinSpan_vc (l : Rat) (a : Nat) (h : Rat) (b : Nat) (K : AV → Prop) : goal_uSinSpan l a h b K = ( (a + b + a + b ≤ (4294967290 : Nat) ∧ l ≤ h ∧ l ≤ h) ∧ max a a ≤ (1000000000 : Nat) ∧ max a a ≤ (500000000 : Nat) ∧ ∀ (n : Nat), n ≤ (4 : Nat) * max a a + (400 : Nat) → n ≤ (2000000000 : Nat) ∧ max b b ≤ (1000000000 : Nat) ∧ max b b ≤ (500000000 : Nat) ∧ ∀ (n_1 : Nat), n_1 ≤ (4 : Nat) * max b b + (400 : Nat) → n_1 ≤ (2000000000 : Nat) ∧ (n + n + n_1 + n_1 ≤ (4294967290 : Nat) ∧ sinT false (minR l l) ≤ sinT false (minR l l) ∧ sinT false (maxR h h) ≤ sinT false (maxR h h)) ∧ (∃ (x : Nat), (x ≤ (2 : Nat) ∧ OfNat.ofNat (0 : Nat) = (0 : Nat)) ∧ (0 : Nat) = (0 : Nat) ∧ (0 : Nat) = (0 : Nat) ∧ (0 : Nat) = (0 : Nat) ∧ (0 : Nat) = (0 : Nat) ∧ (2 : Nat) = (2 : Nat) ∧ (2 : Int) = (2 : Int) ∧ (0 : Int) = Int.ofNat x ∧ (58 : Nat) = (58 : Nat) ∧ minR l l = l ∧ max a a ≤ a ∧ maxR h h = h ∧ max b b ≤ b ∧ (58 : Nat) = (58 : Nat) ∧ false = false ∧ ByteArray.mk (Array.mk []) = ByteArray.mk (Array.mk []) ∧ ByteArray.mk (Array.mk []) = ByteArray.mk (Array.mk []) ∧ false = false ∧ ByteArray.mk (Array.mk []) = ByteArray.mk (Array.mk []) ∧ ByteArray.mk (Array.mk []) = ByteArray.mk (Array.mk []) ∧ (58 : Nat) = (58 : Nat) ∧ minR (sinT false (minR l l)) (sinT false (maxR h h)) = Sp.lo (sinAt (Sp.mk l h) x) ∧ max n n_1 ≤ (4 : Nat) * (a + b) + (400 : Nat) ∧ maxR (sinT false (minR l l)) (sinT false (maxR h h)) = Sp.hi (sinAt (Sp.mk l h) x) ∧ max n n_1 ≤ (4 : Nat) * (a + b) + (400 : Nat) ∧ (3 : Nat) = (3 : Nat) ∧ (1 : Nat) = (1 : Nat) ∧ ([[Ch.v (Value.int IntKind.i64 (-1 : Int))], [Ch.v (Value.int IntKind.i64 (1 : Int))]] = [[Ch.v (Value.int IntKind.i64 (-1 : Int))], [Ch.v (Value.int IntKind.i64 (1 : Int))]] ∨ RowLE [[Ch.v (Value.int IntKind.i64 (-1 : Int))], [Ch.v (Value.int IntKind.i64 (1 : Int))]] [[Ch.v (Value.int IntKind.i64 (-1 : Int))], [Ch.v (Value.int IntKind.i64 (1 : Int))]]) ∧ True) ∧ ∀ (x : Nat), x ≤ (2 : Nat) → OfNat.ofNat (0 : Nat) = (0 : Nat) → bif decide (Int.ofNat x < (2 : Int)) then ((0 : Int) ≤ Int.ofNat x ∧ Int.ofNat x < (2 : Int)) ∧ ∃ (d : Int), ldE [[Ch.v (Value.int IntKind.i64 (-1 : Int))], [Ch.v (Value.int IntKind.i64 (1 : Int))]] ((0 : Nat) + Int.toNat (Int.ofNat x)) (0 : Nat) (1 : Nat) = some [Ch.v (Value.int IntKind.i64 d)] ∧ ((-9223372036854775808 : Int) ≤ d ∧ d < (9223372036854775808 : Int)) ∧ (a + b + (64 : Nat) ≤ (4294967290 : Nat) ∧ l ≤ h) ∧ bif spHas (Sp.mk l h) (((d) : Int) : Rat) then (64 : Nat) ≤ (2000000000 : Nat) ∧ ((4 : Nat) * (a + b) + (400 : Nat) + ((4 : Nat) * (a + b) + (400 : Nat)) + (64 : Nat) + (64 : Nat) ≤ (4294967290 : Nat) ∧ Sp.lo (sinAt (Sp.mk l h) x) ≤ Sp.hi (sinAt (Sp.mk l h) x) ∧ (((d) : Int) : Rat) ≤ (((d) : Int) : Rat)) ∧ ∃ (x' : Nat), (x' ≤ (2 : Nat) ∧ OfNat.ofNat (0 : Nat) = (0 : Nat) ∧ (2 : Nat) - x' < (2 : Nat) - x) ∧ (0 : Nat) = (0 : Nat) ∧ (0 : Nat) = (0 : Nat) ∧ (0 : Nat) = (0 : Nat) ∧ (0 : Nat) = (0 : Nat) ∧ (2 : Nat) = (2 : Nat) ∧ (2 : Int) = (2 : Int) ∧ IntKind.wrap IntKind.i64 (Int.ofNat x + (1 : Int)) = Int.ofNat x' ∧ (58 : Nat) = (58 : Nat) ∧ l = l ∧ a ≤ a ∧ h = h ∧ b ≤ b ∧ (58 : Nat) = (58 : Nat) ∧ false = false ∧ ByteArray.mk (Array.mk []) = ByteArray.mk (Array.mk []) ∧ ByteArray.mk (Array.mk []) = ByteArray.mk (Array.mk []) ∧ false = false ∧ ByteArray.mk (Array.mk []) = ByteArray.mk (Array.mk []) ∧ ByteArray.mk (Array.mk []) = ByteArray.mk (Array.mk []) ∧ (58 : Nat) = (58 : Nat) ∧ minR (Sp.lo (sinAt (Sp.mk l h) x)) (((d) : Int) : Rat) = Sp.lo (sinAt (Sp.mk l h) x') ∧ max ((4 : Nat) * (a + b) + (400 : Nat)) (64 : Nat) ≤ (4 : Nat) * (a + b) + (400 : Nat) ∧ maxR (Sp.hi (sinAt (Sp.mk l h) x)) (((d) : Int) : Rat) = Sp.hi (sinAt (Sp.mk l h) x') ∧ max ((4 : Nat) * (a + b) + (400 : Nat)) (64 : Nat) ≤ (4 : Nat) * (a + b) + (400 : Nat) ∧ (3 : Nat) = (3 : Nat) ∧ (1 : Nat) = (1 : Nat) ∧ ([[Ch.v (Value.int IntKind.i64 (-1 : Int))], [Ch.v (Value.int IntKind.i64 (1 : Int))]] = [[Ch.v (Value.int IntKind.i64 (-1 : Int))], [Ch.v (Value.int IntKind.i64 (1 : Int))]] ∨ RowLE [[Ch.v (Value.int IntKind.i64 (-1 : Int))], [Ch.v (Value.int IntKind.i64 (1 : Int))]] [[Ch.v (Value.int IntKind.i64 (-1 : Int))], [Ch.v (Value.int IntKind.i64 (1 : Int))]]) ∧ True else ∃ (x' : Nat), (x' ≤ (2 : Nat) ∧ OfNat.ofNat (0 : Nat) = (0 : Nat) ∧ (2 : Nat) - x' < (2 : Nat) - x) ∧ (0 : Nat) = (0 : Nat) ∧ (0 : Nat) = (0 : Nat) ∧ (0 : Nat) = (0 : Nat) ∧ (0 : Nat) = (0 : Nat) ∧ (2 : Nat) = (2 : Nat) ∧ (2 : Int) = (2 : Int) ∧ IntKind.wrap IntKind.i64 (Int.ofNat x + (1 : Int)) = Int.ofNat x' ∧ (58 : Nat) = (58 : Nat) ∧ l = l ∧ a ≤ a ∧ h = h ∧ b ≤ b ∧ (58 : Nat) = (58 : Nat) ∧ false = false ∧ ByteArray.mk (Array.mk []) = ByteArray.mk (Array.mk []) ∧ ByteArray.mk (Array.mk []) = ByteArray.mk (Array.mk []) ∧ false = false ∧ ByteArray.mk (Array.mk []) = ByteArray.mk (Array.mk []) ∧ ByteArray.mk (Array.mk []) = ByteArray.mk (Array.mk []) ∧ (58 : Nat) = (58 : Nat) ∧ Sp.lo (sinAt (Sp.mk l h) x) = Sp.lo (sinAt (Sp.mk l h) x') ∧ (4 : Nat) * (a + b) + (400 : Nat) ≤ (4 : Nat) * (a + b) + (400 : Nat) ∧ Sp.hi (sinAt (Sp.mk l h) x) = Sp.hi (sinAt (Sp.mk l h) x') ∧ (4 : Nat) * (a + b) + (400 : Nat) ≤ (4 : Nat) * (a + b) + (400 : Nat) ∧ (3 : Nat) = (3 : Nat) ∧ (1 : Nat) = (1 : Nat) ∧ ([[Ch.v (Value.int IntKind.i64 (-1 : Int))], [Ch.v (Value.int IntKind.i64 (1 : Int))]] = [[Ch.v (Value.int IntKind.i64 (-1 : Int))], [Ch.v (Value.int IntKind.i64 (1 : Int))]] ∨ RowLE [[Ch.v (Value.int IntKind.i64 (-1 : Int))], [Ch.v (Value.int IntKind.i64 (1 : Int))]] [[Ch.v (Value.int IntKind.i64 (-1 : Int))], [Ch.v (Value.int IntKind.i64 (1 : Int))]]) ∧ True else K (AV.x true [Ch.r (Sp.lo (sinAt (Sp.mk l h) x)) ((4 : Nat) * (a + b) + (400 : Nat)), Ch.r (Sp.hi (sinAt (Sp.mk l h) x)) ((4 : Nat) * (a + b) + (400 : Nat))])) := by kernel_rfl
theorem g_uSinSpan (l : Rat) (a : Nat) (h : Rat) (b : Nat) (hc : (a + b ≤ 100000000) ∧ (l ≤ h)) (K : AV → Prop) (hK : K (.x true (spN (4 * (a + b) + 400) (spSin ⟨l, h⟩)))) : Holds (goal_uSinSpan l a h b K) := by
  refine ⟨?_⟩
  rw [goal_uSinSpan_vc]
  try simp only [Int.ofNat_eq_natCast, true_and, and_true, Nat.zero_add, Nat.le_refl, true_implies, true_or, or_true]
  refine ⟨⟨by omega, hc.2, hc.2⟩, by omega, by omega, fun n hn => ⟨by omega, by omega, by omega, fun n1 hn1 => ⟨by omega, ⟨by omega, Rat.le_refl, Rat.le_refl⟩, ⟨0, by omega, rfl, minR_self l, by omega, maxR_self h, by omega, ?_, by omega, ?_, by omega⟩, fun x hx => bif_mk (fun hp => ?_) (fun hp => ?_)⟩⟩⟩
  · rw [minR_self, maxR_self]; rfl
  · rw [minR_self, maxR_self]; rfl
  · have hp : x < 2 := by have := of_decide_eq_true hp; omega
    obtain ⟨d, hd, hdb⟩ : ∃ d : Int, ([-1, 1] : List Int)[x]? = some d ∧ -1 ≤ d ∧ d ≤ 1 := by
      have : x = 0 ∨ x = 1 := by omega
      rcases this with rfl | rfl
      · exact ⟨-1, rfl, by omega⟩
      · exact ⟨1, rfl, by omega⟩
    have hn := sinAt_next ⟨l, h⟩ x d hd
    have ok := sinAt_ok ⟨l, h⟩ x
    refine ⟨by omega, d, int_ld (l := [-1, 1]) (by simpa using hd), by omega, ⟨by omega, hc.2⟩, bif_mk (fun hb => ⟨by omega, ⟨by omega, ok, Rat.le_refl⟩, x + 1, ⟨by omega, by omega⟩, by rw [w64 (by omega)]; simp, ?_, by omega, ?_, by omega⟩) (fun hb => ⟨x + 1, ⟨by omega, by omega⟩, by rw [w64 (by omega)]; simp, ?_, ?_⟩)⟩ <;> rw [hn] <;> unfold spSin1 <;> rw [hb] <;> rfl
  · have hp : x = 2 := by have := of_decide_eq_false hp; omega
    subst hp
    exact hK
def c_uSinSpan : Ctr := fun as0 => match as0 with
  | [.x true [.r l a, .r h b]] => some fun K => ((a + b ≤ 100000000) ∧ (l ≤ h)) ∧ (K (.x true (spN (4 * (a + b) + 400) (spSin ⟨l, h⟩))))
  | _ => none
theorem ok_uSinSpan : CtrOK Tryz.prog tabG debT 67 c_uSinSpan := by
  refine ⟨enters Tryz.func67 (by kernel_rfl), fun l T hT K hK => ?_⟩
  unfold c_uSinSpan at hT
  split at hT
  · cases hT
    obtain ⟨hc, hK⟩ := hK
    exact spec_ofL T146ok mixed Tryz.func67 (by kernel_rfl) (by kernel_rfl) (by rfl) (g_uSinSpan _ _ _ _ hc K hK)
  · cases hT
def L147 : List (Nat × Ctr) := (67, c_uSinSpan) :: L146
def T147 : Tabs := mkT L147 M79 X4
theorem L147ok : CtrsOK Tryz.prog tabG debT L147 := .cons ok_uSinSpan L146ok
theorem T147ok : TabsOK Tryz.prog tabG debT T147 := mkTok L147ok M79ok X4ok
def ot_fOne : OT := fun _ => ([], [])
def goal_fOne  (K : AV → Prop) : Prop := goalL T147 ot_fOne noL Tryz.f113 [] K
theorem goal_fOne_vc (K : AV → Prop) : goal_fOne K = ( ((-9223372036854775808 : Int) ≤ (-1 : Int) ∧ (-1 : Int) < (9223372036854775808 : Int)) ∧ ((-9223372036854775808 : Int) ≤ (1 : Int) ∧ (1 : Int) < (9223372036854775808 : Int)) ∧ K (AV.x true [Ch.r (((-1 : Int) : Int) : Rat) (64 : Nat), Ch.r (((1 : Int) : Int) : Rat) (64 : Nat)])) := by kernel_rfl
theorem g_fOne  (hc : True) (K : AV → Prop) (hK : K (.x true [.r ((-1 : Int) : Rat) 64, .r ((1 : Int) : Rat) 64])) : Holds (goal_fOne  K) := by
  refine ⟨?_⟩
  rw [goal_fOne_vc]
  try simp only [Int.ofNat_eq_natCast, true_and, and_true, Nat.zero_add, Nat.le_refl, true_implies, true_or, or_true]
  exact ⟨by omega, by omega, hK⟩
def c_fOne : Ctr := fun as0 => match as0 with
  | [] => some fun K => (True) ∧ (K (.x true [.r ((-1 : Int) : Rat) 64, .r ((1 : Int) : Rat) 64]))
  | _ => none
theorem ok_fOne : CtrOK Tryz.prog tabG debT 113 c_fOne := by
  refine ⟨enters Tryz.func113 (by kernel_rfl), fun l T hT K hK => ?_⟩
  unfold c_fOne at hT
  split at hT
  · cases hT
    obtain ⟨hc, hK⟩ := hK
    exact spec_ofL T147ok mixed Tryz.func113 (by kernel_rfl) (by kernel_rfl) (by rfl) (g_fOne  hc K hK)
  · cases hT
def L148 : List (Nat × Ctr) := (113, c_fOne) :: L147
def T148 : Tabs := mkT L148 M79 X4
theorem L148ok : CtrsOK Tryz.prog tabG debT L148 := .cons ok_fOne L147ok
theorem T148ok : TabsOK Tryz.prog tabG debT T148 := mkTok L148ok M79ok X4ok
def ot_fCut : OT := fun id => bif id.beq 2 then ([0, 1, 5, 6, 2, 3, 4, 7, 8, 9, 10, 11], [[], [0], [], [2], [1, 0, 3, 2], [], [5], [4, 1, 0, 3, 2], [7, 4, 1, 0, 3, 2], [6, 5, 8, 7, 4, 1, 0, 3, 2], [4, 1, 0, 3, 2, 9, 6, 5, 8, 7], [10, 4, 1, 0, 3, 2, 9, 6, 5, 8, 7]]) else ([], [])
def goal_fCut (l : Rat) (a : Nat) (h : Rat) (b : Nat) (K : AV → Prop) : Prop := goalL T148 ot_fCut noL Tryz.f68 [.x true [.r l a, .r h b]] K
theorem goal_fCut_vc (l : Rat) (a : Nat) (h : Rat) (b : Nat) (K : AV → Prop) : goal_fCut l a h b K = ( ((a ≤ (1000000000 : Nat) ∧ b ≤ (1000000000 : Nat)) ∧ l ≤ h ∧ (1 : Int) ≤ (1000000 : Int) ∧ (1000000 : Int) < (9223372036854775808 : Int)) ∧ ∀ (n m : Nat), n ≤ a + (200 : Nat) → m ≤ b + (200 : Nat) → True ∧ n + (64 : Nat) ≤ (4294967296 : Nat) ∧ True ∧ m + (64 : Nat) ≤ (4294967296 : Nat) ∧ K (AV.x true [Ch.r (maxR (downR l (1000000 : Nat)) (((-1 : Int) : Int) : Rat)) (max n (64 : Nat)), Ch.r (minR (upR h (1000000 : Nat)) (((1 : Int) : Int) : Rat)) (max m (64 : Nat))])) := by kernel_rfl
theorem g_fCut (l : Rat) (a : Nat) (h : Rat) (b : Nat) (hc : (a + b ≤ 100000000) ∧ (l ≤ h)) (K : AV → Prop) (hK : ∀ (s : Sp) n m, s = spCut ⟨l, h⟩ → n ≤ a + 200 → m ≤ b + 200 → K (.x true [.r s.lo n, .r s.hi m])) : Holds (goal_fCut l a h b K) := by
  refine ⟨?_⟩
  rw [goal_fCut_vc]
  try simp only [Int.ofNat_eq_natCast, true_and, and_true, Nat.zero_add, Nat.le_refl, true_implies, true_or, or_true]
  exact ⟨⟨⟨by omega, by omega⟩, hc.2, by omega, by omega⟩, fun n m hn hm => ⟨by omega, by omega, hK (spCut ⟨l, h⟩) _ _ rfl (by omega) (by omega)⟩⟩
def c_fCut : Ctr := fun as0 => match as0 with
  | [.x true [.r l a, .r h b]] => some fun K => ((a + b ≤ 100000000) ∧ (l ≤ h)) ∧ (∀ (s : Sp) n m, s = spCut ⟨l, h⟩ → n ≤ a + 200 → m ≤ b + 200 → K (.x true [.r s.lo n, .r s.hi m]))
  | _ => none
theorem ok_fCut : CtrOK Tryz.prog tabG debT 68 c_fCut := by
  refine ⟨enters Tryz.func68 (by kernel_rfl), fun l T hT K hK => ?_⟩
  unfold c_fCut at hT
  split at hT
  · cases hT
    obtain ⟨hc, hK⟩ := hK
    exact spec_ofL T148ok mixed Tryz.func68 (by kernel_rfl) (by kernel_rfl) (by rfl) (g_fCut _ _ _ _ hc K hK)
  · cases hT
def L149 : List (Nat × Ctr) := (68, c_fCut) :: L148
def T149 : Tabs := mkT L149 M79 X4
theorem L149ok : CtrsOK Tryz.prog tabG debT L149 := .cons ok_fCut L148ok
theorem T149ok : TabsOK Tryz.prog tabG debT T149 := mkTok L149ok M79ok X4ok
def ot_fSpread : OT := fun id => bif id.beq 5 then ([0, 1, 2, 4, 5, 6, 8, 9, 12, 13, 17, 3, 7, 10, 11, 14, 15, 16, 18], [[], [0], [1, 0], [2, 1, 0], [], [4], [5, 4], [6, 5, 4, 3, 2, 1, 0], [], [8], [9, 8, 7, 6, 5, 4, 3, 2, 1, 0], [10, 9, 8, 7, 6, 5, 4, 3, 2, 1, 0], [], [12], [13, 12, 11, 10, 9, 8, 7, 6, 5, 4, 3, 2, 1, 0], [14, 13, 12, 11, 10, 9, 8, 7, 6, 5, 4, 3, 2, 1, 0], [3, 2, 1, 0, 7, 6, 5, 4, 11, 10, 9, 8, 15, 14, 13, 12], [], [17, 16, 3, 2, 1, 0, 7, 6, 5, 4, 11, 10, 9, 8, 15, 14, 13, 12]]) else bif id.beq 10 then ([0, 1, 2, 3, 5, 6, 7, 8, 10, 11, 4, 9, 12, 13], [[], [], [0, 1], [2, 0, 1], [3, 2, 0, 1], [], [], [5, 6], [7, 5, 6], [8, 7, 5, 6, 4, 3, 2, 0, 1], [], [], [10, 4, 3, 2, 0, 1, 9, 8, 7, 5, 6, 11], [11, 9, 8, 7, 5, 6, 4, 3, 2, 0, 1, 12, 10]]) else bif id.beq 12 then ([0, 1, 2, 4, 5, 6, 3, 7, 8, 9, 10, 11], [[], [0], [], [1, 0, 2], [], [4], [], [5, 4, 6, 3, 1, 0, 2], [3, 1, 0, 2, 7, 5, 4, 6], [8, 3, 1, 0, 2, 7, 5, 4, 6], [0, 1, 2, 3, 4, 5, 6, 7, 8, 9], [10, 0, 1, 2, 3, 4, 5, 6, 7, 8, 9]]) else bif id.beq 13 then ([0, 1, 2, 4, 5, 6, 3, 7, 8, 9, 10, 11], [[], [0], [], [1, 0, 2], [], [4], [], [5, 4, 6, 3, 1, 0, 2], [3, 1, 0, 2, 7, 5, 4, 6], [8, 3, 1, 0, 2, 7, 5, 4, 6], [0, 1, 2, 3, 4, 5, 6, 7, 8, 9], [10, 0, 1, 2, 3, 4, 5, 6, 7, 8, 9]]) else bif id.beq 16 then ([0, 1, 2, 3, 4, 5, 6, 7, 8], [[], [0], [], [], [3], [2, 4, 3], [1, 0, 5, 2, 4, 3], [0, 1, 2, 3, 4, 5, 6], [7, 0, 1, 2, 3, 4, 5, 6]]) else bif id.beq 17 then ([0, 1, 2, 3, 4, 5, 6, 7, 8], [[], [0], [], [], [3], [2, 4, 3], [1, 0, 5, 2, 4, 3], [0, 1, 2, 3, 4, 5, 6], [7, 0, 1, 2, 3, 4, 5, 6]]) else ([], [])
def goal_fSpread (a : ArmV) (B : Nat) (ts : List Sp) (qs : List Rat) (K : AV → Prop) : Prop := goalL T149 ot_fSpread (inv_spread a B ts qs) Tryz.f21 [armA a, .x false [.s 6 (ts.map (spN B))]] K
theorem goal_fSpread_vc (a : ArmV) (B : Nat) (ts : List Sp) (qs : List Rat) (K : AV → Prop) : goal_fSpread a B ts qs K = ( ∃ (a_1 : ArmV), [Ch.v (Value.string (ArmV.name a)), Ch.r (ArmV.x a) (63 : Nat), Ch.r (ArmV.y a) (63 : Nat), Ch.v (Value.bool (ArmV.half a)), Ch.r (ArmV.t a) (63 : Nat), Ch.s (16 : Nat) (List.map linkCh (ArmV.links a))] = [Ch.v (Value.string (ArmV.name a_1)), Ch.r (ArmV.x a_1) (63 : Nat), Ch.r (ArmV.y a_1) (63 : Nat), Ch.v (Value.bool (ArmV.half a_1)), Ch.r (ArmV.t a_1) (63 : Nat), Ch.s (16 : Nat) (List.map linkCh (ArmV.links a_1))] ∧ (GoodArm a_1 ∧ Int.ofNat (List.length (List.map (spN B) ts)) = Int.ofNat (List.length (ArmV.links a_1))) ∧ (63 : Nat) ≤ (2000000000 : Nat) ∧ (63 : Nat) ≤ (2000000000 : Nat) ∧ (63 : Nat) ≤ (500000000 : Nat) ∧ ∀ (n : Nat), n ≤ (652 : Nat) → n ≤ (2000000000 : Nat) ∧ (63 : Nat) ≤ (500000000 : Nat) ∧ ∀ (n_1 : Nat), n_1 ≤ (652 : Nat) → n_1 ≤ (2000000000 : Nat) ∧ (∃ (x : SpX), (SpI a ts qs x ∧ OfNat.ofNat (0 : Nat) = (0 : Nat)) ∧ (6 : Nat) = (6 : Nat) ∧ List.map (spN B) ts = List.map (spN B) ts ∧ (0 : Nat) = (0 : Nat) ∧ (0 : Nat) = (0 : Nat) ∧ Value.slice none (0 : Nat) (0 : Nat) = Value.slice none (0 : Nat) (0 : Nat) ∧ (0 : Nat) = (0 : Nat) ∧ SpX.i x = (0 : Nat) ∧ (16 : Nat) = (16 : Nat) ∧ List.map linkCh (ArmV.links a) = List.map linkCh (ArmV.links a) ∧ Int.ofNat (List.length (List.map linkCh (ArmV.links a))) = Int.ofNat (List.length (ArmV.links a)) ∧ (0 : Int) = Int.ofNat (SpX.i x) ∧ (44 : Nat) = (44 : Nat) ∧ ArmV.name a = ArmV.name a ∧ ArmV.x a = ArmV.x a ∧ (63 : Nat) ≤ (63 : Nat) ∧ ArmV.y a = ArmV.y a ∧ (63 : Nat) ≤ (63 : Nat) ∧ ArmV.half a = ArmV.half a ∧ ArmV.t a = ArmV.t a ∧ (63 : Nat) ≤ (63 : Nat) ∧ (16 : Nat) = (16 : Nat) ∧ List.map linkCh (ArmV.links a) = List.map linkCh (ArmV.links a) ∧ (60 : Nat) = (60 : Nat) ∧ ArmV.x a = Sp.lo (LoV.x (SpX.l x)) ∧ (63 : Nat) ≤ lb (SpX.i x) ∧ ArmV.x a = Sp.hi (LoV.x (SpX.l x)) ∧ (63 : Nat) ≤ lb (SpX.i x) ∧ ArmV.y a = Sp.lo (LoV.y (SpX.l x)) ∧ (63 : Nat) ≤ lb (SpX.i x) ∧ ArmV.y a = Sp.hi (LoV.y (SpX.l x)) ∧ (63 : Nat) ≤ lb (SpX.i x) ∧ cosT (ArmV.half a) (ArmV.t a) = Sp.lo (LoV.c (SpX.l x)) ∧ n ≤ lb (SpX.i x) ∧ cosT (ArmV.half a) (ArmV.t a) = Sp.hi (LoV.c (SpX.l x)) ∧ n ≤ lb (SpX.i x) ∧ sinT (ArmV.half a) (ArmV.t a) = Sp.lo (LoV.s (SpX.l x)) ∧ n_1 ≤ lb (SpX.i x) ∧ sinT (ArmV.half a) (ArmV.t a) = Sp.hi (LoV.s (SpX.l x)) ∧ n_1 ≤ lb (SpX.i x) ∧ List.map (loN (240000 : Nat)) (SpX.ls x) = [] ∧ True) ∧ ∀ (x : SpX), SpI a ts qs x → OfNat.ofNat (0 : Nat) = (0 : Nat) → bif decide (Int.ofNat (SpX.i x) < Int.ofNat (List.length (ArmV.links a))) then ((0 : Int) ≤ Int.ofNat (SpX.i x) ∧ Int.ofNat (SpX.i x) < Int.ofNat (List.length (List.map linkCh (ArmV.links a)))) ∧ ∃ (q : Rat), ∃ (n : Nat), ∃ (q_1 : Rat), ∃ (n_2 : Nat), ∃ (q_2 : Rat), ∃ (n_3 : Nat), ∃ (q_3 : Rat), ∃ (n_4 : Nat), ∃ (q_4 : Rat), ∃ (n_5 : Nat), ∃ (ys : List (List Ch)), ldE (List.map linkCh (ArmV.links a)) (Int.toNat (Int.ofNat (SpX.i x))) (0 : Nat) (16 : Nat) = some [Ch.r q n, Ch.r q_1 n_2, Ch.r q_2 n_3, Ch.r q_3 n_4, Ch.r q_4 n_5, Ch.s (6 : Nat) ys] ∧ ((0 : Int) ≤ Int.ofNat (SpX.i x) ∧ Int.ofNat (SpX.i x) < Int.ofNat (List.length (List.map (spN B) ts))) ∧ ∃ (q_5 : Rat), ∃ (n_6 : Nat), ∃ (q_6 : Rat), ∃ (n_7 : Nat), ldE (List.map (spN B) ts) (Int.toNat (Int.ofNat (SpX.i x))) (0 : Nat) (6 : Nat) = some [Ch.r q_5 n_6, Ch.r q_6 n_7] ∧ ((0 : Int) ≤ Int.ofNat (SpX.i x) ∧ Int.ofNat (SpX.i x) < Int.ofNat (List.length (List.map (spN B) ts))) ∧ ∃ (q_7 : Rat), ∃ (n_8 : Nat), ∃ (q_8 : Rat), ∃ (n_9 : Nat), ldE (List.map (spN B) ts) (Int.toNat (Int.ofNat (SpX.i x))) (0 : Nat) (6 : Nat) = some [Ch.r q_7 n_8, Ch.r q_8 n_9] ∧ (n_6 + n_7 ≤ (200000000 : Nat) ∧ q_5 ≤ q_6) ∧ ∀ (s : Sp) (n_10 m : Nat), s = spCos (Sp.mk q_5 q_6) → n_10 ≤ (4 : Nat) * (n_6 + n_7) + (400 : Nat) → m ≤ (4 : Nat) * (n_6 + n_7) + (400 : Nat) → (n_8 + n_9 ≤ (100000000 : Nat) ∧ q_7 ≤ q_8) ∧ (lb (SpX.i x) + lb (SpX.i x) + n_10 + m ≤ (2000000000 : Nat) ∧ Sp.lo (LoV.c (SpX.l x)) ≤ Sp.hi (LoV.c (SpX.l x)) ∧ Sp.lo s ≤ Sp.hi s) ∧ ∀ (s_1 : Sp) (n_11 : Nat), s_1 = spMul (Sp.mk (Sp.lo (LoV.c (SpX.l x))) (Sp.hi (LoV.c (SpX.l x)))) (Sp.mk (Sp.lo s) (Sp.hi s)) → n_11 ≤ max (lb (SpX.i x)) (lb (SpX.i x)) + max n_10 m → (lb (SpX.i x) + lb (SpX.i x) + ((4 : Nat) * (n_8 + n_9) + (400 : Nat)) + ((4 : Nat) * (n_8 + n_9) + (400 : Nat)) ≤ (2000000000 : Nat) ∧ Sp.lo (LoV.s (SpX.l x)) ≤ Sp.hi (LoV.s (SpX.l x)) ∧ Sp.lo (spSin (Sp.mk q_7 q_8)) ≤ Sp.hi (spSin (Sp.mk q_7 q_8))) ∧ ∀ (s_2 : Sp) (n_12 : Nat), s_2 = spMul (Sp.mk (Sp.lo (LoV.s (SpX.l x))) (Sp.hi (LoV.s (SpX.l x)))) (Sp.mk (Sp.lo (spSin (Sp.mk q_7 q_8))) (Sp.hi (spSin (Sp.mk q_7 q_8)))) → n_12 ≤ max (lb (SpX.i x)) (lb (SpX.i x)) + max ((4 : Nat) * (n_8 + n_9) + (400 : Nat)) ((4 : Nat) * (n_8 + n_9) + (400 : Nat)) → (n_11 + n_11 + n_12 + n_12 ≤ (4294967290 : Nat) ∧ Sp.lo s_1 ≤ Sp.hi s_1 ∧ Sp.lo s_2 ≤ Sp.hi s_2) ∧ (n_11 + n_12 + (1 : Nat) + (n_11 + n_12 + (1 : Nat)) ≤ (100000000 : Nat) ∧ Sp.lo s_1 - Sp.hi s_2 ≤ Sp.hi s_1 - Sp.lo s_2) ∧ ∀ (s_3 : Sp) (n_13 m_1 : Nat), s_3 = spCut (Sp.mk (Sp.lo s_1 - Sp.hi s_2) (Sp.hi s_1 - Sp.lo s_2)) → n_13 ≤ n_11 + n_12 + (1 : Nat) + (200 : Nat) → m_1 ≤ n_11 + n_12 + (1 : Nat) + (200 : Nat) → (lb (SpX.i x) + lb (SpX.i x) + n_10 + m ≤ (2000000000 : Nat) ∧ Sp.lo (LoV.s (SpX.l x)) ≤ Sp.hi (LoV.s (SpX.l x)) ∧ Sp.lo s ≤ Sp.hi s) ∧ ∀ (s_4 : Sp) (n_14 : Nat), s_4 = spMul (Sp.mk (Sp.lo (LoV.s (SpX.l x))) (Sp.hi (LoV.s (SpX.l x)))) (Sp.mk (Sp.lo s) (Sp.hi s)) → n_14 ≤ max (lb (SpX.i x)) (lb (SpX.i x)) + max n_10 m → (lb (SpX.i x) + lb (SpX.i x) + ((4 : Nat) * (n_8 + n_9) + (400 : Nat)) + ((4 : Nat) * (n_8 + n_9) + (400 : Nat)) ≤ (2000000000 : Nat) ∧ Sp.lo (LoV.c (SpX.l x)) ≤ Sp.hi (LoV.c (SpX.l x)) ∧ Sp.lo (spSin (Sp.mk q_7 q_8)) ≤ Sp.hi (spSin (Sp.mk q_7 q_8))) ∧ ∀ (s : Sp) (n_15 : Nat), s = spMul (Sp.mk (Sp.lo (LoV.c (SpX.l x))) (Sp.hi (LoV.c (SpX.l x)))) (Sp.mk (Sp.lo (spSin (Sp.mk q_7 q_8))) (Sp.hi (spSin (Sp.mk q_7 q_8)))) → n_15 ≤ max (lb (SpX.i x)) (lb (SpX.i x)) + max ((4 : Nat) * (n_8 + n_9) + (400 : Nat)) ((4 : Nat) * (n_8 + n_9) + (400 : Nat)) → (n_14 + n_14 + n_15 + n_15 ≤ (4294967290 : Nat) ∧ Sp.lo s_4 ≤ Sp.hi s_4 ∧ Sp.lo s ≤ Sp.hi s) ∧ (n_14 + n_15 + (1 : Nat) + (n_14 + n_15 + (1 : Nat)) ≤ (100000000 : Nat) ∧ Sp.lo s_4 + Sp.lo s ≤ Sp.hi s_4 + Sp.hi s) ∧ ∀ (s_5 : Sp) (n_16 m : Nat), s_5 = spCut (Sp.mk (Sp.lo s_4 + Sp.lo s) (Sp.hi s_4 + Sp.hi s)) → n_16 ≤ n_14 + n_15 + (1 : Nat) + (200 : Nat) → m ≤ n_14 + n_15 + (1 : Nat) + (200 : Nat) → ((SpX.i x + (1 : Nat)) * (320 : Nat) ≤ (140737488355328 : Nat) ∧ SpX.i x + (1 : Nat) ≤ (9223372036854775807 : Nat)) ∧ n ≤ (2000000000 : Nat) ∧ (n + n + n_13 + m_1 ≤ (2000000000 : Nat) ∧ q ≤ q ∧ Sp.lo s_3 ≤ Sp.hi s_3) ∧ ∀ (s : Sp) (n_17 : Nat), s = spMul (Sp.mk q q) (Sp.mk (Sp.lo s_3) (Sp.hi s_3)) → n_17 ≤ max n n + max n_13 m_1 → (lb (SpX.i x) + lb (SpX.i x) + n_17 + n_17 ≤ (4294967290 : Nat) ∧ Sp.lo (LoV.x (SpX.l x)) ≤ Sp.hi (LoV.x (SpX.l x)) ∧ Sp.lo s ≤ Sp.hi s) ∧ (n + n + n_16 + m ≤ (2000000000 : Nat) ∧ q ≤ q ∧ Sp.lo s_5 ≤ Sp.hi s_5) ∧ ∀ (s_6 : Sp) (n_18 : Nat), s_6 = spMul (Sp.mk q q) (Sp.mk (Sp.lo s_5) (Sp.hi s_5)) → n_18 ≤ max n n + max n_16 m → (lb (SpX.i x) + lb (SpX.i x) + n_18 + n_18 ≤ (4294967290 : Nat) ∧ Sp.lo (LoV.y (SpX.l x)) ≤ Sp.hi (LoV.y (SpX.l x)) ∧ Sp.lo s_6 ≤ Sp.hi s_6) ∧ ∃ (x' : SpX), (SpI a ts qs x' ∧ OfNat.ofNat (0 : Nat) = (0 : Nat) ∧ List.length (ArmV.links a) - SpX.i x' < List.length (ArmV.links a) - SpX.i x) ∧ (6 : Nat) = (6 : Nat) ∧ List.map (spN B) ts = List.map (spN B) ts ∧ (0 : Nat) = (0 : Nat) ∧ (0 : Nat) = (0 : Nat) ∧ (0 : Nat) = (0 : Nat) ∧ SpX.i x + (1 : Nat) = SpX.i x' ∧ (16 : Nat) = (16 : Nat) ∧ List.map linkCh (ArmV.links a) = List.map linkCh (ArmV.links a) ∧ Int.ofNat (List.length (ArmV.links a)) = Int.ofNat (List.length (ArmV.links a)) ∧ IntKind.wrap IntKind.i64 (Int.ofNat (SpX.i x) + (1 : Int)) = Int.ofNat (SpX.i x') ∧ (44 : Nat) = (44 : Nat) ∧ ArmV.name a = ArmV.name a ∧ ArmV.x a = ArmV.x a ∧ (63 : Nat) ≤ (63 : Nat) ∧ ArmV.y a = ArmV.y a ∧ (63 : Nat) ≤ (63 : Nat) ∧ ArmV.half a = ArmV.half a ∧ ArmV.t a = ArmV.t a ∧ (63 : Nat) ≤ (63 : Nat) ∧ (16 : Nat) = (16 : Nat) ∧ List.map linkCh (ArmV.links a) = List.map linkCh (ArmV.links a) ∧ (60 : Nat) = (60 : Nat) ∧ Sp.lo (LoV.x (SpX.l x)) + Sp.lo s = Sp.lo (LoV.x (SpX.l x')) ∧ lb (SpX.i x) + n_17 + (1 : Nat) ≤ lb (SpX.i x') ∧ Sp.hi (LoV.x (SpX.l x)) + Sp.hi s = Sp.hi (LoV.x (SpX.l x')) ∧ lb (SpX.i x) + n_17 + (1 : Nat) ≤ lb (SpX.i x') ∧ Sp.lo (LoV.y (SpX.l x)) + Sp.lo s_6 = Sp.lo (LoV.y (SpX.l x')) ∧ lb (SpX.i x) + n_18 + (1 : Nat) ≤ lb (SpX.i x') ∧ Sp.hi (LoV.y (SpX.l x)) + Sp.hi s_6 = Sp.hi (LoV.y (SpX.l x')) ∧ lb (SpX.i x) + n_18 + (1 : Nat) ≤ lb (SpX.i x') ∧ Sp.lo s_3 = Sp.lo (LoV.c (SpX.l x')) ∧ n_13 ≤ lb (SpX.i x') ∧ Sp.hi s_3 = Sp.hi (LoV.c (SpX.l x')) ∧ m_1 ≤ lb (SpX.i x') ∧ Sp.lo s_5 = Sp.lo (LoV.s (SpX.l x')) ∧ n_16 ≤ lb (SpX.i x') ∧ Sp.hi s_5 = Sp.hi (LoV.s (SpX.l x')) ∧ m ≤ lb (SpX.i x') ∧ (60 : Nat) = (60 : Nat) ∧ (24 : Nat) = (24 : Nat) ∧ (List.take (SpX.i x) (List.map (loN (240000 : Nat)) (SpX.ls x)) ++ [[Ch.r (Sp.lo (LoV.x (SpX.l x))) (lb (SpX.i x)), Ch.r (Sp.hi (LoV.x (SpX.l x))) (lb (SpX.i x)), Ch.r (Sp.lo (LoV.y (SpX.l x))) (lb (SpX.i x)), Ch.r (Sp.hi (LoV.y (SpX.l x))) (lb (SpX.i x)), Ch.r (Sp.lo s_3) n_13, Ch.r (Sp.hi s_3) m_1, Ch.r (Sp.lo s_5) n_16, Ch.r (Sp.hi s_5) m]] = List.map (loN (240000 : Nat)) (SpX.ls x') ∨ RowLE (List.take (SpX.i x) (List.map (loN (240000 : Nat)) (SpX.ls x)) ++ [[Ch.r (Sp.lo (LoV.x (SpX.l x))) (lb (SpX.i x)), Ch.r (Sp.hi (LoV.x (SpX.l x))) (lb (SpX.i x)), Ch.r (Sp.lo (LoV.y (SpX.l x))) (lb (SpX.i x)), Ch.r (Sp.hi (LoV.y (SpX.l x))) (lb (SpX.i x)), Ch.r (Sp.lo s_3) n_13, Ch.r (Sp.hi s_3) m_1, Ch.r (Sp.lo s_5) n_16, Ch.r (Sp.hi s_5) m]]) (List.map (loN (240000 : Nat)) (SpX.ls x'))) ∧ True else ((SpX.i x + (1 : Nat)) * (320 : Nat) ≤ (140737488355328 : Nat) ∧ SpX.i x + (1 : Nat) ≤ (9223372036854775807 : Nat)) ∧ K (AV.t [(false, [Ch.s (24 : Nat) (List.take (SpX.i x + (1 : Nat)) (List.drop (0 : Nat) (List.take (SpX.i x) (List.map (loN (240000 : Nat)) (SpX.ls x)) ++ [[Ch.r (Sp.lo (LoV.x (SpX.l x))) (lb (SpX.i x)), Ch.r (Sp.hi (LoV.x (SpX.l x))) (lb (SpX.i x)), Ch.r (Sp.lo (LoV.y (SpX.l x))) (lb (SpX.i x)), Ch.r (Sp.hi (LoV.y (SpX.l x))) (lb (SpX.i x)), Ch.r (Sp.lo (LoV.c (SpX.l x))) (lb (SpX.i x)), Ch.r (Sp.hi (LoV.c (SpX.l x))) (lb (SpX.i x)), Ch.r (Sp.lo (LoV.s (SpX.l x))) (lb (SpX.i x)), Ch.r (Sp.hi (LoV.s (SpX.l x))) (lb (SpX.i x))]])))]), (false, [Ch.v (Value.int IntKind.i64 (0 : Int))])])) := by kernel_rfl
theorem g_fSpread (a : ArmV) (B : Nat) (ts : List Sp) (qs : List Rat) (hc : (GoodArm a) ∧ (B ≤ 400 ∧ ts.length = a.links.length) ∧ (HasQ ts qs)) (K : AV → Prop) (hK : ∀ (ls : List LoV) (l : LoV), ls ++ [l] = spreadV (loBase a) a.links ts → ls.length = a.links.length → K (.t [(false, [.s 24 (ls.map (loN 240000) ++ [loN (lb a.links.length) l])]), (false, [.v (.int .i64 0)])])) : Holds (goal_fSpread a B ts qs K) := by
  refine ⟨?_⟩
  rw [goal_fSpread_vc]
  try simp only [Int.ofNat_eq_natCast, true_and, and_true, Nat.zero_add, Nat.le_refl, true_implies, true_or, or_true]
  obtain ⟨hg, ⟨hB, hts⟩, hq⟩ := hc
  have hn := hg.n
  simp only [List.length_map]
  refine ⟨a, rfl, ⟨hg, by rw [hts]⟩, by omega, by omega, by omega, fun n hn1 => ⟨by omega, by omega, fun n1 hn2 => ⟨by omega, ⟨⟨[], loBase a, baseV a, 0⟩, ⟨rfl, by simp, rfl, base_has a, hq⟩, rfl, trivial, rfl, rfl, by simp only [lb]; omega, rfl, by simp only [lb]; omega, rfl, by simp only [lb]; omega, rfl, by simp only [lb]; omega, rfl, by simp only [lb]; omega, rfl, by simp only [lb]; omega, rfl, by simp only [lb]; omega, rfl, by simp only [lb]; omega, rfl⟩, fun x hx => bif_mk (fun hp => ?_) (fun hp => ?_)⟩⟩⟩
  · have hp : x.i < a.links.length := by have := of_decide_eq_true hp; omega
    have hxn := hx.n
    obtain ⟨L, hL⟩ : ∃ L, a.links[x.i]? = some L := ⟨_, List.getElem?_eq_getElem hp⟩
    obtain ⟨t, ht⟩ : ∃ t, ts[x.i]? = some t := ⟨_, List.getElem?_eq_getElem (by omega)⟩
    have hql := hq.1
    obtain ⟨q, hqq⟩ : ∃ q, qs[x.i]? = some q := ⟨_, List.getElem?_eq_getElem (by omega)⟩
    have hh := hx.has
    have hxq := hx.qs
    have he := hx.eq
    rw [drop_get' ht, drop_get' hqq] at hxq
    rw [drop_get' hL, drop_get' ht, spreadV] at he
    obtain ⟨hq1, hq2⟩ := hxq.tail
    have hlb := lb_le (i := x.i) (by omega)
    have hls : lb (x.i + 1) = 4 * lb x.i + 9000 := rfl
    have c1 := spCos_has hq1
    have c2 := spSin_has hq1
    have m1 := spMul_has hh.c c1
    have m2 := spMul_has hh.s c2
    have m3 := spMul_has hh.s c1
    have m4 := spMul_has hh.c c2
    have hN := loNext_has hh hq1
    have hE := loEnd_has hN L.len
    refine ⟨by omega, _, _, _, _, _, _, _, _, _, _, _, link_ld (by simpa using hL), by omega, _, _, _, _, sp_ld (by simpa using ht), by omega, _, _, _, _, sp_ld (by simpa using ht), ⟨by omega, hq1.ok⟩, fun s1 b1 b2 e1 h1 h2 => ?_⟩
    subst e1
    refine ⟨⟨by omega, hq1.ok⟩, ⟨by omega, hh.c.ok, c1.ok⟩, fun s2 b3 e2 h3 => ?_⟩
    subst e2
    refine ⟨⟨by omega, hh.s.ok, c2.ok⟩, fun s3 b4 e3 h4 => ?_⟩
    subst e3
    refine ⟨⟨by omega, m1.ok, m2.ok⟩, ⟨by omega, (spSub_has m1 m2).ok⟩, fun s4 b5 b6 e4 h5 h6 => ?_⟩
    subst e4
    refine ⟨⟨by omega, hh.s.ok, c1.ok⟩, fun s5 b7 e5 h7 => ?_⟩
    subst e5
    refine ⟨⟨by omega, hh.c.ok, c2.ok⟩, fun s6 b8 e6 h8 => ?_⟩
    subst e6
    refine ⟨⟨by omega, m3.ok, m4.ok⟩, ⟨by omega, (spAdd_has m3 m4).ok⟩, fun s7 b9 b10 e7 h9 h10 => ?_⟩
    subst e7
    refine ⟨by omega, by omega, ⟨by omega, Rat.le_refl, hN.c.ok⟩, fun s8 b11 e8 h11 => ?_⟩
    subst e8
    refine ⟨⟨by omega, hh.x.ok, (spMul_has (spOf_has L.len) hN.c).ok⟩, ⟨by omega, Rat.le_refl, hN.s.ok⟩, fun s9 b12 e9 h12 => ?_⟩
    subst e9
    refine ⟨⟨by omega, hh.y.ok, (spMul_has (spOf_has L.len) hN.s).ok⟩, ⟨x.ls ++ [loNext x.l t], loEnd (loNext x.l t) L.len, _, x.i + 1⟩, ⟨⟨by simp [hxn], hp, by simp only; rw [List.append_assoc]; exact he, hE, hq2⟩, by simp only; omega⟩, rfl, by rw [w64 (by omega)]; simp, rfl, by simp only [hls]; omega, rfl, by simp only [hls]; omega, rfl, by simp only [hls]; omega, rfl, by simp only [hls]; omega, rfl, by simp only [hls]; omega, rfl, by simp only [hls]; omega, rfl, by simp only [hls]; omega, rfl, by simp only [hls]; omega, .inr ?_⟩
    rw [List.take_of_length_le (by simp [hxn])]
    exact lo_snoc x.ls (loNext x.l t) (by omega) (by omega) (by omega) (by omega) (by omega) (by omega) (by omega) (by omega)
  · have hp : x.i = a.links.length := by have := of_decide_eq_false hp; have := hx.le; omega
    have hxn := hx.n
    have he := hx.eq
    rw [hp, List.drop_length, show spreadV x.l [] (ts.drop a.links.length) = [x.l] by cases ts.drop a.links.length <;> rfl] at he
    have := hK x.ls x.l he (by omega)
    refine ⟨by omega, ?_⟩
    rw [List.drop_zero, List.take_of_length_le (l := x.ls.map (loN 240000)) (by simp [hxn]), List.take_of_length_le (by simp [hxn]), hp]
    exact this
def c_fSpread : Ctr := fun as0 => match as0 with
  | [.x true xs, .x false [.s 6 ys]] => some fun K => ∃ (a : ArmV) (B : Nat) (ts : List Sp) (qs : List Rat), xs = armCh a ∧ ys = ts.map (spN B) ∧ ((GoodArm a) ∧ (B ≤ 400 ∧ ts.length = a.links.length) ∧ (HasQ ts qs)) ∧ (∀ (ls : List LoV) (l : LoV), ls ++ [l] = spreadV (loBase a) a.links ts → ls.length = a.links.length → K (.t [(false, [.s 24 (ls.map (loN 240000) ++ [loN (lb a.links.length) l])]), (false, [.v (.int .i64 0)])]))
  | _ => none
theorem ok_fSpread : CtrOK Tryz.prog tabG debT 21 c_fSpread := by
  refine ⟨enters Tryz.func21 (by kernel_rfl), fun l T hT K hK => ?_⟩
  unfold c_fSpread at hT
  split at hT
  · cases hT
    obtain ⟨a, B, ts, qs, rfl, rfl, hc, hK⟩ := hK
    exact spec_ofL T149ok mixed Tryz.func21 (by kernel_rfl) (by kernel_rfl) (by rfl) (g_fSpread _ _ _ _ hc K hK)
  · cases hT
def L150 : List (Nat × Ctr) := (21, c_fSpread) :: L149
def T150 : Tabs := mkT L150 M79 X4
theorem L150ok : CtrsOK Tryz.prog tabG debT L150 := .cons ok_fSpread L149ok
theorem T150ok : TabsOK Tryz.prog tabG debT T150 := mkTok L150ok M79ok X4ok
def ot_kSpans : OT := fun id => bif id.beq 5 then ([0, 1, 2, 3, 4, 5, 6, 7, 8, 10, 11, 12, 13, 14, 15, 16, 17, 9, 18, 19, 20, 21, 22], [[], [], [], [1, 2], [3, 1, 2], [], [], [5, 6], [7, 5, 6], [4, 3, 1, 2, 8, 7, 5, 6], [], [], [10, 11], [12, 10, 11], [], [], [14, 15], [16, 14, 15], [13, 12, 10, 11, 17, 16, 14, 15, 9, 4, 3, 1, 2, 8, 7, 5, 6], [9, 4, 3, 1, 2, 8, 7, 5, 6, 18, 13, 12, 10, 11, 17, 16, 14, 15], [19, 9, 4, 3, 1, 2, 8, 7, 5, 6, 18, 13, 12, 10, 11, 17, 16, 14, 15], [0, 20, 19, 9, 4, 3, 1, 2, 8, 7, 5, 6, 18, 13, 12, 10, 11, 17, 16, 14, 15], [21, 0, 20, 19, 9, 4, 3, 1, 2, 8, 7, 5, 6, 18, 13, 12, 10, 11, 17, 16, 14, 15]]) else ([], [])
def goal_kSpans (ps : List Rat) (a : Nat) (qs : List Rat) (b : Nat) (K : AV → Prop) : Prop := goalL T150 ot_kSpans (inv_spans ps qs a b) Tryz.f22 [sR a ps, sR b qs] K
theorem goal_kSpans_vc (ps : List Rat) (a : Nat) (qs : List Rat) (b : Nat) (K : AV → Prop) : goal_kSpans ps a qs b K = ( (∃ (x : Nat), (x ≤ List.length ps ∧ OfNat.ofNat (0 : Nat) = (0 : Nat)) ∧ (3 : Nat) = (3 : Nat) ∧ lR a ps = lR a ps ∧ (3 : Nat) = (3 : Nat) ∧ lR b qs = lR b qs ∧ Value.slice none (0 : Nat) (0 : Nat) = Value.slice none (0 : Nat) (0 : Nat) ∧ (0 : Nat) = (0 : Nat) ∧ x = (0 : Nat) ∧ (bif false then if Int.ofNat (List.length (lR b qs)) > Int.ofNat (List.length (lR a ps)) then Int.ofNat (List.length (lR b qs)) else Int.ofNat (List.length (lR a ps)) else if Int.ofNat (List.length (lR b qs)) < Int.ofNat (List.length (lR a ps)) then Int.ofNat (List.length (lR b qs)) else Int.ofNat (List.length (lR a ps))) = Int.ofNat (List.length ps) ∧ (0 : Int) = Int.ofNat x ∧ List.map (spN (max a b)) (List.take x (spansV ps qs)) = [] ∧ True) ∧ ∀ (x : Nat), x ≤ List.length ps → OfNat.ofNat (0 : Nat) = (0 : Nat) → bif decide (Int.ofNat x < Int.ofNat (List.length ps)) then ((0 : Int) ≤ Int.ofNat x ∧ Int.ofNat x < Int.ofNat (List.length (lR a ps))) ∧ ∃ (q : Rat), ∃ (n : Nat), ldE (lR a ps) (Int.toNat (Int.ofNat x)) (0 : Nat) (3 : Nat) = some [Ch.r q n] ∧ ((0 : Int) ≤ Int.ofNat x ∧ Int.ofNat x < Int.ofNat (List.length (lR b qs))) ∧ ∃ (q_1 : Rat), ∃ (n_1 : Nat), ldE (lR b qs) (Int.toNat (Int.ofNat x)) (0 : Nat) (3 : Nat) = some [Ch.r q_1 n_1] ∧ ((0 : Int) ≤ Int.ofNat x ∧ Int.ofNat x < Int.ofNat (List.length (lR a ps))) ∧ ∃ (q_2 : Rat), ∃ (n_2 : Nat), ldE (lR a ps) (Int.toNat (Int.ofNat x)) (0 : Nat) (3 : Nat) = some [Ch.r q_2 n_2] ∧ ((0 : Int) ≤ Int.ofNat x ∧ Int.ofNat x < Int.ofNat (List.length (lR b qs))) ∧ ∃ (q_3 : Rat), ∃ (n_3 : Nat), ldE (lR b qs) (Int.toNat (Int.ofNat x)) (0 : Nat) (3 : Nat) = some [Ch.r q_3 n_3] ∧ n + n_1 ≤ (4294967296 : Nat) ∧ n_2 + n_3 ≤ (4294967296 : Nat) ∧ ((x + (1 : Nat)) * (80 : Nat) ≤ (140737488355328 : Nat) ∧ x + (1 : Nat) ≤ (9223372036854775807 : Nat)) ∧ ∃ (x' : Nat), (x' ≤ List.length ps ∧ OfNat.ofNat (0 : Nat) = (0 : Nat) ∧ List.length ps - x' < List.length ps - x) ∧ (3 : Nat) = (3 : Nat) ∧ lR a ps = lR a ps ∧ (3 : Nat) = (3 : Nat) ∧ lR b qs = lR b qs ∧ (0 : Nat) = (0 : Nat) ∧ x + (1 : Nat) = x' ∧ Int.ofNat (List.length ps) = Int.ofNat (List.length ps) ∧ IntKind.wrap IntKind.i64 (Int.ofNat x + (1 : Int)) = Int.ofNat x' ∧ (58 : Nat) = (58 : Nat) ∧ (6 : Nat) = (6 : Nat) ∧ (List.take x (List.map (spN (max a b)) (List.take x (spansV ps qs))) ++ [[Ch.r (minR q q_1) (max n n_1), Ch.r (maxR q_2 q_3) (max n_2 n_3)]] = List.map (spN (max a b)) (List.take x' (spansV ps qs)) ∨ RowLE (List.take x (List.map (spN (max a b)) (List.take x (spansV ps qs))) ++ [[Ch.r (minR q q_1) (max n n_1), Ch.r (maxR q_2 q_3) (max n_2 n_3)]]) (List.map (spN (max a b)) (List.take x' (spansV ps qs)))) ∧ True else K (AV.x false [Ch.s (6 : Nat) (List.take x (List.drop (0 : Nat) (List.map (spN (max a b)) (List.take x (spansV ps qs)))))])) := by kernel_rfl
theorem g_kSpans (ps : List Rat) (a : Nat) (qs : List Rat) (b : Nat) (hc : (ps.length = qs.length ∧ ps.length ≤ 100) ∧ (a + b ≤ 1000000)) (K : AV → Prop) (hK : K (.x false [.s 6 ((spansV ps qs).map (spN (max a b)))])) : Holds (goal_kSpans ps a qs b K) := by
  refine ⟨?_⟩
  rw [goal_kSpans_vc]
  try simp only [Int.ofNat_eq_natCast, true_and, and_true, Nat.zero_add, Nat.le_refl, true_implies, true_or, or_true]
  obtain ⟨⟨hl, hl2⟩, hab⟩ := hc
  simp only [lR_len]
  have sl := spans_len hl
  refine ⟨⟨0, by omega, rfl, by simp [hl], rfl, rfl⟩, fun x hx => bif_mk (fun hp => ?_) (fun hp => ?_)⟩
  · have hp : x < ps.length := by have := of_decide_eq_true hp; omega
    obtain ⟨p, hpp⟩ : ∃ p, ps[x]? = some p := ⟨_, List.getElem?_eq_getElem hp⟩
    obtain ⟨q, hqq⟩ : ∃ q, qs[x]? = some q := ⟨_, List.getElem?_eq_getElem (by omega)⟩
    refine ⟨by omega, _, _, lR_ld (by simpa using hpp), by omega, _, _, lR_ld (by simpa using hqq), by omega, _, _, lR_ld (by simpa using hpp), by omega, _, _, lR_ld (by simpa using hqq), by omega, by omega, by omega, x + 1, ⟨by omega, by omega⟩, rfl, by rw [w64 (by omega)]; simp, .inl ?_⟩
    rw [List.take_of_length_le (by rw [List.length_map, List.length_take]; omega), List.take_add_one, spans_get hpp hqq, List.map_append]
    rfl
  · have hp : x = ps.length := by have := of_decide_eq_false hp; omega
    rw [List.drop_zero, List.take_of_length_le (by rw [List.length_map, List.length_take]; omega), List.take_of_length_le (by omega)]
    exact hK
def c_kSpans : Ctr := fun as0 => match as0 with
  | [.x false [.s 3 xs], .x false [.s 3 ys]] => some fun K => ∃ (ps : List Rat) (a : Nat) (qs : List Rat) (b : Nat), xs = lR a ps ∧ ys = lR b qs ∧ ((ps.length = qs.length ∧ ps.length ≤ 100) ∧ (a + b ≤ 1000000)) ∧ (K (.x false [.s 6 ((spansV ps qs).map (spN (max a b)))]))
  | _ => none
theorem ok_kSpans : CtrOK Tryz.prog tabG debT 22 c_kSpans := by
  refine ⟨enters Tryz.func22 (by kernel_rfl), fun l T hT K hK => ?_⟩
  unfold c_kSpans at hT
  split at hT
  · cases hT
    obtain ⟨ps, a, qs, b, rfl, rfl, hc, hK⟩ := hK
    exact spec_ofL T150ok mixed Tryz.func22 (by kernel_rfl) (by kernel_rfl) (by rfl) (g_kSpans _ _ _ _ hc K hK)
  · cases hT
def L151 : List (Nat × Ctr) := (22, c_kSpans) :: L150
def T151 : Tabs := mkT L151 M79 X4
theorem L151ok : CtrsOK Tryz.prog tabG debT L151 := .cons ok_kSpans L150ok
theorem T151ok : TabsOK Tryz.prog tabG debT T151 := mkTok L151ok M79ok X4ok
def ot_kBetw : OT := fun id => bif id.beq 6 then ([0, 1, 2, 3, 4, 5, 8, 9, 10, 11, 12, 13, 14, 15, 6, 7, 16, 17, 18, 19, 20, 21], [[], [], [], [1, 2], [3, 1, 2], [], [5], [6, 5], [], [], [8, 9], [10, 8, 9], [], [], [12, 13], [14, 12, 13], [11, 10, 8, 9, 15, 14, 12, 13, 7, 6, 5], [7, 6, 5, 16, 11, 10, 8, 9, 15, 14, 12, 13], [4, 3, 1, 2, 17, 7, 6, 5, 16, 11, 10, 8, 9, 15, 14, 12, 13], [18, 4, 3, 1, 2, 17, 7, 6, 5, 16, 11, 10, 8, 9, 15, 14, 12, 13], [0, 19, 18, 4, 3, 1, 2, 17, 7, 6, 5, 16, 11, 10, 8, 9, 15, 14, 12, 13], [20, 0, 19, 18, 4, 3, 1, 2, 17, 7, 6, 5, 16, 11, 10, 8, 9, 15, 14, 12, 13]]) else ([], [])
def goal_kBetw (ps : List Rat) (a : Nat) (qs : List Rat) (b : Nat) (l : List Int) (K : AV → Prop) : Prop := goalL T151 ot_kBetw (inv_betw ps qs a b l) Tryz.f24 [sR a ps, sR b qs, .x false [.s 1 (ints l)]] K
theorem goal_kBetw_vc (ps : List Rat) (a : Nat) (qs : List Rat) (b : Nat) (l : List Int) (K : AV → Prop) : goal_kBetw ps a qs b l K = ( (∃ (x : BtX), (BtI ps qs l x ∧ OfNat.ofNat (0 : Nat) = (0 : Nat)) ∧ (3 : Nat) = (3 : Nat) ∧ lR a ps = lR a ps ∧ (3 : Nat) = (3 : Nat) ∧ lR b qs = lR b qs ∧ (0 : Nat) = (0 : Nat) ∧ Value.slice none (0 : Nat) (0 : Nat) = Value.slice none (0 : Nat) (0 : Nat) ∧ (0 : Nat) = (0 : Nat) ∧ List.length (BtX.vs x) = (0 : Nat) ∧ (bif false then if Int.ofNat (List.length (lR b qs)) > Int.ofNat (List.length (lR a ps)) then Int.ofNat (List.length (lR b qs)) else Int.ofNat (List.length (lR a ps)) else if Int.ofNat (List.length (lR b qs)) < Int.ofNat (List.length (lR a ps)) then Int.ofNat (List.length (lR b qs)) else Int.ofNat (List.length (lR a ps))) = Int.ofNat (List.length ps) ∧ (0 : Int) = Int.ofNat (List.length (BtX.vs x)) ∧ (112 : Nat) = (112 : Nat) ∧ (1 : Nat) = (1 : Nat) ∧ ints l = ints (BtX.l x) ∧ List.map (fun (q : Rat) => [Ch.r q ((2 : Nat) * a + b + (65 : Nat))]) (BtX.vs x) = [] ∧ True) ∧ ∀ (x : BtX), BtI ps qs l x → OfNat.ofNat (0 : Nat) = (0 : Nat) → bif decide (Int.ofNat (List.length (BtX.vs x)) < Int.ofNat (List.length ps)) then ((0 : Int) ≤ Int.ofNat (List.length (BtX.vs x)) ∧ Int.ofNat (List.length (BtX.vs x)) < Int.ofNat (List.length (lR a ps))) ∧ ∃ (q : Rat), ∃ (n : Nat), ldE (lR a ps) (Int.toNat (Int.ofNat (List.length (BtX.vs x)))) (0 : Nat) (3 : Nat) = some [Ch.r q n] ∧ ((0 : Int) ≤ Int.ofNat (List.length (BtX.vs x)) ∧ Int.ofNat (List.length (BtX.vs x)) < Int.ofNat (List.length (lR b qs))) ∧ ∃ (q_1 : Rat), ∃ (n_1 : Nat), ldE (lR b qs) (Int.toNat (Int.ofNat (List.length (BtX.vs x)))) (0 : Nat) (3 : Nat) = some [Ch.r q_1 n_1] ∧ ((0 : Int) ≤ Int.ofNat (List.length (BtX.vs x)) ∧ Int.ofNat (List.length (BtX.vs x)) < Int.ofNat (List.length (lR a ps))) ∧ ∃ (q_2 : Rat), ∃ (n_2 : Nat), ldE (lR a ps) (Int.toNat (Int.ofNat (List.length (BtX.vs x)))) (0 : Nat) (3 : Nat) = some [Ch.r q_2 n_2] ∧ ∃ (l_1 : List Int), ints (BtX.l x) = ints l_1 ∧ ((1 : Int) ≤ (9 : Int) ∧ (9 : Int) < (9223372036854775808 : Int)) ∧ List.length l_1 ≤ (9223372036854775807 : Nat) ∧ ∀ (r : Int) (l' : List Int), (0 : Int) ≤ r ∧ r < (9 : Int) → List.length l' ≤ List.length l_1 → (((-9223372036854775808 : Int) < r ∧ r < (9223372036854775808 : Int)) ∧ (0 : Int) < (8 : Int) ∧ (8 : Int) < (9223372036854775808 : Int)) ∧ n_1 + n_2 + (1 : Nat) ≤ (4294967296 : Nat) ∧ (63 : Nat) + (n_1 + n_2 + (1 : Nat)) ≤ (4294967296 : Nat) ∧ n + ((63 : Nat) + (n_1 + n_2 + (1 : Nat))) + (1 : Nat) ≤ (4294967296 : Nat) ∧ ((List.length (BtX.vs x) + (1 : Nat)) * (40 : Nat) ≤ (140737488355328 : Nat) ∧ List.length (BtX.vs x) + (1 : Nat) ≤ (9223372036854775807 : Nat)) ∧ ∃ (x' : BtX), (BtI ps qs l x' ∧ OfNat.ofNat (0 : Nat) = (0 : Nat) ∧ List.length ps - List.length (BtX.vs x') < List.length ps - List.length (BtX.vs x)) ∧ (3 : Nat) = (3 : Nat) ∧ lR a ps = lR a ps ∧ (3 : Nat) = (3 : Nat) ∧ lR b qs = lR b qs ∧ (0 : Nat) = (0 : Nat) ∧ (0 : Nat) = (0 : Nat) ∧ List.length (BtX.vs x) + (1 : Nat) = List.length (BtX.vs x') ∧ Int.ofNat (List.length ps) = Int.ofNat (List.length ps) ∧ IntKind.wrap IntKind.i64 (Int.ofNat (List.length (BtX.vs x)) + (1 : Int)) = Int.ofNat (List.length (BtX.vs x')) ∧ (112 : Nat) = (112 : Nat) ∧ (1 : Nat) = (1 : Nat) ∧ ints l' = ints (BtX.l x') ∧ (26 : Nat) = (26 : Nat) ∧ (3 : Nat) = (3 : Nat) ∧ (List.take (List.length (BtX.vs x)) (List.map (fun (q : Rat) => [Ch.r q ((2 : Nat) * a + b + (65 : Nat))]) (BtX.vs x)) ++ [[Ch.r (q + mkRat r (8 : Nat) * (q_1 - q_2)) (n + ((63 : Nat) + (n_1 + n_2 + (1 : Nat))) + (1 : Nat))]] = List.map (fun (q : Rat) => [Ch.r q ((2 : Nat) * a + b + (65 : Nat))]) (BtX.vs x') ∨ RowLE (List.take (List.length (BtX.vs x)) (List.map (fun (q : Rat) => [Ch.r q ((2 : Nat) * a + b + (65 : Nat))]) (BtX.vs x)) ++ [[Ch.r (q + mkRat r (8 : Nat) * (q_1 - q_2)) (n + ((63 : Nat) + (n_1 + n_2 + (1 : Nat))) + (1 : Nat))]]) (List.map (fun (q : Rat) => [Ch.r q ((2 : Nat) * a + b + (65 : Nat))]) (BtX.vs x'))) ∧ True else K (AV.x false [Ch.s (3 : Nat) (List.take (List.length (BtX.vs x)) (List.drop (0 : Nat) (List.map (fun (q : Rat) => [Ch.r q ((2 : Nat) * a + b + (65 : Nat))]) (BtX.vs x))))])) := by kernel_rfl
theorem g_kBetw (ps : List Rat) (a : Nat) (qs : List Rat) (b : Nat) (l : List Int) (hc : (ps.length = qs.length ∧ ps.length ≤ 100) ∧ (a + b ≤ 1000000) ∧ (l.length ≤ 9223372036854775807)) (K : AV → Prop) (hK : ∀ vs : List Rat, HasQ (spansV ps qs) vs → K (sR (2 * a + b + 65) vs)) : Holds (goal_kBetw ps a qs b l K) := by
  refine ⟨?_⟩
  rw [goal_kBetw_vc]
  try simp only [Int.ofNat_eq_natCast, true_and, and_true, Nat.zero_add, Nat.le_refl, true_implies, true_or, or_true]
  obtain ⟨⟨hl, hl2⟩, hab, hll⟩ := hc
  simp only [lR_len]
  have sl := spans_len hl
  refine ⟨⟨⟨[], l⟩, ⟨by simp, Nat.le_refl _, fun i v s h => by cases h⟩, rfl, by simp [hl], rfl, rfl, rfl⟩, fun x hx => bif_mk (fun hp => ?_) (fun hp => ?_)⟩
  · have hp : x.vs.length < ps.length := by have := of_decide_eq_true hp; omega
    have hxl := hx.hl
    obtain ⟨p, hpp⟩ : ∃ p, ps[x.vs.length]? = some p := ⟨_, List.getElem?_eq_getElem hp⟩
    obtain ⟨q, hqq⟩ : ∃ q, qs[x.vs.length]? = some q := ⟨_, List.getElem?_eq_getElem (by omega)⟩
    refine ⟨by omega, _, _, lR_ld (by simpa using hpp), by omega, _, _, lR_ld (by simpa using hqq), by omega, _, _, lR_ld (by simpa using hpp), x.l, rfl, by omega, by omega, fun r l' hr hl' => ⟨by omega, by omega, by omega, by omega, by omega, ⟨x.vs ++ [p + mkRat r 8 * (q - p)], l'⟩, ⟨⟨by simp only [List.length_append, List.length_singleton]; omega, by simp only; omega, fun i v s hv hs => ?_⟩, by simp only [List.length_append, List.length_singleton]; omega⟩, by simp, by rw [w64 (by omega)]; simp, rfl, .inr ?_⟩⟩
    · by_cases hi : i < x.vs.length
      · rw [List.getElem?_append_left hi] at hv
        exact hx.has i v s hv hs
      · rw [List.getElem?_append_right (by omega)] at hv
        have : i - x.vs.length = 0 := by
          have := (List.getElem?_eq_some_iff.1 hv).1
          simp at this; omega
        rw [this] at hv
        cases hv
        have : i = x.vs.length := by omega
        subst this
        rw [spans_get hpp hqq] at hs
        cases hs
        obtain ⟨k1, k2⟩ := eighth hr
        exact betw_has k1 k2
    · rw [List.take_of_length_le (by rw [List.length_map]; exact Nat.le_refl _)]
      exact lR_snoc' _ _ (by omega)
  · have hp : x.vs.length = ps.length := by have := of_decide_eq_false hp; have := hx.le; omega
    rw [List.drop_zero, List.take_of_length_le (by rw [List.length_map]; exact Nat.le_refl _)]
    exact hK x.vs ⟨by rw [sl, hp], fun i t q h1 h2 => hx.has i q t h2 h1⟩
def c_kBetw : Ctr := fun as0 => match as0 with
  | [.x false [.s 3 xs], .x false [.s 3 ys], .x false [.s 1 zs]] => some fun K => ∃ (ps : List Rat) (a : Nat) (qs : List Rat) (b : Nat) (l : List Int), xs = lR a ps ∧ ys = lR b qs ∧ zs = ints l ∧ ((ps.length = qs.length ∧ ps.length ≤ 100) ∧ (a + b ≤ 1000000) ∧ (l.length ≤ 9223372036854775807)) ∧ (∀ vs : List Rat, HasQ (spansV ps qs) vs → K (sR (2 * a + b + 65) vs))
  | _ => none
theorem ok_kBetw : CtrOK Tryz.prog tabG debT 24 c_kBetw := by
  refine ⟨enters Tryz.func24 (by kernel_rfl), fun l T hT K hK => ?_⟩
  unfold c_kBetw at hT
  split at hT
  · cases hT
    obtain ⟨ps, a, qs, b, l, rfl, rfl, rfl, hc, hK⟩ := hK
    exact spec_ofL T151ok mixed Tryz.func24 (by kernel_rfl) (by kernel_rfl) (by rfl) (g_kBetw _ _ _ _ _ hc K hK)
  · cases hT
def L152 : List (Nat × Ctr) := (24, c_kBetw) :: L151
def T152 : Tabs := mkT L152 M79 X4
theorem L152ok : CtrsOK Tryz.prog tabG debT L152 := .cons ok_kBetw L151ok
end Go.Proofs
