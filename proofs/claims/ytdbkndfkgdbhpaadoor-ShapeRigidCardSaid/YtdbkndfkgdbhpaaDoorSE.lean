/- Placed shapes: List, Place, Convex, Area, Around. -/
import Derived.Test.YtdbkndfkgdbhpaaDoorFA
/- Placed shapes: List, Place, Convex, Area, Around. -/
namespace Go.Proofs
open Go Go.Eng
def zV : List Ch := zeroR ++ zeroR
def partV (f : FrV) (l : List (Rat × Rat)) (i : Nat) : List (List Ch) := ((l.take i).map fun p => vecN 115300000 (plV f p)) ++ List.replicate (l.length - i) zV
def inv_list (f : FrV) (i j k n : Nat) (l : List (Rat × Rat)) : LI := fun _ => .inv ⟨Nat, fun x => ⟨[(2, .x false [.p 2 0]), (5, .x false [.w 500 0 l.length]), (11, sVv n l), (12, iA .i64 l.length), (13, iA .i64 x)],
  [(2, .box 31 [.r f.x i, .r f.y j, .v (.bool f.h), .r f.t k]), (500, .row 27 6 (partV f l x))]⟩, fun x => x ≤ l.length, fun x => l.length - x, fun _ => 0⟩
def placeV (fs : List FrV) (ls : List LinkV) : List (List (Rat × Rat)) := List.zipWith (fun f L => L.shape.map (plV f)) fs ls
def shN (n : Nat) (l : List (List (Rat × Rat))) : List (List Ch) := l.map fun s => [Ch.s 6 (s.map (vecN n))]
def inv_place (a : ArmV) (qs : List Rat) : LI := fun _ => .inv ⟨TqX, fun x => ⟨[(2, .x false [.p 2 0]), (6, .x false [.s 10 (x.fs.map frCh ++ [frN (bnd a.links.length) x.f])]), (8, .x false [.w 500 0 x.i]), (21, .x false [.s 16 (a.links.map linkCh)]), (22, iA .i64 a.links.length), (23, iA .i64 x.i)],
  [(2, .box 34 (armCh a)), (500, .row 69 1 (shN 115300000 ((placeV x.fs a.links).take x.i)))]⟩, TqI a qs, fun x => a.links.length - x.i, fun _ => 0⟩
def inv_area (n : Nat) (l : List (Rat × Rat)) : LI := fun _ => .inv ⟨Nat, fun i => ⟨[(0, sVv n l), (2, .x false [.p 2 0]), (3, .x false [.p 3 0]), (13, sVv n l), (14, iA .i64 l.length), (15, iA .i64 i)], [(2, .box 25 zeroR), (3, .box 25 [.r (areaS l i) (64 + (4 * n + 2) * i)])]⟩, fun i => i ≤ l.length, fun i => l.length - i, fun _ => 0⟩
structure BoxV where
  x1 : Rat
  y1 : Rat
  x2 : Rat
  y2 : Rat
def boxStep (b : BoxV) (v : Rat × Rat) : BoxV := ⟨minR b.x1 v.1, minR b.y1 v.2, maxR b.x2 v.1, maxR b.y2 v.2⟩
def boxAll (b : BoxV) (l : List (List (Rat × Rat))) : BoxV := l.foldl (fun b s => s.foldl boxStep b) b
def bxN (n : Nat) (b : BoxV) : List Ch := [.r b.x1 n, .r b.y1 n, .r b.x2 n, .r b.y2 n]
structure ArX where
  ps : List (List (Rat × Rat))
  b : BoxV
  i : Nat
  j : Nat
structure ArI (a : ArmV) (qs : List Rat) (x : ArX) : Prop where
  len : x.ps.length = a.links.length
  ps : ∃ fs f, fs ++ [f] = framesV (baseV a) a.links qs ∧ fs.length = a.links.length ∧ x.ps = placeV fs a.links
  sl : ∀ s ∈ x.ps, 3 ≤ s.length ∧ s.length ≤ 8
def startB (ps : List (List (Rat × Rat))) : BoxV := let p := (ps.getD 0 []).getD 0 (0, 0); ⟨p.1, p.2, p.1, p.2⟩
def inv_around (a : ArmV) (qs : List Rat) : LI := fun id => bif id.beq 6 then .inv ⟨ArX, fun x => ⟨[(4, .x false [.p 4 0]), (8, .x false [.p 8 0]), (34, .x false [.s 1 (shN 115300000 x.ps)]), (35, iA .i64 a.links.length), (36, iA .i64 x.i)],
    [(4, .box 62 (zeroR ++ zeroR ++ zeroR ++ zeroR)), (8, .box 62 (bxN 115300000 x.b))]⟩, fun x => ArI a qs x ∧ x.i ≤ a.links.length ∧ boxAll x.b (x.ps.drop x.i) = boxAll (startB x.ps) x.ps, fun x => a.links.length - x.i, fun _ => 0⟩
  else .inv ⟨ArX, fun x => ⟨[(4, .x false [.p 4 0]), (8, .x false [.p 8 0]), (34, .x false [.s 1 (shN 115300000 x.ps)]), (35, iA .i64 a.links.length), (36, iA .i64 x.i), (40, sVv 115300000 (x.ps.getD x.i [])), (41, iA .i64 (x.ps.getD x.i []).length), (42, iA .i64 x.j)],
    [(4, .box 62 (zeroR ++ zeroR ++ zeroR ++ zeroR)), (8, .box 62 (bxN 115300000 x.b))]⟩, fun x => (ArI a qs x ∧ x.i < a.links.length ∧ x.j ≤ (x.ps.getD x.i []).length) ∧ boxAll (((x.ps.getD x.i []).drop x.j).foldl boxStep x.b) (x.ps.drop (x.i + 1)) = boxAll (startB x.ps) x.ps, fun x => (x.ps.getD x.i []).length - x.j, fun x => a.links.length - x.i⟩
theorem part_len (f : FrV) (l : List (Rat × Rat)) (i : Nat) (h : i ≤ l.length) : (partV f l i).length = l.length := by
  simp [partV]; omega
theorem part_get (f : FrV) {l : List (Rat × Rat)} {x i : Nat} {p : Rat × Rat} (hx : x ≤ l.length) (h : l[i]? = some p) : (partV f l x)[i]? = some (if i < x then vecN 115300000 (plV f p) else zV) := by
  have hi := (List.getElem?_eq_some_iff.1 h).1
  unfold partV
  by_cases hk : i < x
  · rw [List.getElem?_append_left (by simp; omega), if_pos hk, List.getElem?_map, List.getElem?_take, if_pos hk, h]; rfl
  · rw [List.getElem?_append_right (by simp; omega), if_neg hk, List.getElem?_replicate, if_pos (by simp; omega)]
theorem part_set (f : FrV) {l : List (Rat × Rat)} {x n m : Nat} {p : Rat × Rat} (h : l[x]? = some p) (hn : n ≤ 115300000) (hm : m ≤ 115300000) : RowLE ((partV f l x).set x [.r (plV f p).1 n, .r (plV f p).2 m]) (partV f l (x + 1)) := by
  have hx := (List.getElem?_eq_some_iff.1 h).1
  refine ⟨by rw [List.length_set, part_len f l x (by omega), part_len f l (x + 1) (by omega)], fun i c d hc hd => ?_⟩
  have hil : i < l.length := by
    have := (List.getElem?_eq_some_iff.1 hd).1
    rw [part_len f l (x + 1) (by omega)] at this; exact this
  obtain ⟨q, hq⟩ : ∃ q, l[i]? = some q := ⟨_, List.getElem?_eq_getElem hil⟩
  rw [part_get f (by omega) hq] at hd
  by_cases e : i = x
  · subst e
    rw [h] at hq; cases hq
    rw [if_pos (by omega)] at hd
    cases hd
    rw [List.getElem?_set_self (by rw [part_len f l i (by omega)]; exact hil)] at hc
    cases hc
    exact ⟨.r hn (.r hm .nil), rfl⟩
  · rw [List.getElem?_set_ne (fun h => e h.symm), part_get f (by omega) hq] at hc
    by_cases k : i < x
    · rw [if_pos (by omega)] at hc hd
      cases hc; cases hd
      exact ⟨.r (Nat.le_refl _) (.r (Nat.le_refl _) .nil), rfl⟩
    · rw [if_neg (by omega)] at hc hd
      cases hc; cases hd
      exact ⟨.v (.v (.v (.v (.v (.v .nil))))), rfl⟩
theorem part_end (f : FrV) (l : List (Rat × Rat)) : partV f l l.length = (l.map (plV f)).map (vecN 115300000) := by
  unfold partV
  rw [List.take_length, Nat.sub_self, List.replicate_zero, List.append_nil, List.map_map]; rfl
theorem fr_ld2 {fs : List FrV} {i : Nat} {f : FrV} (z : List (List Ch)) (h : fs[i]? = some f) : ldE (fs.map frCh ++ z) i 0 10 = some [.r f.x 12800000, .r f.y 12800000, .v (.bool f.h), .r f.t 12800000] := by
  have hi := (List.getElem?_eq_some_iff.1 h).1
  simp only [ldE, List.getElem?_append_left (show i < (fs.map frCh).length by simpa using hi), List.getElem?_map, h]; rfl
theorem sh_ld {n : Nat} {ps : List (List (Rat × Rat))} {i : Nat} {s : List (Rat × Rat)} (h : ps[i]? = some s) : ldE (shN n ps) i 0 1 = some [.s 6 (s.map (vecN n))] := by
  simp only [ldE, shN, List.getElem?_map, h]; rfl
theorem place_len {fs : List FrV} {ls : List LinkV} (h : fs.length = ls.length) : (placeV fs ls).length = ls.length := by simp [placeV, h]
theorem place_get {fs : List FrV} {ls : List LinkV} {i : Nat} {f : FrV} {L : LinkV} (hf : fs[i]? = some f) (hL : ls[i]? = some L) : (placeV fs ls)[i]? = some (L.shape.map (plV f)) := by
  simp [placeV, List.getElem?_zipWith, hf, hL]
theorem place_mem {fs : List FrV} {ls : List LinkV} {s : List (Rat × Rat)} (h : s ∈ placeV fs ls) : ∃ f L, L ∈ ls ∧ s = L.shape.map (plV f) := by
  obtain ⟨i, hi⟩ := List.getElem?_of_mem h
  simp only [placeV, List.getElem?_zipWith] at hi
  cases hf : fs[i]? with
  | none => rw [hf] at hi; cases hi
  | some f =>
    cases hL : ls[i]? with
    | none => rw [hf, hL] at hi; cases hi
    | some L => rw [hf, hL] at hi; cases hi; exact ⟨f, L, List.mem_of_getElem? hL, rfl⟩
theorem gD_of {α : Type} {l : List α} {i : Nat} {d a : α} (h : l[i]? = some a) : l.getD i d = a := by
  rw [List.getD_eq_getElem?_getD, h]; rfl
def L120h : List (Nat × Ctr) := L117
def T120h : Tabs := mkT L120h M79 X4
theorem L120hok : CtrsOK Tryd.prog tabG debT L120h := L117ok
theorem T120hok : TabsOK Tryd.prog tabG debT T120h := mkTok L120hok M79ok X4ok
def ot_fList : OT := fun _ => ([], [])
def goal_fList (x : Rat) (i : Nat) (y : Rat) (j : Nat) (h : Bool) (t : Rat) (k : Nat) (n : Nat) (l : List (Rat × Rat)) (K : AV → Prop) : Prop := goalL T120h ot_fList (inv_list ⟨x, y, h, t⟩ i j k n l) Tryd.f77 [.x true [.r x i, .r y j, .v (.bool h), .r t k], sVv n l] K
theorem goal_fList_vc (x : Rat) (i : Nat) (y : Rat) (j : Nat) (h : Bool) (t : Rat) (k : Nat) (n : Nat) (l : List (Rat × Rat)) (K : AV → Prop) : goal_fList x i y j h t k n l K = (
 ((0 : Int) ≤ Int.ofNat (List.length (List.map (vecN n) l)) ∧
 Int.ofNat (List.length (List.map (vecN n) l)) ≤ Int.ofNat (List.length (List.map (vecN n) l)) ∧
 (80 : Int) * Int.ofNat (List.length (List.map (vecN n) l)) ≤ (281474976710656 : Int) ∧
 Int.ofNat (List.length (List.map (vecN n) l)) ≤ (9223372036854775807 : Int)) ∧
 (∃ (x_1 : Nat),
 (x_1 ≤ List.length l ∧ OfNat.ofNat (0 : Nat) = (0 : Nat)) ∧
 (0 : Nat) = (0 : Nat) ∧
 (0 : Nat) = (0 : Nat) ∧
 Int.toNat (Int.ofNat (List.length (List.map (vecN n) l))) = List.length l ∧
 (6 : Nat) = (6 : Nat) ∧
 List.map (vecN n) l = List.map (vecN n) l ∧
 Int.ofNat (List.length (List.map (vecN n) l)) = Int.ofNat (List.length l) ∧
 (0 : Int) = Int.ofNat x_1 ∧
 (31 : Nat) = (31 : Nat) ∧
 x = FrV.x (FrV.mk x y h t) ∧
 i ≤ i ∧
 y = FrV.y (FrV.mk x y h t) ∧
 j ≤ j ∧
 h = FrV.h (FrV.mk x y h t) ∧
 t = FrV.t (FrV.mk x y h t) ∧
 k ≤ k ∧
 (27 : Nat) = (27 : Nat) ∧
 (6 : Nat) = (6 : Nat) ∧
 (List.replicate (Int.toNat (Int.ofNat (List.length (List.map (vecN n) l))))
 [Ch.v (Value.bool false), Ch.v (Value.string (ByteArray.mk (Array.mk []))),
 Ch.v (Value.string (ByteArray.mk (Array.mk []))), Ch.v (Value.bool false),
 Ch.v (Value.string (ByteArray.mk (Array.mk []))),
 Ch.v (Value.string (ByteArray.mk (Array.mk [])))] =
 partV (FrV.mk x y h t) l x_1 ∨
 RowLE
 (List.replicate (Int.toNat (Int.ofNat (List.length (List.map (vecN n) l))))
 [Ch.v (Value.bool false), Ch.v (Value.string (ByteArray.mk (Array.mk []))),
 Ch.v (Value.string (ByteArray.mk (Array.mk []))), Ch.v (Value.bool false),
 Ch.v (Value.string (ByteArray.mk (Array.mk []))),
 Ch.v (Value.string (ByteArray.mk (Array.mk [])))])
 (partV (FrV.mk x y h t) l x_1)) ∧
 True) ∧
 ∀ (x_1 : Nat),
 x_1 ≤ List.length l →
 OfNat.ofNat (0 : Nat) = (0 : Nat) →
 bif decide (Int.ofNat x_1 < Int.ofNat (List.length l)) then
 ((0 : Int) ≤ Int.ofNat x_1 ∧ Int.ofNat x_1 < Int.ofNat (List.length (List.map (vecN n) l))) ∧
 ∃ (q : Rat),
 ∃ (n_1 : Nat),
 ∃ (q_1 : Rat),
 ∃ (n_2 : Nat),
 ldE (List.map (vecN n) l) (Int.toNat (Int.ofNat x_1)) (0 : Nat) (6 : Nat) = some [Ch.r q n_1, Ch.r q_1 n_2] ∧
 i + j + k + n_1 + n_2 ≤ (400000000 : Nat) ∧
 ∀ (n_3 m : Nat),
 n_3 ≤ i + n_1 + n_2 + (8 : Nat) * k + (1100 : Nat) →
 m ≤ j + n_1 + n_2 + (8 : Nat) * k + (1100 : Nat) →
 ((0 : Int) ≤ Int.ofNat x_1 ∧ Int.ofNat x_1 < Int.ofNat (List.length l)) ∧
 (0 : Nat) + Int.toNat (Int.ofNat x_1) < List.length (partV (FrV.mk x y h t) l x_1) ∧
 ∃ (x' : Nat),
 (x' ≤ List.length l ∧ OfNat.ofNat (0 : Nat) = (0 : Nat) ∧ List.length l - x' < List.length l - x_1) ∧
 (0 : Nat) = (0 : Nat) ∧
 (0 : Nat) = (0 : Nat) ∧
 List.length l = List.length l ∧
 (6 : Nat) = (6 : Nat) ∧
 List.map (vecN n) l = List.map (vecN n) l ∧
 Int.ofNat (List.length l) = Int.ofNat (List.length l) ∧
 IntKind.wrap IntKind.i64 (Int.ofNat x_1 + (1 : Int)) = Int.ofNat x' ∧
 (31 : Nat) = (31 : Nat) ∧
 FrV.x (FrV.mk x y h t) = FrV.x (FrV.mk x y h t) ∧
 i ≤ i ∧
 FrV.y (FrV.mk x y h t) = FrV.y (FrV.mk x y h t) ∧
 j ≤ j ∧
 FrV.h (FrV.mk x y h t) = FrV.h (FrV.mk x y h t) ∧
 FrV.t (FrV.mk x y h t) = FrV.t (FrV.mk x y h t) ∧
 k ≤ k ∧
 (27 : Nat) = (27 : Nat) ∧
 (6 : Nat) = (6 : Nat) ∧
 (List.set (partV (FrV.mk x y h t) l x_1)
 ((0 : Nat) + Int.toNat (Int.ofNat x_1))
 [Ch.r
 (putX
 (FrV.mk (FrV.x (FrV.mk x y h t))
 (FrV.y (FrV.mk x y h t)) (FrV.h (FrV.mk x y h t))
 (FrV.t (FrV.mk x y h t)))
 q q_1)
 n_3,
 Ch.r
 (putY
 (FrV.mk (FrV.x (FrV.mk x y h t))
 (FrV.y (FrV.mk x y h t)) (FrV.h (FrV.mk x y h t))
 (FrV.t (FrV.mk x y h t)))
 q q_1)
 m] =
 partV (FrV.mk x y h t) l x' ∨
 RowLE
 (List.set (partV (FrV.mk x y h t) l x_1)
 ((0 : Nat) + Int.toNat (Int.ofNat x_1))
 [Ch.r
 (putX
 (FrV.mk (FrV.x (FrV.mk x y h t))
 (FrV.y (FrV.mk x y h t)) (FrV.h (FrV.mk x y h t))
 (FrV.t (FrV.mk x y h t)))
 q q_1)
 n_3,
 Ch.r
 (putY
 (FrV.mk (FrV.x (FrV.mk x y h t))
 (FrV.y (FrV.mk x y h t)) (FrV.h (FrV.mk x y h t))
 (FrV.t (FrV.mk x y h t)))
 q q_1)
 m])
 (partV (FrV.mk x y h t) l x')) ∧
 True
 else K (AV.x false [Ch.s (6 : Nat) (List.take (List.length l) (List.drop (0 : Nat) (partV (FrV.mk x y h t) l x_1)))])) := by kernel_rfl
theorem g_fList (x : Rat) (i : Nat) (y : Rat) (j : Nat) (h : Bool) (t : Rat) (k : Nat) (n : Nat) (l : List (Rat × Rat)) (hc : (i ≤ 12800000 ∧ j ≤ 12800000 ∧ k ≤ 12800000) ∧ (n ≤ 63 ∧ 1 ≤ l.length ∧ l.length ≤ 100)) (K : AV → Prop) (hK : K (sVv 115300000 (l.map (plV ⟨x, y, h, t⟩)))) : Holds (goal_fList x i y j h t k n l K) := by
  refine ⟨?_⟩
  rw [goal_fList_vc]
  try simp only [Int.ofNat_eq_natCast, true_and, and_true, Nat.zero_add, Nat.le_refl, true_implies]
  obtain ⟨⟨hi, hj, hk⟩, hn, hl1, hl2⟩ := hc
  simp only [List.length_map, Int.toNat_natCast]
  refine ⟨by omega, ⟨0, by omega, trivial, trivial, rfl, .inl rfl⟩, fun w hw => bif_mk (fun hp => ?_) (fun hp => ?_)⟩
  · have hp : w < l.length := by have := of_decide_eq_true hp; omega
    obtain ⟨p, hpp⟩ : ∃ p, l[w]? = some p := ⟨_, List.getElem?_eq_getElem hp⟩
    exact ⟨by omega, _, _, _, _, vec_ld (by simpa using hpp), by omega, fun n3 m h3 hm => ⟨by omega, by rw [part_len _ _ _ hw]; omega, w + 1, ⟨by omega, by omega⟩, by rw [w64 (by omega)]; simp, .inr (part_set _ hpp (by omega) (by omega))⟩⟩
  · have hp : w = l.length := by have := of_decide_eq_false hp; omega
    subst hp
    rw [part_end, List.drop_zero, List.take_of_length_le (by simp)]
    exact hK
def c_fList : Ctr := fun as0 => match as0 with
  | [.x true [.r x i, .r y j, .v (.bool h), .r t k], .x false [.s 6 xs]] => some fun K => ∃ (n : Nat) (l : List (Rat × Rat)), xs = l.map (vecN n) ∧ ((i ≤ 12800000 ∧ j ≤ 12800000 ∧ k ≤ 12800000) ∧ (n ≤ 63 ∧ 1 ≤ l.length ∧ l.length ≤ 100)) ∧ (K (sVv 115300000 (l.map (plV ⟨x, y, h, t⟩))))
  | _ => none
theorem ok_fList : CtrOK Tryd.prog tabG debT 77 c_fList := by
  refine ⟨enters Tryd.func77 (by kernel_rfl), fun l T hT K hK => ?_⟩
  unfold c_fList at hT
  split at hT
  · cases hT
    obtain ⟨n, l, rfl, hc, hK⟩ := hK
    exact spec_ofL T120hok mixed Tryd.func77 (by kernel_rfl) (by kernel_rfl) (by rfl) (g_fList _ _ _ _ _ _ _ _ _ hc K hK)
  · cases hT
def L121 : List (Nat × Ctr) := (77, c_fList) :: L120h
def T121 : Tabs := mkT L121 M79 X4
theorem L121ok : CtrsOK Tryd.prog tabG debT L121 := .cons ok_fList L120hok
theorem T121ok : TabsOK Tryd.prog tabG debT T121 := mkTok L121ok M79ok X4ok
def ot_hPlace : OT := fun id => bif id.beq 8 then ([0, 1, 2, 3, 4, 5, 6, 7, 8, 9, 10], [[], [], [], [1, 2], [3, 1, 2], [], [5], [4, 3, 1, 2, 6, 5], [7, 4, 3, 1, 2, 6, 5], [0, 8, 7, 4, 3, 1, 2, 6, 5], [9, 0, 8, 7, 4, 3, 1, 2, 6, 5]]) else ([], [])
def goal_hPlace (a : ArmV) (b : Nat) (qs : List Rat) (K : AV → Prop) : Prop := goalL T121 ot_hPlace (inv_place a qs) Tryd.f37 [armA a, sR b qs] K
theorem goal_hPlace_vc (a : ArmV) (b : Nat) (qs : List Rat) (K : AV → Prop) : goal_hPlace a b qs K = (
 ∃ (a_1 : ArmV),
 ∃ (b_1 : Nat),
 ∃ (qs_1 : List Rat),
 [Ch.v (Value.string (ArmV.name a)), Ch.r (ArmV.x a) (63 : Nat), Ch.r (ArmV.y a) (63 : Nat), Ch.v (Value.bool (ArmV.half a)),
 Ch.r (ArmV.t a) (63 : Nat), Ch.s (16 : Nat) (List.map linkCh (ArmV.links a))] =
 [Ch.v (Value.string (ArmV.name a_1)), Ch.r (ArmV.x a_1) (63 : Nat), Ch.r (ArmV.y a_1) (63 : Nat),
 Ch.v (Value.bool (ArmV.half a_1)), Ch.r (ArmV.t a_1) (63 : Nat), Ch.s (16 : Nat) (List.map linkCh (ArmV.links a_1))] ∧
 lR b qs = lR b_1 qs_1 ∧
 (GoodArm a_1 ∧ b_1 ≤ (400 : Nat) ∧ List.length qs_1 = List.length (ArmV.links a_1)) ∧
 ∀ (fs : List FrV) (f : FrV),
 fs ++ [f] = framesV (baseV a_1) (ArmV.links a_1) qs_1 →
 List.length fs = List.length (ArmV.links a_1) →
 (∃ (x : TqX),
 (TqI a qs x ∧ OfNat.ofNat (0 : Nat) = (0 : Nat)) ∧
 (0 : Nat) = (0 : Nat) ∧
 (10 : Nat) = (10 : Nat) ∧
 List.map frCh fs ++
 [[Ch.r (FrV.x f) (bnd (List.length (ArmV.links a_1))),
 Ch.r (FrV.y f) (bnd (List.length (ArmV.links a_1))), Ch.v (Value.bool (FrV.h f)),
 Ch.r (FrV.t f) (bnd (List.length (ArmV.links a_1)))]] =
 List.map frCh (TqX.fs x) ++
 [[Ch.r (FrV.x (TqX.f x)) (bnd (List.length (ArmV.links a))),
 Ch.r (FrV.y (TqX.f x)) (bnd (List.length (ArmV.links a))), Ch.v (Value.bool (FrV.h (TqX.f x))),
 Ch.r (FrV.t (TqX.f x)) (bnd (List.length (ArmV.links a)))]] ∧
 Value.slice none (0 : Nat) (0 : Nat) = Value.slice none (0 : Nat) (0 : Nat) ∧
 (0 : Nat) = (0 : Nat) ∧
 TqX.i x = (0 : Nat) ∧
 (16 : Nat) = (16 : Nat) ∧
 List.map linkCh (ArmV.links a) = List.map linkCh (ArmV.links a) ∧
 Int.ofNat (List.length (List.map linkCh (ArmV.links a))) = Int.ofNat (List.length (ArmV.links a)) ∧
 (0 : Int) = Int.ofNat (TqX.i x) ∧
 (34 : Nat) = (34 : Nat) ∧
 ArmV.name a = ArmV.name a ∧
 ArmV.x a = ArmV.x a ∧
 (63 : Nat) ≤ (63 : Nat) ∧
 ArmV.y a = ArmV.y a ∧
 (63 : Nat) ≤ (63 : Nat) ∧
 ArmV.half a = ArmV.half a ∧
 ArmV.t a = ArmV.t a ∧
 (63 : Nat) ≤ (63 : Nat) ∧
 (16 : Nat) = (16 : Nat) ∧
 List.map linkCh (ArmV.links a) = List.map linkCh (ArmV.links a) ∧
 shN (115300000 : Nat)
 (List.take (TqX.i x) (placeV (TqX.fs x) (ArmV.links a))) =
 [] ∧
 True) ∧
 ∀ (x : TqX),
 TqI a qs x →
 OfNat.ofNat (0 : Nat) = (0 : Nat) →
 bif decide (Int.ofNat (TqX.i x) < Int.ofNat (List.length (ArmV.links a))) then
 ((0 : Int) ≤ Int.ofNat (TqX.i x) ∧
 Int.ofNat (TqX.i x) < Int.ofNat (List.length (List.map linkCh (ArmV.links a)))) ∧
 ∃ (q : Rat),
 ∃ (n : Nat),
 ∃ (q_1 : Rat),
 ∃ (n_1 : Nat),
 ∃ (q_2 : Rat),
 ∃ (n_2 : Nat),
 ∃ (q_3 : Rat),
 ∃ (n_3 : Nat),
 ∃ (q_4 : Rat),
 ∃ (n_4 : Nat),
 ∃ (ys : List (List Ch)),
 ldE (List.map linkCh (ArmV.links a)) (Int.toNat (Int.ofNat (TqX.i x))) (0 : Nat)
 (16 : Nat) =
 some
 [Ch.r q n, Ch.r q_1 n_1, Ch.r q_2 n_2, Ch.r q_3 n_3, Ch.r q_4 n_4,
 Ch.s (6 : Nat) ys] ∧
 ((0 : Int) ≤ Int.ofNat (TqX.i x) ∧
 Int.ofNat (TqX.i x) <
 Int.ofNat
 (List.length
 (List.map frCh (TqX.fs x) ++
 [[Ch.r (FrV.x (TqX.f x)) (bnd (List.length (ArmV.links a))),
 Ch.r (FrV.y (TqX.f x)) (bnd (List.length (ArmV.links a))),
 Ch.v (Value.bool (FrV.h (TqX.f x))),
 Ch.r (FrV.t (TqX.f x)) (bnd (List.length (ArmV.links a)))]]))) ∧
 ∃ (q : Rat),
 ∃ (n : Nat),
 ∃ (q_5 : Rat),
 ∃ (n_5 : Nat),
 ∃ (b : Bool),
 ∃ (q_6 : Rat),
 ∃ (n_6 : Nat),
 ldE
 (List.map frCh (TqX.fs x) ++
 [[Ch.r (FrV.x (TqX.f x)) (bnd (List.length (ArmV.links a))),
 Ch.r (FrV.y (TqX.f x)) (bnd (List.length (ArmV.links a))),
 Ch.v (Value.bool (FrV.h (TqX.f x))),
 Ch.r (FrV.t (TqX.f x))
 (bnd (List.length (ArmV.links a)))]])
 (Int.toNat (Int.ofNat (TqX.i x))) (0 : Nat) (10 : Nat) =
 some [Ch.r q n, Ch.r q_5 n_5, Ch.v (Value.bool b), Ch.r q_6 n_6] ∧
 ∃ (n_7 : Nat),
 ∃ (l : List (Rat × Rat)),
 ys = List.map (vecN n_7) l ∧
 ((n ≤ (12800000 : Nat) ∧
 n_5 ≤ (12800000 : Nat) ∧ n_6 ≤ (12800000 : Nat)) ∧
 n_7 ≤ (63 : Nat) ∧
 (1 : Nat) ≤ List.length l ∧
 List.length l ≤ (100 : Nat)) ∧
 ((TqX.i x + (1 : Nat)) * (24 : Nat) ≤
 (140737488355328 : Nat) ∧
 TqX.i x + (1 : Nat) ≤ (9223372036854775807 : Nat)) ∧
 ∃ (x' : TqX),
 (TqI a qs x' ∧
 OfNat.ofNat (0 : Nat) = (0 : Nat) ∧
 List.length (ArmV.links a) - TqX.i x' <
 List.length (ArmV.links a) - TqX.i x) ∧
 (0 : Nat) = (0 : Nat) ∧
 (10 : Nat) = (10 : Nat) ∧
 List.map frCh (TqX.fs x) ++
 [[Ch.r (FrV.x (TqX.f x))
 (bnd (List.length (ArmV.links a))),
 Ch.r (FrV.y (TqX.f x))
 (bnd (List.length (ArmV.links a))),
 Ch.v (Value.bool (FrV.h (TqX.f x))),
 Ch.r (FrV.t (TqX.f x))
 (bnd (List.length (ArmV.links a)))]] =
 List.map frCh (TqX.fs x') ++
 [[Ch.r (FrV.x (TqX.f x'))
 (bnd (List.length (ArmV.links a))),
 Ch.r (FrV.y (TqX.f x'))
 (bnd (List.length (ArmV.links a))),
 Ch.v (Value.bool (FrV.h (TqX.f x'))),
 Ch.r (FrV.t (TqX.f x'))
 (bnd (List.length (ArmV.links a)))]] ∧
 (0 : Nat) = (0 : Nat) ∧
 TqX.i x + (1 : Nat) = TqX.i x' ∧
 (16 : Nat) = (16 : Nat) ∧
 List.map linkCh (ArmV.links a) =
 List.map linkCh (ArmV.links a) ∧
 Int.ofNat (List.length (ArmV.links a)) =
 Int.ofNat
 (List.length (ArmV.links a)) ∧
 IntKind.wrap IntKind.i64
 (Int.ofNat (TqX.i x) +
 (1 : Int)) =
 Int.ofNat (TqX.i x') ∧
 (34 : Nat) = (34 : Nat) ∧
 ArmV.name a = ArmV.name a ∧
 ArmV.x a = ArmV.x a ∧
 (63 : Nat) ≤ (63 : Nat) ∧
 ArmV.y a = ArmV.y a ∧
 (63 : Nat) ≤ (63 : Nat) ∧
 ArmV.half a =
 ArmV.half a ∧
 ArmV.t a = ArmV.t a ∧
 (63 : Nat) ≤
 (63 : Nat) ∧
 (16 : Nat) =
 (16 : Nat) ∧
 List.map linkCh
 (ArmV.links
 a) =
 List.map
 linkCh
 (ArmV.links
 a) ∧
 (69 : Nat) =
 (69 :
 Nat) ∧
 (1 : Nat) =
 (1 :
 Nat) ∧
 (List.take
 (TqX.i
 x)
 (shN
 (115300000 :
 Nat)
 (List.take
 (TqX.i
 x)
 (placeV
 (TqX.fs
 x)
 (ArmV.links
 a)))) ++
 [[Ch.s
 (6 :
 Nat)
 (List.map
 (vecN
 (115300000 :
 Nat))
 (List.map
 (plV
 (FrV.mk
 q
 q_5
 b
 q_6))
 l))]] =
 shN
 (115300000 :
 Nat)
 (List.take
 (TqX.i
 x')
 (placeV
 (TqX.fs
 x')
 (ArmV.links
 a))) ∨
 RowLE
 (List.take
 (TqX.i
 x)
 (shN
 (115300000 :
 Nat)
 (List.take
 (TqX.i
 x)
 (placeV
 (TqX.fs
 x)
 (ArmV.links
 a)))) ++
 [[Ch.s
 (6 :
 Nat)
 (List.map
 (vecN
 (115300000 :
 Nat))
 (List.map
 (plV
 (FrV.mk
 q
 q_5
 b
 q_6))
 l))]])
 (shN
 (115300000 :
 Nat)
 (List.take
 (TqX.i
 x')
 (placeV
 (TqX.fs
 x')
 (ArmV.links
 a))))) ∧
 True
 else
 K
 (AV.t
 [(false,
 [Ch.s (1 : Nat)
 (List.take (TqX.i x)
 (List.drop (0 : Nat)
 (shN (115300000 : Nat) (List.take (TqX.i x) (placeV (TqX.fs x) (ArmV.links a))))))]),
 (false, [Ch.v (Value.int IntKind.i64 (0 : Int))])])) := by kernel_rfl
theorem g_hPlace (a : ArmV) (b : Nat) (qs : List Rat) (hc : (GoodArm a) ∧ (b ≤ 400 ∧ qs.length = a.links.length)) (K : AV → Prop) (hK : ∀ (fs : List FrV) (f : FrV), fs ++ [f] = framesV (baseV a) a.links qs → fs.length = a.links.length → K (.t [(false, [.s 1 (shN 115300000 (placeV fs a.links))]), (false, [.v (.int .i64 0)])])) : Holds (goal_hPlace a b qs K) := by
  refine ⟨?_⟩
  rw [goal_hPlace_vc]
  try simp only [Int.ofNat_eq_natCast, true_and, and_true, Nat.le_refl, true_implies]
  obtain ⟨hg, hb, hq⟩ := hc
  have hn := hg.n
  refine ⟨a, b, qs, rfl, rfl, ⟨hg, hb, hq⟩, fun fs f hf hl => ?_⟩
  simp only [List.length_map]
  refine ⟨⟨⟨fs, f, 0⟩, ⟨hf, hl, by simp⟩, rfl, rfl, trivial, rfl, rfl⟩, fun x hx => bif_mk (fun hp => ?_) (fun hp => ?_)⟩
  · have hp : x.i < a.links.length := by have := of_decide_eq_true hp; omega
    have hxl := hx.len
    obtain ⟨L, hL⟩ : ∃ L, a.links[x.i]? = some L := ⟨_, List.getElem?_eq_getElem hp⟩
    obtain ⟨g, hgx⟩ : ∃ g, x.fs[x.i]? = some g := ⟨_, List.getElem?_eq_getElem (by omega)⟩
    have hpo := (hg.links L (List.mem_of_getElem? hL)).poly
    have h1 := hpo.lo
    have h2 := hpo.hi
    have ht := place_get hgx hL
    have hpl := place_len hxl
    refine ⟨by omega, _, _, _, _, _, _, _, _, _, _, _, link_ld (by simpa using hL), by simp; omega, _, _, _, _, _, _, _, fr_ld2 _ (by simpa using hgx), 63, L.shape, rfl, ⟨by omega, by omega, by omega, by omega⟩, by omega, ⟨x.fs, x.f, x.i + 1⟩, ⟨⟨hx.eq, hxl, hp⟩, by simp only; omega⟩, rfl, rfl, by rw [w64 (by omega)]; simp, .inl ?_⟩
    rw [List.take_of_length_le (by simp [shN]; omega), List.take_add_one, ht]
    unfold shN
    rw [List.map_append]
    rfl
  · have hp : x.i = a.links.length := by have := of_decide_eq_false hp; have := hx.le; omega
    have hpl := place_len hx.len
    have := hK x.fs x.f hx.eq hx.len
    rw [List.drop_zero, List.take_of_length_le (by simp [shN]; omega), List.take_of_length_le (by omega)]
    exact this
def c_hPlace : Ctr := fun as0 => match as0 with
  | [.x true xs, .x false [.s 3 ys]] => some fun K => ∃ (a : ArmV) (b : Nat) (qs : List Rat), xs = armCh a ∧ ys = lR b qs ∧ ((GoodArm a) ∧ (b ≤ 400 ∧ qs.length = a.links.length)) ∧ (∀ (fs : List FrV) (f : FrV), fs ++ [f] = framesV (baseV a) a.links qs → fs.length = a.links.length → K (.t [(false, [.s 1 (shN 115300000 (placeV fs a.links))]), (false, [.v (.int .i64 0)])]))
  | _ => none
theorem ok_hPlace : CtrOK Tryd.prog tabG debT 37 c_hPlace := by
  refine ⟨enters Tryd.func37 (by kernel_rfl), fun l T hT K hK => ?_⟩
  unfold c_hPlace at hT
  split at hT
  · cases hT
    obtain ⟨a, b, qs, rfl, rfl, hc, hK⟩ := hK
    exact spec_ofL T121ok mixed Tryd.func37 (by kernel_rfl) (by kernel_rfl) (by rfl) (g_hPlace _ _ _ hc K hK)
  · cases hT
def L122 : List (Nat × Ctr) := (37, c_hPlace) :: L121
def T122 : Tabs := mkT L122 M79 X4
theorem L122ok : CtrsOK Tryd.prog tabG debT L122 := .cons ok_hPlace L121ok
theorem T122ok : TabsOK Tryd.prog tabG debT T122 := mkTok L122ok M79ok X4ok
def ot_pConvex : OT := fun _ => ([], [])
def goal_pConvex (n : Nat) (l : List (Rat × Rat)) (K : AV → Prop) : Prop := goalL T122 ot_pConvex noL Tryd.f79 [sVv n l] K
theorem goal_pConvex_vc (n : Nat) (l : List (Rat × Rat)) (K : AV → Prop) : goal_pConvex n l K = (
 ∃ (n_1 : Nat),
 ∃ (l_1 : List (Rat × Rat)),
 List.map (vecN n) l = List.map (vecN n_1) l_1 ∧
 (n_1 ≤ (500000000 : Nat) ∧ PolyOK l_1 ∧ (8 : Int) ≤ (64 : Int)) ∧ K (AV.x false [Ch.v (Value.int IntKind.i64 (0 : Int))])) := by kernel_rfl
theorem g_pConvex (n : Nat) (l : List (Rat × Rat)) (hc : (n ≤ 500000000) ∧ (PolyOK l)) (K : AV → Prop) (hK : K (iA .i64 0)) : Holds (goal_pConvex n l K) := by
  refine ⟨?_⟩
  rw [goal_pConvex_vc]
  try simp only [Int.ofNat_eq_natCast, true_and, and_true, Nat.zero_add, Nat.le_refl, true_implies, true_or, or_true]
  exact ⟨n, l, rfl, ⟨hc.1, hc.2, by omega⟩, hK⟩
def c_pConvex : Ctr := fun as0 => match as0 with
  | [.x false [.s 6 xs]] => some fun K => ∃ (n : Nat) (l : List (Rat × Rat)), xs = l.map (vecN n) ∧ ((n ≤ 500000000) ∧ (PolyOK l)) ∧ (K (iA .i64 0))
  | _ => none
theorem ok_pConvex : CtrOK Tryd.prog tabG debT 79 c_pConvex := by
  refine ⟨enters Tryd.func79 (by kernel_rfl), fun l T hT K hK => ?_⟩
  unfold c_pConvex at hT
  split at hT
  · cases hT
    obtain ⟨n, l, rfl, hc, hK⟩ := hK
    exact spec_ofL T122ok mixed Tryd.func79 (by kernel_rfl) (by kernel_rfl) (by rfl) (g_pConvex _ _ hc K hK)
  · cases hT
def L123 : List (Nat × Ctr) := (79, c_pConvex) :: L122
def T123 : Tabs := mkT L123 M79 X4
theorem L123ok : CtrsOK Tryd.prog tabG debT L123 := .cons ok_pConvex L122ok
theorem T123ok : TabsOK Tryd.prog tabG debT T123 := mkTok L123ok M79ok X4ok
def ot_rMakeH : OT := fun _ => ([], [])
def goal_rMakeH (n : Int) (d : Int) (K : AV → Prop) : Prop := goalL T123 ot_rMakeH noL Tryd.f80 [iA .i64 n, iA .i64 d] K
theorem goal_rMakeH_vc (n : Int) (d : Int) (K : AV → Prop) : goal_rMakeH n d K = (
 ((-9223372036854775808 : Int) ≤ n ∧ n < (9223372036854775808 : Int)) ∧
 ((-9223372036854775808 : Int) ≤ d ∧ d < (9223372036854775808 : Int)) ∧
 (128 : Nat) ≤ (4294967296 : Nat) ∧
 ((((d) : Int) : Rat) ≠ (OfNat.ofNat (0 : Nat) : Rat) → K (AV.t [(true, [Ch.r ((((n) : Int) : Rat) / (((d) : Int) : Rat)) (128 : Nat)]), (false, [Ch.v (Value.int IntKind.i64 (0 : Int))])])) ∧
 ((((d) : Int) : Rat) = (OfNat.ofNat (0 : Nat) : Rat) →
 K
 (AV.t
 [(true,
 [Ch.v (Value.bool false), Ch.v (Value.string (ByteArray.mk (Array.mk []))),
 Ch.v (Value.string (ByteArray.mk (Array.mk [])))]),
 (false, [Ch.v (Value.int IntKind.i64 (12 : Int))])]))) := by kernel_rfl
theorem g_rMakeH (n : Int) (d : Int) (hc : (-9223372036854775808 ≤ n ∧ n < 9223372036854775808) ∧ (0 < d ∧ d < 9223372036854775808)) (K : AV → Prop) (hK : K (.t [(true, [.r ((n : Rat) / (d : Rat)) 128]), (false, [.v (.int .i64 0)])])) : Holds (goal_rMakeH n d K) := by
  refine ⟨?_⟩
  rw [goal_rMakeH_vc]
  try simp only [Int.ofNat_eq_natCast, true_and, and_true, Nat.zero_add, Nat.le_refl, true_implies, true_or, or_true]
  exact ⟨by omega, by omega, by omega, fun _ => hK, fun h => absurd (Rat.intCast_eq_zero_iff.1 h) (by omega)⟩
def c_rMakeH : Ctr := fun as0 => match as0 with
  | [.x false [.v (.int .i64 n)], .x false [.v (.int .i64 d)]] => some fun K => ((-9223372036854775808 ≤ n ∧ n < 9223372036854775808) ∧ (0 < d ∧ d < 9223372036854775808)) ∧ (K (.t [(true, [.r ((n : Rat) / (d : Rat)) 128]), (false, [.v (.int .i64 0)])]))
  | _ => none
theorem ok_rMakeH : CtrOK Tryd.prog tabG debT 80 c_rMakeH := by
  refine ⟨enters Tryd.func80 (by kernel_rfl), fun l T hT K hK => ?_⟩
  unfold c_rMakeH at hT
  split at hT
  · cases hT
    obtain ⟨hc, hK⟩ := hK
    exact spec_ofL T123ok mixed Tryd.func80 (by kernel_rfl) (by kernel_rfl) (by rfl) (g_rMakeH _ _ hc K hK)
  · cases hT
def L124 : List (Nat × Ctr) := (80, c_rMakeH) :: L123
def T124 : Tabs := mkT L124 M79 X4
theorem L124ok : CtrsOK Tryd.prog tabG debT L124 := .cons ok_rMakeH L123ok
theorem T124ok : TabsOK Tryd.prog tabG debT T124 := mkTok L124ok M79ok X4ok
def ot_pArea : OT := fun id => bif id.beq 7 then ([0, 1, 2, 3, 4, 5, 6, 7, 8, 9, 10, 11, 12], [[], [], [], [], [3], [], [5], [4, 3, 6, 5], [2, 7, 4, 3, 6, 5], [8, 2, 7, 4, 3, 6, 5], [1, 9, 8, 2, 7, 4, 3, 6, 5], [0, 10, 1, 9, 8, 2, 7, 4, 3, 6, 5], [11, 0, 10, 1, 9, 8, 2, 7, 4, 3, 6, 5]]) else ([], [])
def goal_pArea (n : Nat) (l : List (Rat × Rat)) (K : AV → Prop) : Prop := goalL T124 ot_pArea (inv_area n l) Tryd.f39 [sVv n l] K
theorem goal_pArea_vc (n : Nat) (l : List (Rat × Rat)) (K : AV → Prop) : goal_pArea n l K = (
 ((-9223372036854775808 : Int) ≤ (0 : Int) ∧ (0 : Int) < (9223372036854775808 : Int)) ∧
 ∃ (n_1 : Nat),
 ∃ (l_1 : List (Rat × Rat)),
 List.map (vecN n) l = List.map (vecN n_1) l_1 ∧
 (n_1 ≤ (500000000 : Nat) ∧ PolyOK l_1) ∧
 (∃ (x : Nat),
 (x ≤ List.length l ∧ OfNat.ofNat (0 : Nat) = (0 : Nat)) ∧
 (6 : Nat) = (6 : Nat) ∧
 List.map (vecN n) l = List.map (vecN n) l ∧
 (0 : Nat) = (0 : Nat) ∧
 (0 : Nat) = (0 : Nat) ∧
 (6 : Nat) = (6 : Nat) ∧
 List.map (vecN n) l = List.map (vecN n) l ∧
 Int.ofNat (List.length (List.map (vecN n) l)) = Int.ofNat (List.length l) ∧
 (0 : Int) = Int.ofNat x ∧
 (25 : Nat) = (25 : Nat) ∧
 false = false ∧
 ByteArray.mk (Array.mk []) = ByteArray.mk (Array.mk []) ∧
 ByteArray.mk (Array.mk []) = ByteArray.mk (Array.mk []) ∧
 (25 : Nat) = (25 : Nat) ∧
 (((0 : Int) : Int) : Rat) = areaS l x ∧ (64 : Nat) ≤ (64 : Nat) + ((4 : Nat) * n + (2 : Nat)) * x ∧ True) ∧
 ∀ (x : Nat),
 x ≤ List.length l →
 OfNat.ofNat (0 : Nat) = (0 : Nat) →
 bif decide (Int.ofNat x < Int.ofNat (List.length l)) then
 ((0 : Int) ≤ Int.ofNat x ∧ Int.ofNat x < Int.ofNat (List.length (List.map (vecN n) l))) ∧
 ∃ (q : Rat),
 ∃ (n_2 : Nat),
 ∃ (q_1 : Rat),
 ∃ (n_3 : Nat),
 ldE (List.map (vecN n) l) (Int.toNat (Int.ofNat x)) (0 : Nat) (6 : Nat) = some [Ch.r q n_2, Ch.r q_1 n_3] ∧
 Int.ofNat (List.length (List.map (vecN n) l)) ≠ (0 : Int) ∧
 ((0 : Int) ≤
 Int.tmod (IntKind.wrap IntKind.i64 (Int.ofNat x + (1 : Int)))
 (Int.ofNat (List.length (List.map (vecN n) l))) ∧
 Int.tmod (IntKind.wrap IntKind.i64 (Int.ofNat x + (1 : Int)))
 (Int.ofNat (List.length (List.map (vecN n) l))) <
 Int.ofNat (List.length (List.map (vecN n) l))) ∧
 ∃ (q_2 : Rat),
 ∃ (n_4 : Nat),
 ∃ (q_3 : Rat),
 ∃ (n_5 : Nat),
 ldE (List.map (vecN n) l)
 (Int.toNat
 (Int.tmod (IntKind.wrap IntKind.i64 (Int.ofNat x + (1 : Int)))
 (Int.ofNat (List.length (List.map (vecN n) l)))))
 (0 : Nat) (6 : Nat) =
 some [Ch.r q_2 n_4, Ch.r q_3 n_5] ∧
 n_2 + n_3 + n_4 + n_5 ≤ (4294967290 : Nat) ∧
 (64 : Nat) + ((4 : Nat) * n + (2 : Nat)) * x + (n_2 + n_5 + (n_3 + n_4) + (1 : Nat)) +
 (1 : Nat) ≤
 (4294967296 : Nat) ∧
 ∃ (x' : Nat),
 (x' ≤ List.length l ∧
 OfNat.ofNat (0 : Nat) = (0 : Nat) ∧ List.length l - x' < List.length l - x) ∧
 (6 : Nat) = (6 : Nat) ∧
 List.map (vecN n) l = List.map (vecN n) l ∧
 (0 : Nat) = (0 : Nat) ∧
 (0 : Nat) = (0 : Nat) ∧
 (6 : Nat) = (6 : Nat) ∧
 List.map (vecN n) l = List.map (vecN n) l ∧
 Int.ofNat (List.length l) = Int.ofNat (List.length l) ∧
 IntKind.wrap IntKind.i64 (Int.ofNat x + (1 : Int)) = Int.ofNat x' ∧
 (25 : Nat) = (25 : Nat) ∧
 false = false ∧
 ByteArray.mk (Array.mk []) = ByteArray.mk (Array.mk []) ∧
 ByteArray.mk (Array.mk []) = ByteArray.mk (Array.mk []) ∧
 (25 : Nat) = (25 : Nat) ∧
 areaS l x + (q * q_3 - q_1 * q_2) = areaS l x' ∧
 (64 : Nat) + ((4 : Nat) * n + (2 : Nat)) * x +
 (n_2 + n_5 + (n_3 + n_4) + (1 : Nat)) +
 (1 : Nat) ≤
 (64 : Nat) + ((4 : Nat) * n + (2 : Nat)) * x' ∧
 True
 else
 (((-9223372036854775808 : Int) ≤ (1 : Int) ∧ (1 : Int) < (9223372036854775808 : Int)) ∧
 (0 : Int) < (2 : Int) ∧ (2 : Int) < (9223372036854775808 : Int)) ∧
 (128 : Nat) + ((64 : Nat) + ((4 : Nat) * n + (2 : Nat)) * x) ≤ (4294967296 : Nat) ∧
 K
 (AV.x true
 [Ch.r ((((1 : Int) : Int) : Rat) / (((2 : Int) : Int) : Rat) * areaS l x) ((128 : Nat) + ((64 : Nat) + ((4 : Nat) * n + (2 : Nat)) * x))])) := by kernel_rfl
theorem g_pArea (n : Nat) (l : List (Rat × Rat)) (hc : (n ≤ 120000000) ∧ (PolyOK l)) (K : AV → Prop) (hK : ∀ m, m ≤ 64 + (4 * n + 2) * 8 + 128 → K (rA (((1 : Int) : Rat) / ((2 : Int) : Rat) * areaS l l.length) m)) : Holds (goal_pArea n l K) := by
  refine ⟨?_⟩
  rw [goal_pArea_vc]
  try simp only [Int.ofNat_eq_natCast, true_and, and_true, true_implies]
  obtain ⟨hn, hp0⟩ := hc
  have l1 := hp0.lo
  have l2 := hp0.hi
  simp only [List.length_map]
  refine ⟨by omega, n, l, rfl, ⟨by omega, hp0⟩, ⟨0, by omega, trivial, rfl, rfl, by simp⟩, fun x hx => bif_mk (fun hp => ?_) (fun hp => ?_)⟩
  · have hp : x < l.length := by have := of_decide_eq_true hp; omega
    obtain ⟨a, ha⟩ : ∃ a, l[x]? = some a := ⟨_, List.getElem?_eq_getElem hp⟩
    have e1 : (IntKind.i64.wrap ((x : Int) + 1)).tmod (l.length : Int) = (((x + 1) % l.length : Nat) : Int) := by
      rw [w64 (by omega), tm (by omega)]; simp
    have m1 := Nat.mod_lt (x + 1) (by omega : 0 < l.length)
    obtain ⟨b, hb⟩ : ∃ b, l[(x + 1) % l.length]? = some b := ⟨_, List.getElem?_eq_getElem m1⟩
    have hm : (4 * n + 2) * x ≤ (4 * n + 2) * 7 := Nat.mul_le_mul_left _ (by omega)
    have hs : (4 * n + 2) * (x + 1) = (4 * n + 2) * x + (4 * n + 2) := Nat.mul_succ _ _
    rw [e1, Int.toNat_natCast]
    refine ⟨by omega, _, _, _, _, vec_ld (by simpa using ha), by omega, by omega, _, _, _, _, vec_ld hb, by omega, by omega, x + 1, ⟨by omega, by omega⟩, by rw [w64 (by omega)]; simp, ?_, by rw [hs]; omega⟩
    show _ = areaS l x + crs (l.getD x (0, 0)) (l.getD ((x + 1) % l.length) (0, 0))
    rw [gD_of ha, gD_of hb]; rfl
  · have hp : x = l.length := by have := of_decide_eq_false hp; omega
    have hm : (4 * n + 2) * x ≤ (4 * n + 2) * 8 := Nat.mul_le_mul_left _ (by omega)
    have := hK (128 + (64 + (4 * n + 2) * x)) (by omega)
    rw [← hp] at this
    exact ⟨by omega, by omega, this⟩
def c_pArea : Ctr := fun as0 => match as0 with
  | [.x false [.s 6 xs]] => some fun K => ∃ (n : Nat) (l : List (Rat × Rat)), xs = l.map (vecN n) ∧ ((n ≤ 120000000) ∧ (PolyOK l)) ∧ (∀ m, m ≤ 64 + (4 * n + 2) * 8 + 128 → K (rA (((1 : Int) : Rat) / ((2 : Int) : Rat) * areaS l l.length) m))
  | _ => none
theorem ok_pArea : CtrOK Tryd.prog tabG debT 39 c_pArea := by
  refine ⟨enters Tryd.func39 (by kernel_rfl), fun l T hT K hK => ?_⟩
  unfold c_pArea at hT
  split at hT
  · cases hT
    obtain ⟨n, l, rfl, hc, hK⟩ := hK
    exact spec_ofL T124ok mixed Tryd.func39 (by kernel_rfl) (by kernel_rfl) (by rfl) (g_pArea _ _ hc K hK)
  · cases hT
def L125 : List (Nat × Ctr) := (39, c_pArea) :: L124
def T125 : Tabs := mkT L125 M79 X4
theorem L125ok : CtrsOK Tryd.prog tabG debT L125 := .cons ok_pArea L124ok
theorem T125ok : TabsOK Tryd.prog tabG debT T125 := mkTok L125ok M79ok X4ok
def ot_hAround : OT := fun id => bif id.beq 4 then ([0, 1, 2, 3, 4, 5, 6, 7, 8, 9, 11, 10, 12], [[], [0], [1, 0], [2, 1, 0], [3, 2, 1, 0], [], [5], [6, 5], [7, 6, 5], [8, 7, 6, 5], [4, 3, 2, 1, 0, 9, 8, 7, 6, 5], [], [11, 10, 4, 3, 2, 1, 0, 9, 8, 7, 6, 5]]) else bif id.beq 11 then ([0, 1, 2, 3, 4, 6, 7, 8, 9, 10, 5, 11, 12, 13, 14], [[], [0], [1, 0], [], [3], [2, 1, 0, 4, 3], [], [6], [7, 6], [], [9], [8, 7, 6, 10, 9, 5, 2, 1, 0, 4, 3], [5, 2, 1, 0, 4, 3, 11, 8, 7, 6, 10, 9], [0, 1, 2, 3, 4, 5, 6, 7, 8, 9, 10, 11, 12], [13, 0, 1, 2, 3, 4, 5, 6, 7, 8, 9, 10, 11, 12]]) else bif id.beq 12 then ([0, 1, 2, 3, 4, 6, 7, 8, 9, 10, 5, 11, 12, 13, 14], [[], [0], [1, 0], [], [3], [2, 1, 0, 4, 3], [], [6], [7, 6], [], [9], [8, 7, 6, 10, 9, 5, 2, 1, 0, 4, 3], [5, 2, 1, 0, 4, 3, 11, 8, 7, 6, 10, 9], [0, 1, 2, 3, 4, 5, 6, 7, 8, 9, 10, 11, 12], [13, 0, 1, 2, 3, 4, 5, 6, 7, 8, 9, 10, 11, 12]]) else ([], [])
def goal_hAround (a : ArmV) (b : Nat) (qs : List Rat) (K : AV → Prop) : Prop := goalL T125 ot_hAround (inv_around a qs) Tryd.f35 [armA a, sR b qs] K
theorem goal_hAround_vc (a : ArmV) (b : Nat) (qs : List Rat) (K : AV → Prop) : goal_hAround a b qs K = (
 ∃ (a_1 : ArmV),
 ∃ (b_1 : Nat),
 ∃ (qs_1 : List Rat),
 [Ch.v (Value.string (ArmV.name a)), Ch.r (ArmV.x a) (63 : Nat), Ch.r (ArmV.y a) (63 : Nat), Ch.v (Value.bool (ArmV.half a)),
 Ch.r (ArmV.t a) (63 : Nat), Ch.s (16 : Nat) (List.map linkCh (ArmV.links a))] =
 [Ch.v (Value.string (ArmV.name a_1)), Ch.r (ArmV.x a_1) (63 : Nat), Ch.r (ArmV.y a_1) (63 : Nat),
 Ch.v (Value.bool (ArmV.half a_1)), Ch.r (ArmV.t a_1) (63 : Nat), Ch.s (16 : Nat) (List.map linkCh (ArmV.links a_1))] ∧
 lR b qs = lR b_1 qs_1 ∧
 (GoodArm a_1 ∧ b_1 ≤ (400 : Nat) ∧ List.length qs_1 = List.length (ArmV.links a_1)) ∧
 ∀ (fs : List FrV) (f : FrV),
 fs ++ [f] = framesV (baseV a_1) (ArmV.links a_1) qs_1 →
 List.length fs = List.length (ArmV.links a_1) →
 ((0 : Int) ≤ (0 : Int) ∧ (0 : Int) < Int.ofNat (List.length (shN (115300000 : Nat) (placeV fs (ArmV.links a_1))))) ∧
 ∃ (ys : List (List Ch)),
 ldE (shN (115300000 : Nat) (placeV fs (ArmV.links a_1))) (0 : Nat) (0 : Nat) (1 : Nat) = some [Ch.s (6 : Nat) ys] ∧
 ((0 : Int) ≤ (0 : Int) ∧ (0 : Int) < Int.ofNat (List.length ys)) ∧
 ∃ (q : Rat),
 ∃ (n : Nat),
 ∃ (q_1 : Rat),
 ∃ (n_1 : Nat),
 ldE ys (0 : Nat) (0 : Nat) (6 : Nat) = some [Ch.r q n, Ch.r q_1 n_1] ∧
 ((0 : Int) ≤ (0 : Int) ∧
 (0 : Int) < Int.ofNat (List.length (shN (115300000 : Nat) (placeV fs (ArmV.links a_1))))) ∧
 ∃ (ys : List (List Ch)),
 ldE (shN (115300000 : Nat) (placeV fs (ArmV.links a_1))) (0 : Nat) (0 : Nat) (1 : Nat) =
 some [Ch.s (6 : Nat) ys] ∧
 ((0 : Int) ≤ (0 : Int) ∧ (0 : Int) < Int.ofNat (List.length ys)) ∧
 ∃ (q_2 : Rat),
 ∃ (n_2 : Nat),
 ∃ (q_3 : Rat),
 ∃ (n_3 : Nat),
 ldE ys (0 : Nat) (0 : Nat) (6 : Nat) = some [Ch.r q_2 n_2, Ch.r q_3 n_3] ∧
 (∃ (x : ArX),
 ((ArI a qs x ∧
 ArX.i x ≤ List.length (ArmV.links a) ∧
 boxAll (ArX.b x) (List.drop (ArX.i x) (ArX.ps x)) =
 boxAll (startB (ArX.ps x)) (ArX.ps x)) ∧
 OfNat.ofNat (0 : Nat) = (0 : Nat)) ∧
 (0 : Nat) = (0 : Nat) ∧
 (0 : Nat) = (0 : Nat) ∧
 (1 : Nat) = (1 : Nat) ∧
 shN (115300000 : Nat) (placeV fs (ArmV.links a_1)) =
 shN (115300000 : Nat) (ArX.ps x) ∧
 Int.ofNat
 (List.length
 (shN (115300000 : Nat) (placeV fs (ArmV.links a_1)))) =
 Int.ofNat (List.length (ArmV.links a)) ∧
 (0 : Int) = Int.ofNat (ArX.i x) ∧
 (62 : Nat) = (62 : Nat) ∧
 false = false ∧
 ByteArray.mk (Array.mk []) = ByteArray.mk (Array.mk []) ∧
 ByteArray.mk (Array.mk []) = ByteArray.mk (Array.mk []) ∧
 false = false ∧
 ByteArray.mk (Array.mk []) = ByteArray.mk (Array.mk []) ∧
 ByteArray.mk (Array.mk []) =
 ByteArray.mk (Array.mk []) ∧
 false = false ∧
 ByteArray.mk (Array.mk []) =
 ByteArray.mk (Array.mk []) ∧
 ByteArray.mk (Array.mk []) =
 ByteArray.mk (Array.mk []) ∧
 false = false ∧
 ByteArray.mk (Array.mk []) =
 ByteArray.mk (Array.mk []) ∧
 ByteArray.mk (Array.mk []) =
 ByteArray.mk (Array.mk []) ∧
 (62 : Nat) = (62 : Nat) ∧
 q = BoxV.x1 (ArX.b x) ∧
 n ≤ (115300000 : Nat) ∧
 q_1 = BoxV.y1 (ArX.b x) ∧
 n_1 ≤ (115300000 : Nat) ∧
 q_2 = BoxV.x2 (ArX.b x) ∧
 n_2 ≤ (115300000 : Nat) ∧
 q_3 = BoxV.y2 (ArX.b x) ∧
 n_3 ≤ (115300000 : Nat) ∧
 True) ∧
 ∀ (x : ArX),
 ArI a qs x ∧
 ArX.i x ≤ List.length (ArmV.links a) ∧
 boxAll (ArX.b x) (List.drop (ArX.i x) (ArX.ps x)) =
 boxAll (startB (ArX.ps x)) (ArX.ps x) →
 OfNat.ofNat (0 : Nat) = (0 : Nat) →
 bif decide (Int.ofNat (ArX.i x) < Int.ofNat (List.length (ArmV.links a))) then
 ((0 : Int) ≤ Int.ofNat (ArX.i x) ∧
 Int.ofNat (ArX.i x) <
 Int.ofNat (List.length (shN (115300000 : Nat) (ArX.ps x)))) ∧
 ∃ (ys : List (List Ch)),
 ldE (shN (115300000 : Nat) (ArX.ps x)) (Int.toNat (Int.ofNat (ArX.i x)))
 (0 : Nat) (1 : Nat) =
 some [Ch.s (6 : Nat) ys] ∧
 (∃ (x_1 : ArX),
 (((ArI a qs x_1 ∧
 ArX.i x_1 < List.length (ArmV.links a) ∧
 ArX.j x_1 ≤
 List.length (List.getD (ArX.ps x_1) (ArX.i x_1) [])) ∧
 boxAll
 (List.foldl boxStep (ArX.b x_1)
 (List.drop (ArX.j x_1)
 (List.getD (ArX.ps x_1) (ArX.i x_1) [])))
 (List.drop (ArX.i x_1 + (1 : Nat)) (ArX.ps x_1)) =
 boxAll (startB (ArX.ps x_1)) (ArX.ps x_1)) ∧
 List.length (ArmV.links a) - ArX.i x_1 =
 List.length (ArmV.links a) - ArX.i x) ∧
 (0 : Nat) = (0 : Nat) ∧
 (0 : Nat) = (0 : Nat) ∧
 (1 : Nat) = (1 : Nat) ∧
 shN (115300000 : Nat) (ArX.ps x) =
 shN (115300000 : Nat) (ArX.ps x_1) ∧
 Int.ofNat (List.length (ArmV.links a)) =
 Int.ofNat (List.length (ArmV.links a)) ∧
 Int.ofNat (ArX.i x) = Int.ofNat (ArX.i x_1) ∧
 (6 : Nat) = (6 : Nat) ∧
 ys =
 List.map (vecN (115300000 : Nat))
 (List.getD (ArX.ps x_1) (ArX.i x_1) []) ∧
 Int.ofNat (List.length ys) =
 Int.ofNat
 (List.length
 (List.getD (ArX.ps x_1) (ArX.i x_1)
 [])) ∧
 (0 : Int) = Int.ofNat (ArX.j x_1) ∧
 (62 : Nat) = (62 : Nat) ∧
 false = false ∧
 ByteArray.mk (Array.mk []) =
 ByteArray.mk (Array.mk []) ∧
 ByteArray.mk (Array.mk []) =
 ByteArray.mk (Array.mk []) ∧
 false = false ∧
 ByteArray.mk (Array.mk []) =
 ByteArray.mk (Array.mk []) ∧
 ByteArray.mk (Array.mk []) =
 ByteArray.mk (Array.mk []) ∧
 false = false ∧
 ByteArray.mk (Array.mk []) =
 ByteArray.mk
 (Array.mk []) ∧
 ByteArray.mk
 (Array.mk []) =
 ByteArray.mk
 (Array.mk []) ∧
 false = false ∧
 ByteArray.mk
 (Array.mk []) =
 ByteArray.mk
 (Array.mk []) ∧
 ByteArray.mk
 (Array.mk
 []) =
 ByteArray.mk
 (Array.mk
 []) ∧
 (62 : Nat) =
 (62 : Nat) ∧
 BoxV.x1
 (ArX.b
 x) =
 BoxV.x1
 (ArX.b
 x_1) ∧
 (115300000 :
 Nat) ≤
 (115300000 :
 Nat) ∧
 BoxV.y1
 (ArX.b
 x) =
 BoxV.y1
 (ArX.b
 x_1) ∧
 (115300000 :
 Nat) ≤
 (115300000 :
 Nat) ∧
 BoxV.x2
 (ArX.b
 x) =
 BoxV.x2
 (ArX.b
 x_1) ∧
 (115300000 :
 Nat) ≤
 (115300000 :
 Nat) ∧
 BoxV.y2
 (ArX.b
 x) =
 BoxV.y2
 (ArX.b
 x_1) ∧
 (115300000 :
 Nat) ≤
 (115300000 :
 Nat) ∧
 True) ∧
 ∀ (x_1 : ArX),
 (ArI a qs x_1 ∧
 ArX.i x_1 < List.length (ArmV.links a) ∧
 ArX.j x_1 ≤
 List.length (List.getD (ArX.ps x_1) (ArX.i x_1) [])) ∧
 boxAll
 (List.foldl boxStep (ArX.b x_1)
 (List.drop (ArX.j x_1)
 (List.getD (ArX.ps x_1) (ArX.i x_1) [])))
 (List.drop (ArX.i x_1 + (1 : Nat)) (ArX.ps x_1)) =
 boxAll (startB (ArX.ps x_1)) (ArX.ps x_1) →
 List.length (ArmV.links a) - ArX.i x_1 =
 List.length (ArmV.links a) - ArX.i x →
 bif
 decide
 (Int.ofNat (ArX.j x_1) <
 Int.ofNat
 (List.length
 (List.getD (ArX.ps x_1) (ArX.i x_1) []))) then
 ((0 : Int) ≤ Int.ofNat (ArX.j x_1) ∧
 Int.ofNat (ArX.j x_1) <
 Int.ofNat
 (List.length
 (List.map (vecN (115300000 : Nat))
 (List.getD (ArX.ps x_1) (ArX.i x_1) [])))) ∧
 ∃ (q : Rat),
 ∃ (n : Nat),
 ∃ (q_4 : Rat),
 ∃ (n_4 : Nat),
 ldE
 (List.map (vecN (115300000 : Nat))
 (List.getD (ArX.ps x_1) (ArX.i x_1) []))
 (Int.toNat (Int.ofNat (ArX.j x_1)))
 (0 : Nat) (6 : Nat) =
 some [Ch.r q n, Ch.r q_4 n_4] ∧
 (115300000 : Nat) + n ≤ (4294967296 : Nat) ∧
 (115300000 : Nat) + n_4 ≤ (4294967296 : Nat) ∧
 (115300000 : Nat) + n ≤ (4294967296 : Nat) ∧
 (115300000 : Nat) + n_4 ≤
 (4294967296 : Nat) ∧
 ∃ (x' : ArX),
 (((ArI a qs x' ∧
 ArX.i x' <
 List.length
 (ArmV.links a) ∧
 ArX.j x' ≤
 List.length
 (List.getD (ArX.ps x')
 (ArX.i x') [])) ∧
 boxAll
 (List.foldl boxStep
 (ArX.b x')
 (List.drop (ArX.j x')
 (List.getD (ArX.ps x')
 (ArX.i x') [])))
 (List.drop
 (ArX.i x' + (1 : Nat))
 (ArX.ps x')) =
 boxAll (startB (ArX.ps x'))
 (ArX.ps x')) ∧
 List.length (ArmV.links a) -
 ArX.i x' =
 List.length (ArmV.links a) -
 ArX.i x ∧
 List.length
 (List.getD (ArX.ps x')
 (ArX.i x') []) -
 ArX.j x' <
 List.length
 (List.getD (ArX.ps x_1)
 (ArX.i x_1) []) -
 ArX.j x_1) ∧
 (0 : Nat) = (0 : Nat) ∧
 (0 : Nat) = (0 : Nat) ∧
 (1 : Nat) = (1 : Nat) ∧
 shN (115300000 : Nat)
 (ArX.ps x_1) =
 shN (115300000 : Nat)
 (ArX.ps x') ∧
 Int.ofNat
 (List.length
 (ArmV.links a)) =
 Int.ofNat
 (List.length
 (ArmV.links a)) ∧
 Int.ofNat (ArX.i x_1) =
 Int.ofNat (ArX.i x') ∧
 (6 : Nat) = (6 : Nat) ∧
 List.map
 (vecN
 (115300000 :
 Nat))
 (List.getD
 (ArX.ps x_1)
 (ArX.i x_1)
 []) =
 List.map
 (vecN
 (115300000 :
 Nat))
 (List.getD
 (ArX.ps x')
 (ArX.i x')
 []) ∧
 Int.ofNat
 (List.length
 (List.getD
 (ArX.ps
 x_1)
 (ArX.i
 x_1)
 [])) =
 Int.ofNat
 (List.length
 (List.getD
 (ArX.ps
 x')
 (ArX.i x')
 [])) ∧
 IntKind.wrap
 IntKind.i64
 (Int.ofNat
 (ArX.j
 x_1) +
 (1 :
 Int)) =
 Int.ofNat
 (ArX.j x') ∧
 (62 : Nat) =
 (62 : Nat) ∧
 false =
 false ∧
 ByteArray.mk
 (Array.mk
 []) =
 ByteArray.mk
 (Array.mk
 []) ∧
 ByteArray.mk
 (Array.mk
 []) =
 ByteArray.mk
 (Array.mk
 []) ∧
 false =
 false ∧
 ByteArray.mk
 (Array.mk
 []) =
 ByteArray.mk
 (Array.mk
 []) ∧
 ByteArray.mk
 (Array.mk
 []) =
 ByteArray.mk
 (Array.mk
 []) ∧
 false =
 false ∧
 ByteArray.mk
 (Array.mk
 []) =
 ByteArray.mk
 (Array.mk
 []) ∧
 ByteArray.mk
 (Array.mk
 []) =
 ByteArray.mk
 (Array.mk
 []) ∧
 false =
 false ∧
 ByteArray.mk
 (Array.mk
 []) =
 ByteArray.mk
 (Array.mk
 []) ∧
 ByteArray.mk
 (Array.mk
 []) =
 ByteArray.mk
 (Array.mk
 []) ∧
 (62 :
 Nat) =
 (62 :
 Nat) ∧
 minR
 (BoxV.x1
 (ArX.b
 x_1))
 q =
 BoxV.x1
 (ArX.b
 x') ∧
 max
 (115300000 :
 Nat)
 n ≤
 (115300000 :
 Nat) ∧
 minR
 (BoxV.y1
 (ArX.b
 x_1))
 q_4 =
 BoxV.y1
 (ArX.b
 x') ∧
 max
 (115300000 :
 Nat)
 n_4 ≤
 (115300000 :
 Nat) ∧
 maxR
 (BoxV.x2
 (ArX.b
 x_1))
 q =
 BoxV.x2
 (ArX.b
 x') ∧
 max
 (115300000 :
 Nat)
 n ≤
 (115300000 :
 Nat) ∧
 maxR
 (BoxV.y2
 (ArX.b
 x_1))
 q_4 =
 BoxV.y2
 (ArX.b
 x') ∧
 max
 (115300000 :
 Nat)
 n_4 ≤
 (115300000 :
 Nat) ∧
 True
 else
 ∃ (x' : ArX),
 ((ArI a qs x' ∧
 ArX.i x' ≤ List.length (ArmV.links a) ∧
 boxAll (ArX.b x')
 (List.drop (ArX.i x') (ArX.ps x')) =
 boxAll (startB (ArX.ps x')) (ArX.ps x')) ∧
 OfNat.ofNat (0 : Nat) = (0 : Nat) ∧
 List.length (ArmV.links a) - ArX.i x' <
 List.length (ArmV.links a) - ArX.i x) ∧
 (0 : Nat) = (0 : Nat) ∧
 (0 : Nat) = (0 : Nat) ∧
 (1 : Nat) = (1 : Nat) ∧
 shN (115300000 : Nat) (ArX.ps x_1) =
 shN (115300000 : Nat) (ArX.ps x') ∧
 Int.ofNat (List.length (ArmV.links a)) =
 Int.ofNat (List.length (ArmV.links a)) ∧
 IntKind.wrap IntKind.i64
 (Int.ofNat (ArX.i x_1) + (1 : Int)) =
 Int.ofNat (ArX.i x') ∧
 (62 : Nat) = (62 : Nat) ∧
 false = false ∧
 ByteArray.mk (Array.mk []) =
 ByteArray.mk (Array.mk []) ∧
 ByteArray.mk (Array.mk []) =
 ByteArray.mk (Array.mk []) ∧
 false = false ∧
 ByteArray.mk (Array.mk []) =
 ByteArray.mk (Array.mk []) ∧
 ByteArray.mk (Array.mk []) =
 ByteArray.mk (Array.mk []) ∧
 false = false ∧
 ByteArray.mk (Array.mk []) =
 ByteArray.mk
 (Array.mk []) ∧
 ByteArray.mk
 (Array.mk []) =
 ByteArray.mk
 (Array.mk []) ∧
 false = false ∧
 ByteArray.mk
 (Array.mk []) =
 ByteArray.mk
 (Array.mk []) ∧
 ByteArray.mk
 (Array.mk
 []) =
 ByteArray.mk
 (Array.mk
 []) ∧
 (62 : Nat) =
 (62 : Nat) ∧
 BoxV.x1
 (ArX.b
 x_1) =
 BoxV.x1
 (ArX.b
 x') ∧
 (115300000 :
 Nat) ≤
 (115300000 :
 Nat) ∧
 BoxV.y1
 (ArX.b
 x_1) =
 BoxV.y1
 (ArX.b
 x') ∧
 (115300000 :
 Nat) ≤
 (115300000 :
 Nat) ∧
 BoxV.x2
 (ArX.b
 x_1) =
 BoxV.x2
 (ArX.b
 x') ∧
 (115300000 :
 Nat) ≤
 (115300000 :
 Nat) ∧
 BoxV.y2
 (ArX.b
 x_1) =
 BoxV.y2
 (ArX.b
 x') ∧
 (115300000 :
 Nat) ≤
 (115300000 :
 Nat) ∧
 True
 else
 K
 (AV.t
 [(true,
 [Ch.r (BoxV.x1 (ArX.b x)) (115300000 : Nat),
 Ch.r (BoxV.y1 (ArX.b x)) (115300000 : Nat),
 Ch.r (BoxV.x2 (ArX.b x)) (115300000 : Nat),
 Ch.r (BoxV.y2 (ArX.b x)) (115300000 : Nat)]),
 (false, [Ch.v (Value.int IntKind.i64 (0 : Int))])])) := by kernel_rfl
theorem g_hAround (a : ArmV) (b : Nat) (qs : List Rat) (hc : (GoodArm a) ∧ (b ≤ 400 ∧ qs.length = a.links.length)) (K : AV → Prop) (hK : ∀ (fs : List FrV) (f : FrV), fs ++ [f] = framesV (baseV a) a.links qs → fs.length = a.links.length → K (.t [(true, bxN 115300000 (boxAll (startB (placeV fs a.links)) (placeV fs a.links))), (false, [.v (.int .i64 0)])])) : Holds (goal_hAround a b qs K) := by
  refine ⟨?_⟩
  rw [goal_hAround_vc]
  try simp only [Int.ofNat_eq_natCast, true_and, and_true, Nat.le_refl, true_implies]
  obtain ⟨hg, hb, hq⟩ := hc
  have hn := hg.n
  refine ⟨a, b, qs, rfl, rfl, ⟨hg, hb, hq⟩, fun fs f hf hl => ?_⟩
  have hpl := place_len hl
  have hsl : ∀ s ∈ placeV fs a.links, 3 ≤ s.length ∧ s.length ≤ 8 := fun s hs => by
    obtain ⟨g, L, hL, rfl⟩ := place_mem hs
    have := (hg.links L hL).poly
    rw [List.length_map]
    exact ⟨this.lo, this.hi⟩
  obtain ⟨s0, hs0⟩ : ∃ s, (placeV fs a.links)[0]? = some s := ⟨_, List.getElem?_eq_getElem (by omega)⟩
  have hl0 := hsl s0 (List.mem_of_getElem? hs0)
  obtain ⟨p0, hp0⟩ : ∃ p, s0[0]? = some p := ⟨_, List.getElem?_eq_getElem (by omega)⟩
  have e0 : startB (placeV fs a.links) = ⟨p0.1, p0.2, p0.1, p0.2⟩ := by unfold startB; rw [gD_of hs0, gD_of hp0]
  have shl : ∀ ps, (shN 115300000 ps).length = ps.length := fun ps => by simp [shN]
  simp only [shl]
  refine ⟨by omega, _, sh_ld hs0, by simp; omega, _, _, _, _, vec_ld hp0, by omega, _, sh_ld hs0, by simp; omega, _, _, _, _, vec_ld hp0, ⟨⟨placeV fs a.links, startB (placeV fs a.links), 0, 0⟩, ⟨⟨hpl, ⟨fs, f, hf, hl, rfl⟩, hsl⟩, by simp, rfl⟩, rfl, by rw [hpl], rfl, by simp only [e0], Nat.le_refl _, by simp only [e0], Nat.le_refl _, by simp only [e0], Nat.le_refl _, by simp only [e0], Nat.le_refl _⟩, fun x hx => bif_mk (fun hp => ?_) (fun hp => ?_)⟩
  · have hp : x.i < a.links.length := by have := of_decide_eq_true hp; omega
    have hxl := hx.1.len
    obtain ⟨s, hs⟩ : ∃ s, x.ps[x.i]? = some s := ⟨_, List.getElem?_eq_getElem (by omega)⟩
    have hd := gD_of (d := ([] : List (Rat × Rat))) hs
    have he := hx.2.2
    rw [drop_get hs] at he
    refine ⟨by omega, _, sh_ld (by simpa using hs), ⟨⟨x.ps, x.b, x.i, 0⟩, ⟨⟨⟨⟨hxl, hx.1.ps, hx.1.sl⟩, hp, by simp⟩, ?_⟩, rfl⟩, rfl, rfl, by show _ = List.map _ (x.ps.getD x.i []); rw [hd], by show _ = ((x.ps.getD x.i []).length : Int); rw [hd, List.length_map], rfl, rfl, rfl, rfl, rfl⟩, fun y hy hyt => bif_mk (fun hk => ?_) (fun hk => ?_)⟩
    · simp only [hd, List.drop_zero]; exact he
    · have hk : y.j < (y.ps.getD y.i []).length := by have := of_decide_eq_true hk; omega
      have hyl : (y.ps.getD y.i []).length ≤ 8 := by
        have h1 := hy.1.2.1
        have h2 := hy.1.1.len
        obtain ⟨z, hz⟩ : ∃ z, y.ps[y.i]? = some z := ⟨_, List.getElem?_eq_getElem (by omega)⟩
        rw [gD_of hz]
        exact (hy.1.1.sl z (List.mem_of_getElem? hz)).2
      obtain ⟨p, hpp⟩ : ∃ p, (y.ps.getD y.i [])[y.j]? = some p := ⟨_, List.getElem?_eq_getElem hk⟩
      have hye := hy.2
      rw [drop_get hpp, List.foldl_cons] at hye
      exact ⟨by rw [List.length_map]; omega, _, _, _, _, vec_ld (by simpa using hpp), by omega, by omega, by omega, by omega, ⟨y.ps, boxStep y.b p, y.i, y.j + 1⟩, ⟨⟨⟨⟨hy.1.1.len, hy.1.1.ps, hy.1.1.sl⟩, hy.1.2.1, hk⟩, hye⟩, hyt, by simp only; omega⟩, rfl, rfl, rfl, rfl, by rw [w64 (by omega)]; simp, rfl, by simp, rfl, by simp, rfl, by simp, rfl, by simp⟩
    · have hk : y.j = (y.ps.getD y.i []).length := by have := of_decide_eq_false hk; have := hy.1.2.2; omega
      have hye := hy.2
      rw [hk, List.drop_length, List.foldl_nil] at hye
      have hyi := hy.1.2.1
      exact ⟨⟨y.ps, y.b, y.i + 1, 0⟩, ⟨⟨⟨hy.1.1.len, hy.1.1.ps, hy.1.1.sl⟩, hyi, hye⟩, by simp only; omega⟩, rfl, by rw [w64 (by omega)]; simp, rfl, rfl, rfl, rfl⟩
  · have hp : x.i = a.links.length := by have := of_decide_eq_false hp; have := hx.2.1; omega
    obtain ⟨fs', f', h1, h2, h3⟩ := hx.1.ps
    have he := hx.2.2
    rw [hp, ← hx.1.len, List.drop_length] at he
    have he : x.b = _ := he
    have := hK fs' f' h1 h2
    rw [← h3, ← he] at this
    exact this
def c_hAround : Ctr := fun as0 => match as0 with
  | [.x true xs, .x false [.s 3 ys]] => some fun K => ∃ (a : ArmV) (b : Nat) (qs : List Rat), xs = armCh a ∧ ys = lR b qs ∧ ((GoodArm a) ∧ (b ≤ 400 ∧ qs.length = a.links.length)) ∧ (∀ (fs : List FrV) (f : FrV), fs ++ [f] = framesV (baseV a) a.links qs → fs.length = a.links.length → K (.t [(true, bxN 115300000 (boxAll (startB (placeV fs a.links)) (placeV fs a.links))), (false, [.v (.int .i64 0)])]))
  | _ => none
theorem ok_hAround : CtrOK Tryd.prog tabG debT 35 c_hAround := by
  refine ⟨enters Tryd.func35 (by kernel_rfl), fun l T hT K hK => ?_⟩
  unfold c_hAround at hT
  split at hT
  · cases hT
    obtain ⟨a, b, qs, rfl, rfl, hc, hK⟩ := hK
    exact spec_ofL T125ok mixed Tryd.func35 (by kernel_rfl) (by kernel_rfl) (by rfl) (g_hAround _ _ _ hc K hK)
  · cases hT
def L126 : List (Nat × Ctr) := (35, c_hAround) :: L125
def T126 : Tabs := mkT L126 M79 X4
theorem L126ok : CtrsOK Tryd.prog tabG debT L126 := .cons ok_hAround L125ok
theorem T126ok : TabsOK Tryd.prog tabG debT T126 := mkTok L126ok M79ok X4ok
-- the newest table: L126 M79 X4 T126
end Go.Proofs
