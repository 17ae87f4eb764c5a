/- Rank, Is, null, Still; two; the reach of an arm. -/
import Derived.Test.YtdbkndfkgdbhpaaDoorFA
/- Rank, Is, null, Still; two; the reach of an arm. -/
namespace Go.Proofs
open Go Go.Eng
structure RkX where
  cs : List (Rat × Rat)
  i : Nat
  j : Nat
structure RkI (a : ArmV) (qs : List Rat) (x : RkX) : Prop where
  len : x.cs.length = a.links.length
  cs : ∃ fs f, fs ++ [f] = framesV (baseV a) a.links qs ∧ fs.length = a.links.length ∧ x.cs = colV f fs
  le : x.i ≤ a.links.length
def colAt (l : List (Rat × Rat)) (i : Nat) : Rat × Rat := l.getD i (0, 0)
def inv_rank (a : ArmV) (qs : List Rat) : LI := fun id => bif id.beq 4 then .inv ⟨RkX, fun x => ⟨[(6, sVv 132800001 x.cs), (7, iA .i64 0), (8, iA .i64 (rk (prs x.cs x.i) (nzs x.cs x.i))), (19, sVv 132800001 x.cs), (20, iA .i64 a.links.length), (21, iA .i64 x.i)], []⟩, RkI a qs, fun x => a.links.length - x.i, fun _ => 0⟩
  else bif id.beq 8 then .cut ⟨RkX, fun x => ⟨[(6, sVv 132800001 x.cs), (7, iA .i64 0), (8, iA .i64 (rk (prs x.cs x.i) (nzs x.cs (x.i + 1)))), (9, iA .i64 x.i), (10, .x false [.p 10 0]), (19, sVv 132800001 x.cs), (20, iA .i64 a.links.length), (21, iA .i64 x.i)], [(10, .box 27 (vecN 132800001 (colAt x.cs x.i)))]⟩, fun x => RkI a qs x ∧ x.i < a.links.length, fun _ => 0, fun x => a.links.length - x.i⟩
  else .inv ⟨RkX, fun x => ⟨[(6, sVv 132800001 x.cs), (7, iA .i64 0), (8, iA .i64 (rk (prs x.cs x.i || hit (colAt x.cs x.i) (x.cs.take x.j)) (nzs x.cs (x.i + 1)))), (9, iA .i64 x.i), (10, .x false [.p 10 0]), (19, sVv 132800001 x.cs), (20, iA .i64 a.links.length), (21, iA .i64 x.i), (40, sVv 132800001 (x.cs.take x.i)), (41, iA .i64 x.i), (42, iA .i64 x.j)], [(10, .box 27 (vecN 132800001 (colAt x.cs x.i)))]⟩, fun x => RkI a qs x ∧ x.i < a.links.length ∧ x.j ≤ x.i, fun x => x.i - x.j, fun x => a.links.length - x.i⟩
theorem sgn_zero (q : Rat) : sgnR q = 0 ↔ q = 0 := by
  unfold sgnR
  constructor
  · intro h
    split at h
    · rename_i h0; exact Rat.num_eq_zero.1 h0
    · split at h <;> cases h
  · rintro rfl; rfl
theorem sgn_ne (q : Rat) : (sgnR q != 0) = !(decide (q = 0)) := by
  by_cases h : q = 0
  · rw [(sgn_zero q).2 h, decide_eq_true h]; rfl
  · have : sgnR q ≠ 0 := fun e => h ((sgn_zero q).1 e)
    rw [decide_eq_false h]; simpa using this
theorem sgn_eq (q : Rat) : (sgnR q == 0) = decide (q = 0) := by
  by_cases h : q = 0
  · rw [(sgn_zero q).2 h, decide_eq_true h]; rfl
  · have : sgnR q ≠ 0 := fun e => h ((sgn_zero q).1 e)
    rw [decide_eq_false h]; simpa using this
theorem nzs_succ {l : List (Rat × Rat)} {i : Nat} {u : Rat × Rat} (h : l[i]? = some u) : nzs l (i + 1) = (nzs l i || nzb u) := by
  unfold nzs
  rw [List.take_add_one, h]
  simp
theorem prs_succ {l : List (Rat × Rat)} {i : Nat} {u : Rat × Rat} (h : l[i]? = some u) : prs l (i + 1) = (prs l i || hit u (l.take i)) := by
  unfold prs
  rw [List.range_succ, List.any_append]
  simp [h]
theorem hit_succ {l : List (Rat × Rat)} {j : Nat} {w : Rat × Rat} (u : Rat × Rat) (h : l[j]? = some w) : hit u (l.take (j + 1)) = (hit u (l.take j) || !(decide (crs u w = 0))) := by
  unfold hit
  rw [List.take_add_one, h]
  simp
theorem rk_max (p n : Bool) : (bif true then if 1 > rk p n then 1 else rk p n else if 1 < rk p n then 1 else rk p n) = rk p true := by cases p <;> cases n <;> rfl
theorem col_at {l : List (Rat × Rat)} {i : Nat} {u : Rat × Rat} (h : l[i]? = some u) : colAt l i = u := by
  unfold colAt; rw [List.getD_eq_getElem?_getD, h]; rfl
def L120s : List (Nat × Ctr) := L117
def T120s : Tabs := mkT L120s M79 X4
theorem L120sok : CtrsOK Tryd.prog tabG debT L120s := L117ok
theorem T120sok : TabsOK Tryd.prog tabG debT T120s := mkTok L120sok M79ok X4ok
def ot_sRank : OT := fun _ => ([], [])
def goal_sRank (a : ArmV) (b : Nat) (qs : List Rat) (K : AV → Prop) : Prop := goalL T120s ot_sRank (inv_rank a qs) Tryd.f44 [armA a, sR b qs] K
theorem goal_sRank_vc (a : ArmV) (b : Nat) (qs : List Rat) (K : AV → Prop) : goal_sRank a b qs K = (
 ∃ (a_1 : ArmV),
 ∃ (b_1 : Nat),
 ∃ (qs_1 : List Rat),
 [Ch.v (Value.string (ArmV.name a)), Ch.r (ArmV.x a) (63 : Nat), Ch.r (ArmV.y a) (63 : Nat), Ch.v (Value.bool (ArmV.half a)),
 Ch.r (ArmV.t a) (63 : Nat), Ch.s (16 : Nat) (List.map linkCh (ArmV.links a))] =
 [Ch.v (Value.string (ArmV.name a_1)), Ch.r (ArmV.x a_1) (63 : Nat), Ch.r (ArmV.y a_1) (63 : Nat),
 Ch.v (Value.bool (ArmV.half a_1)), Ch.r (ArmV.t a_1) (63 : Nat), Ch.s (16 : Nat) (List.map linkCh (ArmV.links a_1))] ∧
 lR b qs = lR b_1 qs_1 ∧
 (GoodArm a_1 ∧ b_1 ≤ (400 : Nat) ∧ List.length qs_1 = List.length (ArmV.links a_1)) ∧
 ∀ (fs : List FrV) (f : FrV),
 fs ++ [f] = framesV (baseV a_1) (ArmV.links a_1) qs_1 →
 List.length fs = List.length (ArmV.links a_1) →
 (∃ (x : RkX),
 (RkI a qs x ∧ OfNat.ofNat (0 : Nat) = (0 : Nat)) ∧
 (6 : Nat) = (6 : Nat) ∧
 List.map (vecN (132800001 : Nat)) (colV f fs) = List.map (vecN (132800001 : Nat)) (RkX.cs x) ∧
 (0 : Int) = (0 : Int) ∧
 (0 : Int) = rk (prs (RkX.cs x) (RkX.i x)) (nzs (RkX.cs x) (RkX.i x)) ∧
 (6 : Nat) = (6 : Nat) ∧
 List.map (vecN (132800001 : Nat)) (colV f fs) = List.map (vecN (132800001 : Nat)) (RkX.cs x) ∧
 Int.ofNat (List.length (List.map (vecN (132800001 : Nat)) (colV f fs))) =
 Int.ofNat (List.length (ArmV.links a)) ∧
 (0 : Int) = Int.ofNat (RkX.i x) ∧ True) ∧
 ∀ (x : RkX),
 RkI a qs x →
 OfNat.ofNat (0 : Nat) = (0 : Nat) →
 bif decide (Int.ofNat (RkX.i x) < Int.ofNat (List.length (ArmV.links a))) then
 ((0 : Int) ≤ Int.ofNat (RkX.i x) ∧
 Int.ofNat (RkX.i x) < Int.ofNat (List.length (List.map (vecN (132800001 : Nat)) (RkX.cs x)))) ∧
 ∃ (q : Rat),
 ∃ (n : Nat),
 ∃ (q_1 : Rat),
 ∃ (n_1 : Nat),
 ldE (List.map (vecN (132800001 : Nat)) (RkX.cs x)) (Int.toNat (Int.ofNat (RkX.i x))) (0 : Nat)
 (6 : Nat) =
 some [Ch.r q n, Ch.r q_1 n_1] ∧
 (n ≤ (4294967296 : Nat) ∧
 bif sgnR q != (0 : Int) then
 ∃ (x_1 : RkX),
 ((RkI a qs x_1 ∧ RkX.i x_1 < List.length (ArmV.links a)) ∧
 List.length (ArmV.links a) - RkX.i x_1 = List.length (ArmV.links a) - RkX.i x) ∧
 (6 : Nat) = (6 : Nat) ∧
 List.map (vecN (132800001 : Nat)) (RkX.cs x) =
 List.map (vecN (132800001 : Nat)) (RkX.cs x_1) ∧
 (0 : Int) = (0 : Int) ∧
 (bif true then
 if (1 : Int) > rk (prs (RkX.cs x) (RkX.i x)) (nzs (RkX.cs x) (RkX.i x)) then
 (1 : Int)
 else rk (prs (RkX.cs x) (RkX.i x)) (nzs (RkX.cs x) (RkX.i x))
 else
 if (1 : Int) < rk (prs (RkX.cs x) (RkX.i x)) (nzs (RkX.cs x) (RkX.i x)) then
 (1 : Int)
 else rk (prs (RkX.cs x) (RkX.i x)) (nzs (RkX.cs x) (RkX.i x))) =
 rk (prs (RkX.cs x_1) (RkX.i x_1)) (nzs (RkX.cs x_1) (RkX.i x_1 + (1 : Nat))) ∧
 Int.ofNat (RkX.i x) = Int.ofNat (RkX.i x_1) ∧
 (0 : Nat) = (0 : Nat) ∧
 (6 : Nat) = (6 : Nat) ∧
 List.map (vecN (132800001 : Nat)) (RkX.cs x) =
 List.map (vecN (132800001 : Nat)) (RkX.cs x_1) ∧
 Int.ofNat (List.length (ArmV.links a)) =
 Int.ofNat (List.length (ArmV.links a)) ∧
 Int.ofNat (RkX.i x) = Int.ofNat (RkX.i x_1) ∧
 (27 : Nat) = (27 : Nat) ∧
 q = Prod.fst (colAt (RkX.cs x_1) (RkX.i x_1)) ∧
 n ≤ (132800001 : Nat) ∧
 q_1 = Prod.snd (colAt (RkX.cs x_1) (RkX.i x_1)) ∧
 n_1 ≤ (132800001 : Nat) ∧ True
 else
 n_1 ≤ (4294967296 : Nat) ∧
 bif sgnR q_1 != (0 : Int) then
 ∃ (x_1 : RkX),
 ((RkI a qs x_1 ∧ RkX.i x_1 < List.length (ArmV.links a)) ∧
 List.length (ArmV.links a) - RkX.i x_1 = List.length (ArmV.links a) - RkX.i x) ∧
 (6 : Nat) = (6 : Nat) ∧
 List.map (vecN (132800001 : Nat)) (RkX.cs x) =
 List.map (vecN (132800001 : Nat)) (RkX.cs x_1) ∧
 (0 : Int) = (0 : Int) ∧
 (bif true then
 if
 (1 : Int) >
 rk (prs (RkX.cs x) (RkX.i x)) (nzs (RkX.cs x) (RkX.i x)) then
 (1 : Int)
 else rk (prs (RkX.cs x) (RkX.i x)) (nzs (RkX.cs x) (RkX.i x))
 else
 if
 (1 : Int) <
 rk (prs (RkX.cs x) (RkX.i x)) (nzs (RkX.cs x) (RkX.i x)) then
 (1 : Int)
 else rk (prs (RkX.cs x) (RkX.i x)) (nzs (RkX.cs x) (RkX.i x))) =
 rk (prs (RkX.cs x_1) (RkX.i x_1))
 (nzs (RkX.cs x_1) (RkX.i x_1 + (1 : Nat))) ∧
 Int.ofNat (RkX.i x) = Int.ofNat (RkX.i x_1) ∧
 (0 : Nat) = (0 : Nat) ∧
 (6 : Nat) = (6 : Nat) ∧
 List.map (vecN (132800001 : Nat)) (RkX.cs x) =
 List.map (vecN (132800001 : Nat)) (RkX.cs x_1) ∧
 Int.ofNat (List.length (ArmV.links a)) =
 Int.ofNat (List.length (ArmV.links a)) ∧
 Int.ofNat (RkX.i x) = Int.ofNat (RkX.i x_1) ∧
 (27 : Nat) = (27 : Nat) ∧
 q = Prod.fst (colAt (RkX.cs x_1) (RkX.i x_1)) ∧
 n ≤ (132800001 : Nat) ∧
 q_1 = Prod.snd (colAt (RkX.cs x_1) (RkX.i x_1)) ∧
 n_1 ≤ (132800001 : Nat) ∧ True
 else
 ∃ (x_1 : RkX),
 ((RkI a qs x_1 ∧ RkX.i x_1 < List.length (ArmV.links a)) ∧
 List.length (ArmV.links a) - RkX.i x_1 = List.length (ArmV.links a) - RkX.i x) ∧
 (6 : Nat) = (6 : Nat) ∧
 List.map (vecN (132800001 : Nat)) (RkX.cs x) =
 List.map (vecN (132800001 : Nat)) (RkX.cs x_1) ∧
 (0 : Int) = (0 : Int) ∧
 rk (prs (RkX.cs x) (RkX.i x)) (nzs (RkX.cs x) (RkX.i x)) =
 rk (prs (RkX.cs x_1) (RkX.i x_1))
 (nzs (RkX.cs x_1) (RkX.i x_1 + (1 : Nat))) ∧
 Int.ofNat (RkX.i x) = Int.ofNat (RkX.i x_1) ∧
 (0 : Nat) = (0 : Nat) ∧
 (6 : Nat) = (6 : Nat) ∧
 List.map (vecN (132800001 : Nat)) (RkX.cs x) =
 List.map (vecN (132800001 : Nat)) (RkX.cs x_1) ∧
 Int.ofNat (List.length (ArmV.links a)) =
 Int.ofNat (List.length (ArmV.links a)) ∧
 Int.ofNat (RkX.i x) = Int.ofNat (RkX.i x_1) ∧
 (27 : Nat) = (27 : Nat) ∧
 q = Prod.fst (colAt (RkX.cs x_1) (RkX.i x_1)) ∧
 n ≤ (132800001 : Nat) ∧
 q_1 = Prod.snd (colAt (RkX.cs x_1) (RkX.i x_1)) ∧
 n_1 ≤ (132800001 : Nat) ∧ True) ∧
 ∀ (x_1 : RkX),
 RkI a qs x_1 ∧ RkX.i x_1 < List.length (ArmV.links a) →
 List.length (ArmV.links a) - RkX.i x_1 = List.length (ArmV.links a) - RkX.i x →
 ((0 : Int) ≤ (0 : Int) ∧
 (0 : Int) ≤ Int.ofNat (RkX.i x_1) ∧
 Int.ofNat (RkX.i x_1) ≤
 Int.ofNat (List.length (List.map (vecN (132800001 : Nat)) (RkX.cs x_1)))) ∧
 (∃ (x_2 : RkX),
 ((RkI a qs x_2 ∧ RkX.i x_2 < List.length (ArmV.links a) ∧ RkX.j x_2 ≤ RkX.i x_2) ∧
 List.length (ArmV.links a) - RkX.i x_2 = List.length (ArmV.links a) - RkX.i x) ∧
 (6 : Nat) = (6 : Nat) ∧
 List.map (vecN (132800001 : Nat)) (RkX.cs x_1) =
 List.map (vecN (132800001 : Nat)) (RkX.cs x_2) ∧
 (0 : Int) = (0 : Int) ∧
 rk (prs (RkX.cs x_1) (RkX.i x_1)) (nzs (RkX.cs x_1) (RkX.i x_1 + (1 : Nat))) =
 rk
 (prs (RkX.cs x_2) (RkX.i x_2) ||
 hit (colAt (RkX.cs x_2) (RkX.i x_2))
 (List.take (RkX.j x_2) (RkX.cs x_2)))
 (nzs (RkX.cs x_2) (RkX.i x_2 + (1 : Nat))) ∧
 Int.ofNat (RkX.i x_1) = Int.ofNat (RkX.i x_2) ∧
 (0 : Nat) = (0 : Nat) ∧
 (6 : Nat) = (6 : Nat) ∧
 List.map (vecN (132800001 : Nat)) (RkX.cs x_1) =
 List.map (vecN (132800001 : Nat)) (RkX.cs x_2) ∧
 Int.ofNat (List.length (ArmV.links a)) =
 Int.ofNat (List.length (ArmV.links a)) ∧
 Int.ofNat (RkX.i x_1) = Int.ofNat (RkX.i x_2) ∧
 (6 : Nat) = (6 : Nat) ∧
 List.take (Int.toNat (Int.ofNat (RkX.i x_1)) - (0 : Nat))
 (List.drop (0 : Nat)
 (List.map (vecN (132800001 : Nat)) (RkX.cs x_1))) =
 List.map (vecN (132800001 : Nat))
 (List.take (RkX.i x_2) (RkX.cs x_2)) ∧
 Int.ofNat
 (List.length
 (List.take
 (Int.toNat (Int.ofNat (RkX.i x_1)) - (0 : Nat))
 (List.drop (0 : Nat)
 (List.map (vecN (132800001 : Nat))
 (RkX.cs x_1))))) =
 Int.ofNat (RkX.i x_2) ∧
 (0 : Int) = Int.ofNat (RkX.j x_2) ∧
 (27 : Nat) = (27 : Nat) ∧
 Prod.fst (colAt (RkX.cs x_1) (RkX.i x_1)) =
 Prod.fst (colAt (RkX.cs x_2) (RkX.i x_2)) ∧
 (132800001 : Nat) ≤ (132800001 : Nat) ∧
 Prod.snd (colAt (RkX.cs x_1) (RkX.i x_1)) =
 Prod.snd (colAt (RkX.cs x_2) (RkX.i x_2)) ∧
 (132800001 : Nat) ≤ (132800001 : Nat) ∧ True) ∧
 ∀ (x_2 : RkX),
 RkI a qs x_2 ∧ RkX.i x_2 < List.length (ArmV.links a) ∧ RkX.j x_2 ≤ RkX.i x_2 →
 List.length (ArmV.links a) - RkX.i x_2 = List.length (ArmV.links a) - RkX.i x →
 bif decide (Int.ofNat (RkX.j x_2) < Int.ofNat (RkX.i x_2)) then
 ((0 : Int) ≤ Int.ofNat (RkX.j x_2) ∧
 Int.ofNat (RkX.j x_2) <
 Int.ofNat
 (List.length
 (List.map (vecN (132800001 : Nat))
 (List.take (RkX.i x_2) (RkX.cs x_2))))) ∧
 ∃ (q : Rat),
 ∃ (n : Nat),
 ∃ (q_2 : Rat),
 ∃ (n_2 : Nat),
 ldE
 (List.map (vecN (132800001 : Nat))
 (List.take (RkX.i x_2) (RkX.cs x_2)))
 (Int.toNat (Int.ofNat (RkX.j x_2))) (0 : Nat) (6 : Nat) =
 some [Ch.r q n, Ch.r q_2 n_2] ∧
 (265600002 : Nat) + n + n_2 ≤ (4294967290 : Nat) ∧
 (132800001 : Nat) + n_2 + ((132800001 : Nat) + n) + (1 : Nat) ≤
 (4294967296 : Nat) ∧
 bif
 sgnR
 (Prod.fst (colAt (RkX.cs x_2) (RkX.i x_2)) * q_2 -
 Prod.snd (colAt (RkX.cs x_2) (RkX.i x_2)) * q) !=
 (0 : Int) then
 ∃ (x' : RkX),
 ((RkI a qs x' ∧
 RkX.i x' < List.length (ArmV.links a) ∧
 RkX.j x' ≤ RkX.i x') ∧
 List.length (ArmV.links a) - RkX.i x' =
 List.length (ArmV.links a) - RkX.i x ∧
 RkX.i x' - RkX.j x' < RkX.i x_2 - RkX.j x_2) ∧
 (6 : Nat) = (6 : Nat) ∧
 List.map (vecN (132800001 : Nat)) (RkX.cs x_2) =
 List.map (vecN (132800001 : Nat)) (RkX.cs x') ∧
 (0 : Int) = (0 : Int) ∧
 (2 : Int) =
 rk
 (prs (RkX.cs x') (RkX.i x') ||
 hit (colAt (RkX.cs x') (RkX.i x'))
 (List.take (RkX.j x') (RkX.cs x')))
 (nzs (RkX.cs x') (RkX.i x' + (1 : Nat))) ∧
 Int.ofNat (RkX.i x_2) = Int.ofNat (RkX.i x') ∧
 (0 : Nat) = (0 : Nat) ∧
 (6 : Nat) = (6 : Nat) ∧
 List.map (vecN (132800001 : Nat))
 (RkX.cs x_2) =
 List.map (vecN (132800001 : Nat))
 (RkX.cs x') ∧
 Int.ofNat (List.length (ArmV.links a)) =
 Int.ofNat
 (List.length (ArmV.links a)) ∧
 Int.ofNat (RkX.i x_2) =
 Int.ofNat (RkX.i x') ∧
 (6 : Nat) = (6 : Nat) ∧
 List.map (vecN (132800001 : Nat))
 (List.take (RkX.i x_2)
 (RkX.cs x_2)) =
 List.map
 (vecN (132800001 : Nat))
 (List.take (RkX.i x')
 (RkX.cs x')) ∧
 Int.ofNat (RkX.i x_2) =
 Int.ofNat (RkX.i x') ∧
 IntKind.wrap IntKind.i64
 (Int.ofNat (RkX.j x_2) +
 (1 : Int)) =
 Int.ofNat (RkX.j x') ∧
 (27 : Nat) = (27 : Nat) ∧
 Prod.fst
 (colAt (RkX.cs x_2)
 (RkX.i x_2)) =
 Prod.fst
 (colAt (RkX.cs x')
 (RkX.i x')) ∧
 (132800001 : Nat) ≤
 (132800001 : Nat) ∧
 Prod.snd
 (colAt
 (RkX.cs x_2)
 (RkX.i x_2)) =
 Prod.snd
 (colAt (RkX.cs x')
 (RkX.i x')) ∧
 (132800001 : Nat) ≤
 (132800001 :
 Nat) ∧
 True
 else
 ∃ (x' : RkX),
 ((RkI a qs x' ∧
 RkX.i x' < List.length (ArmV.links a) ∧
 RkX.j x' ≤ RkX.i x') ∧
 List.length (ArmV.links a) - RkX.i x' =
 List.length (ArmV.links a) - RkX.i x ∧
 RkX.i x' - RkX.j x' < RkX.i x_2 - RkX.j x_2) ∧
 (6 : Nat) = (6 : Nat) ∧
 List.map (vecN (132800001 : Nat)) (RkX.cs x_2) =
 List.map (vecN (132800001 : Nat)) (RkX.cs x') ∧
 (0 : Int) = (0 : Int) ∧
 rk
 (prs (RkX.cs x_2) (RkX.i x_2) ||
 hit (colAt (RkX.cs x_2) (RkX.i x_2))
 (List.take (RkX.j x_2) (RkX.cs x_2)))
 (nzs (RkX.cs x_2) (RkX.i x_2 + (1 : Nat))) =
 rk
 (prs (RkX.cs x') (RkX.i x') ||
 hit (colAt (RkX.cs x') (RkX.i x'))
 (List.take (RkX.j x') (RkX.cs x')))
 (nzs (RkX.cs x') (RkX.i x' + (1 : Nat))) ∧
 Int.ofNat (RkX.i x_2) = Int.ofNat (RkX.i x') ∧
 (0 : Nat) = (0 : Nat) ∧
 (6 : Nat) = (6 : Nat) ∧
 List.map (vecN (132800001 : Nat))
 (RkX.cs x_2) =
 List.map (vecN (132800001 : Nat))
 (RkX.cs x') ∧
 Int.ofNat (List.length (ArmV.links a)) =
 Int.ofNat
 (List.length (ArmV.links a)) ∧
 Int.ofNat (RkX.i x_2) =
 Int.ofNat (RkX.i x') ∧
 (6 : Nat) = (6 : Nat) ∧
 List.map (vecN (132800001 : Nat))
 (List.take (RkX.i x_2)
 (RkX.cs x_2)) =
 List.map
 (vecN (132800001 : Nat))
 (List.take (RkX.i x')
 (RkX.cs x')) ∧
 Int.ofNat (RkX.i x_2) =
 Int.ofNat (RkX.i x') ∧
 IntKind.wrap IntKind.i64
 (Int.ofNat (RkX.j x_2) +
 (1 : Int)) =
 Int.ofNat (RkX.j x') ∧
 (27 : Nat) = (27 : Nat) ∧
 Prod.fst
 (colAt (RkX.cs x_2)
 (RkX.i x_2)) =
 Prod.fst
 (colAt (RkX.cs x')
 (RkX.i x')) ∧
 (132800001 : Nat) ≤
 (132800001 : Nat) ∧
 Prod.snd
 (colAt
 (RkX.cs x_2)
 (RkX.i x_2)) =
 Prod.snd
 (colAt (RkX.cs x')
 (RkX.i x')) ∧
 (132800001 : Nat) ≤
 (132800001 :
 Nat) ∧
 True
 else
 ∃ (x' : RkX),
 (RkI a qs x' ∧
 OfNat.ofNat (0 : Nat) = (0 : Nat) ∧
 List.length (ArmV.links a) - RkX.i x' <
 List.length (ArmV.links a) - RkX.i x) ∧
 (6 : Nat) = (6 : Nat) ∧
 List.map (vecN (132800001 : Nat)) (RkX.cs x_2) =
 List.map (vecN (132800001 : Nat)) (RkX.cs x') ∧
 (0 : Int) = (0 : Int) ∧
 rk
 (prs (RkX.cs x_2) (RkX.i x_2) ||
 hit (colAt (RkX.cs x_2) (RkX.i x_2))
 (List.take (RkX.j x_2) (RkX.cs x_2)))
 (nzs (RkX.cs x_2) (RkX.i x_2 + (1 : Nat))) =
 rk (prs (RkX.cs x') (RkX.i x')) (nzs (RkX.cs x') (RkX.i x')) ∧
 (6 : Nat) = (6 : Nat) ∧
 List.map (vecN (132800001 : Nat)) (RkX.cs x_2) =
 List.map (vecN (132800001 : Nat)) (RkX.cs x') ∧
 Int.ofNat (List.length (ArmV.links a)) =
 Int.ofNat (List.length (ArmV.links a)) ∧
 IntKind.wrap IntKind.i64 (Int.ofNat (RkX.i x_2) + (1 : Int)) =
 Int.ofNat (RkX.i x') ∧
 True
 else
 K
 (AV.t
 [(false, [Ch.v (Value.int IntKind.i64 (rk (prs (RkX.cs x) (RkX.i x)) (nzs (RkX.cs x) (RkX.i x))))]),
 (false, [Ch.v (Value.int IntKind.i64 (0 : Int))])])) := by kernel_rfl
theorem g_sRank (a : ArmV) (b : Nat) (qs : List Rat) (hc : (GoodArm a) ∧ (b ≤ 400 ∧ qs.length = a.links.length)) (K : AV → Prop) (hK : ∀ (fs : List FrV) (f : FrV), fs ++ [f] = framesV (baseV a) a.links qs → fs.length = a.links.length → K (.t [(false, [.v (.int .i64 (rankV (colV f fs)))]), (false, [.v (.int .i64 0)])])) : Holds (goal_sRank a b qs K) := by
  refine ⟨?_⟩
  rw [goal_sRank_vc]
  try simp only [Int.ofNat_eq_natCast, true_and, and_true, Nat.zero_add, Nat.le_refl, true_implies, true_or, or_true]
  obtain ⟨hg, hb, hq⟩ := hc
  have hn := hg.n
  refine ⟨a, b, qs, rfl, rfl, ⟨hg, hb, hq⟩, fun fs f hf hl => ⟨⟨⟨colV f fs, 0, 0⟩, ⟨by simp [colV, hl], ⟨fs, f, hf, hl, rfl⟩, by simp⟩, rfl, rfl, rfl, by simp [colV, hl], rfl⟩, fun x hx => bif_mk (fun hp => ?_) (fun hp => ?_)⟩⟩
  · have hp : x.i < a.links.length := by have := of_decide_eq_true hp; omega
    have hxl := hx.len
    obtain ⟨u, hu⟩ : ∃ u, x.cs[x.i]? = some u := ⟨_, List.getElem?_eq_getElem (by omega)⟩
    have cu := col_at hu
    have hnz := nzs_succ hu
    have nzu : nzb u = ((sgnR u.1 != 0) || (sgnR u.2 != 0)) := by unfold nzb; rw [sgn_ne, sgn_ne]
    refine ⟨by rw [List.length_map]; omega, _, _, _, _, vec_ld (by simpa using hu), ⟨by omega, bif_mk (fun h => ⟨x, ⟨⟨hx, hp⟩, rfl⟩, rfl, ?_, rfl, rfl, rfl, by rw [cu], Nat.le_refl _, by rw [cu], Nat.le_refl _⟩) (fun h => ⟨by omega, bif_mk (fun h2 => ⟨x, ⟨⟨hx, hp⟩, rfl⟩, rfl, ?_, rfl, rfl, rfl, by rw [cu], Nat.le_refl _, by rw [cu], Nat.le_refl _⟩) (fun h2 => ⟨x, ⟨⟨hx, hp⟩, rfl⟩, rfl, ?_, rfl, rfl, rfl, by rw [cu], Nat.le_refl _, by rw [cu], Nat.le_refl _⟩)⟩)⟩, fun y hy ht => ?_⟩
    · rw [rk_max, hnz, nzu, h, Bool.true_or, Bool.or_true]
    · rw [rk_max, hnz, nzu, h2, Bool.or_true, Bool.or_true]
    · rw [hnz, nzu, h, h2, Bool.or_false, Bool.or_false]
    have hyl := hy.1.len
    have e2 : List.take ((y.i : Int).toNat - 0) (List.drop 0 (y.cs.map (vecN 132800001))) = (y.cs.take y.i).map (vecN 132800001) := by
      rw [Int.toNat_natCast, Nat.sub_zero, List.drop_zero, List.map_take]
    refine ⟨by rw [List.length_map]; omega, ⟨⟨y.cs, y.i, 0⟩, ⟨⟨⟨hyl, hy.1.cs, hy.1.le⟩, hy.2, by simp⟩, ht⟩, rfl, ?_, rfl, rfl, rfl, e2, by rw [e2, List.length_map, List.length_take]; simp only; omega, rfl, rfl, rfl⟩, fun z hz hzt => bif_mk (fun hk => ?_) (fun hk => ?_)⟩
    · show _ = rk (prs y.cs y.i || hit _ (List.take 0 y.cs)) _
      rw [List.take_zero]
      show _ = rk (prs y.cs y.i || false) _
      rw [Bool.or_false]
    · have hk : z.j < z.i := by have := of_decide_eq_true hk; omega
      have hzl := hz.1.len
      have hz2 := hz.2.1
      obtain ⟨w, hw⟩ : ∃ w, z.cs[z.j]? = some w := ⟨_, List.getElem?_eq_getElem (by omega)⟩
      have hw' : (z.cs.take z.i)[z.j]? = some w := by rw [List.getElem?_take, if_pos hk]; exact hw
      have hh := hit_succ (colAt z.cs z.i) hw
      rw [← sgn_ne] at hh
      refine ⟨by rw [List.length_map, List.length_take]; omega, _, _, _, _, vec_ld (by simpa using hw'), by omega, by omega, bif_mk (fun h => ⟨⟨z.cs, z.i, z.j + 1⟩, ⟨⟨⟨hzl, hz.1.cs, hz.1.le⟩, hz2, hk⟩, hzt, by simp only; omega⟩, rfl, ?_, rfl, rfl, rfl, rfl, rfl, by rw [w64 (by omega)]; simp, rfl, rfl⟩) (fun h => ⟨⟨z.cs, z.i, z.j + 1⟩, ⟨⟨⟨hzl, hz.1.cs, hz.1.le⟩, hz2, hk⟩, hzt, by simp only; omega⟩, rfl, ?_, rfl, rfl, rfl, rfl, rfl, by rw [w64 (by omega)]; simp, rfl, rfl⟩)⟩
      · have h' : (sgnR (crs (colAt z.cs z.i) w) != 0) = true := h
        show 2 = rk (prs z.cs z.i || hit (colAt z.cs z.i) (z.cs.take (z.j + 1))) _
        rw [hh, h', Bool.or_true, Bool.or_true]
        rfl
      · have h' : (sgnR (crs (colAt z.cs z.i) w) != 0) = false := h
        show _ = rk (prs z.cs z.i || hit (colAt z.cs z.i) (z.cs.take (z.j + 1))) _
        rw [hh, h', Bool.or_false]
    · have hk : z.j = z.i := by have := of_decide_eq_false hk; have := hz.2.2; omega
      have hzl := hz.1.len
      have hz2 := hz.2.1
      obtain ⟨w, hw⟩ : ∃ w, z.cs[z.i]? = some w := ⟨_, List.getElem?_eq_getElem (by omega)⟩
      refine ⟨⟨z.cs, z.i + 1, 0⟩, ⟨⟨hzl, hz.1.cs, hz2⟩, by simp only; omega⟩, rfl, ?_, rfl, by rw [w64 (by omega)]; simp⟩
      show _ = rk (prs z.cs (z.i + 1)) _
      rw [prs_succ hw, hk, col_at hw]
  · have hp : x.i = a.links.length := by have := of_decide_eq_false hp; have := hx.le; omega
    obtain ⟨fs', f', h1, h2, h3⟩ := hx.cs
    have hxl := hx.len
    have := hK fs' f' h1 h2
    unfold rankV at this
    rw [← h3, hxl, ← hp] at this
    exact this
def c_sRank : Ctr := fun as0 => match as0 with
  | [.x true xs, .x false [.s 3 ys]] => some fun K => ∃ (a : ArmV) (b : Nat) (qs : List Rat), xs = armCh a ∧ ys = lR b qs ∧ ((GoodArm a) ∧ (b ≤ 400 ∧ qs.length = a.links.length)) ∧ (∀ (fs : List FrV) (f : FrV), fs ++ [f] = framesV (baseV a) a.links qs → fs.length = a.links.length → K (.t [(false, [.v (.int .i64 (rankV (colV f fs)))]), (false, [.v (.int .i64 0)])]))
  | _ => none
theorem ok_sRank : CtrOK Tryd.prog tabG debT 44 c_sRank := by
  refine ⟨enters Tryd.func44 (by kernel_rfl), fun l T hT K hK => ?_⟩
  unfold c_sRank at hT
  split at hT
  · cases hT
    obtain ⟨a, b, qs, rfl, rfl, hc, hK⟩ := hK
    exact spec_ofL T120sok mixed Tryd.func44 (by kernel_rfl) (by kernel_rfl) (by rfl) (g_sRank _ _ _ hc K hK)
  · cases hT
def L121 : List (Nat × Ctr) := (44, c_sRank) :: L120s
def T121 : Tabs := mkT L121 M79 X4
theorem L121ok : CtrsOK Tryd.prog tabG debT L121 := .cons ok_sRank L120sok
theorem T121ok : TabsOK Tryd.prog tabG debT T121 := mkTok L121ok M79ok X4ok
def ot_sIs : OT := fun _ => ([], [])
def goal_sIs (a : ArmV) (b : Nat) (qs : List Rat) (K : AV → Prop) : Prop := goalL T121 ot_sIs noL Tryd.f31 [armA a, sR b qs] K
theorem goal_sIs_vc (a : ArmV) (b : Nat) (qs : List Rat) (K : AV → Prop) : goal_sIs a b qs K = (
 ∃ (a_1 : ArmV),
 ∃ (b_1 : Nat),
 ∃ (qs_1 : List Rat),
 [Ch.v (Value.string (ArmV.name a)), Ch.r (ArmV.x a) (63 : Nat), Ch.r (ArmV.y a) (63 : Nat), Ch.v (Value.bool (ArmV.half a)),
 Ch.r (ArmV.t a) (63 : Nat), Ch.s (16 : Nat) (List.map linkCh (ArmV.links a))] =
 [Ch.v (Value.string (ArmV.name a_1)), Ch.r (ArmV.x a_1) (63 : Nat), Ch.r (ArmV.y a_1) (63 : Nat),
 Ch.v (Value.bool (ArmV.half a_1)), Ch.r (ArmV.t a_1) (63 : Nat), Ch.s (16 : Nat) (List.map linkCh (ArmV.links a_1))] ∧
 lR b qs = lR b_1 qs_1 ∧
 (GoodArm a_1 ∧ b_1 ≤ (400 : Nat) ∧ List.length qs_1 = List.length (ArmV.links a_1)) ∧
 ∀ (fs : List FrV) (f : FrV),
 fs ++ [f] = framesV (baseV a_1) (ArmV.links a_1) qs_1 →
 List.length fs = List.length (ArmV.links a_1) →
 K
 (AV.t
 [(false, [Ch.v (Value.bool (decide (rankV (colV f fs) < (2 : Int))))]),
 (false, [Ch.v (Value.int IntKind.i64 (0 : Int))])])) := by kernel_rfl
theorem g_sIs (a : ArmV) (b : Nat) (qs : List Rat) (hc : (GoodArm a) ∧ (b ≤ 400 ∧ qs.length = a.links.length)) (K : AV → Prop) (hK : ∀ (fs : List FrV) (f : FrV), fs ++ [f] = framesV (baseV a) a.links qs → fs.length = a.links.length → K (.t [(false, [.v (.bool (decide (rankV (colV f fs) < 2)))]), (false, [.v (.int .i64 0)])])) : Holds (goal_sIs a b qs K) := by
  refine ⟨?_⟩
  rw [goal_sIs_vc]
  try simp only [Int.ofNat_eq_natCast, true_and, and_true, Nat.zero_add, Nat.le_refl, true_implies, true_or, or_true]
  exact ⟨a, b, qs, rfl, rfl, hc, fun fs f hf hl => hK fs f hf hl⟩
def c_sIs : Ctr := fun as0 => match as0 with
  | [.x true xs, .x false [.s 3 ys]] => some fun K => ∃ (a : ArmV) (b : Nat) (qs : List Rat), xs = armCh a ∧ ys = lR b qs ∧ ((GoodArm a) ∧ (b ≤ 400 ∧ qs.length = a.links.length)) ∧ (∀ (fs : List FrV) (f : FrV), fs ++ [f] = framesV (baseV a) a.links qs → fs.length = a.links.length → K (.t [(false, [.v (.bool (decide (rankV (colV f fs) < 2)))]), (false, [.v (.int .i64 0)])]))
  | _ => none
theorem ok_sIs : CtrOK Tryd.prog tabG debT 31 c_sIs := by
  refine ⟨enters Tryd.func31 (by kernel_rfl), fun l T hT K hK => ?_⟩
  unfold c_sIs at hT
  split at hT
  · cases hT
    obtain ⟨a, b, qs, rfl, rfl, hc, hK⟩ := hK
    exact spec_ofL T121ok mixed Tryd.func31 (by kernel_rfl) (by kernel_rfl) (by rfl) (g_sIs _ _ _ hc K hK)
  · cases hT
def L122 : List (Nat × Ctr) := (31, c_sIs) :: L121
def T122 : Tabs := mkT L122 M79 X4
theorem L122ok : CtrsOK Tryd.prog tabG debT L122 := .cons ok_sIs L121ok
theorem T122ok : TabsOK Tryd.prog tabG debT T122 := mkTok L122ok M79ok X4ok
-- the newest table: L122 M79 X4 T122
end Go.Proofs
/- two, null, Still. -/
namespace Go.Proofs
open Go Go.Eng
def goal_cloneL (ls : List LinkV) : Prop := goalM (X := Unit) T122 noO noL Tryd.f74 [.x false [.s 16 (ls.map linkCh)]] [] (fun _ => True) (fun _ => ⟨[(2, .x false [.w 0 0 ls.length])], [(0, rowLk ls)]⟩)
theorem goal_cloneL_vc (ls : List LinkV) : goal_cloneL ls = (
 List.map linkCh ls ≠ [] ∧
 (((0 : Nat) + List.length (List.map linkCh ls)) * (224 : Nat) ≤ (140737488355328 : Nat) ∧
 (0 : Nat) + List.length (List.map linkCh ls) ≤ (9223372036854775807 : Nat)) ∧
 ∃ (x : Unit),
 True ∧
 (0 : Nat) = (0 : Nat) ∧
 (0 : Nat) + List.length (List.map linkCh ls) = List.length ls ∧
 (71 : Nat) = (71 : Nat) ∧
 (16 : Nat) = (16 : Nat) ∧ (List.map linkCh ls = List.map linkCh ls ∨ RowLE (List.map linkCh ls) (List.map linkCh ls)) ∧ True) := by kernel_rfl
theorem g_cloneL (ls : List LinkV) (h : ls ≠ []) (hl : ls.length ≤ 3) : Holds (goal_cloneL ls) := by
  refine ⟨?_⟩
  rw [goal_cloneL_vc]
  simp only [Int.ofNat_eq_natCast, true_and, and_true, Nat.zero_add, Nat.le_refl, true_implies, true_or, or_true]
  rw [List.length_map]
  exact ⟨fun e => h (by simpa using e), by omega, (), rfl⟩
def c_cloneL : CtrM := fun as0 H d => match as0 with
  | [.x false [.s 16 xs]] => match H d with
    | none => some fun K => ∃ ls : List LinkV, xs = ls.map linkCh ∧ ls ≠ [] ∧ ls.length ≤ 3 ∧ K (.x false [.w d 0 ls.length]) (backH [(0, d)] (lookH [(0, rowLk ls)]) H)
    | some _ => none
  | _ => none
theorem ok_cloneL : CtrMOK Tryd.prog tabG debT 74 c_cloneL := by
  refine ⟨enters Tryd.func74 (by kernel_rfl), fun l H d T hT K hK => ?_⟩
  unfold c_cloneL at hT
  split at hT
  · split at hT
    · rename_i hd
      cases hT
      obtain ⟨ls, rfl, h0, hl, hK⟩ := hK
      exact specM_new T122ok mixed Tryd.func74 (by kernel_rfl) (by kernel_rfl) (by rfl) (by rfl) hd (by kernel_rfl) (g_cloneL ls h0 hl) hK
    · cases hT
  · cases hT
def M122 : List (Nat × CtrM) := (74, c_cloneL) :: M79
def T123 : Tabs := mkT L122 M122 X4
theorem M122ok : CtrMsOK Tryd.prog tabG debT M122 := .cons ok_cloneL M79ok
theorem T123ok : TabsOK Tryd.prog tabG debT T123 := mkTok L122ok M122ok X4ok
def inv_null (l : List (Rat × Rat)) (n : Nat) : LI := fun _ => .inv ⟨Nat, fun i => ⟨[(0, sVv n l), (3, .x false [.p 3 0]), (4, .x false [.p 4 0]), (12, sVv n l), (13, iA .i64 l.length), (14, iA .i64 i)], [(3, .box 25 [.r ((0 : Int) : Rat) 64]), (4, .box 25 [.r ((1 : Int) : Rat) 64])]⟩, fun i => i ≤ l.length ∧ ∀ (j : Nat) u, j < i → l[j]? = some u → nzb u = true, fun i => l.length - i, fun _ => 0⟩
structure NullW (l : List (Rat × Rat)) (wl : List (Rat × Nat)) : Prop where
  len : wl.length = l.length
  dot : dotV l (wl.map (·.1)) 0 0 = (0, 0)
  nz : ∃ p ∈ wl, p.1 ≠ 0
  rank : rankV l < l.length
theorem vec_ldx {n : Nat} {l : List (Rat × Rat)} {i : Nat} {a : Rat × Rat} (h : l[i]? = some a) : ldE (l.map (vecN n)) i 0 3 = some [.r a.1 n] := by
  simp only [ldE, List.getElem?_map, h]; rfl
theorem vec_ldy {n : Nat} {l : List (Rat × Rat)} {i : Nat} {a : Rat × Rat} (h : l[i]? = some a) : ldE (l.map (vecN n)) i 3 3 = some [.r a.2 n] := by
  simp only [ldE, List.getElem?_map, h]; rfl
theorem rank1 (u : Rat × Rat) : rankV [u] = rk false (nzb u) := by
  show rk _ (nzb u || false) = _
  rw [Bool.or_false]; rfl
theorem rank2 (u v : Rat × Rat) : rankV [u, v] = rk (!(decide (crs v u = 0))) (nzb u || nzb v) := by
  show rk (hit u [] || ((!(decide (crs v u = 0)) || false) || false)) (nzb u || (nzb v || false)) = _
  rw [Bool.or_false, Bool.or_false, Bool.or_false]; rfl
theorem rk_f (n : Bool) : rk (!true) n < ((2 : Nat) : Int) := by cases n <;> decide
theorem rk_le (p n : Bool) : rk p n ≤ 2 := by cases p <;> cases n <;> decide
theorem rank3 (u v w : Rat × Rat) : rankV [u, v, w] < 3 := by
  have := rk_le (prs [u, v, w] 3) (nzs [u, v, w] 3)
  have e : rankV [u, v, w] = rk (prs [u, v, w] 3) (nzs [u, v, w] 3) := rfl
  rw [e]; omega
theorem crs_zero_r {u v : Rat × Rat} (h : v.1 = 0) (k : v.2 = 0) : crs u v = 0 := by unfold crs; rw [h, k]; grind
theorem crs_zero_l {u v : Rat × Rat} (h : u.1 = 0) (k : u.2 = 0) : crs u v = 0 := by unfold crs; rw [h, k]; grind
theorem crs_anti (u v : Rat × Rat) : crs u v = -crs v u := by unfold crs; grind
theorem nzb_false {u : Rat × Rat} (h : u.1 = 0) (k : u.2 = 0) : nzb u = false := by unfold nzb; rw [h, k]; rfl
theorem nzb_true {u : Rat × Rat} (h : nzb u = true) : u.1 ≠ 0 ∨ u.2 ≠ 0 := by
  unfold nzb at h
  simp at h
  exact h
theorem len3 {l : List (Rat × Rat)} (h : 1 ≤ l.length ∧ l.length ≤ 3) : (∃ u, l = [u]) ∨ (∃ u v, l = [u, v]) ∨ (∃ u v w, l = [u, v, w]) := by
  match l, h with
  | [u], _ => exact .inl ⟨u, rfl⟩
  | [u, v], _ => exact .inr (.inl ⟨u, v, rfl⟩)
  | [u, v, w], _ => exact .inr (.inr ⟨u, v, w, rfl⟩)
  | _ :: _ :: _ :: _ :: _, h => simp at h
/-- A column that is 0. -/
theorem null_zero {l : List (Rat × Rat)} {x : Nat} {u : Rat × Rat} (hl : 1 ≤ l.length ∧ l.length ≤ 3) (hu : l[x]? = some u) (h1 : u.1 = 0) (h2 : u.2 = 0) : NullW l (((([0, 0, 0] : List Rat).set x 1).take l.length).map fun q => (q, 64)) := by
  have z : ∀ q : Rat, q * 0 = 0 := Rat.mul_zero
  obtain ⟨a, rfl⟩ | ⟨a, b, rfl⟩ | ⟨a, b, c, rfl⟩ := len3 hl
  · match x, hu with
    | 0, hu =>
      cases hu
      refine ⟨rfl, ?_, ⟨(1, 64), by simp, by decide⟩, by rw [rank1, nzb_false h1 h2]; show rk false false < ((1 : Nat) : Int); decide⟩
      simp [dotV, h1, h2] <;> grind
  · match x, hu with
    | 0, hu =>
      cases hu
      refine ⟨rfl, ?_, ⟨(1, 64), by simp, by decide⟩, by rw [rank2, decide_eq_true (crs_zero_r h1 h2)]; exact rk_f _⟩
      simp [dotV, h1, h2] <;> grind
    | 1, hu =>
      cases hu
      refine ⟨rfl, ?_, ⟨(1, 64), by simp, by decide⟩, by rw [rank2, decide_eq_true (crs_zero_l h1 h2)]; exact rk_f _⟩
      simp [dotV, h1, h2] <;> grind
  · match x, hu with
    | 0, hu =>
      cases hu
      refine ⟨rfl, ?_, ⟨(1, 64), by simp, by decide⟩, rank3 _ _ _⟩
      simp [dotV, h1, h2] <;> grind
    | 1, hu =>
      cases hu
      refine ⟨rfl, ?_, ⟨(1, 64), by simp, by decide⟩, rank3 _ _ _⟩
      simp [dotV, h1, h2] <;> grind
    | 2, hu =>
      cases hu
      refine ⟨rfl, ?_, ⟨(1, 64), by simp, by decide⟩, rank3 _ _ _⟩
      simp [dotV, h1, h2] <;> grind
/-- The first two columns lie on a line. -/
theorem null_line {u v : Rat × Rat} (h : crs u v = 0) (hv : nzb v = true) : (v.1 ≠ 0 → u.1 + v.1 * -(u.1 / v.1) = 0 ∧ u.2 + v.2 * -(u.1 / v.1) = 0) ∧ (v.1 = 0 → v.2 ≠ 0 ∧ u.1 + v.1 * -(u.2 / v.2) = 0 ∧ u.2 + v.2 * -(u.2 / v.2) = 0) := by
  unfold crs at h
  refine ⟨fun h1 => ?_, fun h1 => ?_⟩
  · have e := Rat.div_mul_cancel (a := u.1) h1
    generalize u.1 / v.1 = r at *
    refine ⟨by grind, cancel h1 (by grind)⟩
  · have h2 : v.2 ≠ 0 := (nzb_true hv).elim (fun h => absurd h1 h) id
    have e := Rat.div_mul_cancel (a := u.2) h2
    generalize u.2 / v.2 = r at *
    refine ⟨h2, ?_, by grind⟩
    rw [h1] at h ⊢
    have : u.1 * v.2 = 0 := by grind
    rcases Rat.mul_eq_zero.1 this with h | h
    · rw [h]; grind
    · exact absurd h h2
def ot_kTwo : OT := fun id => bif id.beq 3 then ([0, 1, 3, 4, 2, 5, 6, 7, 8], [[], [0], [1, 0], [], [3], [2, 1, 0, 4, 3], [5, 2, 1, 0, 4, 3], [0, 1, 2, 3, 4, 5, 6], [7, 0, 1, 2, 3, 4, 5, 6]]) else ([], [])
def goal_kTwo (l : List Int) (K : AV → Prop) : Prop := goalL T123 ot_kTwo noL Tryd.f34 [.x false [.s 1 (ints l)]] K
theorem goal_kTwo_vc (l : List Int) (K : AV → Prop) : goal_kTwo l K = (
 ∃ (l_1 : List Int),
 ints l = ints l_1 ∧
 List.length l_1 ≤ (9223372036854775807 : Nat) ∧
 ∀ (a : ArmV),
 Made a ∧ (1 : Nat) ≤ List.length (ArmV.links a) →
 (((3 : Nat) + List.length (ints l)) * (8 : Nat) ≤ (140737488355328 : Nat) ∧
 (3 : Nat) + List.length (ints l) ≤ (9223372036854775807 : Nat)) ∧
 ∃ (l_2 : List Int),
 List.take ((3 : Nat) + List.length (ints l))
 ([Ch.v (Value.int IntKind.i64 (0 : Int))] ::
 [Ch.v (Value.int IntKind.i64 (0 : Int))] :: [Ch.v (Value.int IntKind.i64 (2 : Int))] :: ints l) =
 ints l_2 ∧
 List.length l_2 ≤ (9223372036854775807 : Nat) ∧
 ∀ (a_2 : ArmV),
 Made a_2 ∧ (1 : Nat) ≤ List.length (ArmV.links a_2) →
 ∃ (ls : List LinkV),
 List.map linkCh (ArmV.links a) = List.map linkCh ls ∧
 ls ≠ [] ∧
 List.length ls ≤ (3 : Nat) ∧
 ((List.length ls + List.length (List.map linkCh (ArmV.links a_2))) * (224 : Nat) ≤ (140737488355328 : Nat) ∧
 List.length ls + List.length (List.map linkCh (ArmV.links a_2)) ≤ (9223372036854775807 : Nat)) ∧
 ((0 : Int) ≤ (0 : Int) ∧
 (0 : Int) ≤ (2 : Int) ∧
 (2 : Int) ≤ Int.ofNat (List.length ls + List.length (List.map linkCh (ArmV.links a_2)))) ∧
 K
 (AV.x true
 [Ch.v (Value.string (ArmV.name a)), Ch.r (ArmV.x a) (63 : Nat), Ch.r (ArmV.y a) (63 : Nat),
 Ch.v (Value.bool (ArmV.half a)), Ch.r (ArmV.t a) (63 : Nat),
 Ch.s (16 : Nat)
 (List.take (2 : Nat)
 (List.drop (0 : Nat)
 (List.take (List.length ls) (List.map linkCh ls) ++ List.map linkCh (ArmV.links a_2))))])) := by kernel_rfl
theorem g_kTwo (l : List Int) (hc : (l.length * 8 ≤ 140737488351232)) (K : AV → Prop) (hK : ∀ a : ArmV, GoodArm a → a.links.length = 2 → K (armA a)) : Holds (goal_kTwo l K) := by
  refine ⟨?_⟩
  rw [goal_kTwo_vc]
  try simp only [Int.ofNat_eq_natCast, true_and, and_true, Nat.zero_add, Nat.le_refl, true_implies, true_or, or_true]
  refine ⟨l, rfl, by omega, fun a ha => ⟨by rw [ints_len]; omega, 0 :: 0 :: 2 :: l, List.take_of_length_le (by simp [ints]; omega), by simp only [List.length_cons]; omega, fun a2 ha2 => ?_⟩⟩
  have g1 := MadeA.good ha
  have g2 := MadeA.good ha2
  have n1 := g1.n
  have n2 := g2.n
  refine ⟨a.links, rfl, fun e => by rw [e] at n1; simp at n1, n1.2, by rw [List.length_map]; omega, by rw [List.length_map]; omega, ?_⟩
  have := hK ⟨a.name, a.x, a.y, a.half, a.t, (a.links ++ a2.links).take 2⟩ ⟨g1.name, by simp; omega, g1.small, g1.half, fun L hL => (List.mem_append.1 (List.mem_of_mem_take hL)).elim (g1.links L) (g2.links L)⟩ (by simp; omega)
  rw [show List.take a.links.length (List.map linkCh a.links) = List.map linkCh a.links from List.take_of_length_le (by simp), List.drop_zero, ← List.map_append, ← List.map_take]
  exact this
def c_kTwo : Ctr := fun as0 => match as0 with
  | [.x false [.s 1 xs]] => some fun K => ∃ (l : List Int), xs = ints l ∧ ((l.length * 8 ≤ 140737488351232)) ∧ (∀ a : ArmV, GoodArm a → a.links.length = 2 → K (armA a))
  | _ => none
theorem ok_kTwo : CtrOK Tryd.prog tabG debT 34 c_kTwo := by
  refine ⟨enters Tryd.func34 (by kernel_rfl), fun l T hT K hK => ?_⟩
  unfold c_kTwo at hT
  split at hT
  · cases hT
    obtain ⟨l, rfl, hc, hK⟩ := hK
    exact spec_ofL T123ok mixed Tryd.func34 (by kernel_rfl) (by kernel_rfl) (by rfl) (g_kTwo _ hc K hK)
  · cases hT
def L124 : List (Nat × Ctr) := (34, c_kTwo) :: L122
def T124 : Tabs := mkT L124 M122 X4
theorem L124ok : CtrsOK Tryd.prog tabG debT L124 := .cons ok_kTwo L122ok
theorem T124ok : TabsOK Tryd.prog tabG debT T124 := mkTok L124ok M122ok X4ok
def ot_sNull : OT := fun id => bif id.beq 10 then ([0, 1, 2, 3, 4, 5, 6, 7, 8, 9, 10, 11, 12, 13], [[], [0], [1, 0], [2, 1, 0], [3, 2, 1, 0], [4, 3, 2, 1, 0], [5, 4, 3, 2, 1, 0], [3, 2, 1, 0], [7, 3, 2, 1, 0], [8, 7, 3, 2, 1, 0], [6, 5, 4, 3, 2, 1, 0, 9, 8, 7], [10, 6, 5, 4, 3, 2, 1, 0, 9, 8, 7], [11, 10, 6, 5, 4, 3, 2, 1, 0, 9, 8, 7], [3, 2, 1, 0, 12, 11, 10, 6, 5, 4, 9, 8, 7]]) else bif id.beq 11 then ([0, 1, 2, 3, 4, 5, 6, 7, 12, 8, 9, 10, 11, 13, 14], [[], [0], [1, 0], [2, 1, 0], [], [4], [5, 4], [6, 5, 4], [3, 2, 1, 0, 7, 6, 5, 4], [8, 3, 2, 1, 0, 7, 6, 5, 4], [9, 8, 3, 2, 1, 0, 7, 6, 5, 4], [9, 8, 3, 2, 1, 0, 7, 6, 5, 4], [], [12, 10, 9, 8, 3, 2, 1, 0, 7, 6, 5, 4], [11, 9, 8, 3, 2, 1, 0, 7, 6, 5, 4, 13, 12, 10]]) else bif id.beq 13 then ([0, 1, 2, 3, 4, 5, 6, 7, 8, 9, 10, 11, 12], [[], [0], [1, 0], [2, 1, 0], [], [4], [5, 4], [6, 5, 4], [3, 2, 1, 0, 7, 6, 5, 4], [8, 3, 2, 1, 0, 7, 6, 5, 4], [9, 8, 3, 2, 1, 0, 7, 6, 5, 4], [9, 8, 3, 2, 1, 0, 7, 6, 5, 4], [10, 9, 8, 3, 2, 1, 0, 7, 6, 5, 4]]) else bif id.beq 14 then ([0, 1, 3, 5, 6, 2, 4, 7, 8], [[], [], [1], [], [0, 2, 1, 3], [], [5], [4, 0, 2, 1, 3, 6, 5], [7, 4, 0, 2, 1, 3, 6, 5]]) else bif id.beq 16 then ([0, 1, 2, 3, 4, 5, 7, 8, 9, 10, 11, 12, 14, 15, 16, 17, 18, 19, 6, 13, 20, 21, 22], [[], [0], [1, 0], [], [3], [4, 3], [2, 1, 0, 5, 4, 3], [], [7], [8, 7], [], [10], [11, 10], [9, 8, 7, 12, 11, 10, 6, 2, 1, 0, 5, 4, 3], [], [14], [15, 14], [], [17], [18, 17], [16, 15, 14, 19, 18, 17, 13, 9, 8, 7, 12, 11, 10, 6, 2, 1, 0, 5, 4, 3], [6, 2, 1, 0, 5, 4, 3, 13, 9, 8, 7, 12, 11, 10, 20, 16, 15, 14, 19, 18, 17], [21, 6, 2, 1, 0, 5, 4, 3, 13, 9, 8, 7, 12, 11, 10, 20, 16, 15, 14, 19, 18, 17]]) else ([], [])
def goal_sNull (l : List (Rat × Rat)) (n : Nat) (K : AV → Prop) : Prop := goalL T124 ot_sNull (inv_null l n) Tryd.f82 [.x false [.s 6 (l.map (vecN n))]] K
theorem goal_sNull_vc (l : List (Rat × Rat)) (n : Nat) (K : AV → Prop) : goal_sNull l n K = (
 ((-9223372036854775808 : Int) ≤ (0 : Int) ∧ (0 : Int) < (9223372036854775808 : Int)) ∧
 ((-9223372036854775808 : Int) ≤ (1 : Int) ∧ (1 : Int) < (9223372036854775808 : Int)) ∧
 (∃ (x : Nat),
 ((x ≤ List.length l ∧ ∀ (j : Nat) (u : Rat × Rat), j < x → l[j]? = some u → nzb u = true) ∧ OfNat.ofNat (0 : Nat) = (0 : Nat)) ∧
 (6 : Nat) = (6 : Nat) ∧
 List.map (vecN n) l = List.map (vecN n) l ∧
 (0 : Nat) = (0 : Nat) ∧
 (0 : Nat) = (0 : Nat) ∧
 (6 : Nat) = (6 : Nat) ∧
 List.map (vecN n) l = List.map (vecN n) l ∧
 Int.ofNat (List.length (List.map (vecN n) l)) = Int.ofNat (List.length l) ∧
 (0 : Int) = Int.ofNat x ∧
 (25 : Nat) = (25 : Nat) ∧
 (((0 : Int) : Int) : Rat) = (((0 : Int) : Int) : Rat) ∧
 (64 : Nat) ≤ (64 : Nat) ∧
 (25 : Nat) = (25 : Nat) ∧ (((1 : Int) : Int) : Rat) = (((1 : Int) : Int) : Rat) ∧ (64 : Nat) ≤ (64 : Nat) ∧ True) ∧
 ∀ (x : Nat),
 (x ≤ List.length l ∧ ∀ (j : Nat) (u : Rat × Rat), j < x → l[j]? = some u → nzb u = true) →
 OfNat.ofNat (0 : Nat) = (0 : Nat) →
 bif decide (Int.ofNat x < Int.ofNat (List.length l)) then
 ((0 : Int) ≤ Int.ofNat x ∧ Int.ofNat x < Int.ofNat (List.length (List.map (vecN n) l))) ∧
 ∃ (q : Rat),
 ∃ (n_1 : Nat),
 ∃ (q_1 : Rat),
 ∃ (n_2 : Nat),
 ldE (List.map (vecN n) l) (Int.toNat (Int.ofNat x)) (0 : Nat) (6 : Nat) = some [Ch.r q n_1, Ch.r q_1 n_2] ∧
 n_1 ≤ (4294967296 : Nat) ∧
 bif sgnR q == (0 : Int) then
 n_2 ≤ (4294967296 : Nat) ∧
 bif sgnR q_1 == (0 : Int) then
 ((0 : Int) ≤ (0 : Int) ∧
 (0 : Int) ≤ Int.ofNat (List.length (List.map (vecN n) l)) ∧
 Int.ofNat (List.length (List.map (vecN n) l)) ≤ (3 : Int)) ∧
 ((0 : Int) ≤ Int.ofNat x ∧
 Int.ofNat x < Int.ofNat (Int.toNat (Int.ofNat (List.length (List.map (vecN n) l))) - (0 : Nat))) ∧
 (0 : Nat) + Int.toNat (Int.ofNat x) < (3 : Nat) ∧
 K
 (AV.x false
 [Ch.s (3 : Nat)
 (List.take (Int.toNat (Int.ofNat (List.length (List.map (vecN n) l))) - (0 : Nat))
 (List.drop (0 : Nat)
 (List.set
 [[Ch.r (((0 : Int) : Int) : Rat) (64 : Nat)], [Ch.r (((0 : Int) : Int) : Rat) (64 : Nat)],
 [Ch.r (((0 : Int) : Int) : Rat) (64 : Nat)]]
 ((0 : Nat) + Int.toNat (Int.ofNat x)) [Ch.r (((1 : Int) : Int) : Rat) (64 : Nat)])))])
 else
 ∃ (x' : Nat),
 ((x' ≤ List.length l ∧ ∀ (j : Nat) (u : Rat × Rat), j < x' → l[j]? = some u → nzb u = true) ∧
 OfNat.ofNat (0 : Nat) = (0 : Nat) ∧ List.length l - x' < List.length l - x) ∧
 (6 : Nat) = (6 : Nat) ∧
 List.map (vecN n) l = List.map (vecN n) l ∧
 (0 : Nat) = (0 : Nat) ∧
 (0 : Nat) = (0 : Nat) ∧
 (6 : Nat) = (6 : Nat) ∧
 List.map (vecN n) l = List.map (vecN n) l ∧
 Int.ofNat (List.length l) = Int.ofNat (List.length l) ∧
 IntKind.wrap IntKind.i64 (Int.ofNat x + (1 : Int)) = Int.ofNat x' ∧
 (25 : Nat) = (25 : Nat) ∧
 (((0 : Int) : Int) : Rat) = (((0 : Int) : Int) : Rat) ∧
 (64 : Nat) ≤ (64 : Nat) ∧
 (25 : Nat) = (25 : Nat) ∧
 (((1 : Int) : Int) : Rat) = (((1 : Int) : Int) : Rat) ∧ (64 : Nat) ≤ (64 : Nat) ∧ True
 else
 ∃ (x' : Nat),
 ((x' ≤ List.length l ∧ ∀ (j : Nat) (u : Rat × Rat), j < x' → l[j]? = some u → nzb u = true) ∧
 OfNat.ofNat (0 : Nat) = (0 : Nat) ∧ List.length l - x' < List.length l - x) ∧
 (6 : Nat) = (6 : Nat) ∧
 List.map (vecN n) l = List.map (vecN n) l ∧
 (0 : Nat) = (0 : Nat) ∧
 (0 : Nat) = (0 : Nat) ∧
 (6 : Nat) = (6 : Nat) ∧
 List.map (vecN n) l = List.map (vecN n) l ∧
 Int.ofNat (List.length l) = Int.ofNat (List.length l) ∧
 IntKind.wrap IntKind.i64 (Int.ofNat x + (1 : Int)) = Int.ofNat x' ∧
 (25 : Nat) = (25 : Nat) ∧
 (((0 : Int) : Int) : Rat) = (((0 : Int) : Int) : Rat) ∧
 (64 : Nat) ≤ (64 : Nat) ∧
 (25 : Nat) = (25 : Nat) ∧ (((1 : Int) : Int) : Rat) = (((1 : Int) : Int) : Rat) ∧ (64 : Nat) ≤ (64 : Nat) ∧ True
 else
 bif decide (Int.ofNat (List.length (List.map (vecN n) l)) ≥ (2 : Int)) then
 ((0 : Int) ≤ (0 : Int) ∧ (0 : Int) < Int.ofNat (List.length (List.map (vecN n) l))) ∧
 ∃ (q : Rat),
 ∃ (n_1 : Nat),
 ∃ (q_1 : Rat),
 ∃ (n_2 : Nat),
 ldE (List.map (vecN n) l) (0 : Nat) (0 : Nat) (6 : Nat) = some [Ch.r q n_1, Ch.r q_1 n_2] ∧
 ((0 : Int) ≤ (1 : Int) ∧ (1 : Int) < Int.ofNat (List.length (List.map (vecN n) l))) ∧
 ∃ (q_2 : Rat),
 ∃ (n_3 : Nat),
 ∃ (q_3 : Rat),
 ∃ (n_4 : Nat),
 ldE (List.map (vecN n) l) (1 : Nat) (0 : Nat) (6 : Nat) = some [Ch.r q_2 n_3, Ch.r q_3 n_4] ∧
 n_1 + n_2 + n_3 + n_4 ≤ (4294967290 : Nat) ∧
 n_1 + n_4 + (n_2 + n_3) + (1 : Nat) ≤ (4294967296 : Nat) ∧
 bif sgnR (q * q_3 - q_1 * q_2) == (0 : Int) then
 ((0 : Int) ≤ (0 : Int) ∧ (0 : Int) < Int.ofNat (List.length (List.map (vecN n) l))) ∧
 ∃ (q : Rat),
 ∃ (n_5 : Nat),
 ldE (List.map (vecN n) l) (0 : Nat) (0 : Nat) (3 : Nat) = some [Ch.r q n_5] ∧
 ((0 : Int) ≤ (1 : Int) ∧ (1 : Int) < Int.ofNat (List.length (List.map (vecN n) l))) ∧
 ∃ (q_4 : Rat),
 ∃ (n_6 : Nat),
 ldE (List.map (vecN n) l) (1 : Nat) (0 : Nat) (3 : Nat) = some [Ch.r q_4 n_6] ∧
 n_5 + n_6 ≤ (4294967296 : Nat) ∧
 (q_4 ≠ (OfNat.ofNat (0 : Nat) : Rat) →
 n_5 + n_6 ≤ (4294967296 : Nat) ∧
 ((0 : Int) ≤ (0 : Int) ∧
 (0 : Int) ≤ Int.ofNat (List.length (List.map (vecN n) l)) ∧
 Int.ofNat (List.length (List.map (vecN n) l)) ≤ (3 : Int)) ∧
 K
 (AV.x false
 [Ch.s (3 : Nat)
 (List.take
 (Int.toNat
 (Int.ofNat (List.length (List.map (vecN n) l))) -
 (0 : Nat))
 [[Ch.r (((1 : Int) : Int) : Rat) (64 : Nat)],
 [Ch.r (-(q / q_4)) (n_5 + n_6)],
 [Ch.r (((0 : Int) : Int) : Rat) (64 : Nat)]])])) ∧
 (q_4 = (OfNat.ofNat (0 : Nat) : Rat) →
 ((0 : Int) ≤ (0 : Int) ∧
 (0 : Int) < Int.ofNat (List.length (List.map (vecN n) l))) ∧
 ∃ (q : Rat),
 ∃ (n_7 : Nat),
 ldE (List.map (vecN n) l) (0 : Nat) (3 : Nat) (3 : Nat) =
 some [Ch.r q n_7] ∧
 ((0 : Int) ≤ (1 : Int) ∧
 (1 : Int) < Int.ofNat (List.length (List.map (vecN n) l))) ∧
 ∃ (q_5 : Rat),
 ∃ (n_8 : Nat),
 ldE (List.map (vecN n) l) (1 : Nat) (3 : Nat) (3 : Nat) =
 some [Ch.r q_5 n_8] ∧
 n_7 + n_8 ≤ (4294967296 : Nat) ∧
 (q_5 ≠ (OfNat.ofNat (0 : Nat) : Rat) →
 n_7 + n_8 ≤ (4294967296 : Nat) ∧
 ((0 : Int) ≤ (0 : Int) ∧
 (0 : Int) ≤
 Int.ofNat
 (List.length (List.map (vecN n) l)) ∧
 Int.ofNat
 (List.length (List.map (vecN n) l)) ≤
 (3 : Int)) ∧
 K
 (AV.x false
 [Ch.s (3 : Nat)
 (List.take
 (Int.toNat
 (Int.ofNat
 (List.length
 (List.map (vecN n) l))) -
 (0 : Nat))
 [[Ch.r (((1 : Int) : Int) : Rat) (64 : Nat)],
 [Ch.r (-(q / q_5)) (n_7 + n_8)],
 [Ch.r (((0 : Int) : Int) : Rat)
 (64 : Nat)]])])) ∧
 (q_5 = (OfNat.ofNat (0 : Nat) : Rat) → False))
 else
 bif Int.ofNat (List.length (List.map (vecN n) l)) == (3 : Int) then
 ((0 : Int) ≤ (1 : Int) ∧ (1 : Int) < Int.ofNat (List.length (List.map (vecN n) l))) ∧
 ∃ (q : Rat),
 ∃ (n_5 : Nat),
 ∃ (q_4 : Rat),
 ∃ (n_6 : Nat),
 ldE (List.map (vecN n) l) (1 : Nat) (0 : Nat) (6 : Nat) =
 some [Ch.r q n_5, Ch.r q_4 n_6] ∧
 ((0 : Int) ≤ (2 : Int) ∧
 (2 : Int) < Int.ofNat (List.length (List.map (vecN n) l))) ∧
 ∃ (q_5 : Rat),
 ∃ (n_7 : Nat),
 ∃ (q_6 : Rat),
 ∃ (n_8 : Nat),
 ldE (List.map (vecN n) l) (2 : Nat) (0 : Nat) (6 : Nat) =
 some [Ch.r q_5 n_7, Ch.r q_6 n_8] ∧
 ((0 : Int) ≤ (2 : Int) ∧
 (2 : Int) < Int.ofNat (List.length (List.map (vecN n) l))) ∧
 ∃ (q_7 : Rat),
 ∃ (n_9 : Nat),
 ∃ (q_8 : Rat),
 ∃ (n_10 : Nat),
 ldE (List.map (vecN n) l) (2 : Nat) (0 : Nat) (6 : Nat) =
 some [Ch.r q_7 n_9, Ch.r q_8 n_10] ∧
 ((0 : Int) ≤ (0 : Int) ∧
 (0 : Int) <
 Int.ofNat (List.length (List.map (vecN n) l))) ∧
 ∃ (q_9 : Rat),
 ∃ (n_11 : Nat),
 ∃ (q_10 : Rat),
 ∃ (n_12 : Nat),
 ldE (List.map (vecN n) l) (0 : Nat) (0 : Nat)
 (6 : Nat) =
 some [Ch.r q_9 n_11, Ch.r q_10 n_12] ∧
 ((0 : Int) ≤ (0 : Int) ∧
 (0 : Int) <
 Int.ofNat
 (List.length
 (List.map (vecN n) l))) ∧
 ∃ (q_11 : Rat),
 ∃ (n_13 : Nat),
 ∃ (q_12 : Rat),
 ∃ (n_14 : Nat),
 ldE (List.map (vecN n) l)
 (0 : Nat) (0 : Nat)
 (6 : Nat) =
 some
 [Ch.r q_11 n_13,
 Ch.r q_12 n_14] ∧
 ((0 : Int) ≤ (1 : Int) ∧
 (1 : Int) <
 Int.ofNat
 (List.length
 (List.map (vecN n)
 l))) ∧
 ∃ (q_13 : Rat),
 ∃ (n_15 : Nat),
 ∃ (q_14 : Rat),
 ∃ (n_16 : Nat),
 ldE
 (List.map
 (vecN n) l)
 (1 : Nat)
 (0 : Nat)
 (6 : Nat) =
 some
 [Ch.r q_13 n_15,
 Ch.r q_14
 n_16] ∧
 n_5 + n_6 + n_7 +
 n_8 ≤
 (4294967290 :
 Nat) ∧
 n_9 + n_10 +
 n_11 +
 n_12 ≤
 (4294967290 :
 Nat) ∧
 n_13 + n_14 +
 n_15 +
 n_16 ≤
 (4294967290 :
 Nat) ∧
 K
 (AV.x false
 [Ch.s
 (3 :
 Nat)
 [[Ch.r
 (q *
 q_6 -
 q_4 *
 q_5)
 (n_5 +
 n_8 +
 (n_6 +
 n_7) +
 (1 :
 Nat))],
 [Ch.r
 (q_7 *
 q_10 -
 q_8 *
 q_9)
 (n_9 +
 n_12 +
 (n_10 +
 n_11) +
 (1 :
 Nat))],
 [Ch.r
 (q_11 *
 q_14 -
 q_12 *
 q_13)
 (n_13 +
 n_16 +
 (n_14 +
 n_15) +
 (1 :
 Nat))]]])
 else K (AV.x false [Ch.v (Value.slice none (0 : Nat) (0 : Nat))])
 else
 bif Int.ofNat (List.length (List.map (vecN n) l)) == (3 : Int) then
 ((0 : Int) ≤ (1 : Int) ∧ (1 : Int) < Int.ofNat (List.length (List.map (vecN n) l))) ∧
 ∃ (q : Rat),
 ∃ (n_1 : Nat),
 ∃ (q_1 : Rat),
 ∃ (n_2 : Nat),
 ldE (List.map (vecN n) l) (1 : Nat) (0 : Nat) (6 : Nat) = some [Ch.r q n_1, Ch.r q_1 n_2] ∧
 ((0 : Int) ≤ (2 : Int) ∧ (2 : Int) < Int.ofNat (List.length (List.map (vecN n) l))) ∧
 ∃ (q_2 : Rat),
 ∃ (n_3 : Nat),
 ∃ (q_3 : Rat),
 ∃ (n_4 : Nat),
 ldE (List.map (vecN n) l) (2 : Nat) (0 : Nat) (6 : Nat) = some [Ch.r q_2 n_3, Ch.r q_3 n_4] ∧
 ((0 : Int) ≤ (2 : Int) ∧ (2 : Int) < Int.ofNat (List.length (List.map (vecN n) l))) ∧
 ∃ (q_4 : Rat),
 ∃ (n_5 : Nat),
 ∃ (q_5 : Rat),
 ∃ (n_6 : Nat),
 ldE (List.map (vecN n) l) (2 : Nat) (0 : Nat) (6 : Nat) =
 some [Ch.r q_4 n_5, Ch.r q_5 n_6] ∧
 ((0 : Int) ≤ (0 : Int) ∧ (0 : Int) < Int.ofNat (List.length (List.map (vecN n) l))) ∧
 ∃ (q_6 : Rat),
 ∃ (n_7 : Nat),
 ∃ (q_7 : Rat),
 ∃ (n_8 : Nat),
 ldE (List.map (vecN n) l) (0 : Nat) (0 : Nat) (6 : Nat) =
 some [Ch.r q_6 n_7, Ch.r q_7 n_8] ∧
 ((0 : Int) ≤ (0 : Int) ∧
 (0 : Int) < Int.ofNat (List.length (List.map (vecN n) l))) ∧
 ∃ (q_8 : Rat),
 ∃ (n_9 : Nat),
 ∃ (q_9 : Rat),
 ∃ (n_10 : Nat),
 ldE (List.map (vecN n) l) (0 : Nat) (0 : Nat) (6 : Nat) =
 some [Ch.r q_8 n_9, Ch.r q_9 n_10] ∧
 ((0 : Int) ≤ (1 : Int) ∧
 (1 : Int) <
 Int.ofNat (List.length (List.map (vecN n) l))) ∧
 ∃ (q_10 : Rat),
 ∃ (n_11 : Nat),
 ∃ (q_11 : Rat),
 ∃ (n_12 : Nat),
 ldE (List.map (vecN n) l) (1 : Nat) (0 : Nat)
 (6 : Nat) =
 some [Ch.r q_10 n_11, Ch.r q_11 n_12] ∧
 n_1 + n_2 + n_3 + n_4 ≤ (4294967290 : Nat) ∧
 n_5 + n_6 + n_7 + n_8 ≤ (4294967290 : Nat) ∧
 n_9 + n_10 + n_11 + n_12 ≤
 (4294967290 : Nat) ∧
 K
 (AV.x false
 [Ch.s (3 : Nat)
 [[Ch.r (q * q_3 - q_1 * q_2)
 (n_1 + n_4 + (n_2 + n_3) +
 (1 : Nat))],
 [Ch.r (q_4 * q_7 - q_5 * q_6)
 (n_5 + n_8 + (n_6 + n_7) +
 (1 : Nat))],
 [Ch.r (q_8 * q_11 - q_9 * q_10)
 (n_9 + n_12 + (n_10 + n_11) +
 (1 : Nat))]]])
 else K (AV.x false [Ch.v (Value.slice none (0 : Nat) (0 : Nat))])) := by kernel_rfl
theorem g_sNull (l : List (Rat × Rat)) (n : Nat) (hc : (1 ≤ l.length ∧ l.length ≤ 3) ∧ (64 ≤ n ∧ n ≤ 200000000)) (K : AV → Prop) (hK : (∀ wl : List (Rat × Nat), (∀ p ∈ wl, p.2 ≤ 4 * n + 1) → NullW l wl → K (.x false [.s 3 (lRb wl)])) ∧ (rankV l = l.length → K (.x false [.v (.slice none 0 0)]))) : Holds (goal_sNull l n K) := by
  refine ⟨?_⟩
  rw [goal_sNull_vc]
  try simp only [Int.ofNat_eq_natCast, true_and, and_true, Nat.zero_add, Nat.le_refl, true_implies, true_or, or_true]
  obtain ⟨hl, hn⟩ := hc
  obtain ⟨hW, hN⟩ := hK
  simp only [List.length_map]
  refine ⟨by omega, by omega, ⟨0, ⟨by omega, fun j u h => by omega⟩, trivial, rfl⟩, fun x hx => bif_mk (fun hp => ?_) (fun hp => ?_)⟩
  · have hp : x < l.length := by have := of_decide_eq_true hp; omega
    obtain ⟨u, hu⟩ : ∃ u, l[x]? = some u := ⟨_, List.getElem?_eq_getElem hp⟩
    have nzu : nzb u = ((sgnR u.1 != 0) || (sgnR u.2 != 0)) := by unfold nzb; rw [sgn_ne, sgn_ne]
    have go : nzb u = true → ∃ x', ((x' ≤ l.length ∧ ∀ (j : Nat) (u : Rat × Rat), j < x' → l[j]? = some u → nzb u = true) ∧ l.length - x' < l.length - x) ∧ IntKind.i64.wrap ((x : Int) + 1) = (x' : Nat) := fun h => by
      refine ⟨x + 1, ⟨⟨by omega, fun j w hj hw => ?_⟩, by omega⟩, by rw [w64 (by omega)]; simp⟩
      by_cases e : j = x
      · subst e; rw [hu] at hw; cases hw; exact h
      · exact hx.2 j w (by omega) hw
    refine ⟨by omega, _, _, _, _, vec_ld (by simpa using hu), by omega, bif_mk (fun h1 => ⟨by omega, bif_mk (fun h2 => ⟨by omega, by omega, by omega, ?_⟩) (fun h2 => go ?_)⟩) (fun h1 => go ?_)⟩
    · rw [sgn_eq] at h1 h2
      have hw := null_zero hl hu (of_decide_eq_true h1) (of_decide_eq_true h2)
      have := hW _ (fun p hp => ?_) hw
      · rw [Int.toNat_natCast, Int.toNat_natCast, Nat.sub_zero, List.drop_zero]
        have e : lRb (((([0, 0, 0] : List Rat).set x 1).take l.length).map fun q => (q, 64)) = List.take l.length ([[Ch.r (((0) : Int) : Rat) 64], [Ch.r (((0) : Int) : Rat) 64], [Ch.r (((0) : Int) : Rat) 64]].set x [Ch.r (((1) : Int) : Rat) 64]) := by
          unfold lRb
          rw [List.map_map, List.map_take, List.map_set]
          rfl
        rw [← e]
        exact this
      · obtain ⟨q, _, rfl⟩ := List.mem_map.1 hp
        simp only; omega
    · rw [nzu, bne, bne, h2]; simp
    · rw [nzu, bne, h1]; rfl
  · have hp : x = l.length := by have := of_decide_eq_false hp; have := hx.1; omega
    have all := hx.2
    rw [hp] at all
    clear hx hp
    obtain ⟨u, rfl⟩ | ⟨u, v, rfl⟩ | ⟨u, v, w, rfl⟩ := len3 hl
    · exact hN (by rw [rank1, all 0 u (by simp) rfl]; rfl)
    · simp only [List.length_cons, List.length_nil] at *
      have nu := all 0 u (by omega) rfl
      have nv := all 1 v (by omega) rfl
      refine bif_mk (fun _ => ⟨by omega, _, _, _, _, vec_ld (i := 0) rfl, by omega, _, _, _, _, vec_ld (i := 1) rfl, by omega, by omega, bif_mk (fun hc => ?_) (fun hc => ?_)⟩) (fun h => by simp at h)
      · rw [sgn_eq] at hc
        have hc : crs u v = 0 := of_decide_eq_true hc
        obtain ⟨k1, k2⟩ := null_line hc nv
        have rk : rankV [u, v] < (2 : Nat) := by rw [rank2, crs_anti, hc, nu, nv]; decide
        refine ⟨by omega, _, _, vec_ldx (i := 0) rfl, by omega, _, _, vec_ldx (i := 1) rfl, by omega, fun h1 => ⟨by omega, by omega, ?_⟩, fun h1 => ⟨by omega, _, _, vec_ldy (i := 0) rfl, by omega, _, _, vec_ldy (i := 1) rfl, by omega, fun h2 => ⟨by omega, by omega, ?_⟩, fun h2 => (k2 h1).1 h2⟩⟩
        · refine hW [(1, 64), (-(u.1 / v.1), n + n)] (fun p hp => ?_) ⟨rfl, ?_, ⟨(1, 64), by simp, by decide⟩, rk⟩
          · simp at hp; rcases hp with rfl | rfl <;> simp only <;> omega
          · obtain ⟨e1, e2⟩ := k1 h1
            simp only [List.map_cons, List.map_nil, dotV, Prod.mk.injEq]
            exact ⟨by rw [← e1]; grind, by rw [← e2]; grind⟩
        · refine hW [(1, 64), (-(u.2 / v.2), n + n)] (fun p hp => ?_) ⟨rfl, ?_, ⟨(1, 64), by simp, by decide⟩, rk⟩
          · simp at hp; rcases hp with rfl | rfl <;> simp only <;> omega
          · obtain ⟨_, e1, e2⟩ := k2 h1
            simp only [List.map_cons, List.map_nil, dotV, Prod.mk.injEq]
            exact ⟨by rw [← e1]; grind, by rw [← e2]; grind⟩
      · rw [sgn_eq] at hc
        have hc : crs u v ≠ 0 := of_decide_eq_false hc
        have hc' : crs v u ≠ 0 := fun e => hc (by rw [crs_anti, e]; rfl)
        exact hN (by rw [rank2, decide_eq_false hc']; rfl)
    · simp only [List.length_cons, List.length_nil] at *
      have nv := all 1 v (by omega) rfl
      refine bif_mk (fun _ => ⟨by omega, _, _, _, _, vec_ld (i := 0) rfl, by omega, _, _, _, _, vec_ld (i := 1) rfl, by omega, by omega, bif_mk (fun hc => ?_) (fun hc => ?_)⟩) (fun h => by simp at h)
      · rw [sgn_eq] at hc
        have hc : crs u v = 0 := of_decide_eq_true hc
        obtain ⟨k1, k2⟩ := null_line hc nv
        refine ⟨by omega, _, _, vec_ldx (i := 0) rfl, by omega, _, _, vec_ldx (i := 1) rfl, by omega, fun h1 => ⟨by omega, by omega, ?_⟩, fun h1 => ⟨by omega, _, _, vec_ldy (i := 0) rfl, by omega, _, _, vec_ldy (i := 1) rfl, by omega, fun h2 => ⟨by omega, by omega, ?_⟩, fun h2 => (k2 h1).1 h2⟩⟩
        · refine hW [(1, 64), (-(u.1 / v.1), n + n), (0, 64)] (fun p hp => ?_) ⟨rfl, ?_, ⟨(1, 64), by simp, by decide⟩, rank3 _ _ _⟩
          · simp at hp; rcases hp with rfl | rfl | rfl <;> simp only <;> omega
          · obtain ⟨e1, e2⟩ := k1 h1
            simp only [List.map_cons, List.map_nil, dotV, Prod.mk.injEq]
            exact ⟨by rw [← e1]; grind, by rw [← e2]; grind⟩
        · refine hW [(1, 64), (-(u.2 / v.2), n + n), (0, 64)] (fun p hp => ?_) ⟨rfl, ?_, ⟨(1, 64), by simp, by decide⟩, rank3 _ _ _⟩
          · simp at hp; rcases hp with rfl | rfl | rfl <;> simp only <;> omega
          · obtain ⟨_, e1, e2⟩ := k2 h1
            simp only [List.map_cons, List.map_nil, dotV, Prod.mk.injEq]
            exact ⟨by rw [← e1]; grind, by rw [← e2]; grind⟩
      · rw [sgn_eq] at hc
        have hc : crs u v ≠ 0 := of_decide_eq_false hc
        refine bif_mk (fun _ => ⟨by omega, _, _, _, _, vec_ld (i := 1) rfl, by omega, _, _, _, _, vec_ld (i := 2) rfl, by omega, _, _, _, _, vec_ld (i := 2) rfl, by omega, _, _, _, _, vec_ld (i := 0) rfl, by omega, _, _, _, _, vec_ld (i := 0) rfl, by omega, _, _, _, _, vec_ld (i := 1) rfl, by omega, by omega, by omega, ?_⟩) (fun h => by simp at h)
        refine hW [(crs v w, n + n + (n + n) + 1), (crs w u, n + n + (n + n) + 1), (crs u v, n + n + (n + n) + 1)] (fun p hp => ?_) ⟨rfl, ?_, ⟨_, by simp; exact .inr (.inr rfl), hc⟩, rank3 _ _ _⟩
        · simp at hp; rcases hp with rfl | rfl | rfl <;> simp only <;> omega
        · simp only [List.map_cons, List.map_nil, dotV, Prod.mk.injEq, crs]
          constructor <;> grind
def c_sNull : Ctr := fun as0 => match as0 with
  | [.x false [.s 6 xs]] => some fun K => ∃ (l : List (Rat × Rat)) (n : Nat), xs = l.map (vecN n) ∧ ((1 ≤ l.length ∧ l.length ≤ 3) ∧ (64 ≤ n ∧ n ≤ 200000000)) ∧ ((∀ wl : List (Rat × Nat), (∀ p ∈ wl, p.2 ≤ 4 * n + 1) → NullW l wl → K (.x false [.s 3 (lRb wl)])) ∧ (rankV l = l.length → K (.x false [.v (.slice none 0 0)])))
  | _ => none
theorem ok_sNull : CtrOK Tryd.prog tabG debT 82 c_sNull := by
  refine ⟨enters Tryd.func82 (by kernel_rfl), fun l T hT K hK => ?_⟩
  unfold c_sNull at hT
  split at hT
  · cases hT
    obtain ⟨l, n, rfl, hc, hK⟩ := hK
    exact spec_ofL T124ok mixed Tryd.func82 (by kernel_rfl) (by kernel_rfl) (by rfl) (g_sNull _ _ hc K hK)
  · cases hT
def L125 : List (Nat × Ctr) := (82, c_sNull) :: L124
def T125 : Tabs := mkT L125 M122 X4
theorem L125ok : CtrsOK Tryd.prog tabG debT L125 := .cons ok_sNull L124ok
theorem T125ok : TabsOK Tryd.prog tabG debT T125 := mkTok L125ok M122ok X4ok
-- the newest table: L125 M122 X4 T125
end Go.Proofs
