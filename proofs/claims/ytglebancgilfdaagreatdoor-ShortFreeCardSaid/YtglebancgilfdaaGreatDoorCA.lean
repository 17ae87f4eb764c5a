/- Polygons apart: poly.Box of points, apart.valid, Boxes, both, beyond, Meet. -/
import Derived.Test.YtglebancgilfdaaGreatDoorCL
open Int renaming ofNat → Za, ofNat_eq_natCast → Zj
open List renaming map → Zb, take → Ze, getElem?_eq_getElem → Zg, take_of_length_le → Zh, length_map → Zl, take_add_one → Zp, length_take → Zs, drop → Zu, mem_of_getElem? → Zv, drop_zero → Zw, getElem?_zipWith → Zx, map_append → Zy, getElem?_map → Zz, take_length → Ya, all_append → Yb, foldl → Yd
open ByteArray renaming mk → Zc
open Array renaming mk → Zd
open Go.IntKind renaming i64 → Zf
open Go.Eng.Ch renaming r → Zi, v → Zm, s → Yc
open Go.Value renaming bool → Zk, slice → Zn, int → Zo, string → Zq
open Nat renaming le_refl → Zr, zero_add → Zt
/- Polygons apart: poly.Box of points, apart.valid, Boxes, both, beyond, Meet. -/
namespace Go.Proofs
open Go Go.Eng
def orC (c d : Ctr) : Ctr := fun a0 => match c a0 with
 | none => d a0
 | some T => some T
def inv_pbox (n : Nat) (l : List (Rat × Rat)) : LI := fun _ => .inv ⟨BoxV × Nat, fun x => ⟨[(2, .x false [.p 2 0]), (5, .x false [.p 5 0]), (26, .x false [.s 6 (l.tail.map (vecN n))]), (27, iA .i64 l.tail.length), (28, iA .i64 x.2)],
 [(2, .box 77 (zeroR ++ zeroR ++ zeroR ++ zeroR)), (5, .box 77 (bxN (n + 66) x.1))]⟩, fun x => x.2 ≤ l.tail.length ∧ (l.tail.drop x.2).foldl boxStep x.1 = boxP l, fun x => l.tail.length - x.2, fun _ => 0⟩
structure ByX where
 i : Nat
 j : Nat
 far : Bool
def atP (l : List (Rat × Rat)) (i : Nat) : Rat × Rat := l.getD i (0, 0)
def nxP (l : List (Rat × Rat)) (i : Nat) : Rat × Rat := l.getD ((i + 1) % l.length) (0, 0)
def byT (n : Nat) (a : List (Rat × Rat)) (m : Nat) (b : List (Rat × Rat)) (i : Nat) : List (Nat × AV) := [(0, sVv n a), (1, sVv m b), (4, .x false [.p 4 0]), (13, sVv n a), (14, iA .i64 a.length), (15, iA .i64 i)]
def byI (a b : List (Rat × Rat)) (i : Nat) : Prop := ∀ k, k < i → beyE (atP a k) (nxP a k) b = false
def inv_beyond (n : Nat) (a : List (Rat × Rat)) (m : Nat) (b : List (Rat × Rat)) : LI := fun id => bif id.beq 2 then .inv ⟨Nat, fun i => ⟨byT n a m b i, [(4, .box 27 (zeroR ++ zeroR))]⟩, fun i => i ≤ a.length ∧ byI a b i, fun i => a.length - i, fun _ => 0⟩
 else .inv ⟨ByX, fun x => ⟨byT n a m b x.i ++ [(6, iA .i64 x.i), (7, .x false [.p 7 0]), (9, .x false [.p 9 0]), (10, .x false [.v (.bool x.far)]), (36, sVv m b), (37, iA .i64 b.length), (38, iA .i64 x.j)],
  [(4, .box 27 (zeroR ++ zeroR)), (7, .box 27 (vecN n (atP a x.i))), (9, .box 27 (vecN (2 * n + 2) (outN (atP a x.i) (nxP a x.i))))]⟩,
  fun x => (x.i < a.length ∧ byI a b x.i) ∧ x.j ≤ b.length ∧ x.far = beyE (atP a x.i) (nxP a x.i) (b.take x.j), fun x => b.length - x.j, fun x => a.length - x.i⟩
theorem _root_.Go.Eng.CtrOK.or {P : Program} {g : Nat} {tab : List Value} {f : Nat} {c d : Ctr} (h : CtrOK P g tab f c) (k : CtrOK P g tab f d) : CtrOK P g tab f (orC c d) := by
 refine ⟨h.enter, fun a0 T hT K hK => ?_⟩
 unfold orC at hT
 split at hT
 ·exact k.sound a0 T hT K hK
 ·rename_i e
  cases hT
  exact h.sound a0 _ e K hK
theorem cmp_dec (p q : Rat) : decide (cmpR p q ≤ 0) = decide (p ≤ q) := decide_eq_decide.2 (cmp_le p q)
theorem sgn_dec (q : Rat) : decide (sgnR q > 0) = decide (0 < q) := by
 refine decide_eq_decide.2 ⟨fun h => ?_, fun h => by rw [sgnR_pos h]; omega⟩
 unfold sgnR at h
 split at h
 ·omega
 ·split at h
  ·omega
  ·rename_i h0 h1
   have h2 : 0 ≤ q := Rat.num_nonneg.1 (by omega)
   rcases Rat.le_iff_lt_or_eq.1 h2 with h3 | h3
   ·exact h3
   ·rw [← h3] at h0; exact absurd rfl h0
theorem bey_snoc {p q : Rat × Rat} {b : List (Rat × Rat)} {j : Nat} {v : Rat × Rat} (h : b[j]? = some v) : beyE p q (b.take (j + 1)) = (beyE p q (b.take j) && decide (0 < dotR (outN p q) (v.1 - p.1, v.2 - p.2))) := by
 unfold beyE
 rw [Zp, h, Yb]
 simp
theorem bey_any {a b : List (Rat × Rat)} : beyB a b = true ↔ ∃ k, k < a.length ∧ beyE (atP a k) (nxP a k) b = true := by
 simp [beyB, atP, nxP, List.any_eq_true]
def ot_rGoodZ : OT := fun _ => ([], [])
def goal_rGoodZ  (K : AV → Prop) : Prop := goalL T160 ot_rGoodZ noL Tryz.f104 [.x true zeroR] K
theorem goal_rGoodZ_vc (K : AV → Prop) : goal_rGoodZ K = (K (AV.x false [Zm (Zk false)])) := by kernel_rfl
theorem g_rGoodZ  (_hc : True) (K : AV → Prop) (hK : K (.x false [.v (.bool false)])) : Holds (goal_rGoodZ  K) := by
 refine ⟨?_⟩
 rw [goal_rGoodZ_vc]
 try simp only [Zj, true_and, and_true, Zt, Zr, true_implies, true_or, or_true]
 exact hK
def c_rGoodZ : Ctr := fun as0 => match as0 with
 | [.x true [.v (.bool false), .v (.string ⟨⟨[]⟩⟩), .v (.string ⟨⟨[]⟩⟩)]] => some fun K => (True) ∧ (K (.x false [.v (.bool false)]))
 | _ => none
theorem ok_rGoodZ : CtrOK Tryz.prog tabG debT 104 c_rGoodZ := by
 refine ⟨enters Tryz.func104 (by kernel_rfl), fun l T hT K hK => ?_⟩
 unfold c_rGoodZ at hT
 split at hT
 ·cases hT
  obtain ⟨hc, hK⟩ := hK
  exact spec_ofL T160ok mixed Tryz.func104 (by kernel_rfl) (by kernel_rfl) (by rfl) (g_rGoodZ  hc K hK)
 ·cases hT
def L161z : List (Nat × Ctr) := (104, c_rGoodZ) :: L160
def T161z : Tabs := mkT L161z M79 X4
theorem L161zok : CtrsOK Tryz.prog tabG debT L161z := .cons ok_rGoodZ L160ok
theorem T161zok : TabsOK Tryz.prog tabG debT T161z := mkTok L161zok M79ok X4ok
def ot_rFitZ : OT := fun _ => ([], [])
def goal_rFitZ  (K : AV → Prop) : Prop := goalL T161z ot_rFitZ noL Tryz.f57 [.x true zeroR] K
theorem goal_rFitZ_vc (K : AV → Prop) : goal_rFitZ K = (True∧K (AV.x true [Zi (OfNat.ofNat 0) 1])) := by kernel_rfl
theorem g_rFitZ  (_hc : True) (K : AV → Prop) (hK : K (.x true [.r 0 1])) : Holds (goal_rFitZ  K) := by
 refine ⟨?_⟩
 rw [goal_rFitZ_vc]
 try simp only [true_and]
 exact hK
def c_rFitZ : Ctr := fun as0 => match as0 with
 | [.x true [.v (.bool false), .v (.string ⟨⟨[]⟩⟩), .v (.string ⟨⟨[]⟩⟩)]] => some fun K => (True) ∧ (K (.x true [.r 0 1]))
 | _ => none
theorem ok_rFitZ : CtrOK Tryz.prog tabG debT 57 c_rFitZ := by
 refine ⟨enters Tryz.func57 (by kernel_rfl), fun l T hT K hK => ?_⟩
 unfold c_rFitZ at hT
 split at hT
 ·cases hT
  obtain ⟨hc, hK⟩ := hK
  exact spec_ofL T161zok mixed Tryz.func57 (by kernel_rfl) (by kernel_rfl) (by rfl) (g_rFitZ  hc K hK)
 ·cases hT
def L162z : List (Nat × Ctr) := (57, c_rFitZ) :: L161z
def T162z : Tabs := mkT L162z M79 X4
theorem L162zok : CtrsOK Tryz.prog tabG debT L162z := .cons ok_rFitZ L161zok
theorem T162zok : TabsOK Tryz.prog tabG debT T162z := mkTok L162zok M79ok X4ok
def ot_rAddZ : OT := fun id => bif id.beq 1 then ([0, 2, 1, 3, 4, 5], [[], [0], [], [2, 1, 0], [1, 0, 3, 2], [3, 2, 1, 0, 4]]) else bif id.beq 5 then ([0, 1, 2, 3, 4, 5, 7, 8, 9, 10, 11, 12, 6, 13, 14, 15, 16, 17, 18, 19], [[], [0], [], [2], [], [4], [3, 2, 5, 4], [], [7], [], [9], [], [11], [10, 9, 12, 11, 6, 3, 2, 5, 4], [1, 0, 6, 3, 2, 5, 4, 8, 7, 13, 10, 9, 12, 11], [14, 1, 0, 6, 3, 2, 5, 4, 8, 7, 13, 10, 9, 12, 11], [15, 14, 1, 0, 6, 3, 2, 5, 4, 8, 7, 13, 10, 9, 12, 11], [15, 14, 1, 0, 6, 3, 2, 5, 4, 8, 7, 13, 10, 9, 12, 11], [16, 15, 14, 1, 0, 6, 3, 2, 5, 4, 8, 7, 13, 10, 9, 12, 11], [17, 15, 14, 1, 0, 6, 3, 2, 5, 4, 8, 7, 13, 10, 9, 12, 11, 18, 16]]) else ([], [])
def goal_rAddZ  (K : AV → Prop) : Prop := goalL T162z ot_rAddZ noL Tryz.f54 [.x true zeroR, .x true zeroR] K
theorem goal_rAddZ_vc (K : AV → Prop) : goal_rAddZ K = (True∧True∧(1≤549755813888∧1≤549755813888)∧((2≤4294967296∧1≤4294967296)∧1≠0)∧K (AV.x true [Zi (ratMk false 0 1) 2])) := by kernel_rfl
theorem g_rAddZ  (_hc : True) (K : AV → Prop) (hK : K (.x true [.r 0 2])) : Holds (goal_rAddZ  K) := by
 refine ⟨?_⟩
 rw [goal_rAddZ_vc]
 try simp only [true_and]
 exact ⟨⟨by omega, by omega⟩, ⟨⟨by omega, by omega⟩, by omega⟩, by rw [ratMk_zero]; exact hK⟩
def c_rAddZ : Ctr := fun as0 => match as0 with
 | [.x true [.v (.bool false), .v (.string ⟨⟨[]⟩⟩), .v (.string ⟨⟨[]⟩⟩)], .x true [.v (.bool false), .v (.string ⟨⟨[]⟩⟩), .v (.string ⟨⟨[]⟩⟩)]] => some fun K => (True) ∧ (K (.x true [.r 0 2]))
 | _ => none
theorem ok_rAddZ : CtrOK Tryz.prog tabG debT 54 c_rAddZ := by
 refine ⟨enters Tryz.func54 (by kernel_rfl), fun l T hT K hK => ?_⟩
 unfold c_rAddZ at hT
 split at hT
 ·cases hT
  obtain ⟨hc, hK⟩ := hK
  exact spec_ofL T162zok mixed Tryz.func54 (by kernel_rfl) (by kernel_rfl) (by rfl) (g_rAddZ  hc K hK)
 ·cases hT
def L163z : List (Nat × Ctr) := (54, c_rAddZ) :: L162z
def T163z : Tabs := mkT L163z M79 X4
theorem L163zok : CtrsOK Tryz.prog tabG debT L163z := .cons ok_rAddZ L162zok
theorem T163zok : TabsOK Tryz.prog tabG debT T163z := mkTok L163zok M79ok X4ok
def ot_vAddZ : OT := fun id => bif id.beq 1 then ([0, 1, 2, 3, 5, 6, 7, 8, 4, 9, 10, 11], [[], [0], [], [2], [1, 0, 3, 2], [], [5], [], [7], [6, 5, 8, 7, 4, 1, 0, 3, 2], [4, 1, 0, 3, 2, 9, 6, 5, 8, 7], [10, 4, 1, 0, 3, 2, 9, 6, 5, 8, 7]]) else ([], [])
def goal_vAddZ  (K : AV → Prop) : Prop := goalL T163z ot_vAddZ noL Tryz.f51 [.x true (zeroR ++ zeroR), .x true (zeroR ++ zeroR)] K
theorem goal_vAddZ_vc (K : AV → Prop) : goal_vAddZ K = (True∧True∧K (AV.x true [Zi (OfNat.ofNat 0) 2,Zi (OfNat.ofNat 0) 2])) := by kernel_rfl
theorem g_vAddZ  (_hc : True) (K : AV → Prop) (hK : K (.x true [.r 0 2, .r 0 2])) : Holds (goal_vAddZ  K) := by
 refine ⟨?_⟩
 rw [goal_vAddZ_vc]
 try simp only [true_and]
 exact hK
def c_vAddZ : Ctr := fun as0 => match as0 with
 | [.x true [.v (.bool false), .v (.string ⟨⟨[]⟩⟩), .v (.string ⟨⟨[]⟩⟩), .v (.bool false), .v (.string ⟨⟨[]⟩⟩), .v (.string ⟨⟨[]⟩⟩)], .x true [.v (.bool false), .v (.string ⟨⟨[]⟩⟩), .v (.string ⟨⟨[]⟩⟩), .v (.bool false), .v (.string ⟨⟨[]⟩⟩), .v (.string ⟨⟨[]⟩⟩)]] => some fun K => (True) ∧ (K (.x true [.r 0 2, .r 0 2]))
 | _ => none
theorem ok_vAddZ : CtrOK Tryz.prog tabG debT 51 c_vAddZ := by
 refine ⟨enters Tryz.func51 (by kernel_rfl), fun l T hT K hK => ?_⟩
 unfold c_vAddZ at hT
 split at hT
 ·cases hT
  obtain ⟨hc, hK⟩ := hK
  exact spec_ofL T163zok mixed Tryz.func51 (by kernel_rfl) (by kernel_rfl) (by rfl) (g_vAddZ  hc K hK)
 ·cases hT
def L170 : List (Nat × Ctr) := (118, c_rMakeH) :: (204, c_pConvex) :: (51, orC c_vAddZ c_vAdd) :: L160
def T170 : Tabs := mkT L170 M79 X4
theorem L170ok : CtrsOK Tryz.prog tabG debT L170 := .cons ok_rMakeH (.cons ok_pConvex (.cons (.or ok_vAddZ ok_vAdd) L160ok))
theorem T170ok : TabsOK Tryz.prog tabG debT T170 := mkTok L170ok M79ok X4ok
def ot_pBox : OT := fun id => bif id.beq 4 then ([0, 1, 2, 3, 5, 4, 6], [[], [0], [1, 0], [], [2, 1, 0, 3], [], [5, 4, 2, 1, 0, 3]]) else bif id.beq 9 then ([0, 1, 2, 3, 4, 6, 7, 8, 9, 10, 5, 11, 12, 13, 14], [[], [0], [1, 0], [], [3], [2, 1, 0, 4, 3], [], [6], [7, 6], [], [9], [8, 7, 6, 10, 9, 5, 2, 1, 0, 4, 3], [5, 2, 1, 0, 4, 3, 11, 8, 7, 6, 10, 9], [0, 1, 2, 3, 4, 5, 6, 7, 8, 9, 10, 11, 12], [13, 0, 1, 2, 3, 4, 5, 6, 7, 8, 9, 10, 11, 12]]) else bif id.beq 10 then ([0, 1, 2, 3, 4, 6, 7, 8, 9, 10, 5, 11, 12, 13, 14], [[], [0], [1, 0], [], [3], [2, 1, 0, 4, 3], [], [6], [7, 6], [], [9], [8, 7, 6, 10, 9, 5, 2, 1, 0, 4, 3], [5, 2, 1, 0, 4, 3, 11, 8, 7, 6, 10, 9], [0, 1, 2, 3, 4, 5, 6, 7, 8, 9, 10, 11, 12], [13, 0, 1, 2, 3, 4, 5, 6, 7, 8, 9, 10, 11, 12]]) else ([], [])
def goal_pBox (n : Nat) (l : List (Rat × Rat)) (K : AV → Prop) : Prop := goalL T170 ot_pBox (inv_pbox n l) Tryz.f147 [sVv n l] K
theorem goal_pBox_vc (n : Nat) (l : List (Rat × Rat)) (K : AV → Prop) : goal_pBox n l K = (True∧bif Za (Zb (vecN n) l).length==0 then K (AV.x true [Zi (OfNat.ofNat 0) 2,Zi (OfNat.ofNat 0) 2,Zi (OfNat.ofNat 0) 2,Zi (OfNat.ofNat 0) 2]) else ((0:Int)≤0∧0<Za (Zb (vecN n) l).length)∧∃(q:Rat),∃(n_1:Nat),∃(q_1:Rat),∃(n_2:Nat),ldE (Zb (vecN n) l) 0 0 6=some [Zi q n_1,Zi q_1 n_2]∧(n_1+2≤4294967290∧n_2+2≤4294967290)∧((0:Int)≤1∧1≤Za (Zb (vecN n) l).length∧Za (Zb (vecN n) l).length≤Za (Zb (vecN n) l).length)∧(∃(x:BoxV × Nat),((x.snd≤l.tail.length∧Yd boxStep x.fst (Zu x.snd l.tail)=boxP l)∧OfNat.ofNat 0=0)∧0=0∧0=0∧6=6∧Ze ((Za (Zb (vecN n) l).length).toNat-1) (Zu 1 (Zb (vecN n) l))=Zb (vecN n) l.tail∧Za (Ze ((Za (Zb (vecN n) l).length).toNat-1) (Zu 1 (Zb (vecN n) l))).length=Za l.tail.length∧0=Za x.snd∧77=77∧false=false∧Zc (Zd [])=Zc (Zd [])∧Zc (Zd [])=Zc (Zd [])∧false=false∧Zc (Zd [])=Zc (Zd [])∧Zc (Zd [])=Zc (Zd [])∧false=false∧Zc (Zd [])=Zc (Zd [])∧Zc (Zd [])=Zc (Zd [])∧false=false∧Zc (Zd [])=Zc (Zd [])∧Zc (Zd [])=Zc (Zd [])∧77=77∧q+OfNat.ofNat 0=x.fst.x1∧n_1+2+1≤n+66∧q_1+OfNat.ofNat 0=x.fst.y1∧n_2+2+1≤n+66∧q+OfNat.ofNat 0=x.fst.x2∧n_1+2+1≤n+66∧q_1+OfNat.ofNat 0=x.fst.y2∧n_2+2+1≤n+66∧True)∧∀(x:BoxV × Nat),x.snd≤l.tail.length∧Yd boxStep x.fst (Zu x.snd l.tail)=boxP l→OfNat.ofNat 0=0→bif decide (Za x.snd<Za l.tail.length) then (0≤Za x.snd∧Za x.snd<Za (Zb (vecN n) l.tail).length)∧∃(q:Rat),∃(n_3:Nat),∃(q_2:Rat),∃(n_4:Nat),ldE (Zb (vecN n) l.tail) (Za x.snd).toNat 0 6=some [Zi q n_3,Zi q_2 n_4]∧n+66+n_3≤4294967296∧n+66+n_4≤4294967296∧n+66+n_3≤4294967296∧n+66+n_4≤4294967296∧∃(x':BoxV × Nat),((x'.snd≤l.tail.length∧Yd boxStep x'.fst (Zu x'.snd l.tail)=boxP l)∧OfNat.ofNat 0=0∧l.tail.length-x'.snd<l.tail.length-x.snd)∧0=0∧0=0∧6=6∧Zb (vecN n) l.tail=Zb (vecN n) l.tail∧Za l.tail.length=Za l.tail.length∧Zf.wrap (Za x.snd+1)=Za x'.snd∧77=77∧false=false∧Zc (Zd [])=Zc (Zd [])∧Zc (Zd [])=Zc (Zd [])∧false=false∧Zc (Zd [])=Zc (Zd [])∧Zc (Zd [])=Zc (Zd [])∧false=false∧Zc (Zd [])=Zc (Zd [])∧Zc (Zd [])=Zc (Zd [])∧false=false∧Zc (Zd [])=Zc (Zd [])∧Zc (Zd [])=Zc (Zd [])∧77=77∧minR x.fst.x1 q=x'.fst.x1∧max (n+66) n_3≤n+66∧minR x.fst.y1 q_2=x'.fst.y1∧max (n+66) n_4≤n+66∧maxR x.fst.x2 q=x'.fst.x2∧max (n+66) n_3≤n+66∧maxR x.fst.y2 q_2=x'.fst.y2∧max (n+66) n_4≤n+66∧True else K (AV.x true [Zi x.fst.x1 (n+66),Zi x.fst.y1 (n+66),Zi x.fst.x2 (n+66),Zi x.fst.y2 (n+66)])) := by kernel_rfl
theorem g_pBox (n : Nat) (l : List (Rat × Rat)) (hc : (n ≤ 1000000000 ∧ 1 ≤ l.length ∧ l.length ≤ 100)) (K : AV → Prop) (hK : K (.x true (bxN (n + 66) (boxP l)))) : Holds (goal_pBox n l K) := by
 refine ⟨?_⟩
 rw [goal_pBox_vc]
 try simp only [Zj, true_and, and_true, true_implies]
 obtain ⟨hn, hl1, hl2⟩ := hc
 obtain ⟨p0, hp0⟩ : ∃ p, l[0]? = some p := ⟨_, Zg (by omega)⟩
 have tl : l.tail.length = l.length - 1 := List.length_tail
 have et : Ze (l.length - 1) (Zu 1 (l.map (vecN n))) = l.tail.map (vecN n) := by rw [List.drop_one, ← List.map_tail, Zh (by simp)]
 simp only [Zl, Int.toNat_natCast]
 refine bif_mk (fun h => by have := eq_of_beq h; omega) (fun _ => ⟨by omega, _, _, _, _, vec_ld hp0, by omega, by omega, ⟨(⟨p0.1, p0.2, p0.1, p0.2⟩, 0), ⟨by simp, ?_⟩, et, by rw [et, Zl], rfl, Rat.add_zero _, by omega, Rat.add_zero _, by omega, Rat.add_zero _, by omega, Rat.add_zero _, by omega⟩, fun x ⟨hx, he⟩ => bif_mk (fun hp => ?_) (fun hp => ?_)⟩)
 ·show Yd boxStep ⟨p0.1, p0.2, p0.1, p0.2⟩ (l.tail.drop 0) = boxP l
  unfold boxP
  rw [Zw, head_of hp0]
 ·have hp : x.2 < l.tail.length := by have := of_decide_eq_true hp; omega
  obtain ⟨p, hpp⟩ : ∃ p, l.tail[x.2]? = some p := ⟨_, Zg hp⟩
  rw [drop_get hpp, List.foldl_cons] at he
  exact ⟨by omega, _, _, _, _, vec_ld (by simpa using hpp), by omega, by omega, by omega, by omega, (boxStep x.1 p, x.2 + 1), ⟨⟨hp, he⟩, by simp only; omega⟩, by rw [w64 (by omega)]; simp, rfl, by omega, rfl, by omega, rfl, by omega, rfl, by omega⟩
 ·have hp : x.2 = l.tail.length := by have := of_decide_eq_false hp; omega
  rw [hp, List.drop_length] at he
  have he : x.1 = boxP l := he
  rw [← he] at hK
  exact hK
def c_pBox : Ctr := fun as0 => match as0 with
 | [.x false [.s 6 xs]] => some fun K => ∃ (n : Nat) (l : List (Rat × Rat)), xs = l.map (vecN n) ∧ ((n ≤ 1000000000 ∧ 1 ≤ l.length ∧ l.length ≤ 100)) ∧ (K (.x true (bxN (n + 66) (boxP l))))
 | _ => none
theorem ok_pBox : CtrOK Tryz.prog tabG debT 147 c_pBox := by
 refine ⟨enters Tryz.func147 (by kernel_rfl), fun l T hT K hK => ?_⟩
 unfold c_pBox at hT
 split at hT
 ·cases hT
  obtain ⟨n, l, rfl, hc, hK⟩ := hK
  exact spec_ofL T170ok mixed Tryz.func147 (by kernel_rfl) (by kernel_rfl) (by rfl) (g_pBox _ _ hc K hK)
 ·cases hT
def L171c : List (Nat × Ctr) := (147, c_pBox) :: L170
def T171c : Tabs := mkT L171c M79 X4
theorem L171cok : CtrsOK Tryz.prog tabG debT L171c := .cons ok_pBox L170ok
theorem T171cok : TabsOK Tryz.prog tabG debT T171c := mkTok L171cok M79ok X4ok
def ot_aValid : OT := fun _ => ([], [])
def goal_aValid (n : Nat) (b : BoxV) (K : AV → Prop) : Prop := goalL T171c ot_aValid noL Tryz.f183 [.x true (bxN n b)] K
theorem goal_aValid_vc (n : Nat) (b : BoxV) (K : AV → Prop) : goal_aValid n b K = (n+n≤4294967296∧bif decide (cmpR b.x1 b.x2≤0) then n+n≤4294967296∧K (AV.x false [Zm (Zk (decide (cmpR b.y1 b.y2≤0)))]) else K (AV.x false [Zm (Zk false)])) := by kernel_rfl
theorem g_aValid (n : Nat) (b : BoxV) (hc : (n ≤ 1100000000)) (K : AV → Prop) (hK : K (.x false [.v (.bool b.ok)])) : Holds (goal_aValid n b K) := by
 refine ⟨?_⟩
 rw [goal_aValid_vc]
 try simp only [Zj, true_and, and_true, Zt, Zr, true_implies, true_or, or_true]
 unfold BoxV.ok at hK
 refine ⟨by omega, bif_mk (fun h1 => ⟨by omega, ?_⟩) (fun h1 => ?_)⟩
 ·rw [cmp_dec] at h1 ⊢
  rw [h1] at hK
  exact hK
 ·rw [cmp_dec] at h1
  rw [h1] at hK
  exact hK
def c_aValid : Ctr := fun as0 => match as0 with
 | [.x true xs] => some fun K => ∃ (n : Nat) (b : BoxV), xs = bxN n b ∧ ((n ≤ 1100000000)) ∧ (K (.x false [.v (.bool b.ok)]))
 | _ => none
theorem ok_aValid : CtrOK Tryz.prog tabG debT 183 c_aValid := by
 refine ⟨enters Tryz.func183 (by kernel_rfl), fun l T hT K hK => ?_⟩
 unfold c_aValid at hT
 split at hT
 ·cases hT
  obtain ⟨n, b, rfl, hc, hK⟩ := hK
  exact spec_ofL T171cok mixed Tryz.func183 (by kernel_rfl) (by kernel_rfl) (by rfl) (g_aValid _ _ hc K hK)
 ·cases hT
def L172c : List (Nat × Ctr) := (183, c_aValid) :: L171c
def T172c : Tabs := mkT L172c M79 X4
theorem L172cok : CtrsOK Tryz.prog tabG debT L172c := .cons ok_aValid L171cok
theorem T172cok : TabsOK Tryz.prog tabG debT T172c := mkTok L172cok M79ok X4ok
def ot_aBoxes : OT := fun _ => ([], [])
def goal_aBoxes (n : Nat) (a : BoxV) (m : Nat) (b : BoxV) (K : AV → Prop) : Prop := goalL T172c ot_aBoxes noL Tryz.f146 [.x true (bxN n a), .x true (bxN m b)] K
theorem goal_aBoxes_vc (n : Nat) (a : BoxV) (m : Nat) (b : BoxV) (K : AV → Prop) : goal_aBoxes n a m b K = (∃(n_1:Nat),∃(b_1:BoxV),[Zi a.x1 n,Zi a.y1 n,Zi a.x2 n,Zi a.y2 n]=[Zi b_1.x1 n_1,Zi b_1.y1 n_1,Zi b_1.x2 n_1,Zi b_1.y2 n_1]∧n_1≤1100000000∧bif b_1.ok then ∃(n_2:Nat),∃(b_2:BoxV),[Zi b.x1 m,Zi b.y1 m,Zi b.x2 m,Zi b.y2 m]=[Zi b_2.x1 n_2,Zi b_2.y1 n_2,Zi b_2.x2 n_2,Zi b_2.y2 n_2]∧n_2≤1100000000∧bif b_2.ok then n+m≤4294967296∧bif decide (cmpR a.x1 b.x2≤0) then m+n≤4294967296∧bif decide (cmpR b.x1 a.x2≤0) then n+m≤4294967296∧bif decide (cmpR a.y1 b.y2≤0) then m+n≤4294967296∧K (AV.x false [Zm (Zk (decide (cmpR b.y1 a.y2≤0)))]) else K (AV.x false [Zm (Zk false)]) else K (AV.x false [Zm (Zk false)]) else K (AV.x false [Zm (Zk false)]) else K (AV.x false [Zm (Zk false)]) else K (AV.x false [Zm (Zk false)])) := by kernel_rfl
theorem g_aBoxes (n : Nat) (a : BoxV) (m : Nat) (b : BoxV) (hc : (n ≤ 1100000000 ∧ m ≤ 1100000000)) (K : AV → Prop) (hK : K (.x false [.v (.bool (boxesB a b))])) : Holds (goal_aBoxes n a m b K) := by
 refine ⟨?_⟩
 rw [goal_aBoxes_vc]
 try simp only [Zj, true_and, and_true, Zt, Zr, true_implies, true_or, or_true]
 unfold boxesB at hK
 simp only [cmp_dec]
 refine ⟨n, a, rfl, by omega, bif_mk (fun h1 => ⟨m, b, rfl, by omega, bif_mk (fun h2 => ⟨by omega, bif_mk (fun h3 => ⟨by omega, bif_mk (fun h4 => ⟨by omega, bif_mk (fun h5 => ⟨by omega, ?_⟩) (fun h5 => ?_)⟩) (fun h4 => ?_)⟩) (fun h3 => ?_)⟩) (fun h2 => ?_)⟩) (fun h1 => ?_)⟩
 ·rw [h1, h2, h3, h4, h5] at hK
  exact hK
 ·rw [h1, h2, h3, h4, h5] at hK
  exact hK
 ·rw [h1, h2, h3, h4] at hK
  exact hK
 ·rw [h1, h2, h3] at hK
  exact hK
 ·rw [h1, h2] at hK
  exact hK
 ·rw [h1] at hK
  exact hK
def c_aBoxes : Ctr := fun as0 => match as0 with
 | [.x true xs, .x true ys] => some fun K => ∃ (n : Nat) (a : BoxV) (m : Nat) (b : BoxV), xs = bxN n a ∧ ys = bxN m b ∧ ((n ≤ 1100000000 ∧ m ≤ 1100000000)) ∧ (K (.x false [.v (.bool (boxesB a b))]))
 | _ => none
theorem ok_aBoxes : CtrOK Tryz.prog tabG debT 146 c_aBoxes := by
 refine ⟨enters Tryz.func146 (by kernel_rfl), fun l T hT K hK => ?_⟩
 unfold c_aBoxes at hT
 split at hT
 ·cases hT
  obtain ⟨n, a, m, b, rfl, rfl, hc, hK⟩ := hK
  exact spec_ofL T172cok mixed Tryz.func146 (by kernel_rfl) (by kernel_rfl) (by rfl) (g_aBoxes _ _ _ _ hc K hK)
 ·cases hT
def L173c : List (Nat × Ctr) := (146, c_aBoxes) :: L172c
def T173c : Tabs := mkT L173c M79 X4
theorem L173cok : CtrsOK Tryz.prog tabG debT L173c := .cons ok_aBoxes L172cok
theorem T173cok : TabsOK Tryz.prog tabG debT T173c := mkTok L173cok M79ok X4ok
def ot_aBoth : OT := fun _ => ([], [])
def goal_aBoth (n : Nat) (a : List (Rat × Rat)) (m : Nat) (b : List (Rat × Rat)) (K : AV → Prop) : Prop := goalL T173c ot_aBoth noL Tryz.f184 [sVv n a, sVv m b] K
theorem goal_aBoth_vc (n : Nat) (a : List (Rat × Rat)) (m : Nat) (b : List (Rat × Rat)) (K : AV → Prop) : goal_aBoth n a m b K = (∃(n_1:Nat),∃(l:List (Rat × Rat)),Zb (vecN n) a=Zb (vecN n_1) l∧(n_1≤500000000∧PolyOK l)∧∃(n:Nat),∃(l:List (Rat × Rat)),Zb (vecN m) b=Zb (vecN n) l∧(n≤500000000∧PolyOK l)∧K (AV.x false [Zm (Zo Zf 0)])) := by kernel_rfl
theorem g_aBoth (n : Nat) (a : List (Rat × Rat)) (m : Nat) (b : List (Rat × Rat)) (hc : (n ≤ 500000000 ∧ m ≤ 500000000) ∧ (PolyOK a ∧ PolyOK b)) (K : AV → Prop) (hK : K (iA .i64 0)) : Holds (goal_aBoth n a m b K) := by
 refine ⟨?_⟩
 rw [goal_aBoth_vc]
 try simp only [Zj, true_and, and_true, Zt, Zr, true_implies, true_or, or_true]
 exact ⟨n, a, rfl, ⟨hc.1.1, hc.2.1⟩, m, b, rfl, ⟨hc.1.2, hc.2.2⟩, hK⟩
def c_aBoth : Ctr := fun as0 => match as0 with
 | [.x false [.s 6 xs], .x false [.s 6 ys]] => some fun K => ∃ (n : Nat) (a : List (Rat × Rat)) (m : Nat) (b : List (Rat × Rat)), xs = a.map (vecN n) ∧ ys = b.map (vecN m) ∧ ((n ≤ 500000000 ∧ m ≤ 500000000) ∧ (PolyOK a ∧ PolyOK b)) ∧ (K (iA .i64 0))
 | _ => none
theorem ok_aBoth : CtrOK Tryz.prog tabG debT 184 c_aBoth := by
 refine ⟨enters Tryz.func184 (by kernel_rfl), fun l T hT K hK => ?_⟩
 unfold c_aBoth at hT
 split at hT
 ·cases hT
  obtain ⟨n, a, m, b, rfl, rfl, hc, hK⟩ := hK
  exact spec_ofL T173cok mixed Tryz.func184 (by kernel_rfl) (by kernel_rfl) (by rfl) (g_aBoth _ _ _ _ hc K hK)
 ·cases hT
def L174c : List (Nat × Ctr) := (184, c_aBoth) :: L173c
def T174c : Tabs := mkT L174c M79 X4
theorem L174cok : CtrsOK Tryz.prog tabG debT L174c := .cons ok_aBoth L173cok
theorem T174cok : TabsOK Tryz.prog tabG debT T174c := mkTok L174cok M79ok X4ok
def ot_aBeyond : OT := fun id => bif id.beq 4 then ([0, 1, 2, 3, 4, 5, 6, 7, 8, 10, 9, 11], [[], [], [1], [], [3], [2, 1, 4, 3], [0, 5, 2, 1, 4, 3], [6, 0, 5, 2, 1, 4, 3], [], [7, 6, 0, 5, 2, 1, 4, 3, 8], [], [10, 9, 7, 6, 0, 5, 2, 1, 4, 3, 8]]) else bif id.beq 5 then ([0, 1, 2, 3, 6, 4, 5, 7], [[], [0], [], [2], [3, 2], [1, 0, 4, 3, 2], [], [6, 5, 1, 0, 4, 3, 2]]) else bif id.beq 10 then ([0, 1, 2, 3, 4, 5, 6, 7, 8, 9, 10], [[], [0], [1, 0], [1, 0], [1, 0], [3, 1, 0, 4], [2, 1, 0, 5, 3, 4], [6, 2, 1, 0, 5, 3, 4], [7, 6, 2, 1, 0, 5, 3, 4], [1, 0, 8, 7, 6, 2, 5, 3, 4], [9, 1, 0, 8, 7, 6, 2, 5, 3, 4]]) else ([], [])
def goal_aBeyond (n : Nat) (a : List (Rat × Rat)) (m : Nat) (b : List (Rat × Rat)) (K : AV → Prop) : Prop := goalL T174c ot_aBeyond (inv_beyond n a m b) Tryz.f185 [sVv n a, sVv m b] K
theorem goal_aBeyond_vc (n : Nat) (a : List (Rat × Rat)) (m : Nat) (b : List (Rat × Rat)) (K : AV → Prop) : goal_aBeyond n a m b K = ((∃(x:Nat),((x≤a.length∧∀(k:Nat),k<x→beyE (atP a k) (nxP a k) b=false)∧OfNat.ofNat 0=0)∧6=6∧Zb (vecN n) a=Zb (vecN n) a∧6=6∧Zb (vecN m) b=Zb (vecN m) b∧0=0∧6=6∧Zb (vecN n) a=Zb (vecN n) a∧Za (Zb (vecN n) a).length=Za a.length∧0=Za x∧27=27∧false=false∧Zc (Zd [])=Zc (Zd [])∧Zc (Zd [])=Zc (Zd [])∧false=false∧Zc (Zd [])=Zc (Zd [])∧Zc (Zd [])=Zc (Zd [])∧True)∧∀(x:Nat),(x≤a.length∧∀(k:Nat),k<x→beyE (atP a k) (nxP a k) b=false)→OfNat.ofNat 0=0→bif decide (Za x<Za a.length) then (0≤Za x∧Za x<Za (Zb (vecN n) a).length)∧∃(q:Rat),∃(n_1:Nat),∃(q_1:Rat),∃(n_2:Nat),ldE (Zb (vecN n) a) (Za x).toNat 0 6=some [Zi q n_1,Zi q_1 n_2]∧Za (Zb (vecN n) a).length≠0∧(0≤(Zf.wrap (Za x+1)).tmod (Za (Zb (vecN n) a).length)∧(Zf.wrap (Za x+1)).tmod (Za (Zb (vecN n) a).length)<Za (Zb (vecN n) a).length)∧∃(q_2:Rat),∃(n_3:Nat),∃(q_3:Rat),∃(n_4:Nat),ldE (Zb (vecN n) a) ((Zf.wrap (Za x+1)).tmod (Za (Zb (vecN n) a).length)).toNat 0 6=some [Zi q_2 n_3,Zi q_3 n_4]∧(n_3+n_1≤4294967290∧n_4+n_2≤4294967290)∧n_3+n_1+1≤4294967296∧(∃(x_1:ByX),(((x_1.i<a.length∧∀(k:Nat),k<x_1.i→beyE (atP a k) (nxP a k) b=false)∧x_1.j≤b.length∧x_1.far=beyE (atP a x_1.i) (nxP a x_1.i) (Ze x_1.j b))∧a.length-x_1.i=a.length-x)∧6=6∧Zb (vecN n) a=Zb (vecN n) a∧6=6∧Zb (vecN m) b=Zb (vecN m) b∧0=0∧6=6∧Zb (vecN n) a=Zb (vecN n) a∧Za a.length=Za a.length∧Za x=Za x_1.i∧Za x=Za x_1.i∧0=0∧0=0∧true=x_1.far∧6=6∧Zb (vecN m) b=Zb (vecN m) b∧Za (Zb (vecN m) b).length=Za b.length∧0=Za x_1.j∧27=27∧false=false∧Zc (Zd [])=Zc (Zd [])∧Zc (Zd [])=Zc (Zd [])∧false=false∧Zc (Zd [])=Zc (Zd [])∧Zc (Zd [])=Zc (Zd [])∧27=27∧q=(atP a x_1.i).fst∧n_1≤n∧q_1=(atP a x_1.i).snd∧n_2≤n∧27=27∧q_3-q_1=((nxP a x_1.i).snd-(atP a x_1.i).snd,-((nxP a x_1.i).fst-(atP a x_1.i).fst)).fst∧n_4+n_2+1≤2*n+2∧ -(q_2-q)=((nxP a x_1.i).snd-(atP a x_1.i).snd,-((nxP a x_1.i).fst-(atP a x_1.i).fst)).snd∧n_3+n_1+1≤2*n+2∧True)∧∀(x_1:ByX),(x_1.i<a.length∧∀(k:Nat),k<x_1.i→beyE (atP a k) (nxP a k) b=false)∧x_1.j≤b.length∧x_1.far=beyE (atP a x_1.i) (nxP a x_1.i) (Ze x_1.j b)→a.length-x_1.i=a.length-x→bif decide (Za x_1.j<Za b.length) then (0≤Za x_1.j∧Za x_1.j<Za (Zb (vecN m) b).length)∧∃(q:Rat),∃(n_5:Nat),∃(q_4:Rat),∃(n_6:Nat),ldE (Zb (vecN m) b) (Za x_1.j).toNat 0 6=some [Zi q n_5,Zi q_4 n_6]∧bif x_1.far then (n_5+n≤4294967290∧n_6+n≤4294967290)∧2*n+2+(2*n+2)+(n_5+n+1)+(n_6+n+1)≤4294967290∧2*n+2+(n_5+n+1)+(2*n+2+(n_6+n+1))+1≤4294967296∧∃(x':ByX),(((x'.i<a.length∧∀(k:Nat),k<x'.i→beyE (atP a k) (nxP a k) b=false)∧x'.j≤b.length∧x'.far=beyE (atP a x'.i) (nxP a x'.i) (Ze x'.j b))∧a.length-x'.i=a.length-x∧b.length-x'.j<b.length-x_1.j)∧6=6∧Zb (vecN n) a=Zb (vecN n) a∧6=6∧Zb (vecN m) b=Zb (vecN m) b∧0=0∧6=6∧Zb (vecN n) a=Zb (vecN n) a∧Za a.length=Za a.length∧Za x_1.i=Za x'.i∧Za x_1.i=Za x'.i∧0=0∧0=0∧decide (sgnR (((nxP a x_1.i).snd-(atP a x_1.i).snd,-((nxP a x_1.i).fst-(atP a x_1.i).fst)).fst*(q-(atP a x_1.i).fst)+((nxP a x_1.i).snd-(atP a x_1.i).snd,-((nxP a x_1.i).fst-(atP a x_1.i).fst)).snd*(q_4-(atP a x_1.i).snd))>0)=x'.far∧6=6∧Zb (vecN m) b=Zb (vecN m) b∧Za b.length=Za b.length∧Zf.wrap (Za x_1.j+1)=Za x'.j∧27=27∧false=false∧Zc (Zd [])=Zc (Zd [])∧Zc (Zd [])=Zc (Zd [])∧false=false∧Zc (Zd [])=Zc (Zd [])∧Zc (Zd [])=Zc (Zd [])∧27=27∧(atP a x_1.i).fst=(atP a x'.i).fst∧n≤n∧(atP a x_1.i).snd=(atP a x'.i).snd∧n≤n∧27=27∧((nxP a x_1.i).snd-(atP a x_1.i).snd,-((nxP a x_1.i).fst-(atP a x_1.i).fst)).fst=((nxP a x'.i).snd-(atP a x'.i).snd,-((nxP a x'.i).fst-(atP a x'.i).fst)).fst∧2*n+2≤2*n+2∧((nxP a x_1.i).snd-(atP a x_1.i).snd,-((nxP a x_1.i).fst-(atP a x_1.i).fst)).snd=((nxP a x'.i).snd-(atP a x'.i).snd,-((nxP a x'.i).fst-(atP a x'.i).fst)).snd∧2*n+2≤2*n+2∧True else ∃(x':ByX),(((x'.i<a.length∧∀(k:Nat),k<x'.i→beyE (atP a k) (nxP a k) b=false)∧x'.j≤b.length∧x'.far=beyE (atP a x'.i) (nxP a x'.i) (Ze x'.j b))∧a.length-x'.i=a.length-x∧b.length-x'.j<b.length-x_1.j)∧6=6∧Zb (vecN n) a=Zb (vecN n) a∧6=6∧Zb (vecN m) b=Zb (vecN m) b∧0=0∧6=6∧Zb (vecN n) a=Zb (vecN n) a∧Za a.length=Za a.length∧Za x_1.i=Za x'.i∧Za x_1.i=Za x'.i∧0=0∧0=0∧false=x'.far∧6=6∧Zb (vecN m) b=Zb (vecN m) b∧Za b.length=Za b.length∧Zf.wrap (Za x_1.j+1)=Za x'.j∧27=27∧false=false∧Zc (Zd [])=Zc (Zd [])∧Zc (Zd [])=Zc (Zd [])∧false=false∧Zc (Zd [])=Zc (Zd [])∧Zc (Zd [])=Zc (Zd [])∧27=27∧(atP a x_1.i).fst=(atP a x'.i).fst∧n≤n∧(atP a x_1.i).snd=(atP a x'.i).snd∧n≤n∧27=27∧((nxP a x_1.i).snd-(atP a x_1.i).snd,-((nxP a x_1.i).fst-(atP a x_1.i).fst)).fst=((nxP a x'.i).snd-(atP a x'.i).snd,-((nxP a x'.i).fst-(atP a x'.i).fst)).fst∧2*n+2≤2*n+2∧((nxP a x_1.i).snd-(atP a x_1.i).snd,-((nxP a x_1.i).fst-(atP a x_1.i).fst)).snd=((nxP a x'.i).snd-(atP a x'.i).snd,-((nxP a x'.i).fst-(atP a x'.i).fst)).snd∧2*n+2≤2*n+2∧True else bif x_1.far then K (AV.t [(true,[Zi ((nxP a x_1.i).snd-(atP a x_1.i).snd,-((nxP a x_1.i).fst-(atP a x_1.i).fst)).fst (2*n+2),Zi ((nxP a x_1.i).snd-(atP a x_1.i).snd,-((nxP a x_1.i).fst-(atP a x_1.i).fst)).snd (2*n+2)]),(false,[Zm (Zk true)])]) else ∃(x':Nat),((x'≤a.length∧∀(k:Nat),k<x'→beyE (atP a k) (nxP a k) b=false)∧OfNat.ofNat 0=0∧a.length-x'<a.length-x)∧6=6∧Zb (vecN n) a=Zb (vecN n) a∧6=6∧Zb (vecN m) b=Zb (vecN m) b∧0=0∧6=6∧Zb (vecN n) a=Zb (vecN n) a∧Za a.length=Za a.length∧Zf.wrap (Za x_1.i+1)=Za x'∧27=27∧false=false∧Zc (Zd [])=Zc (Zd [])∧Zc (Zd [])=Zc (Zd [])∧false=false∧Zc (Zd [])=Zc (Zd [])∧Zc (Zd [])=Zc (Zd [])∧True else K (AV.t [(true,[Zm (Zk false),Zm (Zq (Zc (Zd []))),Zm (Zq (Zc (Zd []))),Zm (Zk false),Zm (Zq (Zc (Zd []))),Zm (Zq (Zc (Zd [])))]),(false,[Zm (Zk false)])])) := by kernel_rfl
theorem g_aBeyond (n : Nat) (a : List (Rat × Rat)) (m : Nat) (b : List (Rat × Rat)) (hc : (n ≤ 500000000 ∧ m ≤ 500000000) ∧ ((1 ≤ a.length ∧ a.length ≤ 100) ∧ b.length ≤ 100)) (K : AV → Prop) (hK : (beyB a b = true → ∀ v d, K (.t [(true, vecN d v), (false, [.v (.bool true)])])) ∧ (beyB a b = false → K (.t [(true, zeroR ++ zeroR), (false, [.v (.bool false)])]))) : Holds (goal_aBeyond n a m b K) := by
 refine ⟨?_⟩
 rw [goal_aBeyond_vc]
 try simp only [Zj, true_and, and_true, Zr, true_implies]
 obtain ⟨⟨hn, hm⟩, ⟨ha1, ha2⟩, hb⟩ := hc
 obtain ⟨kt, kf⟩ := hK
 simp only [Zl]
 refine ⟨⟨0, ⟨by omega, fun k hk => absurd hk (by omega)⟩, trivial, rfl⟩, fun x ⟨hx, hxk⟩ => bif_mk (fun hp => ?_) (fun hp => ?_)⟩
 ·have hp : x < a.length := by have := of_decide_eq_true hp; omega
  obtain ⟨p, hpp⟩ : ∃ p, a[x]? = some p := ⟨_, Zg hp⟩
  have e1 : (Zf.wrap ((x : Int) + 1)).tmod (a.length : Int) = (((x + 1) % a.length : Nat) : Int) := by
   rw [w64 (by omega), tm (by omega)]; simp
  have m1 := Nat.mod_lt (x + 1) (by omega : 0 < a.length)
  obtain ⟨q, hq⟩ : ∃ q, a[(x + 1) % a.length]? = some q := ⟨_, Zg m1⟩
  have gp : atP a x = p := gD_of hpp
  have gq : nxP a x = q := gD_of hq
  rw [e1, Int.toNat_natCast]
  refine ⟨by omega, _, _, _, _, vec_ld (by simpa using hpp), by omega, by omega, _, _, _, _, vec_ld hq, by omega, by omega, ⟨⟨x, 0, true⟩, ⟨⟨⟨hp, hxk⟩, by simp, by simp [beyE]⟩, rfl⟩, rfl, rfl, rfl, trivial, rfl, by rw [gp], by omega, by rw [gp], by omega, by rw [gp, gq], by omega, by rw [gp, gq], by omega⟩, fun y ⟨⟨hyi, hyk⟩, hyj, hyf⟩ hyt => bif_mk (fun hk => ?_) (fun hk => ?_)⟩
  ·have hk : y.j < b.length := by have := of_decide_eq_true hk; omega
   obtain ⟨v, hv⟩ : ∃ v, b[y.j]? = some v := ⟨_, Zg hk⟩
   have hs := bey_snoc (p := atP a y.i) (q := nxP a y.i) hv
   refine ⟨by omega, _, _, _, _, vec_ld (by simpa using hv), bif_mk (fun hf => ⟨by omega, by omega, by omega, ⟨y.i, y.j + 1, beyE (atP a y.i) (nxP a y.i) (b.take (y.j + 1))⟩, ⟨⟨⟨hyi, hyk⟩, hk, rfl⟩, hyt, by simp only; omega⟩, rfl, rfl, ?_, by rw [w64 (by omega)]; simp, rfl, rfl, rfl, rfl⟩) (fun hf => ⟨⟨y.i, y.j + 1, beyE (atP a y.i) (nxP a y.i) (b.take (y.j + 1))⟩, ⟨⟨⟨hyi, hyk⟩, hk, rfl⟩, hyt, by simp only; omega⟩, rfl, rfl, ?_, by rw [w64 (by omega)]; simp, rfl, rfl, rfl, rfl⟩)⟩
   ·simp only
    rw [hs, ← hyf, hf, sgn_dec]
    rfl
   ·simp only
    rw [hs, ← hyf, hf]
    rfl
  ·have hk : y.j = b.length := by have := of_decide_eq_false hk; omega
   rw [hk, Ya] at hyf
   refine bif_mk (fun hf => ?_) (fun hf => ⟨y.i + 1, ⟨⟨hyi, fun k hkk => ?_⟩, by omega⟩, by rw [w64 (by omega)]; simp⟩)
   ·exact kt (bey_any.2 ⟨y.i, hyi, by rw [← hyf]; exact hf⟩) (outN (atP a y.i) (nxP a y.i)) (2 * n + 2)
   ·by_cases e : k < y.i
    ·exact hyk k e
    ·have e : k = y.i := by omega
     rw [e, ← hyf]; exact hf
 ·have hp : x = a.length := by have := of_decide_eq_false hp; omega
  refine kf ?_
  cases hB : beyB a b with
  | false => rfl
  | true =>
   obtain ⟨k, h1, h2⟩ := bey_any.1 hB
   rw [hxk k (by omega)] at h2
   cases h2
def c_aBeyond : Ctr := fun as0 => match as0 with
 | [.x false [.s 6 xs], .x false [.s 6 ys]] => some fun K => ∃ (n : Nat) (a : List (Rat × Rat)) (m : Nat) (b : List (Rat × Rat)), xs = a.map (vecN n) ∧ ys = b.map (vecN m) ∧ ((n ≤ 500000000 ∧ m ≤ 500000000) ∧ ((1 ≤ a.length ∧ a.length ≤ 100) ∧ b.length ≤ 100)) ∧ ((beyB a b = true → ∀ v d, K (.t [(true, vecN d v), (false, [.v (.bool true)])])) ∧ (beyB a b = false → K (.t [(true, zeroR ++ zeroR), (false, [.v (.bool false)])])))
 | _ => none
theorem ok_aBeyond : CtrOK Tryz.prog tabG debT 185 c_aBeyond := by
 refine ⟨enters Tryz.func185 (by kernel_rfl), fun l T hT K hK => ?_⟩
 unfold c_aBeyond at hT
 split at hT
 ·cases hT
  obtain ⟨n, a, m, b, rfl, rfl, hc, hK⟩ := hK
  exact spec_ofL T174cok mixed Tryz.func185 (by kernel_rfl) (by kernel_rfl) (by rfl) (g_aBeyond _ _ _ _ hc K hK)
 ·cases hT
def L175c : List (Nat × Ctr) := (185, c_aBeyond) :: L174c
def T175c : Tabs := mkT L175c M79 X4
theorem L175cok : CtrsOK Tryz.prog tabG debT L175c := .cons ok_aBeyond L174cok
theorem T175cok : TabsOK Tryz.prog tabG debT T175c := mkTok L175cok M79ok X4ok
def ot_aMeet : OT := fun _ => ([], [])
def goal_aMeet (n : Nat) (a : List (Rat × Rat)) (m : Nat) (b : List (Rat × Rat)) (K : AV → Prop) : Prop := goalL T175c ot_aMeet noL Tryz.f148 [sVv n a, sVv m b] K
theorem goal_aMeet_vc (n : Nat) (a : List (Rat × Rat)) (m : Nat) (b : List (Rat × Rat)) (K : AV → Prop) : goal_aMeet n a m b K = (∃(n_1:Nat),∃(a_1:List (Rat × Rat)),∃(m_1:Nat),∃(b_1:List (Rat × Rat)),Zb (vecN n) a=Zb (vecN n_1) a_1∧Zb (vecN m) b=Zb (vecN m_1) b_1∧((n_1≤500000000∧m_1≤500000000)∧PolyOK a_1∧PolyOK b_1)∧∃(n_2:Nat),∃(a_2:List (Rat × Rat)),∃(m_2:Nat),∃(b_2:List (Rat × Rat)),Zb (vecN n) a=Zb (vecN n_2) a_2∧Zb (vecN m) b=Zb (vecN m_2) b_2∧((n_2≤500000000∧m_2≤500000000)∧(1≤a_2.length∧a_2.length≤100)∧b_2.length≤100)∧(beyB a_2 b_2=true→∀(_v:Rat × Rat) (_d:Nat),∃(n_3:Nat),∃(a_4:List (Rat × Rat)),∃(m_3:Nat),∃(b_3:List (Rat × Rat)),Zb (vecN m) b=Zb (vecN n_3) a_4∧Zb (vecN n) a=Zb (vecN m_3) b_3∧((n_3≤500000000∧m_3≤500000000)∧(1≤a_4.length∧a_4.length≤100)∧b_3.length≤100)∧(beyB a_4 b_3=true→∀(_v:Rat × Rat) (_d:Nat),K (AV.t [(false,[Zm (Zk false)]),(false,[Zm (Zo Zf 0)])]))∧(beyB a_4 b_3=false→K (AV.t [(false,[Zm (Zk false)]),(false,[Zm (Zo Zf 0)])])))∧(beyB a_2 b_2=false→∃(n_3:Nat),∃(a_4:List (Rat × Rat)),∃(m_3:Nat),∃(b_3:List (Rat × Rat)),Zb (vecN m) b=Zb (vecN n_3) a_4∧Zb (vecN n) a=Zb (vecN m_3) b_3∧((n_3≤500000000∧m_3≤500000000)∧(1≤a_4.length∧a_4.length≤100)∧b_3.length≤100)∧(beyB a_4 b_3=true→∀(_v:Rat × Rat) (_d:Nat),K (AV.t [(false,[Zm (Zk false)]),(false,[Zm (Zo Zf 0)])]))∧(beyB a_4 b_3=false→K (AV.t [(false,[Zm (Zk true)]),(false,[Zm (Zo Zf 0)])])))) := by kernel_rfl
theorem g_aMeet (n : Nat) (a : List (Rat × Rat)) (m : Nat) (b : List (Rat × Rat)) (hc : (n ≤ 500000000 ∧ m ≤ 500000000) ∧ (PolyOK a ∧ PolyOK b)) (K : AV → Prop) (hK : K (.t [(false, [.v (.bool (meetB a b))]), (false, [.v (.int .i64 0)])])) : Holds (goal_aMeet n a m b K) := by
 refine ⟨?_⟩
 rw [goal_aMeet_vc]
 try simp only [Zj, true_and, and_true, Zt, Zr, true_implies, true_or, or_true]
 obtain ⟨⟨hn, hm⟩, pa, pb⟩ := hc
 have a1 := pa.lo
 have a2 := pa.hi
 have b1 := pb.lo
 have b2 := pb.hi
 unfold meetB at hK
 refine ⟨n, a, m, b, rfl, rfl, ⟨⟨hn, hm⟩, pa, pb⟩, n, a, m, b, rfl, rfl, ⟨⟨hn, hm⟩, by omega, by omega⟩, fun h1 _ _ => ⟨m, b, n, a, rfl, rfl, ⟨⟨hm, hn⟩, by omega, by omega⟩, fun h2 _ _ => ?_, fun h2 => ?_⟩, fun h1 => ⟨m, b, n, a, rfl, rfl, ⟨⟨hm, hn⟩, by omega, by omega⟩, fun h2 _ _ => ?_, fun h2 => ?_⟩⟩
 all_goals
  rw [h1, h2] at hK
  exact hK
def c_aMeet : Ctr := fun as0 => match as0 with
 | [.x false [.s 6 xs], .x false [.s 6 ys]] => some fun K => ∃ (n : Nat) (a : List (Rat × Rat)) (m : Nat) (b : List (Rat × Rat)), xs = a.map (vecN n) ∧ ys = b.map (vecN m) ∧ ((n ≤ 500000000 ∧ m ≤ 500000000) ∧ (PolyOK a ∧ PolyOK b)) ∧ (K (.t [(false, [.v (.bool (meetB a b))]), (false, [.v (.int .i64 0)])]))
 | _ => none
theorem ok_aMeet : CtrOK Tryz.prog tabG debT 148 c_aMeet := by
 refine ⟨enters Tryz.func148 (by kernel_rfl), fun l T hT K hK => ?_⟩
 unfold c_aMeet at hT
 split at hT
 ·cases hT
  obtain ⟨n, a, m, b, rfl, rfl, hc, hK⟩ := hK
  exact spec_ofL T175cok mixed Tryz.func148 (by kernel_rfl) (by kernel_rfl) (by rfl) (g_aMeet _ _ _ _ hc K hK)
 ·cases hT
def L176c : List (Nat × Ctr) := (148, c_aMeet) :: L175c
def T176c : Tabs := mkT L176c M79 X4
theorem L176cok : CtrsOK Tryz.prog tabG debT L176c := .cons ok_aMeet L175cok
theorem T176cok : TabsOK Tryz.prog tabG debT T176c := mkTok L176cok M79ok X4ok
end Go.Proofs
/- clear: free, check, Corners, Between, Split, Walls, Arms, Motion. -/
namespace Go.Proofs
open Go Go.Eng
def slA (n : Nat) (l : List (List (Rat × Rat))) : AV := .x false [.s 1 (shN n l)]
def inv_free (n : Nat) (ls : List (List (Rat × Rat))) (m : Nat) (ws : List (List (Rat × Rat))) : LI := fun id => bif id.beq 2 then .inv ⟨Nat, fun i => ⟨[(1, slA m ws), (11, slA n ls), (12, iA .i64 ls.length), (13, iA .i64 i)], []⟩, fun i => i ≤ ls.length ∧ freeB (ls.take i) ws = true, fun i => ls.length - i, fun _ => 0⟩
 else .inv ⟨Nat × Nat, fun x => ⟨[(1, slA m ws), (6, sVv n (ls.getD x.1 [])), (11, slA n ls), (12, iA .i64 ls.length), (13, iA .i64 x.1), (17, slA m ws), (18, iA .i64 ws.length), (19, iA .i64 x.2)], []⟩, fun x => (x.1 < ls.length ∧ freeB (ls.take x.1) ws = true) ∧ x.2 ≤ ws.length ∧ freeB [ls.getD x.1 []] (ws.take x.2) = true, fun x => ws.length - x.2, fun x => ls.length - x.1⟩
def inv_ccheck (n : Nat) (ws : List (List (Rat × Rat))) : LI := fun _ => .inv ⟨Nat, fun i => ⟨[(9, slA n ws), (10, iA .i64 ws.length), (11, iA .i64 i)], []⟩, fun i => i ≤ ws.length, fun i => ws.length - i, fun _ => 0⟩
def rwN (B : Nat) (rows : List (List Sp)) : List (List Ch) := rows.map fun row => [Yc 6 (row.map (spN B))]
def inv_split (d : Nat) (p : List Rat) (e : Nat) (q : List Rat) (n : Nat) : LI := fun id => bif id.beq 6 then .inv ⟨Nat, fun k => ⟨[(0, sR d p), (1, sR e q), (2, iA .i64 n), (8, .x false [.w 500 0 k]), (9, sR (2 * d + e + 130) (prtV p q n k)), (36, iA .i64 n), (37, iA .i64 k)], [(500, .row 58 1 (rwN (2 * d + e + 130) ((splV p q n).take k)))]⟩, fun k => k ≤ n, fun k => n - k, fun _ => 0⟩
 else .inv ⟨Nat × Nat, fun x => ⟨[(0, sR d p), (1, sR e q), (2, iA .i64 n), (8, .x false [.w 500 0 x.1]), (9, sR (2 * d + e + 130) (prtV p q n x.1)), (11, sR (2 * d + e + 130) (prtV p q n (x.1 + 1))), (12, .x false [.w 501 0 x.2]), (36, iA .i64 n), (37, iA .i64 x.1), (46, sR (2 * d + e + 130) (prtV p q n x.1)), (47, iA .i64 p.length), (48, iA .i64 x.2)], [(500, .row 58 1 (rwN (2 * d + e + 130) ((splV p q n).take x.1))), (501, .row 61 6 (((rowQ p q n x.1).take x.2).map (spN (2 * d + e + 130))))]⟩, fun x => x.1 < n ∧ x.2 ≤ p.length, fun x => p.length - x.2, fun x => n - x.1⟩
def bxsV (a : ArmV) (row : List Sp) : List (Sp × Sp) := boxesV (spreadV (loBase a) a.links row) a.links
def inv_motion (a : ArmV) (d : Nat) (p : List Rat) (e : Nat) (q : List Rat) (m : Nat) (ws : List (List (Rat × Rat))) (n : Nat) : LI := fun id => bif id.beq 10 then .inv ⟨Nat, fun k => ⟨[(3, slA m ws), (5, .x false [.p 5 0]), (43, .x false [.s 1 (rwN (2 * d + e + 130) (splV p q n))]), (44, iA .i64 n), (45, iA .i64 k)], [(5, .box 34 (armCh a))]⟩, fun k => k ≤ n ∧ ∀ j, j < k → freeB (polyH a (rowQ p q n j)) ws = true, fun k => n - k, fun _ => 0⟩
 else .inv ⟨Nat × Nat, fun x => ⟨[(3, slA m ws), (5, .x false [.p 5 0]), (19, .x false [.w 500 0 x.2]), (43, .x false [.s 1 (rwN (2 * d + e + 130) (splV p q n))]), (44, iA .i64 n), (45, iA .i64 x.1), (58, .x false [.s 12 ((bxsV a (rowQ p q n x.1)).map (bx4 800000))]), (59, iA .i64 a.links.length), (60, iA .i64 x.2)], [(5, .box 34 (armCh a)), (500, .row 68 1 (shN 800000 ((polyH a (rowQ p q n x.1)).take x.2)))]⟩, fun x => (x.1 < n ∧ ∀ j, j < x.1 → freeB (polyH a (rowQ p q n j)) ws = true) ∧ x.2 ≤ a.links.length, fun x => a.links.length - x.2, fun x => n - x.1⟩
theorem free1_snoc {s : List (Rat × Rat)} {ws : List (List (Rat × Rat))} {j : Nat} {w : List (Rat × Rat)} (h : ws[j]? = some w) : freeB [s] (ws.take (j + 1)) = (freeB [s] (ws.take j) && (!(boxesB (boxP s) (boxP w)) || !(meetB s w))) := by
 simp only [freeB, List.all_cons, List.all_nil, Bool.and_true]
 rw [Zp, h, Yb]
 simp
theorem free_snoc {ls ws : List (List (Rat × Rat))} {i : Nat} {s : List (Rat × Rat)} (h : ls[i]? = some s) : freeB (ls.take (i + 1)) ws = (freeB (ls.take i) ws && freeB [s] ws) := by
 unfold freeB
 rw [Zp, h, Yb]
 simp
theorem free_not {ls ws : List (List (Rat × Rat))} {s w : List (Rat × Rat)} (hs : s ∈ ls) (hw : w ∈ ws) (hb : boxesB (boxP s) (boxP w) = true) (hm : meetB s w = true) : freeB ls ws = false := by
 cases h : freeB ls ws with
 | false => rfl
 | true =>
  have := free_iff.1 h s hs w hw hb
  rw [hm] at this
  cases this
theorem rw_ld {B : Nat} {rows : List (List Sp)} {k : Nat} {row : List Sp} (h : rows[k]? = some row) : ldE (rwN B rows) k 0 1 = some [.s 6 (row.map (spN B))] := by
 simp only [ldE, rwN, Zz, h]; rfl
theorem splQ_get (p q : List Rat) {n k : Nat} (h : k < n) : (splV p q n)[k]? = some (rowQ p q n k) := by
 simp [splV, Zz, List.getElem?_range h]
theorem place_poly {a : ArmV} (hg : GoodArm a) (fs : List FrV) : ∀ s ∈ placeV fs a.links, PolyOK s := fun s hs => by
 obtain ⟨g, L, hL, rfl⟩ := place_mem hs
 exact poly_pl g (hg.links L hL).poly
theorem boxes_snoc {los : List LoV} {l : LoV} {ls : List LinkV} (h : los.length = ls.length) : boxesV (los ++ [l]) ls = boxesV los ls := by
 apply List.ext_getElem?
 intro i
 by_cases hi : i < los.length
 ·simp only [boxesV, Zx, List.getElem?_append_left hi]
 ·have e : ls[i]? = none := List.getElem?_eq_none (by omega)
  simp only [boxesV, Zx, e]
  cases (los ++ [l])[i]? <;> cases los[i]? <;> rfl
theorem polyH_ok {a : ArmV} (hg : GoodArm a) {row : List Sp} {qs : List Rat} (hq : HasQ row qs) (hl : row.length = a.links.length) : ∀ s ∈ polyH a row, PolyOK s := by
 intro s hs
 obtain ⟨b, hb, rfl⟩ := List.mem_map.1 hs
 obtain ⟨i, hi⟩ := List.getElem?_of_mem hb
 simp only [boxesV, Zx] at hi
 have hq1 := hq.1
 have fl := frames_len a.links qs (baseV a) (by omega)
 cases h1 : (spreadV (loBase a) a.links row)[i]? with
 | none => rw [h1] at hi; cases hi
 | some l =>
  cases h2 : a.links[i]? with
  | none => rw [h1, h2] at hi; cases hi
  | some L =>
   rw [h1, h2] at hi
   cases hi
   have hil := (List.getElem?_eq_some_iff.1 h2).1
   obtain ⟨g, hg'⟩ : ∃ g, (framesV (baseV a) a.links qs)[i]? = some g := ⟨_, Zg (by omega)⟩
   have hw := hull_wide (spread_has a.links row qs (loBase a) (baseV a) (base_has a) hq i l g h1 hg') (hg.links L (Zv h2)).poly
   exact corn_poly hw.1 hw.2
def ot_cFree : OT := fun _ => ([], [])
def goal_cFree (n : Nat) (ls : List (List (Rat × Rat))) (m : Nat) (ws : List (List (Rat × Rat))) (K : AV → Prop) : Prop := goalL T176c ot_cFree (inv_free n ls m ws) Tryz.f88 [slA n ls, slA m ws] K
theorem goal_cFree_vc (n : Nat) (ls : List (List (Rat × Rat))) (m : Nat) (ws : List (List (Rat × Rat))) (K : AV → Prop) : goal_cFree n ls m ws K = ((∃(x:Nat),((x≤ls.length∧freeB (Ze x ls) ws=true)∧OfNat.ofNat 0=0)∧1=1∧shN m ws=shN m ws∧1=1∧shN n ls=shN n ls∧Za (shN n ls).length=Za ls.length∧0=Za x∧True)∧∀(x:Nat),x≤ls.length∧freeB (Ze x ls) ws=true→OfNat.ofNat 0=0→bif decide (Za x<Za ls.length) then (0≤Za x∧Za x<Za (shN n ls).length)∧∃(ys:List (List Ch)),ldE (shN n ls) (Za x).toNat 0 1=some [Yc 6 ys]∧(∃(x_1:Nat × Nat),(((x_1.fst<ls.length∧freeB (Ze x_1.fst ls) ws=true)∧x_1.snd≤ws.length∧freeB [ls.getD x_1.fst []] (Ze x_1.snd ws)=true)∧ls.length-x_1.fst=ls.length-x)∧1=1∧shN m ws=shN m ws∧6=6∧ys=Zb (vecN n) (ls.getD x_1.fst [])∧1=1∧shN n ls=shN n ls∧Za ls.length=Za ls.length∧Za x=Za x_1.fst∧1=1∧shN m ws=shN m ws∧Za (shN m ws).length=Za ws.length∧0=Za x_1.snd∧True)∧∀(x_1:Nat × Nat),(x_1.fst<ls.length∧freeB (Ze x_1.fst ls) ws=true)∧x_1.snd≤ws.length∧freeB [ls.getD x_1.fst []] (Ze x_1.snd ws)=true→ls.length-x_1.fst=ls.length-x→bif decide (Za x_1.snd<Za ws.length) then (0≤Za x_1.snd∧Za x_1.snd<Za (shN m ws).length)∧∃(ys:List (List Ch)),ldE (shN m ws) (Za x_1.snd).toNat 0 1=some [Yc 6 ys]∧∃(n_1:Nat),∃(l:List (Rat × Rat)),Zb (vecN n) (ls.getD x_1.fst [])=Zb (vecN n_1) l∧(n_1≤1000000000∧1≤l.length∧l.length≤100)∧∃(n_2:Nat),∃(l_1:List (Rat × Rat)),ys=Zb (vecN n_2) l_1∧(n_2≤1000000000∧1≤l_1.length∧l_1.length≤100)∧∃(n_3:Nat),∃(a:BoxV),∃(m_1:Nat),∃(b:BoxV),[Zi (boxP l).x1 (n_1+66),Zi (boxP l).y1 (n_1+66),Zi (boxP l).x2 (n_1+66),Zi (boxP l).y2 (n_1+66)]=[Zi a.x1 n_3,Zi a.y1 n_3,Zi a.x2 n_3,Zi a.y2 n_3]∧[Zi (boxP l_1).x1 (n_2+66),Zi (boxP l_1).y1 (n_2+66),Zi (boxP l_1).x2 (n_2+66),Zi (boxP l_1).y2 (n_2+66)]=[Zi b.x1 m_1,Zi b.y1 m_1,Zi b.x2 m_1,Zi b.y2 m_1]∧(n_3≤1100000000∧m_1≤1100000000)∧bif !boxesB a b then ∃(x':Nat × Nat),(((x'.fst<ls.length∧freeB (Ze x'.fst ls) ws=true)∧x'.snd≤ws.length∧freeB [ls.getD x'.fst []] (Ze x'.snd ws)=true)∧ls.length-x'.fst=ls.length-x∧ws.length-x'.snd<ws.length-x_1.snd)∧1=1∧shN m ws=shN m ws∧6=6∧Zb (vecN n) (ls.getD x_1.fst [])=Zb (vecN n) (ls.getD x'.fst [])∧1=1∧shN n ls=shN n ls∧Za ls.length=Za ls.length∧Za x_1.fst=Za x'.fst∧1=1∧shN m ws=shN m ws∧Za ws.length=Za ws.length∧Zf.wrap (Za x_1.snd+1)=Za x'.snd∧True else ∃(n_4:Nat),∃(a:List (Rat × Rat)),∃(m_2:Nat),∃(b:List (Rat × Rat)),Zb (vecN n) (ls.getD x_1.fst [])=Zb (vecN n_4) a∧ys=Zb (vecN m_2) b∧((n_4≤500000000∧m_2≤500000000)∧PolyOK a∧PolyOK b)∧bif meetB a b then K (AV.x false [Zm (Zk false)]) else ∃(x':Nat × Nat),(((x'.fst<ls.length∧freeB (Ze x'.fst ls) ws=true)∧x'.snd≤ws.length∧freeB [ls.getD x'.fst []] (Ze x'.snd ws)=true)∧ls.length-x'.fst=ls.length-x∧ws.length-x'.snd<ws.length-x_1.snd)∧1=1∧shN m ws=shN m ws∧6=6∧Zb (vecN n) (ls.getD x_1.fst [])=Zb (vecN n) (ls.getD x'.fst [])∧1=1∧shN n ls=shN n ls∧Za ls.length=Za ls.length∧Za x_1.fst=Za x'.fst∧1=1∧shN m ws=shN m ws∧Za ws.length=Za ws.length∧Zf.wrap (Za x_1.snd+1)=Za x'.snd∧True else ∃(x':Nat),((x'≤ls.length∧freeB (Ze x' ls) ws=true)∧OfNat.ofNat 0=0∧ls.length-x'<ls.length-x)∧1=1∧shN m ws=shN m ws∧1=1∧shN n ls=shN n ls∧Za ls.length=Za ls.length∧Zf.wrap (Za x_1.fst+1)=Za x'∧True else K (AV.x false [Zm (Zk true)])) := by kernel_rfl
theorem g_cFree (n : Nat) (ls : List (List (Rat × Rat))) (m : Nat) (ws : List (List (Rat × Rat))) (hc : (n ≤ 400000000 ∧ m ≤ 400000000) ∧ ((∀ s ∈ ls, PolyOK s) ∧ ∀ w ∈ ws, PolyOK w) ∧ (ls.length ≤ 100 ∧ ws.length ≤ 100)) (K : AV → Prop) (hK : K (.x false [.v (.bool (freeB ls ws))])) : Holds (goal_cFree n ls m ws K) := by
 refine ⟨?_⟩
 rw [goal_cFree_vc]
 try simp only [Zj, true_and, and_true, true_implies]
 obtain ⟨⟨hn, hm⟩, ⟨pl, pw⟩, hl, hw⟩ := hc
 have shl : ∀ n (l : List (List (Rat × Rat))), (shN n l).length = l.length := fun n l => by simp [shN]
 simp only [shl]
 refine ⟨⟨0, ⟨by omega, rfl⟩, trivial, rfl⟩, fun i ⟨hi, hfi⟩ => bif_mk (fun hp => ?_) (fun hp => ?_)⟩
 ·have hp : i < ls.length := by have := of_decide_eq_true hp; omega
  obtain ⟨s, hs⟩ : ∃ s, ls[i]? = some s := ⟨_, Zg hp⟩
  have gs := gD_of (d := ([] : List (Rat × Rat))) hs
  have ms := Zv hs
  have ps := pl s ms
  have s1 := ps.lo
  have s2 := ps.hi
  refine ⟨by omega, _, sh_ld (by simpa using hs), ⟨(i, 0), ⟨⟨⟨hp, hfi⟩, by simp, by simp [freeB]⟩, rfl⟩, by rw [gs], rfl, trivial, rfl⟩, fun y ⟨⟨hy1, hy2⟩, hy3, hy4⟩ hyt => ?_⟩
  obtain ⟨i', j⟩ := y
  have e : i' = i := by simp only at hy1 hyt; omega
  subst e
  simp only at hy1 hy2 hy3 hy4 hyt ⊢
  rw [gs] at hy4
  refine bif_mk (fun hk => ?_) (fun hk => ?_)
  ·have hk : j < ws.length := by have := of_decide_eq_true hk; omega
   obtain ⟨w, hw'⟩ : ∃ w, ws[j]? = some w := ⟨_, Zg hk⟩
   have mw := Zv hw'
   have pw' := pw w mw
   have w1 := pw'.lo
   have w2 := pw'.hi
   have sn := free1_snoc (s := s) hw'
   rw [hy4] at sn
   refine ⟨by omega, _, sh_ld (by simpa using hw'), n, s, by rw [gs], ⟨by omega, by omega, by omega⟩, m, w, rfl, ⟨by omega, by omega, by omega⟩, n + 66, boxP s, m + 66, boxP w, rfl, rfl, ⟨by omega, by omega⟩, bif_mk (fun hb => ⟨(i', j + 1), ⟨⟨⟨hp, hfi⟩, hk, ?_⟩, rfl, by simp only; omega⟩, rfl, rfl, by rw [w64 (by omega)]; simp⟩) (fun hb => ⟨n, s, m, w, by rw [gs], rfl, ⟨⟨by omega, by omega⟩, ps, pw'⟩, bif_mk (fun hM => ?_) (fun hM => ⟨(i', j + 1), ⟨⟨⟨hp, hfi⟩, hk, ?_⟩, rfl, by simp only; omega⟩, rfl, rfl, by rw [w64 (by omega)]; simp⟩)⟩)⟩
   ·simp only
    rw [gs, sn, hb]
    rfl
   ·rw [free_not ms mw (by simpa using hb) hM] at hK
    exact hK
   ·simp only
    rw [gs, sn, hM, hb]
    rfl
  ·have hk : j = ws.length := by have := of_decide_eq_false hk; omega
   rw [hk, Ya] at hy4
   refine ⟨i' + 1, ⟨⟨hp, ?_⟩, by omega⟩, by rw [w64 (by omega)]; simp⟩
   rw [free_snoc hs, hfi, hy4]
   rfl
 ·have hp : i = ls.length := by have := of_decide_eq_false hp; omega
  rw [hp, Ya] at hfi
  rw [hfi] at hK
  exact hK
def c_cFree : Ctr := fun as0 => match as0 with
 | [.x false [.s 1 xs], .x false [.s 1 ys]] => some fun K => ∃ (n : Nat) (ls : List (List (Rat × Rat))) (m : Nat) (ws : List (List (Rat × Rat))), xs = shN n ls ∧ ys = shN m ws ∧ ((n ≤ 400000000 ∧ m ≤ 400000000) ∧ ((∀ s ∈ ls, PolyOK s) ∧ ∀ w ∈ ws, PolyOK w) ∧ (ls.length ≤ 100 ∧ ws.length ≤ 100)) ∧ (K (.x false [.v (.bool (freeB ls ws))]))
 | _ => none
theorem ok_cFree : CtrOK Tryz.prog tabG debT 88 c_cFree := by
 refine ⟨enters Tryz.func88 (by kernel_rfl), fun l T hT K hK => ?_⟩
 unfold c_cFree at hT
 split at hT
 ·cases hT
  obtain ⟨n, ls, m, ws, rfl, rfl, hc, hK⟩ := hK
  exact spec_ofL T176cok mixed Tryz.func88 (by kernel_rfl) (by kernel_rfl) (by rfl) (g_cFree _ _ _ _ hc K hK)
 ·cases hT
def L177c : List (Nat × Ctr) := (88, c_cFree) :: L176c
def T177c : Tabs := mkT L177c M79 X4
theorem L177cok : CtrsOK Tryz.prog tabG debT L177c := .cons ok_cFree L176cok
theorem T177cok : TabsOK Tryz.prog tabG debT T177c := mkTok L177cok M79ok X4ok
def ot_cCheck : OT := fun _ => ([], [])
def goal_cCheck (n : Nat) (ws : List (List (Rat × Rat))) (K : AV → Prop) : Prop := goalL T177c ot_cCheck (inv_ccheck n ws) Tryz.f87 [slA n ws] K
theorem goal_cCheck_vc (n : Nat) (ws : List (List (Rat × Rat))) (K : AV → Prop) : goal_cCheck n ws K = (bif decide (Za (shN n ws).length>20) then K (AV.x false [Zm (Zo Zf 2)]) else (∃(x:Nat),(x≤ws.length∧OfNat.ofNat 0=0)∧1=1∧shN n ws=shN n ws∧Za (shN n ws).length=Za ws.length∧0=Za x∧True)∧∀(x:Nat),x≤ws.length→OfNat.ofNat 0=0→bif decide (Za x<Za ws.length) then (0≤Za x∧Za x<Za (shN n ws).length)∧∃(ys:List (List Ch)),ldE (shN n ws) (Za x).toNat 0 1=some [Yc 6 ys]∧∃(n_1:Nat),∃(l:List (Rat × Rat)),ys=Zb (vecN n_1) l∧(n_1≤500000000∧PolyOK l)∧∃(x':Nat),(x'≤ws.length∧OfNat.ofNat 0=0∧ws.length-x'<ws.length-x)∧1=1∧shN n ws=shN n ws∧Za ws.length=Za ws.length∧Zf.wrap (Za x+1)=Za x'∧True else K (AV.x false [Zm (Zo Zf 0)])) := by kernel_rfl
theorem g_cCheck (n : Nat) (ws : List (List (Rat × Rat))) (hc : (n ≤ 400000000) ∧ ((∀ w ∈ ws, PolyOK w) ∧ ws.length ≤ 20)) (K : AV → Prop) (hK : K (iA .i64 0)) : Holds (goal_cCheck n ws K) := by
 refine ⟨?_⟩
 rw [goal_cCheck_vc]
 try simp only [Zj, true_and, and_true, true_implies]
 obtain ⟨hn, hw, hl⟩ := hc
 have shl : ∀ n (l : List (List (Rat × Rat))), (shN n l).length = l.length := fun n l => by simp [shN]
 simp only [shl]
 refine bif_mk (fun h => by have := of_decide_eq_true h; omega) (fun _ => ⟨⟨0, by omega, trivial, rfl⟩, fun x hx => bif_mk (fun hp => ?_) (fun _ => hK)⟩)
 have hp : x < ws.length := by have := of_decide_eq_true hp; omega
 obtain ⟨w, hw'⟩ : ∃ w, ws[x]? = some w := ⟨_, Zg hp⟩
 exact ⟨by omega, _, sh_ld (by simpa using hw'), n, w, rfl, ⟨by omega, hw w (Zv hw')⟩, x + 1, ⟨by omega, by omega⟩, by rw [w64 (by omega)]; simp⟩
def c_cCheck : Ctr := fun as0 => match as0 with
 | [.x false [.s 1 xs]] => some fun K => ∃ (n : Nat) (ws : List (List (Rat × Rat))), xs = shN n ws ∧ ((n ≤ 400000000) ∧ ((∀ w ∈ ws, PolyOK w) ∧ ws.length ≤ 20)) ∧ (K (iA .i64 0))
 | _ => none
theorem ok_cCheck : CtrOK Tryz.prog tabG debT 87 c_cCheck := by
 refine ⟨enters Tryz.func87 (by kernel_rfl), fun l T hT K hK => ?_⟩
 unfold c_cCheck at hT
 split at hT
 ·cases hT
  obtain ⟨n, ws, rfl, hc, hK⟩ := hK
  exact spec_ofL T177cok mixed Tryz.func87 (by kernel_rfl) (by kernel_rfl) (by rfl) (g_cCheck _ _ hc K hK)
 ·cases hT
def L178c : List (Nat × Ctr) := (87, c_cCheck) :: L177c
def T178c : Tabs := mkT L178c M79 X4
theorem L178cok : CtrsOK Tryz.prog tabG debT L178c := .cons ok_cCheck L177cok
theorem T178cok : TabsOK Tryz.prog tabG debT T178c := mkTok L178cok M79ok X4ok
def ot_hCorners : OT := fun _ => ([], [])
def goal_hCorners (n : Nat) (b : BoxV) (K : AV → Prop) : Prop := goalL T178c ot_hCorners noL Tryz.f93 [.x true (bxN n b)] K
theorem goal_hCorners_vc (n : Nat) (b : BoxV) (K : AV → Prop) : goal_hCorners n b K = (K (AV.x false [Yc 6 [[Zi b.x1 n,Zi b.y1 n],[Zi b.x2 n,Zi b.y1 n],[Zi b.x2 n,Zi b.y2 n],[Zi b.x1 n,Zi b.y2 n]]])) := by kernel_rfl
theorem g_hCorners (n : Nat) (b : BoxV) (_hc : (n ≤ 400000000)) (K : AV → Prop) (hK : K (sVv n (cornV b))) : Holds (goal_hCorners n b K) := by
 refine ⟨?_⟩
 rw [goal_hCorners_vc]
 try simp only [Zj, true_and, and_true, Zt, Zr, true_implies, true_or, or_true]
 exact hK
def c_hCorners : Ctr := fun as0 => match as0 with
 | [.x true xs] => some fun K => ∃ (n : Nat) (b : BoxV), xs = bxN n b ∧ ((n ≤ 400000000)) ∧ (K (sVv n (cornV b)))
 | _ => none
theorem ok_hCorners : CtrOK Tryz.prog tabG debT 93 c_hCorners := by
 refine ⟨enters Tryz.func93 (by kernel_rfl), fun l T hT K hK => ?_⟩
 unfold c_hCorners at hT
 split at hT
 ·cases hT
  obtain ⟨n, b, rfl, hc, hK⟩ := hK
  exact spec_ofL T178cok mixed Tryz.func93 (by kernel_rfl) (by kernel_rfl) (by rfl) (g_hCorners _ _ hc K hK)
 ·cases hT
def L179c : List (Nat × Ctr) := (93, c_hCorners) :: L178c
def T179c : Tabs := mkT L179c M79 X4
theorem L179cok : CtrsOK Tryz.prog tabG debT L179c := .cons ok_hCorners L178cok
theorem T179cok : TabsOK Tryz.prog tabG debT T179c := mkTok L179cok M79ok X4ok
def ot_mBetween : OT := fun id => bif id.beq 6 then ([0, 1, 2, 3, 4, 5, 6, 7, 8, 9, 10, 11, 12, 13, 14, 15, 16, 17, 18, 19], [[], [], [], [1, 2], [3, 1, 2], [], [], [], [6, 7], [8, 6, 7], [], [], [10, 11], [12, 10, 11], [9, 8, 6, 7, 13, 12, 10, 11], [5, 14, 9, 8, 6, 7, 13, 12, 10, 11], [4, 3, 1, 2, 15, 5, 14, 9, 8, 6, 7, 13, 12, 10, 11], [16, 4, 3, 1, 2, 15, 5, 14, 9, 8, 6, 7, 13, 12, 10, 11], [0, 17, 16, 4, 3, 1, 2, 15, 5, 14, 9, 8, 6, 7, 13, 12, 10, 11], [18, 0, 17, 16, 4, 3, 1, 2, 15, 5, 14, 9, 8, 6, 7, 13, 12, 10, 11]]) else ([], [])
def goal_mBetween (d : Nat) (a : List Rat) (e : Nat) (b : List Rat) (x : Int) (y : Int) (K : AV → Prop) : Prop := goalL T179c ot_mBetween (fun _ => .inv ⟨Nat, fun k => ⟨[(0, sR d a), (1, sR e b), (9, .x false [.p 9 0]), (11, .x false [.w 500 0 k]), (23, iA .i64 a.length), (24, iA .i64 k)], [(9, .box 25 [.r ((x : Rat) / (y : Rat)) 128]), (500, rowR (2 * d + e + 130) ((midV ((x : Rat) / (y : Rat)) a b).take k))]⟩, fun k => k ≤ a.length, fun k => a.length - k, fun _ => 0⟩) Tryz.f149 [sR d a, sR e b, iA .i64 x, iA .i64 y] K
theorem goal_mBetween_vc (d : Nat) (a : List Rat) (e : Nat) (b : List Rat) (x : Int) (y : Int) (K : AV → Prop) : goal_mBetween d a e b x y K = (((-9223372036854775808≤x∧x<9223372036854775808)∧0<y∧y<9223372036854775808)∧(∃(x_1:Nat),(x_1≤a.length∧OfNat.ofNat 0=0)∧3=3∧lR d a=lR d a∧3=3∧lR e b=lR e b∧0=0∧Zn none 0 0=Zn none 0 0∧0=0∧x_1=0∧(bif false then if Za (lR e b).length>Za (lR d a).length then Za (lR e b).length else Za (lR d a).length else if Za (lR e b).length<Za (lR d a).length then Za (lR e b).length else Za (lR d a).length)=Za a.length∧0=Za x_1∧25=25∧(↑x:Rat)/(↑y:Rat)=(↑x:Rat)/(↑y:Rat)∧128≤128∧Zb (fun(q:Rat)=>[Zi q (2*d+e+130)]) (Ze x_1 (midV ((↑x:Rat)/(↑y:Rat)) a b))=[]∧True)∧∀(x_1:Nat),x_1≤a.length→OfNat.ofNat 0=0→bif decide (Za x_1<Za a.length) then (0≤Za x_1∧Za x_1<Za (lR d a).length)∧∃(q:Rat),∃(n:Nat),ldE (lR d a) (Za x_1).toNat 0 3=some [Zi q n]∧(0≤Za x_1∧Za x_1<Za (lR e b).length)∧∃(q_1:Rat),∃(n_1:Nat),ldE (lR e b) (Za x_1).toNat 0 3=some [Zi q_1 n_1]∧(0≤Za x_1∧Za x_1<Za (lR d a).length)∧∃(q_2:Rat),∃(n_2:Nat),ldE (lR d a) (Za x_1).toNat 0 3=some [Zi q_2 n_2]∧n_1+n_2+1≤4294967296∧128+(n_1+n_2+1)≤4294967296∧n+(128+(n_1+n_2+1))+1≤4294967296∧((x_1+1)*40≤140737488355328∧x_1+1≤9223372036854775807)∧∃(x':Nat),(x'≤a.length∧OfNat.ofNat 0=0∧a.length-x'<a.length-x_1)∧3=3∧lR d a=lR d a∧3=3∧lR e b=lR e b∧0=0∧0=0∧x_1+1=x'∧Za a.length=Za a.length∧Zf.wrap (Za x_1+1)=Za x'∧25=25∧(↑x:Rat)/(↑y:Rat)=(↑x:Rat)/(↑y:Rat)∧128≤128∧25=25∧3=3∧(Ze x_1 (Zb (fun(q:Rat)=>[Zi q (2*d+e+130)]) (Ze x_1 (midV ((↑x:Rat)/(↑y:Rat)) a b)))++[[Zi (q+(↑x:Rat)/(↑y:Rat)*(q_1-q_2)) (n+(128+(n_1+n_2+1))+1)]]=Zb (fun(q:Rat)=>[Zi q (2*d+e+130)]) (Ze x' (midV ((↑x:Rat)/(↑y:Rat)) a b))∨RowLE (Ze x_1 (Zb (fun(q:Rat)=>[Zi q (2*d+e+130)]) (Ze x_1 (midV ((↑x:Rat)/(↑y:Rat)) a b)))++[[Zi (q+(↑x:Rat)/(↑y:Rat)*(q_1-q_2)) (n+(128+(n_1+n_2+1))+1)]]) (Zb (fun(q:Rat)=>[Zi q (2*d+e+130)]) (Ze x' (midV ((↑x:Rat)/(↑y:Rat)) a b))))∧True else K (AV.x false [Yc 3 (Ze x_1 (Zu 0 (Zb (fun(q:Rat)=>[Zi q (2*d+e+130)]) (Ze x_1 (midV ((↑x:Rat)/(↑y:Rat)) a b)))))])) := by kernel_rfl
theorem g_mBetween (d : Nat) (a : List Rat) (e : Nat) (b : List Rat) (x : Int) (y : Int) (hc : (((-9223372036854775808 ≤ x ∧ x < 9223372036854775808) ∧ 0 < y ∧ y < 9223372036854775808)) ∧ (a.length = b.length ∧ a.length ≤ 1000000 ∧ d ≤ 1000000 ∧ e ≤ 1000000)) (K : AV → Prop) (hK : K (sR (2 * d + e + 130) (midV ((x : Rat) / (y : Rat)) a b))) : Holds (goal_mBetween d a e b x y K) := by
 refine ⟨?_⟩
 rw [goal_mBetween_vc]
 try simp only [Zj, true_and, and_true, Zr, true_implies]
 obtain ⟨⟨hx, hy⟩, hl, hm, hd, he⟩ := hc
 simp only [lR_len]
 have hml : (midV ((x : Rat) / (y : Rat)) a b).length = a.length := mid_len hl
 refine ⟨⟨hx, hy⟩, ⟨0, by omega, rfl, by simp only [cond_false]; split <;> omega, rfl, by simp⟩, fun k hk => bif_mk (fun hp => ?_) (fun hp => ?_)⟩
 ·have hp : k < a.length := by have := of_decide_eq_true hp; omega
  obtain ⟨p, hpp⟩ : ∃ p, a[k]? = some p := ⟨_, Zg hp⟩
  obtain ⟨q, hq⟩ : ∃ q, b[k]? = some q := ⟨_, Zg (by omega)⟩
  refine ⟨by omega, p, d, lR_ld (by simpa using hpp), by omega, q, e, lR_ld (by simpa using hq), by omega, p, d, lR_ld (by simpa using hpp), by omega, by omega, by omega, by omega, k + 1, ⟨by omega, by omega⟩, rfl, by rw [w64 (by omega)]; simp, .inl ?_⟩
  rw [Zh (by rw [Zl, Zs]; omega), Zp, mid_get hpp hq, Zy]
  simp only [Option.toList, List.map_cons, List.map_nil]
  rw [show d + (128 + (e + d + 1)) + 1 = 2 * d + e + 130 by omega]
 ·have hp : k = a.length := by have := of_decide_eq_false hp; omega
  subst hp
  rw [Zw, Zh (by rw [Zl, Zs]; omega), Zh (by omega)]
  exact hK
def c_mBetween : Ctr := fun as0 => match as0 with
 | [.x false [.s 3 xs], .x false [.s 3 ys], .x false [.v (.int .i64 x)], .x false [.v (.int .i64 y)]] => some fun K => ∃ (d : Nat) (a : List Rat) (e : Nat) (b : List Rat), xs = lR d a ∧ ys = lR e b ∧ ((((-9223372036854775808 ≤ x ∧ x < 9223372036854775808) ∧ 0 < y ∧ y < 9223372036854775808)) ∧ (a.length = b.length ∧ a.length ≤ 1000000 ∧ d ≤ 1000000 ∧ e ≤ 1000000)) ∧ (K (sR (2 * d + e + 130) (midV ((x : Rat) / (y : Rat)) a b)))
 | _ => none
theorem ok_mBetween : CtrOK Tryz.prog tabG debT 149 c_mBetween := by
 refine ⟨enters Tryz.func149 (by kernel_rfl), fun l T hT K hK => ?_⟩
 unfold c_mBetween at hT
 split at hT
 ·cases hT
  obtain ⟨d, a, e, b, rfl, rfl, hc, hK⟩ := hK
  exact spec_ofL T179cok mixed Tryz.func149 (by kernel_rfl) (by kernel_rfl) (by rfl) (g_mBetween _ _ _ _ _ _ hc K hK)
 ·cases hT
def L180c : List (Nat × Ctr) := (149, c_mBetween) :: L179c
def T180c : Tabs := mkT L180c M79 X4
theorem L180cok : CtrsOK Tryz.prog tabG debT L180c := .cons ok_mBetween L179cok
theorem T180cok : TabsOK Tryz.prog tabG debT T180c := mkTok L180cok M79ok X4ok
def ot_cSplit : OT := fun id => bif id.beq 13 then ([0, 1, 2, 3, 4, 5, 6, 7, 8, 10, 11, 12, 13, 14, 15, 16, 17, 9, 18, 19, 20, 21, 22], [[], [], [], [1, 2], [3, 1, 2], [], [], [5, 6], [7, 5, 6], [4, 3, 1, 2, 8, 7, 5, 6], [], [], [10, 11], [12, 10, 11], [], [], [14, 15], [16, 14, 15], [13, 12, 10, 11, 17, 16, 14, 15, 9, 4, 3, 1, 2, 8, 7, 5, 6], [9, 4, 3, 1, 2, 8, 7, 5, 6, 18, 13, 12, 10, 11, 17, 16, 14, 15], [19, 9, 4, 3, 1, 2, 8, 7, 5, 6, 18, 13, 12, 10, 11, 17, 16, 14, 15], [0, 20, 19, 9, 4, 3, 1, 2, 8, 7, 5, 6, 18, 13, 12, 10, 11, 17, 16, 14, 15], [21, 0, 20, 19, 9, 4, 3, 1, 2, 8, 7, 5, 6, 18, 13, 12, 10, 11, 17, 16, 14, 15]]) else ([], [])
def goal_cSplit (d : Nat) (p : List Rat) (e : Nat) (q : List Rat) (n : Nat) (K : AV → Prop) : Prop := goalL T180c ot_cSplit (inv_split d p e q n) Tryz.f91 [sR d p, sR e q, iA .i64 n] K
theorem goal_cSplit_vc (d : Nat) (p : List Rat) (e : Nat) (q : List Rat) (n : Nat) (K : AV → Prop) : goal_cSplit d p e q n K = (bif Za (lR d p).length != Za (lR e q).length then K (AV.t [(false,[Zm (Zn none 0 0)]),(false,[Zm (Zo Zf 1)])]) else bif decide (Za (lR d p).length>3) then K (AV.t [(false,[Zm (Zn none 0 0)]),(false,[Zm (Zo Zf 1)])]) else bif decide (Za n<1) then K (AV.t [(false,[Zm (Zn none 0 0)]),(false,[Zm (Zo Zf 1)])]) else bif decide (Za n>50) then K (AV.t [(false,[Zm (Zn none 0 0)]),(false,[Zm (Zo Zf 1)])]) else ∃(d_1:Nat),∃(a:List Rat),∃(e_1:Nat),∃(b:List Rat),lR d p=lR d_1 a∧lR e q=lR e_1 b∧((((-9223372036854775808:Int)≤0∧(0:Int)<9223372036854775808)∧0<Za n∧Za n<9223372036854775808)∧a.length=b.length∧a.length≤1000000∧d_1≤1000000∧e_1≤1000000)∧(∃(x:Nat),(x≤n∧OfNat.ofNat 0=0)∧3=3∧lR d p=lR d p∧3=3∧lR e q=lR e q∧Za n=Za n∧Zn none 0 0=Zn none 0 0∧0=0∧x=0∧3=3∧lR (2*d_1+e_1+130) (midV ((↑(0:Int):Rat)/(↑(Za n):Rat)) a b)=lR (2*d+e+130) (prtV p q n x)∧Za n=Za n∧0=Za x∧rwN (2*d+e+130) (Ze x (splV p q n))=[]∧True)∧∀(x:Nat),x≤n→OfNat.ofNat 0=0→bif decide (Za x<Za n) then ∃(d_2:Nat),∃(a:List Rat),∃(e_2:Nat),∃(b:List Rat),lR d p=lR d_2 a∧lR e q=lR e_2 b∧(((-9223372036854775808≤Zf.wrap (Za x+1)∧Zf.wrap (Za x+1)<9223372036854775808)∧0<Za n∧Za n<9223372036854775808)∧a.length=b.length∧a.length≤1000000∧d_2≤1000000∧e_2≤1000000)∧(∃(x_1:Nat × Nat),((x_1.fst<n∧x_1.snd≤p.length)∧n-x_1.fst=n-x)∧3=3∧lR d p=lR d p∧3=3∧lR e q=lR e q∧Za n=Za n∧0=0∧x=x_1.fst∧3=3∧lR (2*d+e+130) (prtV p q n x)=lR (2*d+e+130) (prtV p q n x_1.fst)∧3=3∧lR (2*d_2+e_2+130) (midV ((↑(Zf.wrap (Za x+1)):Rat)/(↑(Za n):Rat)) a b)=lR (2*d+e+130) (prtV p q n (x_1.fst+1))∧Zn none 0 0=Zn none 0 0∧0=0∧x_1.snd=0∧Za n=Za n∧Za x=Za x_1.fst∧3=3∧lR (2*d+e+130) (prtV p q n x)=lR (2*d+e+130) (prtV p q n x_1.fst)∧Za (lR (2*d+e+130) (prtV p q n x)).length=Za p.length∧0=Za x_1.snd∧58=58∧1=1∧(rwN (2*d+e+130) (Ze x (splV p q n))=rwN (2*d+e+130) (Ze x_1.fst (splV p q n))∨RowLE (rwN (2*d+e+130) (Ze x (splV p q n))) (rwN (2*d+e+130) (Ze x_1.fst (splV p q n))))∧Zb (spN (2*d+e+130)) (Ze x_1.snd (rowQ p q n x_1.fst))=[]∧True)∧∀(x_1:Nat × Nat),x_1.fst<n∧x_1.snd≤p.length→n-x_1.fst=n-x→bif decide (Za x_1.snd<Za p.length) then (0≤Za x_1.snd∧Za x_1.snd<Za (lR (2*d+e+130) (prtV p q n x_1.fst)).length)∧∃(q_1:Rat),∃(n_1:Nat),ldE (lR (2*d+e+130) (prtV p q n x_1.fst)) (Za x_1.snd).toNat 0 3=some [Zi q_1 n_1]∧(0≤Za x_1.snd∧Za x_1.snd<Za (lR (2*d+e+130) (prtV p q n (x_1.fst+1))).length)∧∃(q_2:Rat),∃(n_2:Nat),ldE (lR (2*d+e+130) (prtV p q n (x_1.fst+1))) (Za x_1.snd).toNat 0 3=some [Zi q_2 n_2]∧(0≤Za x_1.snd∧Za x_1.snd<Za (lR (2*d+e+130) (prtV p q n x_1.fst)).length)∧∃(q_3:Rat),∃(n_3:Nat),ldE (lR (2*d+e+130) (prtV p q n x_1.fst)) (Za x_1.snd).toNat 0 3=some [Zi q_3 n_3]∧(0≤Za x_1.snd∧Za x_1.snd<Za (lR (2*d+e+130) (prtV p q n (x_1.fst+1))).length)∧∃(q_4:Rat),∃(n_4:Nat),ldE (lR (2*d+e+130) (prtV p q n (x_1.fst+1))) (Za x_1.snd).toNat 0 3=some [Zi q_4 n_4]∧n_1+n_2≤4294967296∧n_3+n_4≤4294967296∧((x_1.snd+1)*80≤140737488355328∧x_1.snd+1≤9223372036854775807)∧∃(x':Nat × Nat),((x'.fst<n∧x'.snd≤p.length)∧n-x'.fst=n-x∧p.length-x'.snd<p.length-x_1.snd)∧3=3∧lR d p=lR d p∧3=3∧lR e q=lR e q∧Za n=Za n∧0=0∧x_1.fst=x'.fst∧3=3∧lR (2*d+e+130) (prtV p q n x_1.fst)=lR (2*d+e+130) (prtV p q n x'.fst)∧3=3∧lR (2*d+e+130) (prtV p q n (x_1.fst+1))=lR (2*d+e+130) (prtV p q n (x'.fst+1))∧0=0∧x_1.snd+1=x'.snd∧Za n=Za n∧Za x_1.fst=Za x'.fst∧3=3∧lR (2*d+e+130) (prtV p q n x_1.fst)=lR (2*d+e+130) (prtV p q n x'.fst)∧Za p.length=Za p.length∧Zf.wrap (Za x_1.snd+1)=Za x'.snd∧58=58∧1=1∧(rwN (2*d+e+130) (Ze x_1.fst (splV p q n))=rwN (2*d+e+130) (Ze x'.fst (splV p q n))∨RowLE (rwN (2*d+e+130) (Ze x_1.fst (splV p q n))) (rwN (2*d+e+130) (Ze x'.fst (splV p q n))))∧61=61∧6=6∧(Ze x_1.snd (Zb (spN (2*d+e+130)) (Ze x_1.snd (rowQ p q n x_1.fst)))++[[Zi (minR q_1 q_2) (max n_1 n_2),Zi (maxR q_3 q_4) (max n_3 n_4)]]=Zb (spN (2*d+e+130)) (Ze x'.snd (rowQ p q n x'.fst))∨RowLE (Ze x_1.snd (Zb (spN (2*d+e+130)) (Ze x_1.snd (rowQ p q n x_1.fst)))++[[Zi (minR q_1 q_2) (max n_1 n_2),Zi (maxR q_3 q_4) (max n_3 n_4)]]) (Zb (spN (2*d+e+130)) (Ze x'.snd (rowQ p q n x'.fst))))∧True else ((x_1.fst+1)*24≤140737488355328∧x_1.fst+1≤9223372036854775807)∧∃(x':Nat),(x'≤n∧OfNat.ofNat 0=0∧n-x'<n-x)∧3=3∧lR d p=lR d p∧3=3∧lR e q=lR e q∧Za n=Za n∧0=0∧x_1.fst+1=x'∧3=3∧lR (2*d+e+130) (prtV p q n (x_1.fst+1))=lR (2*d+e+130) (prtV p q n x')∧Za n=Za n∧Zf.wrap (Za x_1.fst+1)=Za x'∧58=58∧1=1∧(Ze x_1.fst (rwN (2*d+e+130) (Ze x_1.fst (splV p q n)))++[[Yc 6 (Ze x_1.snd (Zu 0 (Zb (spN (2*d+e+130)) (Ze x_1.snd (rowQ p q n x_1.fst)))))]]=rwN (2*d+e+130) (Ze x' (splV p q n))∨RowLE (Ze x_1.fst (rwN (2*d+e+130) (Ze x_1.fst (splV p q n)))++[[Yc 6 (Ze x_1.snd (Zu 0 (Zb (spN (2*d+e+130)) (Ze x_1.snd (rowQ p q n x_1.fst)))))]]) (rwN (2*d+e+130) (Ze x' (splV p q n))))∧True else K (AV.t [(false,[Yc 1 (Ze x (Zu 0 (rwN (2*d+e+130) (Ze x (splV p q n)))))]),(false,[Zm (Zo Zf 0)])])) := by kernel_rfl
theorem g_cSplit (d : Nat) (p : List Rat) (e : Nat) (q : List Rat) (n : Nat) (hc : (d ≤ 1000000 ∧ e ≤ 1000000) ∧ (p.length = q.length ∧ p.length ≤ 3) ∧ (1 ≤ n ∧ n ≤ 50)) (K : AV → Prop) (hK : K (.t [(false, [.s 1 (rwN (2 * d + e + 130) (splV p q n))]), (false, [.v (.int .i64 0)])])) : Holds (goal_cSplit d p e q n K) := by
 refine ⟨?_⟩
 rw [goal_cSplit_vc]
 try simp only [Zj, true_and, and_true, true_implies]
 obtain ⟨⟨hd, he⟩, ⟨hl, h3⟩, hn1, hn2⟩ := hc
 simp only [lR_len]
 have pl : ∀ k, (prtV p q n k).length = p.length := fun k => prt_len hl n k
 have rl : ∀ k, (rowQ p q n k).length = p.length := fun k => by rw [rowQ, spans_len (by rw [pl, pl]), pl]
 have sl : (splV p q n).length = n := by simp [splV]
 have rwl : ∀ B (r : List (List Sp)), (rwN B r).length = r.length := fun B r => by simp [rwN]
 refine bif_mk (fun h => by simp [hl] at h) (fun _ => bif_mk (fun h => by have := of_decide_eq_true h; omega) (fun _ => bif_mk (fun h => by have := of_decide_eq_true h; omega) (fun _ => bif_mk (fun h => by have := of_decide_eq_true h; omega) (fun _ => ⟨d, p, e, q, rfl, rfl, ⟨⟨⟨by omega, by omega⟩, by omega, by omega⟩, hl, by omega, hd, he⟩, ⟨0, by omega, rfl, rfl, rfl, by simp [rwN]⟩, fun k hk => bif_mk (fun hp => ?_) (fun hp => ?_)⟩))))
 ·have hp : k < n := by have := of_decide_eq_true hp; omega
  have ew : Zf.wrap ((k : Int) + 1) = ((k + 1 : Nat) : Int) := by rw [w64 (by omega)]; omega
  rw [ew]
  refine ⟨d, p, e, q, rfl, rfl, ⟨⟨⟨by omega, by omega⟩, by omega, by omega⟩, hl, by omega, hd, he⟩, ⟨(k, 0), ⟨⟨hp, by omega⟩, rfl⟩, rfl, rfl, rfl, rfl, rfl, rfl, by rw [pl], rfl, .inl rfl, by simp⟩, fun y ⟨hy1, hy2⟩ hyt => ?_⟩
  obtain ⟨k', j⟩ := y
  have e' : k' = k := by simp only at hy1 hyt; omega
  subst e'
  simp only at hy1 hy2 hyt ⊢
  refine bif_mk (fun hj => ?_) (fun hj => ?_)
  ·have hj : j < p.length := by have := of_decide_eq_true hj; omega
   obtain ⟨u, hu⟩ : ∃ u, (prtV p q n k')[j]? = some u := ⟨_, Zg (by rw [pl]; exact hj)⟩
   obtain ⟨v, hv⟩ : ∃ v, (prtV p q n (k' + 1))[j]? = some v := ⟨_, Zg (by rw [pl]; exact hj)⟩
   have hr : (rowQ p q n k')[j]? = some ⟨minR u v, maxR u v⟩ := spans_get hu hv
   refine ⟨by rw [pl]; omega, u, _, lR_ld (by simpa using hu), by rw [pl]; omega, v, _, lR_ld (by simpa using hv), by rw [pl]; omega, u, _, lR_ld (by simpa using hu), by rw [pl]; omega, v, _, lR_ld (by simpa using hv), by omega, by omega, ⟨by omega, by omega⟩, (k', j + 1), ⟨⟨hy1, hj⟩, rfl, by simp only; omega⟩, rfl, rfl, rfl, rfl, rfl, rfl, by rw [w64 (by omega)]; simp, .inl rfl, .inl ?_⟩
   rw [Zh (by rw [Zl, Zs]; omega), Zp, hr, Zy, Nat.max_self]
   rfl
  ·have hj : j = p.length := by have := of_decide_eq_false hj; omega
   refine ⟨⟨by omega, by omega⟩, k' + 1, ⟨hp, by omega⟩, rfl, rfl, by rw [ew], .inl ?_⟩
   have e1 : Ze j (rowQ p q n k') = rowQ p q n k' := Zh (by rw [rl]; omega)
   rw [e1, Zw, Zh (l := Zb _ (rowQ p q n k')) (by rw [Zl, rl]; omega), Zh (l := rwN _ _) (by rw [rwl, Zs]; omega), Zp, splQ_get p q hp]
   unfold rwN
   rw [Zy]
   rfl
 ·have hp : k = n := by have := of_decide_eq_false hp; omega
  rw [Zw, Zh (l := rwN _ _) (by rw [rwl, Zs]; omega), Zh (by rw [sl]; omega)]
  exact hK
def c_cSplit : Ctr := fun as0 => match as0 with
 | [.x false [.s 3 xs], .x false [.s 3 ys], .x false [.v (.int .i64 N)]] => some fun K => ∃ (d : Nat) (p : List Rat) (e : Nat) (q : List Rat) (n : Nat), xs = lR d p ∧ ys = lR e q ∧ N = (n : Int) ∧ ((d ≤ 1000000 ∧ e ≤ 1000000) ∧ (p.length = q.length ∧ p.length ≤ 3) ∧ (1 ≤ n ∧ n ≤ 50)) ∧ (K (.t [(false, [.s 1 (rwN (2 * d + e + 130) (splV p q n))]), (false, [.v (.int .i64 0)])]))
 | _ => none
theorem ok_cSplit : CtrOK Tryz.prog tabG debT 91 c_cSplit := by
 refine ⟨enters Tryz.func91 (by kernel_rfl), fun l T hT K hK => ?_⟩
 unfold c_cSplit at hT
 split at hT
 ·cases hT
  obtain ⟨d, p, e, q, n, rfl, rfl, rfl, hc, hK⟩ := hK
  exact spec_ofL T180cok mixed Tryz.func91 (by kernel_rfl) (by kernel_rfl) (by rfl) (g_cSplit _ _ _ _ _ hc K hK)
 ·cases hT
def L181c : List (Nat × Ctr) := (91, c_cSplit) :: L180c
def T181c : Tabs := mkT L181c M79 X4
theorem L181cok : CtrsOK Tryz.prog tabG debT L181c := .cons ok_cSplit L180cok
theorem T181cok : TabsOK Tryz.prog tabG debT T181c := mkTok L181cok M79ok X4ok
def ot_cWalls : OT := fun _ => ([], [])
def goal_cWalls (a : ArmV) (b : Nat) (qs : List Rat) (m : Nat) (ws : List (List (Rat × Rat))) (K : AV → Prop) : Prop := goalL T181c ot_cWalls noL Tryz.f44 [armA a, sR b qs, slA m ws] K
theorem goal_cWalls_vc (a : ArmV) (b : Nat) (qs : List Rat) (m : Nat) (ws : List (List (Rat × Rat))) (K : AV → Prop) : goal_cWalls a b qs m ws K = (∃(a_1:ArmV),∃(b_1:Nat),∃(qs_1:List Rat),[Zm (Zq a.name),Zi a.x 63,Zi a.y 63,Zm (Zk a.half),Zi a.t 63,Yc 16 (Zb linkCh a.links)]=[Zm (Zq a_1.name),Zi a_1.x 63,Zi a_1.y 63,Zm (Zk a_1.half),Zi a_1.t 63,Yc 16 (Zb linkCh a_1.links)]∧lR b qs=lR b_1 qs_1∧(GoodArm a_1∧b_1≤400∧qs_1.length=a_1.links.length)∧∀(fs:List FrV) (f:FrV),fs++[f]=framesV (baseV a_1) a_1.links qs_1→fs.length=a_1.links.length→∃(n:Nat),∃(ws_1:List (List (Rat × Rat))),shN m ws=shN n ws_1∧(n≤400000000∧(∀(w:List (Rat × Rat)),w ∈ ws_1→PolyOK w)∧ws_1.length≤20)∧∃(n:Nat),∃(ls:List (List (Rat × Rat))),∃(m_1:Nat),∃(ws_2:List (List (Rat × Rat))),shN 115300000 (placeV fs a_1.links)=shN n ls∧shN m ws=shN m_1 ws_2∧((n≤400000000∧m_1≤400000000)∧((∀(s:List (Rat × Rat)),s ∈ ls→PolyOK s)∧∀(w:List (Rat × Rat)),w ∈ ws_2→PolyOK w)∧ls.length≤100∧ws_2.length≤100)∧K (AV.t [(false,[Zm (Zk (freeB ls ws_2))]),(false,[Zm (Zo Zf 0)])])) := by kernel_rfl
theorem g_cWalls (a : ArmV) (b : Nat) (qs : List Rat) (m : Nat) (ws : List (List (Rat × Rat))) (hc : (GoodArm a) ∧ (b ≤ 400 ∧ qs.length = a.links.length) ∧ (m ≤ 400000000) ∧ ((∀ w ∈ ws, PolyOK w) ∧ ws.length ≤ 20)) (K : AV → Prop) (hK : ∀ (fs : List FrV) (f : FrV), fs ++ [f] = framesV (baseV a) a.links qs → fs.length = a.links.length → K (.t [(false, [.v (.bool (freeB (placeV fs a.links) ws))]), (false, [.v (.int .i64 0)])])) : Holds (goal_cWalls a b qs m ws K) := by
 refine ⟨?_⟩
 rw [goal_cWalls_vc]
 try simp only [Zj, true_and, and_true, Zt, Zr, true_implies, true_or, or_true]
 obtain ⟨hg, ⟨hb, hq⟩, hm, hw, hwl⟩ := hc
 have hn := hg.n
 exact ⟨a, b, qs, rfl, rfl, ⟨hg, hb, hq⟩, fun fs f hf hl => ⟨m, ws, rfl, ⟨hm, hw, hwl⟩, 115300000, placeV fs a.links, m, ws, rfl, rfl, ⟨⟨by omega, hm⟩, ⟨place_poly hg fs, hw⟩, by rw [place_len hl]; omega, by omega⟩, hK fs f hf hl⟩⟩
def c_cWalls : Ctr := fun as0 => match as0 with
 | [.x true xs, .x false [.s 3 ys], .x false [.s 1 zs]] => some fun K => ∃ (a : ArmV) (b : Nat) (qs : List Rat) (m : Nat) (ws : List (List (Rat × Rat))), xs = armCh a ∧ ys = lR b qs ∧ zs = shN m ws ∧ ((GoodArm a) ∧ (b ≤ 400 ∧ qs.length = a.links.length) ∧ (m ≤ 400000000) ∧ ((∀ w ∈ ws, PolyOK w) ∧ ws.length ≤ 20)) ∧ (∀ (fs : List FrV) (f : FrV), fs ++ [f] = framesV (baseV a) a.links qs → fs.length = a.links.length → K (.t [(false, [.v (.bool (freeB (placeV fs a.links) ws))]), (false, [.v (.int .i64 0)])]))
 | _ => none
theorem ok_cWalls : CtrOK Tryz.prog tabG debT 44 c_cWalls := by
 refine ⟨enters Tryz.func44 (by kernel_rfl), fun l T hT K hK => ?_⟩
 unfold c_cWalls at hT
 split at hT
 ·cases hT
  obtain ⟨a, b, qs, m, ws, rfl, rfl, rfl, hc, hK⟩ := hK
  exact spec_ofL T181cok mixed Tryz.func44 (by kernel_rfl) (by kernel_rfl) (by rfl) (g_cWalls _ _ _ _ _ hc K hK)
 ·cases hT
def L182c : List (Nat × Ctr) := (44, c_cWalls) :: L181c
theorem L182cok : CtrsOK Tryz.prog tabG debT L182c := .cons ok_cWalls L181cok
def L183c : List (Nat × Ctr) := L182c
def T183c : Tabs := mkT L183c M79 X4
theorem L183cok : CtrsOK Tryz.prog tabG debT L183c := L182cok
theorem T183cok : TabsOK Tryz.prog tabG debT T183c := mkTok L183cok M79ok X4ok
def ot_cMotion : OT := fun _ => ([], [])
def goal_cMotion (a : ArmV) (d : Nat) (p : List Rat) (e : Nat) (q : List Rat) (m : Nat) (ws : List (List (Rat × Rat))) (n : Nat) (K : AV → Prop) : Prop := goalL T183c ot_cMotion (inv_motion a d p e q m ws n) Tryz.f48 [armA a, sR d p, sR e q, slA m ws, iA .i64 n] K
theorem goal_cMotion_vc (a : ArmV) (d : Nat) (p : List Rat) (e : Nat) (q : List Rat) (m : Nat) (ws : List (List (Rat × Rat))) (n : Nat) (K : AV → Prop) : goal_cMotion a d p e q m ws n K = (∃(a_1:ArmV),[Zm (Zq a.name),Zi a.x 63,Zi a.y 63,Zm (Zk a.half),Zi a.t 63,Yc 16 (Zb linkCh a.links)]=[Zm (Zq a_1.name),Zi a_1.x 63,Zi a_1.y 63,Zm (Zk a_1.half),Zi a_1.t 63,Yc 16 (Zb linkCh a_1.links)]∧(GoodArm a_1∧Za (lR d p).length=Za a_1.links.length)∧∃(d_1:Nat),∃(p_1:List Rat),∃(e_1:Nat),∃(q_1:List Rat),∃(n_1:Nat),lR d p=lR d_1 p_1∧lR e q=lR e_1 q_1∧Za n=Za n_1∧((d_1≤1000000∧e_1≤1000000)∧(p_1.length=q_1.length∧p_1.length≤3)∧1≤n_1∧n_1≤50)∧∃(n_2:Nat),∃(ws_1:List (List (Rat × Rat))),shN m ws=shN n_2 ws_1∧(n_2≤400000000∧(∀(w:List (Rat × Rat)),w ∈ ws_1→PolyOK w)∧ws_1.length≤20)∧(∃(x:Nat),((x≤n∧∀(j:Nat),j<x→freeB (polyH a (rowQ p q n j)) ws=true)∧OfNat.ofNat 0=0)∧1=1∧shN m ws=shN m ws∧0=0∧1=1∧rwN (2*d_1+e_1+130) (splV p_1 q_1 n_1)=rwN (2*d+e+130) (splV p q n)∧Za (rwN (2*d_1+e_1+130) (splV p_1 q_1 n_1)).length=Za n∧0=Za x∧34=34∧a.name=a.name∧a.x=a.x∧63≤63∧a.y=a.y∧63≤63∧a.half=a.half∧a.t=a.t∧63≤63∧16=16∧Zb linkCh a.links=Zb linkCh a.links∧True)∧∀(x:Nat),(x≤n∧∀(j:Nat),j<x→freeB (polyH a (rowQ p q n j)) ws=true)→OfNat.ofNat 0=0→bif decide (Za x<Za n) then (0≤Za x∧Za x<Za (rwN (2*d+e+130) (splV p q n)).length)∧∃(ys:List (List Ch)),ldE (rwN (2*d+e+130) (splV p q n)) (Za x).toNat 0 1=some [Yc 6 ys]∧∃(a_4:ArmV),∃(B:Nat),∃(ts:List Sp),∃(qs:List Rat),[Zm (Zq a.name),Zi a.x 63,Zi a.y 63,Zm (Zk a.half),Zi a.t 63,Yc 16 (Zb linkCh a.links)]=[Zm (Zq a_4.name),Zi a_4.x 63,Zi a_4.y 63,Zm (Zk a_4.half),Zi a_4.t 63,Yc 16 (Zb linkCh a_4.links)]∧ys=Zb (spN B) ts∧(GoodArm a_4∧(B≤400∧ts.length=a_4.links.length)∧ts.length=qs.length∧∀(i:Nat) (t:Sp) (q:Rat),ts[i]?=some t→qs[i]?=some q→t.lo≤q∧q≤t.hi)∧∀(ls:List LoV) (l:LoV),ls++[l]=spreadV (loBase a_4) a_4.links ts→ls.length=a_4.links.length→(∃(x_1:Nat × Nat),(((x_1.fst<n∧∀(j:Nat),j<x_1.fst→freeB (polyH a (rowQ p q n j)) ws=true)∧x_1.snd≤a.links.length)∧n-x_1.fst=n-x)∧1=1∧shN m ws=shN m ws∧0=0∧Zn none 0 0=Zn none 0 0∧0=0∧x_1.snd=0∧1=1∧rwN (2*d+e+130) (splV p q n)=rwN (2*d+e+130) (splV p q n)∧Za n=Za n∧Za x=Za x_1.fst∧12=12∧Zb (bx4 800000) (boxesV ls a_4.links)=Zb (bx4 800000) (bxsV a (rowQ p q n x_1.fst))∧Za (Zb (bx4 800000) (boxesV ls a_4.links)).length=Za a.links.length∧0=Za x_1.snd∧34=34∧a.name=a.name∧a.x=a.x∧63≤63∧a.y=a.y∧63≤63∧a.half=a.half∧a.t=a.t∧63≤63∧16=16∧Zb linkCh a.links=Zb linkCh a.links∧shN 800000 (Ze x_1.snd (polyH a (rowQ p q n x_1.fst)))=[]∧True)∧∀(x_1:Nat × Nat),(x_1.fst<n∧∀(j:Nat),j<x_1.fst→freeB (polyH a (rowQ p q n j)) ws=true)∧x_1.snd≤a.links.length→n-x_1.fst=n-x→bif decide (Za x_1.snd<Za a.links.length) then (0≤Za x_1.snd∧Za x_1.snd<Za (Zb (bx4 800000) (bxsV a (rowQ p q n x_1.fst))).length)∧∃(q_2:Rat),∃(n_3:Nat),∃(q_3:Rat),∃(n_4:Nat),∃(q_4:Rat),∃(n_5:Nat),∃(q_5:Rat),∃(n_6:Nat),ldE (Zb (bx4 800000) (bxsV a (rowQ p q n x_1.fst))) (Za x_1.snd).toNat 0 12=some [Zi q_2 n_3,Zi q_3 n_4,Zi q_4 n_5,Zi q_5 n_6]∧∃(n_7:Nat),∃(b:BoxV),[Zi q_2 n_3,Zi q_3 n_4,Zi q_4 n_5,Zi q_5 n_6]=[Zi b.x1 n_7,Zi b.y1 n_7,Zi b.x2 n_7,Zi b.y2 n_7]∧n_7≤400000000∧((x_1.snd+1)*24≤140737488355328∧x_1.snd+1≤9223372036854775807)∧∃(x':Nat × Nat),(((x'.fst<n∧∀(j:Nat),j<x'.fst→freeB (polyH a (rowQ p q n j)) ws=true)∧x'.snd≤a.links.length)∧n-x'.fst=n-x∧a.links.length-x'.snd<a.links.length-x_1.snd)∧1=1∧shN m ws=shN m ws∧0=0∧0=0∧x_1.snd+1=x'.snd∧1=1∧rwN (2*d+e+130) (splV p q n)=rwN (2*d+e+130) (splV p q n)∧Za n=Za n∧Za x_1.fst=Za x'.fst∧12=12∧Zb (bx4 800000) (bxsV a (rowQ p q n x_1.fst))=Zb (bx4 800000) (bxsV a (rowQ p q n x'.fst))∧Za a.links.length=Za a.links.length∧Zf.wrap (Za x_1.snd+1)=Za x'.snd∧34=34∧a.name=a.name∧a.x=a.x∧63≤63∧a.y=a.y∧63≤63∧a.half=a.half∧a.t=a.t∧63≤63∧16=16∧Zb linkCh a.links=Zb linkCh a.links∧68=68∧1=1∧(Ze x_1.snd (shN 800000 (Ze x_1.snd (polyH a (rowQ p q n x_1.fst))))++[[Yc 6 [[Zi (b.x1,b.y1).fst n_7,Zi (b.x1,b.y1).snd n_7],[Zi (b.x2,b.y1).fst n_7,Zi (b.x2,b.y1).snd n_7],[Zi (b.x2,b.y2).fst n_7,Zi (b.x2,b.y2).snd n_7],[Zi (b.x1,b.y2).fst n_7,Zi (b.x1,b.y2).snd n_7]]]]=shN 800000 (Ze x'.snd (polyH a (rowQ p q n x'.fst)))∨RowLE (Ze x_1.snd (shN 800000 (Ze x_1.snd (polyH a (rowQ p q n x_1.fst))))++[[Yc 6 [[Zi (b.x1,b.y1).fst n_7,Zi (b.x1,b.y1).snd n_7],[Zi (b.x2,b.y1).fst n_7,Zi (b.x2,b.y1).snd n_7],[Zi (b.x2,b.y2).fst n_7,Zi (b.x2,b.y2).snd n_7],[Zi (b.x1,b.y2).fst n_7,Zi (b.x1,b.y2).snd n_7]]]]) (shN 800000 (Ze x'.snd (polyH a (rowQ p q n x'.fst)))))∧True else ∃(n_3:Nat),∃(ls:List (List (Rat × Rat))),∃(m_1:Nat),∃(ws_2:List (List (Rat × Rat))),Ze x_1.snd (Zu 0 (shN 800000 (Ze x_1.snd (polyH a (rowQ p q n x_1.fst)))))=shN n_3 ls∧shN m ws=shN m_1 ws_2∧((n_3≤400000000∧m_1≤400000000)∧((∀(s:List (Rat × Rat)),s ∈ ls→PolyOK s)∧∀(w:List (Rat × Rat)),w ∈ ws_2→PolyOK w)∧ls.length≤100∧ws_2.length≤100)∧bif !freeB ls ws_2 then K (AV.t [(false,[Zm (Zk false)]),(false,[Zm (Zo Zf 0)])]) else ∃(x':Nat),((x'≤n∧∀(j:Nat),j<x'→freeB (polyH a (rowQ p q n j)) ws=true)∧OfNat.ofNat 0=0∧n-x'<n-x)∧1=1∧shN m ws=shN m ws∧0=0∧1=1∧rwN (2*d+e+130) (splV p q n)=rwN (2*d+e+130) (splV p q n)∧Za n=Za n∧Zf.wrap (Za x_1.fst+1)=Za x'∧34=34∧a.name=a.name∧a.x=a.x∧63≤63∧a.y=a.y∧63≤63∧a.half=a.half∧a.t=a.t∧63≤63∧16=16∧Zb linkCh a.links=Zb linkCh a.links∧True else K (AV.t [(false,[Zm (Zk true)]),(false,[Zm (Zo Zf 0)])])) := by kernel_rfl
theorem g_cMotion (a : ArmV) (d : Nat) (p : List Rat) (e : Nat) (q : List Rat) (m : Nat) (ws : List (List (Rat × Rat))) (n : Nat) (hc : (GoodArm a) ∧ (2 * d + e + 130 ≤ 400) ∧ (p.length = a.links.length ∧ q.length = a.links.length) ∧ (m ≤ 400000000) ∧ ((∀ w ∈ ws, PolyOK w) ∧ ws.length ≤ 20) ∧ (1 ≤ n ∧ n ≤ 50)) (K : AV → Prop) (hK : K (.t [(false, [.v (.bool (motB a (splV p q n) ws))]), (false, [.v (.int .i64 0)])])) : Holds (goal_cMotion a d p e q m ws n K) := by
 refine ⟨?_⟩
 rw [goal_cMotion_vc]
 try simp only [Zj, true_and, and_true, Zt, Zr, true_implies, true_or, or_true]
 obtain ⟨hg, hB, ⟨hp, hq⟩, hm, ⟨hw, hwl⟩, hn1, hn2⟩ := hc
 have hn := hg.n
 have hpq : p.length = q.length := by omega
 have pl : ∀ k, (prtV p q n k).length = p.length := fun k => prt_len hpq n k
 have rl : ∀ k, (rowQ p q n k).length = p.length := fun k => by rw [rowQ, spans_len (by rw [pl, pl]), pl]
 have sl : (splV p q n).length = n := by simp [splV]
 have rwl : ∀ B (r : List (List Sp)), (rwN B r).length = r.length := fun B r => by simp [rwN]
 have shl : ∀ n (l : List (List (Rat × Rat))), (shN n l).length = l.length := fun n l => by simp [shN]
 have mi := mot_iff (a := a) (p := p) (q := q) (n := n) (ws := ws)
 refine ⟨a, rfl, ⟨hg, by rw [lR_len, hp]⟩, d, p, e, q, n, rfl, rfl, rfl, ⟨⟨by omega, by omega⟩, ⟨hpq, by omega⟩, hn1, hn2⟩, m, ws, rfl, ⟨hm, hw, hwl⟩, ⟨0, ⟨by omega, fun j hj => absurd hj (by omega)⟩, rfl, by rw [rwl, sl], rfl⟩, fun k ⟨hk, hkf⟩ => bif_mk (fun hp' => ?_) (fun hp' => ?_)⟩
 ·have hk' : k < n := by have := of_decide_eq_true hp'; omega
  have hHas : HasQ (rowQ p q n k) (prtV p q n k) := row_has hpq hn1 hn1 (Zr _) (Nat.mul_le_mul_right _ (by omega))
  refine ⟨by rw [rwl, sl]; omega, _, rw_ld (by simpa using splQ_get p q hk'), a, 2 * d + e + 130, rowQ p q n k, prtV p q n k, rfl, rfl, ⟨hg, ⟨hB, by rw [rl]; omega⟩, hHas⟩, fun ls l hls hll => ?_⟩
  have eb : boxesV ls a.links = bxsV a (rowQ p q n k) := by unfold bxsV; rw [← hls, boxes_snoc hll]
  have bl : (bxsV a (rowQ p q n k)).length = a.links.length := by rw [← eb]; exact boxes_len hll
  have hPl : (polyH a (rowQ p q n k)).length = a.links.length := by unfold polyH; rw [Zl]; exact bl
  refine ⟨⟨(k, 0), ⟨⟨⟨hk', hkf⟩, by omega⟩, rfl⟩, rfl, rfl, by rw [eb], by rw [Zl, boxes_len hll], rfl, by simp [shN]⟩, fun y ⟨⟨hy1, hyf⟩, hy2⟩ hyt => ?_⟩
  obtain ⟨k', j⟩ := y
  have e' : k' = k := by simp only at hy1 hyt; omega
  subst e'
  simp only at hy1 hy2 hyt hyf ⊢
  refine bif_mk (fun hj => ?_) (fun hj => ?_)
  ·have hj : j < a.links.length := by have := of_decide_eq_true hj; omega
   obtain ⟨u, hu⟩ : ∃ u, (bxsV a (rowQ p q n k'))[j]? = some u := ⟨_, Zg (by omega)⟩
   have hP : (polyH a (rowQ p q n k'))[j]? = some (cornV (boxH u)) := by
    unfold bxsV at hu
    simp only [polyH, Zz, hu]; rfl
   refine ⟨by rw [Zl, bl]; omega, _, _, _, _, _, _, _, _, bx4_ld (by simpa using hu), 800000, boxH u, rfl, by omega, ⟨by omega, by omega⟩, (k', j + 1), ⟨⟨⟨hy1, hyf⟩, hj⟩, rfl, by simp only; omega⟩, rfl, rfl, rfl, by rw [w64 (by omega)]; simp, .inl ?_⟩
   rw [Zh (by rw [shl, Zs]; omega), Zp, hP]
   unfold shN
   rw [Zy]
   rfl
  ·have hj : j = a.links.length := by have := of_decide_eq_false hj; omega
   refine ⟨800000, polyH a (rowQ p q n k'), m, ws, ?_, rfl, ⟨⟨by omega, hm⟩, ⟨polyH_ok hg hHas (by rw [rl]; omega), hw⟩, by omega, by omega⟩, bif_mk (fun hF => ?_) (fun hF => ⟨k' + 1, ⟨⟨hk', fun i hi => ?_⟩, by omega⟩, by rw [w64 (by omega)]; simp⟩)⟩
   ·rw [Zw, Zh (by rw [shl, Zs]; omega), Zh (by omega)]
   ·have hF : freeB (polyH a (rowQ p q n k')) ws = false := by simpa using hF
    have : motB a (splV p q n) ws = false := by
     cases hM : motB a (splV p q n) ws with
     | false => rfl
     | true => rw [mi.1 hM k' hk'] at hF; cases hF
    rw [this] at hK
    exact hK
   ·by_cases e : i < k'
    ·exact hyf i e
    ·have e : i = k' := by omega
     rw [e]; simpa using hF
 ·have hk' : k = n := by have := of_decide_eq_false hp'; omega
  rw [mi.2 fun i hi => hkf i (by omega)] at hK
  exact hK
def c_cMotion : Ctr := fun as0 => match as0 with
 | [.x true xs, .x false [.s 3 ys], .x false [.s 3 zs], .x false [.s 1 us], .x false [.v (.int .i64 N)]] => some fun K => ∃ (a : ArmV) (d : Nat) (p : List Rat) (e : Nat) (q : List Rat) (m : Nat) (ws : List (List (Rat × Rat))) (n : Nat), xs = armCh a ∧ ys = lR d p ∧ zs = lR e q ∧ us = shN m ws ∧ N = (n : Int) ∧ ((GoodArm a) ∧ (2 * d + e + 130 ≤ 400) ∧ (p.length = a.links.length ∧ q.length = a.links.length) ∧ (m ≤ 400000000) ∧ ((∀ w ∈ ws, PolyOK w) ∧ ws.length ≤ 20) ∧ (1 ≤ n ∧ n ≤ 50)) ∧ (K (.t [(false, [.v (.bool (motB a (splV p q n) ws))]), (false, [.v (.int .i64 0)])]))
 | _ => none
theorem ok_cMotion : CtrOK Tryz.prog tabG debT 48 c_cMotion := by
 refine ⟨enters Tryz.func48 (by kernel_rfl), fun l T hT K hK => ?_⟩
 unfold c_cMotion at hT
 split at hT
 ·cases hT
  obtain ⟨a, d, p, e, q, m, ws, n, rfl, rfl, rfl, rfl, rfl, hc, hK⟩ := hK
  exact spec_ofL T183cok mixed Tryz.func48 (by kernel_rfl) (by kernel_rfl) (by rfl) (g_cMotion _ _ _ _ _ _ _ _ hc K hK)
 ·cases hT
def L184c : List (Nat × Ctr) := (48, c_cMotion) :: L183c
def T184c : Tabs := mkT L184c M79 X4
theorem L184cok : CtrsOK Tryz.prog tabG debT L184c := .cons ok_cMotion L183cok
theorem T184cok : TabsOK Tryz.prog tabG debT T184c := mkTok L184cok M79ok X4ok
end Go.Proofs
