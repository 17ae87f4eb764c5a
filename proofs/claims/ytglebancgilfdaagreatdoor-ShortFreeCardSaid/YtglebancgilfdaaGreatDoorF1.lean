/- Turns, vectors, frames. -/
import Derived.Test.YtglebancgilfdaaGreatDoorAJ
open Go.Value renaming bool → Za, string → Zi
open Int renaming ofNat_eq_natCast → Zb, ofNat → Zd
open Nat renaming le_refl → Zc, zero_add → Zg
open List renaming map → Ze, getElem?_eq_getElem → Zh, take_of_length_le → Zj, take → Zl
open Go.Eng.Ch renaming r → Zf, v → Zk
/- Turns, vectors, frames. -/
namespace Go.Proofs
open Go Go.Eng
def fitT (h : Bool) (t : Rat) : Rat := bif h then 0 else t
def oppH (t : Rat) : Bool := decide (t = 0)
def oppT (t : Rat) : Rat := bif oppH t then 0 else ((-1 : Int) : Rat) / t
def thH (h1 : Bool) (t1 : Rat) (h2 : Bool) (t2 : Rat) : Bool := bif h1 && h2 then false else bif h1 then oppH (fitT h2 t2) else bif h2 then oppH (fitT h1 t1) else decide (1 - t1 * t2 = 0)
def thT (h1 : Bool) (t1 : Rat) (h2 : Bool) (t2 : Rat) : Rat := bif h1 && h2 then 0 else bif h1 then oppT (fitT h2 t2) else bif h2 then oppT (fitT h1 t1) else bif decide (1 - t1 * t2 = 0) then 0 else (t1 + t2) / (1 - t1 * t2)
def cosT (h : Bool) (t : Rat) : Rat := bif h then -1 else (1 - t * t) / (1 + t * t)
def sinT (h : Bool) (t : Rat) : Rat := bif h then 0 else (t + t) / (1 + t * t)
/-- A place and a turn. -/
structure FrV where
  x : Rat
  y : Rat
  h : Bool
  t : Rat
def putX (f : FrV) (x y : Rat) : Rat := f.x + (x * cosT f.h f.t - y * sinT f.h f.t)
def putY (f : FrV) (x y : Rat) : Rat := f.y + (x * sinT f.h f.t + y * cosT f.h f.t)
def frThen (f g : FrV) : FrV := ⟨putX f g.x g.y, putY f g.x g.y, thH f.h f.t g.h g.t, thT f.h f.t g.h g.t⟩
theorem minR_self (p : Rat) : minR p p = p := by unfold minR; split <;> rfl
theorem sq_nn (t : Rat) : 0 ≤ t * t := by
 rcases @Rat.le_total 0 t with h | h
 ·exact Rat.mul_nonneg h h
 ·have := Rat.mul_nonneg (show 0 ≤ -t by grind) (show 0 ≤ -t by grind)
  grind
theorem sq1 (t : Rat) : 1 + t * t ≠ 0 := by have := sq_nn t; grind
def L79 : List (Nat × Ctr) := L52
def M79 : List (Nat × CtrM) := M48
def T79 : Tabs := mkT L79 M79 X4
theorem L79ok : CtrsOK Tryz.prog tabG debT L79 := L52ok
theorem M79ok : CtrMsOK Tryz.prog tabG debT M79 := M48ok
theorem T79ok : TabsOK Tryz.prog tabG debT T79 := mkTok L79ok M79ok X4ok
def ot_uOf : OT := fun _ => ([], [])
def goal_uOf (t : Rat) (a : Nat) (K : AV → Prop) : Prop := goalL T79 ot_uOf noL Tryz.f113 [rA t a] K
theorem goal_uOf_vc (t : Rat) (a : Nat) (K : AV → Prop) : goal_uOf t a K = (a+a≤4294967296∧K (AV.x true [Zk (Za false),Zf (minR t t) (max a a)])) := by kernel_rfl
theorem g_uOf (t : Rat) (a : Nat) (hc : (a ≤ 1000000000)) (K : AV → Prop) (hK : K (.x true [.v (.bool false), .r t a])) : Holds (goal_uOf t a K) := by
 refine ⟨?_⟩
 rw [goal_uOf_vc]
 try simp only [Zb, true_and, and_true, Zg, Zc, true_implies, true_or, or_true]
 rw [minR_self, Nat.max_self]
 exact ⟨by omega, hK⟩
def c_uOf : Ctr := fun as0 => match as0 with
 | [.x true [.r t a]] => some fun K => ((a ≤ 1000000000)) ∧ (K (.x true [.v (.bool false), .r t a]))
 | _ => none
theorem ok_uOf : CtrOK Tryz.prog tabG debT 113 c_uOf := by
 refine ⟨enters Tryz.func113 (by kernel_rfl), fun l T hT K hK => ?_⟩
 unfold c_uOf at hT
 split at hT
 ·cases hT
  obtain ⟨hc, hK⟩ := hK
  exact spec_ofL T79ok mixed Tryz.func113 (by kernel_rfl) (by kernel_rfl) (by rfl) (g_uOf _ _ hc K hK)
 ·cases hT
def L80 : List (Nat × Ctr) := (113, c_uOf) :: L79
def T80 : Tabs := mkT L80 M79 X4
theorem L80ok : CtrsOK Tryz.prog tabG debT L80 := .cons ok_uOf L79ok
theorem T80ok : TabsOK Tryz.prog tabG debT T80 := mkTok L80ok M79ok X4ok
def ot_uHalf : OT := fun _ => ([], [])
def goal_uHalf  (K : AV → Prop) : Prop := goalL T80 ot_uHalf noL Tryz.f169 [] K
theorem goal_uHalf_vc (K : AV → Prop) : goal_uHalf K = (((-9223372036854775808:Int)≤0∧(0:Int)<9223372036854775808)∧K (AV.x true [Zk (Za true),Zf (↑(0:Int)) 64])) := by kernel_rfl
theorem g_uHalf  (_hc : True) (K : AV → Prop) (hK : K (.x true [.v (.bool true), .r 0 64])) : Holds (goal_uHalf  K) := by
 refine ⟨?_⟩
 rw [goal_uHalf_vc]
 try simp only [Zb, true_and, and_true, Zg, Zc, true_implies, true_or, or_true]
 exact ⟨by omega, hK⟩
def c_uHalf : Ctr := fun as0 => match as0 with
 | [] => some fun K => (True) ∧ (K (.x true [.v (.bool true), .r 0 64]))
 | _ => none
theorem ok_uHalf : CtrOK Tryz.prog tabG debT 169 c_uHalf := by
 refine ⟨enters Tryz.func169 (by kernel_rfl), fun l T hT K hK => ?_⟩
 unfold c_uHalf at hT
 split at hT
 ·cases hT
  obtain ⟨hc, hK⟩ := hK
  exact spec_ofL T80ok mixed Tryz.func169 (by kernel_rfl) (by kernel_rfl) (by rfl) (g_uHalf  hc K hK)
 ·cases hT
def L81 : List (Nat × Ctr) := (169, c_uHalf) :: L80
def T81 : Tabs := mkT L81 M79 X4
theorem L81ok : CtrsOK Tryz.prog tabG debT L81 := .cons ok_uHalf L80ok
theorem T81ok : TabsOK Tryz.prog tabG debT T81 := mkTok L81ok M79ok X4ok
def ot_uFit : OT := fun _ => ([], [])
def goal_uFit (h : Bool) (t : Rat) (a : Nat) (K : AV → Prop) : Prop := goalL T81 ot_uFit noL Tryz.f164 [.x true [.v (.bool h), .r t a]] K
theorem goal_uFit_vc (h : Bool) (t : Rat) (a : Nat) (K : AV → Prop) : goal_uFit h t a K = (bif h then True∧K (AV.x true [Zk (Za true),Zf (OfNat.ofNat 0) 64]) else a≤1000000000∧K (AV.x true [Zk (Za false),Zf t a])) := by kernel_rfl
theorem g_uFit (h : Bool) (t : Rat) (a : Nat) (hc : (a ≤ 1000000000)) (K : AV → Prop) (hK : ∀ n, n ≤ a + 64 → K (.x true [.v (.bool h), .r (fitT h t) n])) : Holds (goal_uFit h t a K) := by
 refine ⟨?_⟩
 rw [goal_uFit_vc]
 try simp only [true_and]
 cases h with
 | true => exact hK 64 (by omega)
 | false => exact ⟨hc, hK a (by omega)⟩
def c_uFit : Ctr := fun as0 => match as0 with
 | [.x true [.v (.bool h), .r t a]] => some fun K => ((a ≤ 1000000000)) ∧ (∀ n, n ≤ a + 64 → K (.x true [.v (.bool h), .r (fitT h t) n]))
 | _ => none
theorem ok_uFit : CtrOK Tryz.prog tabG debT 164 c_uFit := by
 refine ⟨enters Tryz.func164 (by kernel_rfl), fun l T hT K hK => ?_⟩
 unfold c_uFit at hT
 split at hT
 ·cases hT
  obtain ⟨hc, hK⟩ := hK
  exact spec_ofL T81ok mixed Tryz.func164 (by kernel_rfl) (by kernel_rfl) (by rfl) (g_uFit _ _ _ hc K hK)
 ·cases hT
def L82 : List (Nat × Ctr) := (164, c_uFit) :: L81
def T82 : Tabs := mkT L82 M79 X4
theorem L82ok : CtrsOK Tryz.prog tabG debT L82 := .cons ok_uFit L81ok
theorem T82ok : TabsOK Tryz.prog tabG debT T82 := mkTok L82ok M79ok X4ok
def ot_uOpp : OT := fun id => bif id.beq 1 then ([1, 2, 7, 0, 3, 4, 5, 6, 8, 9], [[], [], [1], [0, 2, 1], [3, 0, 2, 1], [4, 3, 0, 2, 1], [4, 3, 0, 2, 1], [], [7, 5, 4, 3, 0, 2, 1], [6, 4, 3, 0, 2, 1, 8, 7, 5]]) else ([], [])
def goal_uOpp (h : Bool) (t : Rat) (a : Nat) (K : AV → Prop) : Prop := goalL T82 ot_uOpp noL Tryz.f168 [.x true [.v (.bool h), .r t a]] K
theorem goal_uOpp_vc (h : Bool) (t : Rat) (a : Nat) (K : AV → Prop) : goal_uOpp h t a K = (((-9223372036854775808:Int)≤ -1∧(-1:Int)<9223372036854775808)∧64+a≤4294967296∧(t≠OfNat.ofNat 0→64+a≤1000000000∧K (AV.x true [Zk (Za false),Zf (↑(-1:Int)/t) (64+a)]))∧(t=OfNat.ofNat 0→True∧K (AV.x true [Zk (Za true),Zf (OfNat.ofNat 0) 64]))) := by kernel_rfl
theorem g_uOpp (h : Bool) (t : Rat) (a : Nat) (hc : (a ≤ 900000000)) (K : AV → Prop) (hK : ∀ n, n ≤ a + 64 → K (.x true [.v (.bool (oppH t)), .r (oppT t) n])) : Holds (goal_uOpp h t a K) := by
 refine ⟨?_⟩
 rw [goal_uOpp_vc]
 try simp only [true_and]
 refine ⟨by omega, by omega, fun h0 => ⟨by omega, ?_⟩, fun h0 => ?_⟩
 ·have e : oppH t = false := decide_eq_false h0
  have := hK (64 + a) (by omega)
  unfold oppT at this
  rw [e] at this; exact this
 ·have e : oppH t = true := decide_eq_true h0
  have := hK 64 (by omega)
  unfold oppT at this
  rw [e] at this; exact this
def c_uOpp : Ctr := fun as0 => match as0 with
 | [.x true [.v (.bool _h), .r t a]] => some fun K => ((a ≤ 900000000)) ∧ (∀ n, n ≤ a + 64 → K (.x true [.v (.bool (oppH t)), .r (oppT t) n]))
 | _ => none
theorem ok_uOpp : CtrOK Tryz.prog tabG debT 168 c_uOpp := by
 refine ⟨enters Tryz.func168 (by kernel_rfl), fun l T hT K hK => ?_⟩
 unfold c_uOpp at hT
 split at hT
 ·cases hT
  obtain ⟨hc, hK⟩ := hK
  exact spec_ofL T82ok mixed Tryz.func168 (by kernel_rfl) (by kernel_rfl) (by rfl) (g_uOpp _ _ _ hc K hK)
 ·cases hT
def L83 : List (Nat × Ctr) := (168, c_uOpp) :: L82
def T83 : Tabs := mkT L83 M79 X4
theorem L83ok : CtrsOK Tryz.prog tabG debT L83 := .cons ok_uOpp L82ok
theorem T83ok : TabsOK Tryz.prog tabG debT T83 := mkTok L83ok M79ok X4ok
def ot_uThen : OT := fun id => bif id.beq 1 then ([0, 2, 1, 3, 4, 5], [[], [0], [], [2, 1, 0], [1, 0, 3, 2], [3, 2, 1, 0, 4]]) else bif id.beq 8 then ([0, 1, 2, 3, 6, 7, 8, 9, 16, 4, 5, 10, 11, 12, 13, 14, 15, 17, 18], [[], [0], [], [2], [1, 0, 3, 2], [4, 1, 0, 3, 2], [], [6], [], [8], [7, 6, 9, 8, 5, 4, 1, 0, 3, 2], [5, 4, 1, 0, 3, 2, 10, 7, 6, 9, 8], [4, 1, 0, 3, 2, 11, 5, 10, 7, 6, 9, 8], [12, 4, 1, 0, 3, 2, 11, 5, 10, 7, 6, 9, 8], [13, 12, 4, 1, 0, 3, 2, 11, 5, 10, 7, 6, 9, 8], [13, 12, 4, 1, 0, 3, 2, 11, 5, 10, 7, 6, 9, 8], [], [16, 14, 13, 12, 4, 1, 0, 3, 2, 11, 5, 10, 7, 6, 9, 8], [15, 13, 12, 4, 1, 0, 3, 2, 11, 5, 10, 7, 6, 9, 8, 17, 16, 14]]) else ([], [])
def goal_uThen (h : Bool) (t : Rat) (a : Nat) (g : Bool) (u : Rat) (b : Nat) (K : AV → Prop) : Prop := goalL T83 ot_uThen noL Tryz.f122 [.x true [.v (.bool h), .r t a], .x true [.v (.bool g), .r u b]] K
theorem goal_uThen_vc (h : Bool) (t : Rat) (a : Nat) (g : Bool) (u : Rat) (b : Nat) (K : AV → Prop) : goal_uThen h t a g u b K = (a≤1000000000∧∀(n:Nat),n≤a+64→b≤1000000000∧∀(n_1:Nat),n_1≤b+64→bif h then bif g then ((-9223372036854775808:Int)≤0∧(0:Int)<9223372036854775808)∧64≤1000000000∧K (AV.x true [Zk (Za false),Zf (↑(0:Int)) 64]) else bif h then n_1≤900000000∧∀(n:Nat),n≤n_1+64→K (AV.x true [Zk (Za (oppH (fitT g u))),Zf (oppT (fitT g u)) n]) else bif g then n≤900000000∧∀(n_2:Nat),n_2≤n+64→K (AV.x true [Zk (Za (oppH (fitT h t))),Zf (oppT (fitT h t)) n_2]) else n+n_1+1≤4294967296∧((-9223372036854775808:Int)≤1∧(1:Int)<9223372036854775808)∧n+n_1≤4294967296∧64+(n+n_1)+1≤4294967296∧n+n_1+1+(64+(n+n_1)+1)≤4294967296∧(↑(1:Int)-fitT h t*fitT g u≠OfNat.ofNat 0→n+n_1+1+(64+(n+n_1)+1)≤1000000000∧K (AV.x true [Zk (Za false),Zf ((fitT h t+fitT g u)/(↑(1:Int)-fitT h t*fitT g u)) (n+n_1+1+(64+(n+n_1)+1))]))∧(↑(1:Int)-fitT h t*fitT g u=OfNat.ofNat 0→True∧K (AV.x true [Zk (Za true),Zf (OfNat.ofNat 0) 64])) else bif h then n_1≤900000000∧∀(n:Nat),n≤n_1+64→K (AV.x true [Zk (Za (oppH (fitT g u))),Zf (oppT (fitT g u)) n]) else bif g then n≤900000000∧∀(n_2:Nat),n_2≤n+64→K (AV.x true [Zk (Za (oppH (fitT h t))),Zf (oppT (fitT h t)) n_2]) else n+n_1+1≤4294967296∧((-9223372036854775808:Int)≤1∧(1:Int)<9223372036854775808)∧n+n_1≤4294967296∧64+(n+n_1)+1≤4294967296∧n+n_1+1+(64+(n+n_1)+1)≤4294967296∧(↑(1:Int)-fitT h t*fitT g u≠OfNat.ofNat 0→n+n_1+1+(64+(n+n_1)+1)≤1000000000∧K (AV.x true [Zk (Za false),Zf ((fitT h t+fitT g u)/(↑(1:Int)-fitT h t*fitT g u)) (n+n_1+1+(64+(n+n_1)+1))]))∧(↑(1:Int)-fitT h t*fitT g u=OfNat.ofNat 0→True∧K (AV.x true [Zk (Za true),Zf (OfNat.ofNat 0) 64]))) := by kernel_rfl
theorem g_uThen (h : Bool) (t : Rat) (a : Nat) (g : Bool) (u : Rat) (b : Nat) (hc : (a + b ≤ 400000000)) (K : AV → Prop) (hK : ∀ n, n ≤ 2 * a + 2 * b + 400 → K (.x true [.v (.bool (thH h t g u)), .r (thT h t g u) n])) : Holds (goal_uThen h t a g u b K) := by
 refine ⟨?_⟩
 rw [goal_uThen_vc]
 try simp only [true_and]
 refine ⟨by omega, fun n hn => ⟨by omega, fun m hm => ?_⟩⟩
 cases h with
 | true =>
  cases g with
  | true => exact ⟨by omega, by omega, hK 64 (by omega)⟩
  | false => exact ⟨by omega, fun k hk => hK k (by omega)⟩
 | false =>
  cases g with
  | true => exact ⟨by omega, fun k hk => hK k (by omega)⟩
  | false =>
   refine ⟨by omega, by omega, by omega, by omega, by omega, fun h0 => ⟨by omega, ?_⟩, fun h0 => ?_⟩
   ·have e : decide (1 - t * u = 0) = false := decide_eq_false h0
    have := hK (n + m + 1 + (64 + (n + m) + 1)) (by omega)
    simp only [thH, thT, Bool.and_self, cond_false, e] at this
    exact this
   ·have e : decide (1 - t * u = 0) = true := decide_eq_true h0
    have := hK 64 (by omega)
    simp only [thH, thT, Bool.and_self, cond_false, e, cond_true] at this
    exact this
def c_uThen : Ctr := fun as0 => match as0 with
 | [.x true [.v (.bool h), .r t a], .x true [.v (.bool g), .r u b]] => some fun K => ((a + b ≤ 400000000)) ∧ (∀ n, n ≤ 2 * a + 2 * b + 400 → K (.x true [.v (.bool (thH h t g u)), .r (thT h t g u) n]))
 | _ => none
theorem ok_uThen : CtrOK Tryz.prog tabG debT 122 c_uThen := by
 refine ⟨enters Tryz.func122 (by kernel_rfl), fun l T hT K hK => ?_⟩
 unfold c_uThen at hT
 split at hT
 ·cases hT
  obtain ⟨hc, hK⟩ := hK
  exact spec_ofL T83ok mixed Tryz.func122 (by kernel_rfl) (by kernel_rfl) (by rfl) (g_uThen _ _ _ _ _ _ hc K hK)
 ·cases hT
def L84 : List (Nat × Ctr) := (122, c_uThen) :: L83
def T84 : Tabs := mkT L84 M79 X4
theorem L84ok : CtrsOK Tryz.prog tabG debT L84 := .cons ok_uThen L83ok
theorem T84ok : TabsOK Tryz.prog tabG debT T84 := mkTok L84ok M79ok X4ok
def ot_uCos : OT := fun id => bif id.beq 5 then ([1, 4, 10, 0, 2, 3, 5, 6, 7, 8, 9, 11, 12], [[], [], [0, 1], [2, 0, 1], [], [3, 2, 0, 1, 4], [2, 0, 1, 5, 3, 4], [6, 2, 0, 1, 5, 3, 4], [7, 6, 2, 0, 1, 5, 3, 4], [7, 6, 2, 0, 1, 5, 3, 4], [], [10, 8, 7, 6, 2, 0, 1, 5, 3, 4], [9, 7, 6, 2, 0, 1, 5, 3, 4, 11, 10, 8]]) else ([], [])
def goal_uCos (h : Bool) (t : Rat) (a : Nat) (K : AV → Prop) : Prop := goalL T84 ot_uCos noL Tryz.f123 [.x true [.v (.bool h), .r t a]] K
theorem goal_uCos_vc (h : Bool) (t : Rat) (a : Nat) (K : AV → Prop) : goal_uCos h t a K = (a≤1000000000∧∀(n:Nat),n≤a+64→bif h then ((-9223372036854775808:Int)≤ -1∧(-1:Int)<9223372036854775808)∧K (AV.x true [Zf (↑(-1:Int)) 64]) else n+n≤4294967296∧((-9223372036854775808:Int)≤1∧(1:Int)<9223372036854775808)∧64+(n+n)+1≤4294967296∧((-9223372036854775808:Int)≤1∧(1:Int)<9223372036854775808)∧64+(n+n)+1≤4294967296∧64+(n+n)+1+(64+(n+n)+1)≤4294967296∧(↑(1:Int)+fitT h t*fitT h t≠OfNat.ofNat 0→K (AV.x true [Zf ((↑(1:Int)-fitT h t*fitT h t)/(↑(1:Int)+fitT h t*fitT h t)) (64+(n+n)+1+(64+(n+n)+1))]))∧(↑(1:Int)+fitT h t*fitT h t=OfNat.ofNat 0→K (AV.x true [Zk (Za false),Zk (Zi (ByteArray.mk (Array.mk []))),Zk (Zi (ByteArray.mk (Array.mk [])))]))) := by kernel_rfl
theorem g_uCos (h : Bool) (t : Rat) (a : Nat) (hc : (a ≤ 500000000)) (K : AV → Prop) (hK : ∀ n, n ≤ 4 * a + 400 → K (rA (cosT h t) n)) : Holds (goal_uCos h t a K) := by
 refine ⟨?_⟩
 rw [goal_uCos_vc]
 try simp only [Zb, true_and, and_true, Zg, Zc, true_implies, true_or, or_true]
 refine ⟨by omega, fun n hn => ?_⟩
 cases h with
 | true => exact ⟨by omega, hK 64 (by omega)⟩
 | false => exact ⟨by omega, by omega, by omega, by omega, by omega, by omega, fun _ => hK _ (by omega), fun h0 => absurd h0 (sq1 t)⟩
def c_uCos : Ctr := fun as0 => match as0 with
 | [.x true [.v (.bool h), .r t a]] => some fun K => ((a ≤ 500000000)) ∧ (∀ n, n ≤ 4 * a + 400 → K (rA (cosT h t) n))
 | _ => none
theorem ok_uCos : CtrOK Tryz.prog tabG debT 123 c_uCos := by
 refine ⟨enters Tryz.func123 (by kernel_rfl), fun l T hT K hK => ?_⟩
 unfold c_uCos at hT
 split at hT
 ·cases hT
  obtain ⟨hc, hK⟩ := hK
  exact spec_ofL T84ok mixed Tryz.func123 (by kernel_rfl) (by kernel_rfl) (by rfl) (g_uCos _ _ _ hc K hK)
 ·cases hT
def L85 : List (Nat × Ctr) := (123, c_uCos) :: L84
def T85 : Tabs := mkT L85 M79 X4
theorem L85ok : CtrsOK Tryz.prog tabG debT L85 := .cons ok_uCos L84ok
theorem T85ok : TabsOK Tryz.prog tabG debT T85 := mkTok L85ok M79ok X4ok
def ot_uSin : OT := fun id => bif id.beq 2 then ([0, 1, 2, 3, 6, 7, 8, 9, 16, 4, 5, 10, 11, 12, 13, 14, 15, 17, 18], [[], [0], [], [2], [1, 0, 3, 2], [4, 1, 0, 3, 2], [], [6], [], [8], [7, 6, 9, 8, 5, 4, 1, 0, 3, 2], [5, 4, 1, 0, 3, 2, 10, 7, 6, 9, 8], [4, 1, 0, 3, 2, 11, 5, 10, 7, 6, 9, 8], [12, 4, 1, 0, 3, 2, 11, 5, 10, 7, 6, 9, 8], [13, 12, 4, 1, 0, 3, 2, 11, 5, 10, 7, 6, 9, 8], [13, 12, 4, 1, 0, 3, 2, 11, 5, 10, 7, 6, 9, 8], [], [16, 14, 13, 12, 4, 1, 0, 3, 2, 11, 5, 10, 7, 6, 9, 8], [15, 13, 12, 4, 1, 0, 3, 2, 11, 5, 10, 7, 6, 9, 8, 17, 16, 14]]) else ([], [])
def goal_uSin (h : Bool) (t : Rat) (a : Nat) (K : AV → Prop) : Prop := goalL T85 ot_uSin noL Tryz.f124 [.x true [.v (.bool h), .r t a]] K
theorem goal_uSin_vc (h : Bool) (t : Rat) (a : Nat) (K : AV → Prop) : goal_uSin h t a K = (a≤1000000000∧∀(n:Nat),n≤a+64→n+n+1≤4294967296∧((-9223372036854775808:Int)≤1∧(1:Int)<9223372036854775808)∧n+n≤4294967296∧64+(n+n)+1≤4294967296∧n+n+1+(64+(n+n)+1)≤4294967296∧(↑(1:Int)+fitT h t*fitT h t≠OfNat.ofNat 0→K (AV.x true [Zf ((fitT h t+fitT h t)/(↑(1:Int)+fitT h t*fitT h t)) (n+n+1+(64+(n+n)+1))]))∧(↑(1:Int)+fitT h t*fitT h t=OfNat.ofNat 0→K (AV.x true [Zk (Za false),Zk (Zi (ByteArray.mk (Array.mk []))),Zk (Zi (ByteArray.mk (Array.mk [])))]))) := by kernel_rfl
theorem g_uSin (h : Bool) (t : Rat) (a : Nat) (hc : (a ≤ 500000000)) (K : AV → Prop) (hK : ∀ n, n ≤ 4 * a + 400 → K (rA (sinT h t) n)) : Holds (goal_uSin h t a K) := by
 refine ⟨?_⟩
 rw [goal_uSin_vc]
 try simp only [Zb, true_and, and_true, Zg, Zc, true_implies, true_or, or_true]
 refine ⟨by omega, fun n hn => ⟨by omega, by omega, by omega, by omega, by omega, fun h0 => ?_, fun h0 => absurd h0 (sq1 _)⟩⟩
 have e : (fitT h t + fitT h t) / (((1 : Int) : Rat) + fitT h t * fitT h t) = sinT h t := by
  cases h with
  | true => show ((0 : Rat) + 0) / _ = 0; rw [Rat.add_zero, Rat.div_def, Rat.zero_mul]
  | false => rfl
 rw [e]
 exact hK _ (by omega)
def c_uSin : Ctr := fun as0 => match as0 with
 | [.x true [.v (.bool h), .r t a]] => some fun K => ((a ≤ 500000000)) ∧ (∀ n, n ≤ 4 * a + 400 → K (rA (sinT h t) n))
 | _ => none
theorem ok_uSin : CtrOK Tryz.prog tabG debT 124 c_uSin := by
 refine ⟨enters Tryz.func124 (by kernel_rfl), fun l T hT K hK => ?_⟩
 unfold c_uSin at hT
 split at hT
 ·cases hT
  obtain ⟨hc, hK⟩ := hK
  exact spec_ofL T85ok mixed Tryz.func124 (by kernel_rfl) (by kernel_rfl) (by rfl) (g_uSin _ _ _ hc K hK)
 ·cases hT
def L86 : List (Nat × Ctr) := (124, c_uSin) :: L85
def T86 : Tabs := mkT L86 M79 X4
theorem L86ok : CtrsOK Tryz.prog tabG debT L86 := .cons ok_uSin L85ok
theorem T86ok : TabsOK Tryz.prog tabG debT T86 := mkTok L86ok M79ok X4ok
def ot_vAdd : OT := fun id => bif id.beq 1 then ([0, 1, 2, 3, 5, 6, 7, 8, 4, 9, 10, 11], [[], [0], [], [2], [1, 0, 3, 2], [], [5], [], [7], [6, 5, 8, 7, 4, 1, 0, 3, 2], [4, 1, 0, 3, 2, 9, 6, 5, 8, 7], [10, 4, 1, 0, 3, 2, 9, 6, 5, 8, 7]]) else ([], [])
def goal_vAdd (px : Rat) (a : Nat) (py : Rat) (b : Nat) (qx : Rat) (c : Nat) (qy : Rat) (d : Nat) (K : AV → Prop) : Prop := goalL T86 ot_vAdd noL Tryz.f51 [.x true [.r px a, .r py b], .x true [.r qx c, .r qy d]] K
theorem goal_vAdd_vc (px : Rat) (a : Nat) (py : Rat) (b : Nat) (qx : Rat) (c : Nat) (qy : Rat) (d : Nat) (K : AV → Prop) : goal_vAdd px a py b qx c qy d K = (a+c+1≤4294967296∧b+d+1≤4294967296∧K (AV.x true [Zf (px+qx) (a+c+1),Zf (py+qy) (b+d+1)])) := by kernel_rfl
theorem g_vAdd (px : Rat) (a : Nat) (py : Rat) (b : Nat) (qx : Rat) (c : Nat) (qy : Rat) (d : Nat) (hc : (a + c ≤ 4294967290) ∧ (b + d ≤ 4294967290)) (K : AV → Prop) (hK : K (.x true [.r (px + qx) (a + c + 1), .r (py + qy) (b + d + 1)])) : Holds (goal_vAdd px a py b qx c qy d K) := by
 refine ⟨?_⟩
 rw [goal_vAdd_vc]
 try simp only [Zb, true_and, and_true, Zg, Zc, true_implies, true_or, or_true]
 exact ⟨by omega, by omega, hK⟩
def c_vAdd : Ctr := fun as0 => match as0 with
 | [.x true [.r px a, .r py b], .x true [.r qx c, .r qy d]] => some fun K => ((a + c ≤ 4294967290) ∧ (b + d ≤ 4294967290)) ∧ (K (.x true [.r (px + qx) (a + c + 1), .r (py + qy) (b + d + 1)]))
 | _ => none
theorem ok_vAdd : CtrOK Tryz.prog tabG debT 51 c_vAdd := by
 refine ⟨enters Tryz.func51 (by kernel_rfl), fun l T hT K hK => ?_⟩
 unfold c_vAdd at hT
 split at hT
 ·cases hT
  obtain ⟨hc, hK⟩ := hK
  exact spec_ofL T86ok mixed Tryz.func51 (by kernel_rfl) (by kernel_rfl) (by rfl) (g_vAdd _ _ _ _ _ _ _ _ hc K hK)
 ·cases hT
def L87 : List (Nat × Ctr) := (51, c_vAdd) :: L86
def T87 : Tabs := mkT L87 M79 X4
theorem L87ok : CtrsOK Tryz.prog tabG debT L87 := .cons ok_vAdd L86ok
theorem T87ok : TabsOK Tryz.prog tabG debT T87 := mkTok L87ok M79ok X4ok
def ot_vDot : OT := fun id => bif id.beq 1 then ([0, 1, 2, 3, 5, 6, 7, 8, 4, 9, 10, 11], [[], [0], [], [2], [1, 0, 3, 2], [], [5], [], [7], [6, 5, 8, 7, 4, 1, 0, 3, 2], [4, 1, 0, 3, 2, 9, 6, 5, 8, 7], [10, 4, 1, 0, 3, 2, 9, 6, 5, 8, 7]]) else ([], [])
def goal_vDot (px : Rat) (a : Nat) (py : Rat) (b : Nat) (qx : Rat) (c : Nat) (qy : Rat) (d : Nat) (K : AV → Prop) : Prop := goalL T87 ot_vDot noL Tryz.f191 [.x true [.r px a, .r py b], .x true [.r qx c, .r qy d]] K
theorem goal_vDot_vc (px : Rat) (a : Nat) (py : Rat) (b : Nat) (qx : Rat) (c : Nat) (qy : Rat) (d : Nat) (K : AV → Prop) : goal_vDot px a py b qx c qy d K = (a+c≤4294967296∧b+d≤4294967296∧a+c+(b+d)+1≤4294967296∧K (AV.x true [Zf (px*qx+py*qy) (a+c+(b+d)+1)])) := by kernel_rfl
theorem g_vDot (px : Rat) (a : Nat) (py : Rat) (b : Nat) (qx : Rat) (c : Nat) (qy : Rat) (d : Nat) (hc : (a + b + c + d ≤ 4294967290)) (K : AV → Prop) (hK : K (rA (px * qx + py * qy) (a + c + (b + d) + 1))) : Holds (goal_vDot px a py b qx c qy d K) := by
 refine ⟨?_⟩
 rw [goal_vDot_vc]
 try simp only [Zb, true_and, and_true, Zg, Zc, true_implies, true_or, or_true]
 exact ⟨by omega, by omega, by omega, hK⟩
def c_vDot : Ctr := fun as0 => match as0 with
 | [.x true [.r px a, .r py b], .x true [.r qx c, .r qy d]] => some fun K => ((a + b + c + d ≤ 4294967290)) ∧ (K (rA (px * qx + py * qy) (a + c + (b + d) + 1)))
 | _ => none
theorem ok_vDot : CtrOK Tryz.prog tabG debT 191 c_vDot := by
 refine ⟨enters Tryz.func191 (by kernel_rfl), fun l T hT K hK => ?_⟩
 unfold c_vDot at hT
 split at hT
 ·cases hT
  obtain ⟨hc, hK⟩ := hK
  exact spec_ofL T87ok mixed Tryz.func191 (by kernel_rfl) (by kernel_rfl) (by rfl) (g_vDot _ _ _ _ _ _ _ _ hc K hK)
 ·cases hT
def L88 : List (Nat × Ctr) := (191, c_vDot) :: L87
theorem L88ok : CtrsOK Tryz.prog tabG debT L88 := .cons ok_vDot L87ok
def L89 : List (Nat × Ctr) := L88
def T89 : Tabs := mkT L89 M79 X4
theorem L89ok : CtrsOK Tryz.prog tabG debT L89 := L88ok
theorem T89ok : TabsOK Tryz.prog tabG debT T89 := mkTok L89ok M79ok X4ok
def ot_vTurn : OT := fun id => bif id.beq 1 then ([0, 2, 5, 1, 3, 4, 6], [[], [0], [], [2, 1, 0], [1, 0, 3, 2], [], [5, 4, 1, 0, 3, 2]]) else bif id.beq 2 then ([0, 1, 2, 3, 5, 6, 7, 8, 11, 12, 13, 14, 16, 17, 18, 19, 4, 9, 10, 15, 20, 21, 22, 23], [[], [0], [], [2], [1, 0, 3, 2], [], [5], [], [7], [6, 5, 8, 7, 4, 1, 0, 3, 2], [4, 1, 0, 3, 2, 9, 6, 5, 8, 7], [], [11], [], [13], [12, 11, 14, 13, 10, 4, 1, 0, 3, 2, 9, 6, 5, 8, 7], [], [16], [], [18], [17, 16, 19, 18, 15, 12, 11, 14, 13, 10, 4, 1, 0, 3, 2, 9, 6, 5, 8, 7], [15, 12, 11, 14, 13, 10, 4, 1, 0, 3, 2, 9, 6, 5, 8, 7, 20, 17, 16, 19, 18], [10, 4, 1, 0, 3, 2, 9, 6, 5, 8, 7, 21, 15, 12, 11, 14, 13, 20, 17, 16, 19, 18], [22, 10, 4, 1, 0, 3, 2, 9, 6, 5, 8, 7, 21, 15, 12, 11, 14, 13, 20, 17, 16, 19, 18]]) else ([], [])
def goal_vTurn (px : Rat) (a : Nat) (py : Rat) (b : Nat) (h : Bool) (t : Rat) (c : Nat) (K : AV → Prop) : Prop := goalL T89 ot_vTurn noL Tryz.f72 [.x true [.r px a, .r py b], .x true [.v (.bool h), .r t c]] K
theorem goal_vTurn_vc (px : Rat) (a : Nat) (py : Rat) (b : Nat) (h : Bool) (t : Rat) (c : Nat) (K : AV → Prop) : goal_vTurn px a py b h t c K = (c≤500000000∧∀(n:Nat),n≤4*c+400→c≤500000000∧∀(n_1:Nat),n_1≤4*c+400→a+n≤4294967296∧b+n_1≤4294967296∧a+n+(b+n_1)+1≤4294967296∧a+n_1≤4294967296∧b+n≤4294967296∧a+n_1+(b+n)+1≤4294967296∧K (AV.x true [Zf (px*cosT h t-py*sinT h t) (a+n+(b+n_1)+1),Zf (px*sinT h t+py*cosT h t) (a+n_1+(b+n)+1)])) := by kernel_rfl
theorem g_vTurn (px : Rat) (a : Nat) (py : Rat) (b : Nat) (h : Bool) (t : Rat) (c : Nat) (hc : (a + b + c ≤ 400000000)) (K : AV → Prop) (hK : ∀ n m, n ≤ a + b + 8 * c + 1000 → m ≤ a + b + 8 * c + 1000 → K (.x true [.r (px * cosT h t - py * sinT h t) n, .r (px * sinT h t + py * cosT h t) m])) : Holds (goal_vTurn px a py b h t c K) := by
 refine ⟨?_⟩
 rw [goal_vTurn_vc]
 try simp only [Zb, true_and, and_true, Zg, Zc, true_implies, true_or, or_true]
 exact ⟨by omega, fun n hn => ⟨by omega, fun m hm => ⟨by omega, by omega, by omega, by omega, by omega, by omega, hK _ _ (by omega) (by omega)⟩⟩⟩
def c_vTurn : Ctr := fun as0 => match as0 with
 | [.x true [.r px a, .r py b], .x true [.v (.bool h), .r t c]] => some fun K => ((a + b + c ≤ 400000000)) ∧ (∀ n m, n ≤ a + b + 8 * c + 1000 → m ≤ a + b + 8 * c + 1000 → K (.x true [.r (px * cosT h t - py * sinT h t) n, .r (px * sinT h t + py * cosT h t) m]))
 | _ => none
theorem ok_vTurn : CtrOK Tryz.prog tabG debT 72 c_vTurn := by
 refine ⟨enters Tryz.func72 (by kernel_rfl), fun l T hT K hK => ?_⟩
 unfold c_vTurn at hT
 split at hT
 ·cases hT
  obtain ⟨hc, hK⟩ := hK
  exact spec_ofL T89ok mixed Tryz.func72 (by kernel_rfl) (by kernel_rfl) (by rfl) (g_vTurn _ _ _ _ _ _ _ hc K hK)
 ·cases hT
def L90 : List (Nat × Ctr) := (72, c_vTurn) :: L89
def T90 : Tabs := mkT L90 M79 X4
theorem L90ok : CtrsOK Tryz.prog tabG debT L90 := .cons ok_vTurn L89ok
theorem T90ok : TabsOK Tryz.prog tabG debT T90 := mkTok L90ok M79ok X4ok
def ot_fPut : OT := fun id => bif id.beq 1 then ([0, 1, 2, 3, 4, 5, 6, 7], [[], [0], [], [], [3], [2, 4, 3], [1, 0, 5, 2, 4, 3], [6, 1, 0, 5, 2, 4, 3]]) else ([], [])
def goal_fPut (x : Rat) (i : Nat) (y : Rat) (j : Nat) (h : Bool) (t : Rat) (k : Nat) (px : Rat) (a : Nat) (py : Rat) (b : Nat) (K : AV → Prop) : Prop := goalL T90 ot_fPut noL Tryz.f65 [.x true [.r x i, .r y j, .v (.bool h), .r t k], .x true [.r px a, .r py b]] K
theorem goal_fPut_vc (x : Rat) (i : Nat) (y : Rat) (j : Nat) (h : Bool) (t : Rat) (k : Nat) (px : Rat) (a : Nat) (py : Rat) (b : Nat) (K : AV → Prop) : goal_fPut x i y j h t k px a py b K = (a+b+k≤400000000∧∀(n m:Nat),n≤a+b+8*k+1000→m≤a+b+8*k+1000→(i+n≤4294967290∧j+m≤4294967290)∧K (AV.x true [Zf (x+(px*cosT h t-py*sinT h t)) (i+n+1),Zf (y+(px*sinT h t+py*cosT h t)) (j+m+1)])) := by kernel_rfl
theorem g_fPut (x : Rat) (i : Nat) (y : Rat) (j : Nat) (h : Bool) (t : Rat) (k : Nat) (px : Rat) (a : Nat) (py : Rat) (b : Nat) (hc : (i + j + k + a + b ≤ 400000000)) (K : AV → Prop) (hK : ∀ n m, n ≤ i + a + b + 8 * k + 1100 → m ≤ j + a + b + 8 * k + 1100 → K (.x true [.r (putX ⟨x, y, h, t⟩ px py) n, .r (putY ⟨x, y, h, t⟩ px py) m])) : Holds (goal_fPut x i y j h t k px a py b K) := by
 refine ⟨?_⟩
 rw [goal_fPut_vc]
 try simp only [Zb, true_and, and_true, Zg, Zc, true_implies, true_or, or_true]
 exact ⟨by omega, fun n m hn hm => ⟨by omega, hK _ _ (by omega) (by omega)⟩⟩
def c_fPut : Ctr := fun as0 => match as0 with
 | [.x true [.r x i, .r y j, .v (.bool h), .r t k], .x true [.r px a, .r py b]] => some fun K => ((i + j + k + a + b ≤ 400000000)) ∧ (∀ n m, n ≤ i + a + b + 8 * k + 1100 → m ≤ j + a + b + 8 * k + 1100 → K (.x true [.r (putX ⟨x, y, h, t⟩ px py) n, .r (putY ⟨x, y, h, t⟩ px py) m]))
 | _ => none
theorem ok_fPut : CtrOK Tryz.prog tabG debT 65 c_fPut := by
 refine ⟨enters Tryz.func65 (by kernel_rfl), fun l T hT K hK => ?_⟩
 unfold c_fPut at hT
 split at hT
 ·cases hT
  obtain ⟨hc, hK⟩ := hK
  exact spec_ofL T90ok mixed Tryz.func65 (by kernel_rfl) (by kernel_rfl) (by rfl) (g_fPut _ _ _ _ _ _ _ _ _ _ _ hc K hK)
 ·cases hT
def L91 : List (Nat × Ctr) := (65, c_fPut) :: L90
def T91 : Tabs := mkT L91 M79 X4
theorem L91ok : CtrsOK Tryz.prog tabG debT L91 := .cons ok_fPut L90ok
theorem T91ok : TabsOK Tryz.prog tabG debT T91 := mkTok L91ok M79ok X4ok
def ot_fThen : OT := fun id => bif id.beq 1 then ([0, 1, 2, 4, 5, 6, 7, 3, 8, 9, 10], [[], [], [1], [0, 2, 1], [], [4], [], [6], [5, 4, 7, 6, 3, 0, 2, 1], [3, 0, 2, 1, 8, 5, 4, 7, 6], [9, 3, 0, 2, 1, 8, 5, 4, 7, 6]]) else ([], [])
def goal_fThen (x : Rat) (i : Nat) (y : Rat) (j : Nat) (h : Bool) (t : Rat) (k : Nat) (px : Rat) (a : Nat) (py : Rat) (b : Nat) (g : Bool) (u : Rat) (l : Nat) (K : AV → Prop) : Prop := goalL T91 ot_fThen noL Tryz.f70 [.x true [.r x i, .r y j, .v (.bool h), .r t k], .x true [.r px a, .r py b, .v (.bool g), .r u l]] K
theorem goal_fThen_vc (x : Rat) (i : Nat) (y : Rat) (j : Nat) (h : Bool) (t : Rat) (k : Nat) (px : Rat) (a : Nat) (py : Rat) (b : Nat) (g : Bool) (u : Rat) (l : Nat) (K : AV → Prop) : goal_fThen x i y j h t k px a py b g u l K = (i+j+k+a+b≤400000000∧∀(n m:Nat),n≤i+a+b+8*k+1100→m≤j+a+b+8*k+1100→k+l≤400000000∧∀(n_1:Nat),n_1≤2*k+2*l+400→K (AV.x true [Zf (putX (FrV.mk x y h t) px py) n,Zf (putY (FrV.mk x y h t) px py) m,Zk (Za (thH h t g u)),Zf (thT h t g u) n_1])) := by kernel_rfl
theorem g_fThen (x : Rat) (i : Nat) (y : Rat) (j : Nat) (h : Bool) (t : Rat) (k : Nat) (px : Rat) (a : Nat) (py : Rat) (b : Nat) (g : Bool) (u : Rat) (l : Nat) (hc : (i + j + k + a + b + l ≤ 400000000)) (K : AV → Prop) (hK : ∀ f n m o, f = frThen ⟨x, y, h, t⟩ ⟨px, py, g, u⟩ → n ≤ i + a + b + 8 * k + 1100 → m ≤ j + a + b + 8 * k + 1100 → o ≤ 2 * k + 2 * l + 400 → K (.x true [.r f.x n, .r f.y m, .v (.bool f.h), .r f.t o])) : Holds (goal_fThen x i y j h t k px a py b g u l K) := by
 refine ⟨?_⟩
 rw [goal_fThen_vc]
 try simp only [Zb, true_and, and_true, Zg, Zc, true_implies, true_or, or_true]
 exact ⟨by omega, fun n m hn hm => ⟨by omega, fun o ho => hK _ _ _ _ rfl (by omega) (by omega) (by omega)⟩⟩
def c_fThen : Ctr := fun as0 => match as0 with
 | [.x true [.r x i, .r y j, .v (.bool h), .r t k], .x true [.r px a, .r py b, .v (.bool g), .r u l]] => some fun K => ((i + j + k + a + b + l ≤ 400000000)) ∧ (∀ f n m o, f = frThen ⟨x, y, h, t⟩ ⟨px, py, g, u⟩ → n ≤ i + a + b + 8 * k + 1100 → m ≤ j + a + b + 8 * k + 1100 → o ≤ 2 * k + 2 * l + 400 → K (.x true [.r f.x n, .r f.y m, .v (.bool f.h), .r f.t o]))
 | _ => none
theorem ok_fThen : CtrOK Tryz.prog tabG debT 70 c_fThen := by
 refine ⟨enters Tryz.func70 (by kernel_rfl), fun l T hT K hK => ?_⟩
 unfold c_fThen at hT
 split at hT
 ·cases hT
  obtain ⟨hc, hK⟩ := hK
  exact spec_ofL T91ok mixed Tryz.func70 (by kernel_rfl) (by kernel_rfl) (by rfl) (g_fThen _ _ _ _ _ _ _ _ _ _ _ _ _ _ hc K hK)
 ·cases hT
def L92 : List (Nat × Ctr) := (70, c_fThen) :: L91
def T92 : Tabs := mkT L92 M79 X4
theorem L92ok : CtrsOK Tryz.prog tabG debT L92 := .cons ok_fThen L91ok
theorem T92ok : TabsOK Tryz.prog tabG debT T92 := mkTok L92ok M79ok X4ok
end Go.Proofs
/- fore: Frames, Tip. -/
namespace Go.Proofs
open Go Go.Eng
def framesV : FrV → List LinkV → List Rat → List FrV
 | b, L :: ls, q :: qs => frThen b ⟨0, 0, false, q⟩ :: framesV (frThen (frThen b ⟨0, 0, false, q⟩) ⟨L.len, 0, false, 0⟩) ls qs
 | b, _, _ => [b]
def baseV (a : ArmV) : FrV := ⟨a.x, a.y, a.half, a.t⟩
def bnd : Nat → Nat
 | 0 => 63
 | i + 1 => 81 * bnd i + 12279
def frN (n : Nat) (f : FrV) : List Ch := [.r f.x n, .r f.y n, .v (.bool f.h), .r f.t n]
abbrev frCh (f : FrV) : List Ch := [.r f.x 12800000, .r f.y 12800000, .v (.bool f.h), .r f.t 12800000]
theorem row_snoc {xs : List (List Ch)} {a b : List Ch} (hx : RowLE xs xs) (h : MC (fun _ => none) a b ∧ idsCh b = []) : RowLE (xs ++ [a]) (xs ++ [b]) := by
 refine ⟨by simp, fun i x y hx' hy' => ?_⟩
 by_cases hi : i < xs.length
 ·rw [List.getElem?_append_left hi] at hx' hy'
  exact hx.2 i x y hx' hy'
 ·rw [List.getElem?_append_right (by omega)] at hx' hy'
  have : i - xs.length = 0 := by
   have := (List.getElem?_eq_some_iff.1 hx').1
   simp at this; omega
  rw [this] at hx' hy'
  cases hx'; cases hy'; exact h
theorem fr_le {n m o N : Nat} {f : FrV} (h1 : n ≤ N) (h2 : m ≤ N) (h3 : o ≤ N) : MC (fun _ => none) [.r f.x n, .r f.y m, .v (.bool f.h), .r f.t o] (frN N f) ∧ idsCh (frN N f) = [] := ⟨.r h1 (.r h2 (.v (.r h3 .nil))), rfl⟩
theorem frs_le (fs : List FrV) : RowLE (fs.map frCh) (fs.map frCh) := by
 refine ⟨rfl, fun i x y hx hy => ?_⟩
 rw [hx] at hy
 cases hy
 rw [List.getElem?_map] at hx
 cases hf : fs[i]? with
 | none => rw [hf] at hx; cases hx
 | some f => rw [hf] at hx; cases hx; exact fr_le (Zc _) (Zc _) (Zc _)
structure FmX where
 fs : List FrV
 b : FrV
 i : Nat
structure FmI (a : ArmV) (qs : List Rat) (x : FmX) : Prop where
 n : x.fs.length = x.i
 le : x.i ≤ a.links.length
 eq : x.fs ++ framesV x.b (a.links.drop x.i) (qs.drop x.i) = framesV (baseV a) a.links qs
def inv_frames (a : ArmV) (b : Nat) (qs : List Rat) : LI := fun _ => .inv ⟨FmX, fun x => ⟨[(1, sR b qs), (2, .x false [.p 2 0]), (7, .x false [.p 7 0]), (8, .x false [.p 8 0]), (9, .x false [.p 9 0]), (10, .x false [.w 500 0 x.fs.length]), (29, .x false [.s 16 (a.links.map linkCh)]), (30, iA .i64 a.links.length), (31, iA .i64 x.i)],
 [(2, .box 34 (armCh a)), (7, .box 31 (frN (bnd x.i) x.b)), (8, .box 27 [.r ((0 : Int) : Rat) 64, .r ((0 : Int) : Rat) 64]), (9, .box 29 [.v (.bool false), .r ((0 : Int) : Rat) 64]), (500, .row 31 10 (x.fs.map frCh))]⟩, FmI a qs, fun x => a.links.length - x.i, fun _ => 0⟩
def ot_fFrames : OT := fun id => bif id.beq 11 then ([0, 1, 2, 3, 4, 5, 9, 6, 7, 8, 10], [[], [], [], [], [2, 3], [4, 2, 3], [5, 4, 2, 3], [1, 6, 5, 4, 2, 3], [0, 7, 1, 6, 5, 4, 2, 3], [], [9, 8, 0, 7, 1, 6, 5, 4, 2, 3]]) else bif id.beq 13 then ([0, 1, 2, 5, 3, 4, 6, 7, 8], [[], [], [1], [], [2, 1, 3], [], [4, 2, 1, 3, 5], [0, 6, 4, 2, 1, 3, 5], [7, 0, 6, 4, 2, 1, 3, 5]]) else ([], [])
def goal_fFrames (a : ArmV) (b : Nat) (qs : List Rat) (K : AV → Prop) : Prop := goalL T92 ot_fFrames (inv_frames a b qs) Tryz.f62 [armA a, sR b qs] K
theorem goal_fFrames_vc (a : ArmV) (b : Nat) (qs : List Rat) (K : AV → Prop) : goal_fFrames a b qs K = (∃(a_1:ArmV),[Zk (Zi a.name),Zf a.x 63,Zf a.y 63,Zk (Za a.half),Zf a.t 63,Ch.s 16 (Ze linkCh a.links)]=[Zk (Zi a_1.name),Zf a_1.x 63,Zf a_1.y 63,Zk (Za a_1.half),Zf a_1.t 63,Ch.s 16 (Ze linkCh a_1.links)]∧(GoodArm a_1∧Zd (lR b qs).length=Zd a_1.links.length)∧((-9223372036854775808:Int)≤0∧(0:Int)<9223372036854775808)∧((-9223372036854775808:Int)≤0∧(0:Int)<9223372036854775808)∧((-9223372036854775808:Int)≤0∧(0:Int)<9223372036854775808)∧64≤1000000000∧(∃(x:FmX),(FmI a qs x∧OfNat.ofNat 0=0)∧3=3∧lR b qs=lR b qs∧0=0∧0=0∧0=0∧0=0∧Value.slice none 0 0=Value.slice none 0 0∧0=0∧x.fs.length=0∧16=16∧Ze linkCh a.links=Ze linkCh a.links∧Zd (Ze linkCh a.links).length=Zd a.links.length∧0=Zd x.i∧34=34∧a.name=a.name∧a.x=a.x∧63≤63∧a.y=a.y∧63≤63∧a.half=a.half∧a.t=a.t∧63≤63∧16=16∧Ze linkCh a.links=Ze linkCh a.links∧31=31∧a.x=x.b.x∧63≤bnd x.i∧a.y=x.b.y∧63≤bnd x.i∧a.half=x.b.h∧a.t=x.b.t∧63≤bnd x.i∧27=27∧(↑(0:Int):Rat)=(↑(0:Int):Rat)∧64≤64∧(↑(0:Int):Rat)=(↑(0:Int):Rat)∧64≤64∧29=29∧false=false∧(↑(0:Int):Rat)=(↑(0:Int):Rat)∧64≤64∧Ze frCh x.fs=[]∧True)∧∀(x:FmX),FmI a qs x→OfNat.ofNat 0=0→bif decide (Zd x.i<Zd a.links.length) then (0≤Zd x.i∧Zd x.i<Zd (Ze linkCh a.links).length)∧∃(q:Rat),∃(n:Nat),∃(q_1:Rat),∃(n_1:Nat),∃(q_2:Rat),∃(n_2:Nat),∃(q_3:Rat),∃(n_3:Nat),∃(q_4:Rat),∃(n_4:Nat),∃(ys:List (List Ch)),ldE (Ze linkCh a.links) (Zd x.i).toNat 0 16=some [Zf q n,Zf q_1 n_1,Zf q_2 n_2,Zf q_3 n_3,Zf q_4 n_4,Ch.s 6 ys]∧(0≤Zd x.i∧Zd x.i<Zd (lR b qs).length)∧∃(q_5:Rat),∃(n_5:Nat),ldE (lR b qs) (Zd x.i).toNat 0 3=some [Zf q_5 n_5]∧n_5≤1000000000∧bnd x.i+bnd x.i+bnd x.i+64+64+n_5≤400000000∧∀(f:FrV) (n_6 m o:Nat),f=frThen (FrV.mk x.b.x x.b.y x.b.h x.b.t) (FrV.mk (↑(0:Int)) (↑(0:Int)) false q_5)→n_6≤bnd x.i+64+64+8*bnd x.i+1100→m≤bnd x.i+64+64+8*bnd x.i+1100→o≤2*bnd x.i+2*n_5+400→((x.fs.length+1)*128≤140737488355328∧x.fs.length+1≤9223372036854775807)∧((-9223372036854775808:Int)≤0∧(0:Int)<9223372036854775808)∧n_6+m+o+n+64+64≤400000000∧∀(f_1:FrV) (n_7 m_1 o_1:Nat),f_1=frThen (FrV.mk f.x f.y f.h f.t) (FrV.mk q (↑(0:Int)) false ↑(0:Int))→n_7≤n_6+n+64+8*o+1100→m_1≤m+n+64+8*o+1100→o_1≤2*o+128+400→∃(x':FmX),(FmI a qs x'∧OfNat.ofNat 0=0∧a.links.length-x'.i<a.links.length-x.i)∧3=3∧lR b qs=lR b qs∧0=0∧0=0∧0=0∧0=0∧0=0∧x.fs.length+1=x'.fs.length∧16=16∧Ze linkCh a.links=Ze linkCh a.links∧Zd a.links.length=Zd a.links.length∧IntKind.i64.wrap (Zd x.i+1)=Zd x'.i∧34=34∧a.name=a.name∧a.x=a.x∧63≤63∧a.y=a.y∧63≤63∧a.half=a.half∧a.t=a.t∧63≤63∧16=16∧Ze linkCh a.links=Ze linkCh a.links∧31=31∧f_1.x=x'.b.x∧n_7≤bnd x'.i∧f_1.y=x'.b.y∧m_1≤bnd x'.i∧f_1.h=x'.b.h∧f_1.t=x'.b.t∧o_1≤bnd x'.i∧27=27∧(↑(0:Int):Rat)=(↑(0:Int):Rat)∧64≤64∧(↑(0:Int):Rat)=(↑(0:Int):Rat)∧64≤64∧29=29∧false=false∧(↑(0:Int):Rat)=(↑(0:Int):Rat)∧64≤64∧31=31∧10=10∧(Zl x.fs.length (Ze frCh x.fs)++[[Zf f.x n_6,Zf f.y m,Zk (Za f.h),Zf f.t o]]=Ze frCh x'.fs∨RowLE (Zl x.fs.length (Ze frCh x.fs)++[[Zf f.x n_6,Zf f.y m,Zk (Za f.h),Zf f.t o]]) (Ze frCh x'.fs))∧True else ((x.fs.length+1)*128≤140737488355328∧x.fs.length+1≤9223372036854775807)∧K (AV.t [(false,[Ch.s 10 (Zl (x.fs.length+1) (List.drop 0 (Zl x.fs.length (Ze frCh x.fs)++[[Zf x.b.x (bnd x.i),Zf x.b.y (bnd x.i),Zk (Za x.b.h),Zf x.b.t (bnd x.i)]])))]),(false,[Zk (Value.int IntKind.i64 0)])])) := by kernel_rfl
theorem g_fFrames (a : ArmV) (b : Nat) (qs : List Rat) (hc : (GoodArm a) ∧ (b ≤ 400 ∧ qs.length = a.links.length)) (K : AV → Prop) (hK : ∀ (fs : List FrV) (f : FrV), fs ++ [f] = framesV (baseV a) a.links qs → fs.length = a.links.length → K (.t [(false, [.s 10 (fs.map frCh ++ [frN (bnd a.links.length) f])]), (false, [.v (.int .i64 0)])])) : Holds (goal_fFrames a b qs K) := by
 refine ⟨?_⟩
 rw [goal_fFrames_vc]
 try simp only [Zb, true_and, and_true, Zc, true_implies]
 obtain ⟨ha, hb, hq⟩ := hc
 have hn := ha.n
 refine ⟨a, rfl, ⟨ha, by rw [lR_len, hq]⟩, by omega, by omega, by omega, by omega, ⟨⟨[], baseV a, 0⟩, ⟨rfl, by simp, rfl⟩, rfl, by simp, rfl, rfl, Zc _, rfl, Zc _, rfl, rfl, Zc _, rfl⟩, fun x ⟨h1, h2, h3⟩ => bif_mk (fun hp => ?_) (fun hp => ?_)⟩
 ·have hp : x.i < a.links.length := by have := of_decide_eq_true hp; omega
  obtain ⟨L, hL⟩ : ∃ L, a.links[x.i]? = some L := ⟨_, Zh hp⟩
  obtain ⟨q, hqi⟩ : ∃ q, qs[x.i]? = some q := ⟨_, Zh (by omega)⟩
  have hbn : bnd x.i ≤ 1420221 := by
   have : x.i = 0 ∨ x.i = 1 ∨ x.i = 2 := by omega
   rcases this with e | e | e <;> rw [e] <;> decide
  refine ⟨by rw [List.length_map]; omega, _, _, _, _, _, _, _, _, _, _, _, link_ld (by simpa using hL), by rw [lR_len]; omega, q, b, lR_ld (by simpa using hqi), by omega, by omega, fun f n m o hf hn1 hm ho => ?_⟩
  subst hf
  have e1 : x.fs.map frCh = Zl x.fs.length (x.fs.map frCh) := by rw [Zj (by simp)]
  rw [← e1]
  refine ⟨⟨by omega, by omega⟩, by omega, by omega, fun g n' m' o' hg hn' hm' ho' => ?_⟩
  subst hg
  have eb : bnd (x.i + 1) = 81 * bnd x.i + 12279 := rfl
  refine ⟨⟨x.fs ++ [frThen x.b ⟨0, 0, false, q⟩], frThen (frThen x.b ⟨0, 0, false, q⟩) ⟨L.len, 0, false, 0⟩, x.i + 1⟩, ⟨⟨by simp [h1], hp, ?_⟩, by simp only; omega⟩, by simp, by rw [w64 (by omega)]; simp, rfl, by simp only [eb]; omega, rfl, by simp only [eb]; omega, rfl, rfl, by simp only [eb]; omega, .inr ?_⟩
  ·simp only
   rw [List.append_assoc, ← h3]
   congr 1
   rw [List.drop_eq_getElem_cons hp, List.drop_eq_getElem_cons (by omega : x.i < qs.length)]
   rw [Zh hp] at hL
   rw [Zh (by omega)] at hqi
   rw [Option.some.inj hL, Option.some.inj hqi]
   rfl
  ·rw [List.map_append]
   exact row_snoc (frs_le _) (fr_le (by omega) (by omega) (by omega))
 ·have hp : x.i = a.links.length := by have := of_decide_eq_false hp; omega
  refine ⟨by omega, ?_⟩
  have e : a.links.drop x.i = [] := by rw [hp, List.drop_length]
  rw [e, show framesV x.b [] (qs.drop x.i) = [x.b] by cases qs.drop x.i <;> rfl] at h3
  have := hK x.fs x.b h3 (by omega)
  rw [Zj (by simp), List.drop_zero, Zj (by simp), hp]
  exact this
def c_fFrames : Ctr := fun as0 => match as0 with
 | [.x true xs, .x false [.s 3 ys]] => some fun K => ∃ (a : ArmV) (b : Nat) (qs : List Rat), xs = armCh a ∧ ys = lR b qs ∧ ((GoodArm a) ∧ (b ≤ 400 ∧ qs.length = a.links.length)) ∧ (∀ (fs : List FrV) (f : FrV), fs ++ [f] = framesV (baseV a) a.links qs → fs.length = a.links.length → K (.t [(false, [.s 10 (fs.map frCh ++ [frN (bnd a.links.length) f])]), (false, [.v (.int .i64 0)])]))
 | _ => none
theorem ok_fFrames : CtrOK Tryz.prog tabG debT 62 c_fFrames := by
 refine ⟨enters Tryz.func62 (by kernel_rfl), fun l T hT K hK => ?_⟩
 unfold c_fFrames at hT
 split at hT
 ·cases hT
  obtain ⟨a, b, qs, rfl, rfl, hc, hK⟩ := hK
  exact spec_ofL T92ok mixed Tryz.func62 (by kernel_rfl) (by kernel_rfl) (by rfl) (g_fFrames _ _ _ hc K hK)
 ·cases hT
def L93 : List (Nat × Ctr) := (62, c_fFrames) :: L92
theorem L93ok : CtrsOK Tryz.prog tabG debT L93 := .cons ok_fFrames L92ok
def L94 : List (Nat × Ctr) := L93
def T94 : Tabs := mkT L94 M79 X4
theorem L94ok : CtrsOK Tryz.prog tabG debT L94 := L93ok
end Go.Proofs
