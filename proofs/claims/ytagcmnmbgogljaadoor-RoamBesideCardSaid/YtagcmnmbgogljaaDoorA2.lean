/- Clamp; Conf with a row of its own; slices.Clone of integers; gantmake.Rat. -/
import Derived.Test.YtagcmnmbgogljaaDoorAJ
/- Clamp; Conf with a row of its own; slices.Clone of integers; gantmake.Rat. -/
namespace Go.Proofs
open Go Go.Eng
def rowI (l : List Int) : Blk := .row 3 1 (ints l)
def goal_cloneI (l : List Int) : Prop := goalM (X := Unit) T52 noO noL Tryd.f17 [.x false [.s 1 (ints l)]] [] (fun _ => True) (fun _ => ⟨[(2, .x false [.w 0 0 l.length])], [(0, rowI l)]⟩)
theorem goal_cloneI_vc (l : List Int) : goal_cloneI l = (ints l≠[]∧((0+(ints l).length)*8≤140737488355328∧0+(ints l).length≤9223372036854775807)∧∃(x:Unit),True∧0=0∧0+(ints l).length=l.length∧3=3∧1=1∧(ints l=ints l∨RowLE (ints l) (ints l))∧True) := by kernel_rfl
def goal_cloneI0 (l0 : List Int) : Prop := goalM (X := Unit) T52 noO noL Tryd.f17 [.x false [.v (.slice none 0 0)]] [] (fun _ => True) (fun _ => ⟨[(2, .x false [.w 0 0 0])], [(0, rowI l0)]⟩)
theorem goal_cloneI0_vc (l0 : List Int) : goal_cloneI0 l0 = (True∧∃(x:Unit),True∧Value.slice none 0 0=Value.slice none 0 0∧0=0∧0=0∧ints l0=[]∧True) := by kernel_rfl
def goal_cloneI1 (b o c : Nat) (l0 : List Int) : Prop := goalM (X := Unit) T52 noO noL Tryd.f17 [.x false [.v (.slice (some ⟨b, o, none⟩) 0 c)]] [] (fun _ => True) (fun _ => ⟨[(2, .x false [.w 0 0 0])], [(0, rowI l0)]⟩)
theorem goal_cloneI1_vc (b : Nat) (o : Nat) (c : Nat) (l0 : List Int) : goal_cloneI1 b o c l0 = (True∧(0≤140737488355328∧0≤9223372036854775807)∧∃(x:Unit),True∧0=0∧0=0∧3=3∧1=1∧([]=ints l0∨RowLE [] (ints l0))∧True) := by kernel_rfl
def L53 : List (Nat × Ctr) := L52
noncomputable def T53 : Tabs := mkT L53 M48 X4
theorem L53ok : CtrsOK Tryd.prog tabG debT L53 := L52ok
theorem g_cloneI (l : List Int) (h : l ≠ []) (hl : l.length * 8 ≤ 140737488355328) : Holds (goal_cloneI l) := by
 refine ⟨?_⟩
 rw [goal_cloneI_vc]
 simp only [Int.ofNat_eq_natCast, true_and, and_true, Nat.zero_add, Nat.le_refl, true_implies, true_or, or_true]
 rw [ints_len]
 exact ⟨fun e => h (by simpa [ints] using e), by omega, (), rfl⟩
theorem g_cloneI0 : Holds (goal_cloneI0 []) := by
 refine ⟨?_⟩
 rw [goal_cloneI0_vc]
 simp only [Int.ofNat_eq_natCast, true_and, and_true, Nat.zero_add, Nat.le_refl, true_implies, true_or, or_true]
 exact ⟨(), rfl⟩
theorem g_cloneI1 (b o c : Nat) : Holds (goal_cloneI1 b o c []) := by
 refine ⟨?_⟩
 rw [goal_cloneI1_vc]
 simp only [Int.ofNat_eq_natCast, true_and, and_true, Nat.zero_add, Nat.le_refl, true_implies, true_or, or_true]
 exact ⟨by omega, (), .inl rfl⟩
theorem spec_empty {P : Program} {g : Nat} {tab : List Value} {f sz : Nat} {H : HP} {K : KK} (hA : SpecM P g tab f [.x false [.v (.slice none 0 0)]] H K) (hB : ∀ b o c, SpecM P g tab f [.x false [.v (.slice (some ⟨b, o, none⟩) 0 c)]] H K) : SpecM P g tab f [.x false [.s sz []]] H K := by
 intro w0 M ρ w vals hg ht hs hc
 cases hc with
 | cons h t =>
  cases t
  obtain ⟨us, hcc, hv⟩ := h
  simp only [Bool.false_eq_true, if_false] at hv
  subst hv
  cases hcc with
  | s0 h => exact hA w0 M ρ w _ hg ht hs (.cons ⟨_, .v rfl .nil, rfl⟩ .nil)
  | s00 h => exact hB _ _ _ w0 M ρ w _ hg ht hs (.cons ⟨_, .v rfl .nil, rfl⟩ .nil)
  | s hr hx hcap h => exact hB _ _ _ w0 M ρ w _ hg ht hs (.cons ⟨_, .v rfl .nil, rfl⟩ .nil)
def c_cloneI : CtrM := fun as0 H d => match as0 with
 | [.x false [.s 1 xs]] => match H d with
  | none => some fun K => ∃ l, xs = ints l ∧ l.length * 8 ≤ 140737488355328 ∧ K (.x false [.w d 0 l.length]) (backH [(0, d)] (lookH [(0, rowI l)]) H)
  | some _ => none
 | _ => none
theorem ok_cloneI : CtrMOK Tryd.prog tabG debT 17 c_cloneI := by
 refine ⟨enters Tryd.func17 (by kernel_rfl), fun l H d T hT K hK => ?_⟩
 unfold c_cloneI at hT
 split at hT
 ·split at hT
  ·rename_i hd
   cases hT
   obtain ⟨l, rfl, hl, hK⟩ := hK
   by_cases h : l = []
   ·subst h
    refine spec_empty ?_ fun b o c => ?_
    ·exact specM_new T52ok mixed Tryd.func17 (by kernel_rfl) (by kernel_rfl) (by rfl) (by rfl) hd (by kernel_rfl) g_cloneI0 hK
    ·exact specM_new T52ok mixed Tryd.func17 (by kernel_rfl) (by kernel_rfl) (by rfl) (by rfl) hd (by kernel_rfl) (g_cloneI1 b o c) hK
   ·exact specM_new T52ok mixed Tryd.func17 (by kernel_rfl) (by kernel_rfl) (by rfl) (by rfl) hd (by kernel_rfl) (g_cloneI l h hl) hK
  ·cases hT
 ·cases hT
end Go.Proofs
