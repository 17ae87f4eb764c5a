/- reaches; plain laws of frames. -/
import Derived.Test.YtdkakhlabdoilaaDoorF1
/- reaches; plain laws of frames. -/
namespace Go.Proofs
open Go Go.Eng
def ot_kReaches : OT := fun id => bif id.beq 2 then ([0, 1, 2, 3, 4, 5, 6, 7, 8], [[], [0], [1, 0], [2, 1, 0], [3, 2, 1, 0], [2, 1, 0], [4, 3, 2, 1, 0, 5], [2, 1, 0, 6, 4, 3, 5], [7, 2, 1, 0, 6, 4, 3, 5]]) else ([], [])
def goal_kReaches  (K : AV → Prop) : Prop := goalL T94 ot_kReaches noL Tryd.f32 [] K
theorem goal_kReaches_vc (K : AV → Prop) : goal_kReaches K = (∃(ns:List Int),[[Ch.v (Value.int IntKind.i64 3)],[Ch.v (Value.int IntKind.i64 2)]]=ints ns∧(ns.length≤3∧∀(n:Int),n ∈ ns→1≤n∧n≤1000)∧(((-9223372036854775808:Int)<0∧(0:Int)<9223372036854775808)∧(0:Int)<1∧(1:Int)<9223372036854775808)∧(((-9223372036854775808:Int)<1∧(1:Int)<9223372036854775808)∧(0:Int)<1∧(1:Int)<9223372036854775808)∧∃(a:ArmV),∃(b:Nat),∃(qs:List Rat),[Ch.v (Value.string (sampleV ns).name),Ch.r (sampleV ns).x 63,Ch.r (sampleV ns).y 63,Ch.v (Value.bool false),Ch.r (sampleV ns).t 63,Ch.s 16 (List.map linkCh (sampleV ns).links)]=[Ch.v (Value.string a.name),Ch.r a.x 63,Ch.r a.y 63,Ch.v (Value.bool a.half),Ch.r a.t 63,Ch.s 16 (List.map linkCh a.links)]∧[[Ch.r (mkRat 0 1) 63],[Ch.r (mkRat 1 1) 63]]=lR b qs∧(GoodArm a∧b≤400∧qs.length=a.links.length)∧∀(n:Nat) (f:FrV),n≤120000000→(framesV (baseV a) a.links qs)[a.links.length]?=some f→(((-9223372036854775808:Int)<3∧(3:Int)<9223372036854775808)∧(-9223372036854775808:Int)<2∧(2:Int)<9223372036854775808)∧K (AV.x false [Ch.v (Value.bool (decide (f.x=(pt1 3 2).fst)&&(decide (f.y=(pt1 3 2).snd)&&true)))])) := by kernel_rfl
theorem g_kReaches  (_hc : True) (K : AV → Prop) (hK : K (.x false [.v (.bool true)])) : Holds (goal_kReaches  K) := by
 refine ⟨?_⟩
 rw [goal_kReaches_vc]
 try simp only [Int.ofNat_eq_natCast, true_and, and_true, Nat.zero_add, Nat.le_refl, true_implies, true_or, or_true]
 have e : ((framesV (baseV (sampleV [3, 2])) (sampleV [3, 2]).links [mkRat 0 1, mkRat 1 1])[2]?.map fun f => (f.x, f.y)) = some (pt1 3 2) := by decide +kernel
 refine ⟨[3, 2], rfl, ⟨by simp, by simp⟩, by omega, by omega, sampleV [3, 2], 63, [mkRat 0 1, mkRat 1 1], rfl, rfl, ⟨sample_good (by simp) (by simp), by omega, rfl⟩, fun n f hn hf => ⟨by omega, ?_⟩⟩
 rw [show (sampleV [3, 2]).links.length = 2 from rfl] at hf
 rw [hf] at e
 simp only [Option.map_some, Option.some.injEq] at e
 rw [show f.x = (pt1 3 2).fst by rw [← e], show f.y = (pt1 3 2).snd by rw [← e]]
 simpa using hK
def c_kReaches : Ctr := fun as0 => match as0 with
 | [] => some fun K => (True) ∧ (K (.x false [.v (.bool true)]))
 | _ => none
theorem ok_kReaches : CtrOK Tryd.prog tabG debT 32 c_kReaches := by
 refine ⟨enters Tryd.func32 (by kernel_rfl), fun l T hT K hK => ?_⟩
 unfold c_kReaches at hT
 split at hT
 ·cases hT
  obtain ⟨hc, hK⟩ := hK
  exact spec_ofL T94ok mixed Tryd.func32 (by kernel_rfl) (by kernel_rfl) (by rfl) (g_kReaches  hc K hK)
 ·cases hT
def L95 : List (Nat × Ctr) := (32, c_kReaches) :: L94
def T95 : Tabs := mkT L95 M79 X4
theorem L95ok : CtrsOK Tryd.prog tabG debT L95 := .cons ok_kReaches L94ok
theorem T95ok : TabsOK Tryd.prog tabG debT T95 := mkTok L95ok M79ok X4ok
theorem frs_at {fs : List FrV} {f g : FrV} {m i : Nat} (hm : m ≤ 120000000) (h : (fs ++ [f])[i]? = some g) : ∃ n, n ≤ 120000000 ∧ ldE (fs.map frCh ++ [frN m f]) i 0 6 = some [.r g.x n, .r g.y n] ∧ ldE (fs.map frCh ++ [frN m f]) i 6 4 = some [.v (.bool g.h), .r g.t n] := by
 obtain ⟨n, hn, h⟩ := frs_ld hm h
 refine ⟨n, hn, ?_, ?_⟩
 ·simp only [ldE, h]; rfl
 ·simp only [ldE, h]; rfl
theorem put0x (b : FrV) : putX b 0 0 = b.x := by unfold putX; grind
theorem put0y (b : FrV) : putY b 0 0 = b.y := by unfold putY; grind
theorem frames_head (b : FrV) (ls : List LinkV) (qs : List Rat) : ∃ g rest, framesV b ls qs = g :: rest ∧ g.x = b.x ∧ g.y = b.y := by
 match ls, qs with
 | [], _ => exact ⟨b, [], rfl, rfl, rfl⟩
 | _ :: _, [] => exact ⟨b, [], rfl, rfl, rfl⟩
 | L :: ls, q :: qs => exact ⟨_, _, rfl, put0x b, put0y b⟩
theorem cs1 (h : Bool) (t : Rat) : cosT h t * cosT h t + sinT h t * sinT h t = 1 := by
 unfold cosT sinT
 cases h with
 | true => simp only [cond_true]; grind
 | false =>
  simp only [cond_false]
  have := sq1 t
  grind
theorem frames_step : ∀ (ls : List LinkV) (qs : List Rat) (b : FrV) (i : Nat) (L : LinkV) (f g : FrV), qs.length = ls.length → ls[i]? = some L → (framesV b ls qs)[i]? = some f → (framesV b ls qs)[i + 1]? = some g →
  (g.x - f.x) * (g.x - f.x) + (g.y - f.y) * (g.y - f.y) = L.len * L.len := by
 intro ls
 induction ls with
 | nil => intro qs b i L f g _ h; cases h
 | cons L0 ls ih =>
  intro qs b i L f g hl hL hf hg
  match qs, hl with
  | q :: qs, hl =>
   cases i with
   | zero =>
    cases hL
    obtain ⟨g0, rest, e, ex, ey⟩ := frames_head (frThen (frThen b ⟨0, 0, false, q⟩) ⟨L0.len, 0, false, 0⟩) ls qs
    rw [framesV] at hf hg
    cases hf
    rw [e] at hg
    cases hg
    rw [ex, ey]
    have := cs1 (frThen b ⟨0, 0, false, q⟩).h (frThen b ⟨0, 0, false, q⟩).t
    show (putX (frThen b ⟨0, 0, false, q⟩) L0.len 0 - _) * (putX (frThen b ⟨0, 0, false, q⟩) L0.len 0 - _) + (putY (frThen b ⟨0, 0, false, q⟩) L0.len 0 - _) * (putY (frThen b ⟨0, 0, false, q⟩) L0.len 0 - _) = _
    unfold putX putY
    grind
   | succ i =>
    rw [framesV] at hf hg
    exact ih qs _ i L f g (by simpa using hl) (by simpa using hL) (by simpa using hf) (by simpa using hg)
theorem th_good (h : Bool) (t : Rat) (g : Bool) (u : Rat) : thH h t g u = true → thT h t g u = 0 := by
 unfold thH thT oppT
 cases h <;> cases g <;> simp only [Bool.and_self, Bool.and_false, Bool.and_true, cond_true, cond_false] <;> intro e <;> first | (rw [e]; rfl) | cases e
theorem frThen0 (f : FrV) (u v : Rat) (hf : f.h = true → f.t = 0) : (frThen f ⟨u, v, false, 0⟩).h = f.h ∧ (frThen f ⟨u, v, false, 0⟩).t = f.t := by
 show thH f.h f.t false 0 = f.h ∧ thT f.h f.t false 0 = f.t
 cases h : f.h with
 | true => rw [hf h]; exact ⟨rfl, rfl⟩
 | false =>
  have e : decide (1 - f.t * 0 = 0) = false := decide_eq_false (by grind)
  simp only [thH, thT, Bool.and_self, cond_false, e]
  refine ⟨trivial, ?_⟩
  have e2 : (1 : Rat) - f.t * 0 = 1 := by grind
  rw [e2, Rat.add_zero, Rat.div_def]
  grind
theorem frames_last : ∀ (ls : List LinkV) (qs : List Rat) (b f g : FrV), qs.length = ls.length → 1 ≤ ls.length → (framesV b ls qs)[ls.length - 1]? = some f → (framesV b ls qs)[ls.length]? = some g → g.h = f.h ∧ g.t = f.t := by
 intro ls
 induction ls with
 | nil => intro qs b f g _ h; simp at h
 | cons L0 ls ih =>
  intro qs b f g hl _ hf hg
  match qs, hl with
  | q :: qs, hl =>
   rw [framesV] at hf hg
   match ls, qs, hl with
   | [], [], _ =>
    cases hf; cases hg
    exact frThen0 _ _ _ (th_good _ _ _ _)
   | L1 :: ls, q1 :: qs, hl =>
    exact ih (q1 :: qs) _ f g (by simpa using hl) (by simp) (by simpa using hf) (by simpa using hg)
end Go.Proofs
