/- Digits of a base, the highest first. -/
import Derived.Test.YtglebancgilfdaaDoorRN
/- Digits of a base, the highest first. -/
namespace Go.Proofs
/-- The number that digits of base s + 1 stand for. -/
def numV (s : Int) : List Int → Int
  | [] => 0
  | k :: l => k * (s + 1) ^ l.length + numV s l
theorem pow_pos' {s : Int} (hs : 0 ≤ s) (n : Nat) : 1 ≤ (s + 1) ^ n := by
 induction n with
 | zero => simp
 | succ n ih =>
  rw [Int.pow_succ]
  have : (s + 1) ^ n * 1 ≤ (s + 1) ^ n * (s + 1) := Int.mul_le_mul_of_nonneg_left (by omega) (by omega)
  omega
theorem numV_bounds {s : Int} (hs : 0 ≤ s) : ∀ {l : List Int}, (∀ k ∈ l, 0 ≤ k ∧ k ≤ s) → 0 ≤ numV s l ∧ numV s l < (s + 1) ^ l.length := by
 intro l
 induction l with
 | nil => intro _; simp [numV]
 | cons k l ih =>
  intro h
  have hk := h k (by simp)
  obtain ⟨i1, i2⟩ := ih fun z hz => h z (by simp [hz])
  have hp := pow_pos' hs l.length
  unfold numV
  rw [List.length_cons, Int.pow_succ]
  have h1 : 0 ≤ k * (s + 1) ^ l.length := Int.mul_nonneg hk.1 (by omega)
  have h2 : k * (s + 1) ^ l.length ≤ s * (s + 1) ^ l.length := Int.mul_le_mul_of_nonneg_right hk.2 (by omega)
  have h3 : (s + 1) ^ l.length * (s + 1) = s * (s + 1) ^ l.length + (s + 1) ^ l.length := by grind
  omega
theorem numV_set {s v : Int} : ∀ {l : List Int} {i : Nat} {k : Int}, l[i]? = some k → numV s (l.set i v) = numV s l + (v - k) * (s + 1) ^ (l.length - 1 - i) := by
 intro l
 induction l with
 | nil => intro i k h; simp at h
 | cons a l ih =>
  intro i k h
  cases i with
  | zero =>
   simp at h
   subst h
   simp only [List.set_cons_zero, numV, List.length_cons]
   rw [show l.length + 1 - 1 - 0 = l.length by omega]
   grind
  | succ i =>
   have h : l[i]? = some k := by simpa using h
   have hi := (List.getElem?_eq_some_iff.1 h).1
   simp only [List.set_cons_succ, numV, List.length_set, List.length_cons]
   rw [ih h, show l.length + 1 - 1 - (i + 1) = l.length - 1 - i by omega]
   omega
theorem numV_zero {s : Int} : ∀ {l : List Int}, (∀ (j : Nat) (k : Int), l[j]? = some k → k = 0) → numV s l = 0 := by
 intro l
 induction l with
 | nil => intro _; rfl
 | cons a l ih =>
  intro h
  have h0 := h 0 a rfl
  subst h0
  unfold numV
  rw [ih fun j k hj => h (j + 1) k (by simpa using hj)]
  simp
theorem numV_drop {s : Int} {l : List Int} {i : Nat} {k n : Int} (h : l[i]? = some k) (hn : n * (s + 1) ^ (l.length - i) + numV s (l.drop i) = numV s l) : (n * (s + 1) + k) * (s + 1) ^ (l.length - (i + 1)) + numV s (l.drop (i + 1)) = numV s l := by
 have hi := (List.getElem?_eq_some_iff.1 h).1
 have e : l.drop i = k :: l.drop (i + 1) := by
  rw [List.drop_eq_getElem_cons hi]
  rw [List.getElem?_eq_getElem hi] at h
  rw [Option.some.inj h]
 rw [e, numV, List.length_drop, show l.length - i = (l.length - (i + 1)) + 1 by omega, Int.pow_succ] at hn
 grind
end Go.Proofs
/- roam.Number, All; slices.Equal of integers; RoamBack. -/
namespace Go.Proofs
open Go Go.Eng
def inv_eqI (l : List Int) (m : List Int) : LI := fun _ => .inv ⟨Nat, fun i => ⟨[(0, .x false [.s 1 (ints l)]), (1, .x false [.s 1 (ints m)]), (12, iA .i64 l.length), (13, iA .i64 i)], []⟩, fun i => i ≤ l.length ∧ l.take i = m.take i, fun i => l.length - i, fun _ => 0⟩
def goal_cloneW (l : List Int) : Prop := goalM (X := Unit) T67r noO noL Tryd.f26 [.x false [.w 1000 0 l.length]] [(1000, rowI l)] (fun _ => True) (fun _ => ⟨[(2, .x false [.w 500 0 l.length])], [(1000, rowI l), (500, rowI l)]⟩)
theorem goal_cloneW_vc (l : List Int) : goal_cloneW l = (l.length≠0∧((0+(List.take l.length (List.drop 0 (ints l))).length)*8≤140737488355328∧0+(List.take l.length (List.drop 0 (ints l))).length≤9223372036854775807)∧∃(x:Unit),True∧0=0∧0+(List.take l.length (List.drop 0 (ints l))).length=l.length∧3=3∧1=1∧(ints l=ints l∨RowLE (ints l) (ints l))∧3=3∧1=1∧(List.take l.length (List.drop 0 (ints l))=ints l∨RowLE (List.take l.length (List.drop 0 (ints l))) (ints l))∧True) := by kernel_rfl
theorem g_cloneW (l : List Int) (h0 : l ≠ []) (h : l.length * 8 ≤ 140737488355328) : Holds (goal_cloneW l) := by
 refine ⟨?_⟩
 rw [goal_cloneW_vc]
 simp only [Int.ofNat_eq_natCast, true_and, and_true, Nat.zero_add, Nat.le_refl, true_implies, true_or, or_true]
 have e : List.take l.length (List.drop 0 (ints l)) = ints l := by rw [List.drop_zero, List.take_of_length_le (by rw [ints_len]; exact Nat.le_refl _)]
 rw [e, ints_len]
 exact ⟨fun e => h0 (List.length_eq_zero_iff.1 e), ⟨h, by omega⟩, (), rfl, .inl rfl⟩
def cm_cloneW : CtrM := fun as0 H d => match as0 with
 | [.x false [.w k o n]] => match o with
  | 0 => match H k with
   | some (.row t 1 ys) => match H d with
    | none => bif t.beq 3 then
     some fun K => ∃ l : List Int, ys = ints l ∧ n = l.length ∧ (l ≠ [] ∧ l.length * 8 ≤ 140737488355328) ∧
      K (.x false [.w d 0 l.length]) (backH [(1000, k), (500, d)] (lookH [(1000, rowI l), (500, rowI l)]) H)
     else none
    | some _ => none
   | _ => none
  | _ + 1 => none
 | _ => none
theorem okm_cloneW : CtrMOK Tryd.prog tabG debT 26 cm_cloneW := by
 refine ⟨enters Tryd.func26 (by kernel_rfl), fun l H d T hT K hK => ?_⟩
 unfold cm_cloneW at hT
 split at hT
 ·rename_i k o n
  split at hT
  ·split at hT
   ·rename_i t ys e1
    split at hT
    ·rename_i hd
     cases hb : t.beq 3 with
     | false => rw [hb] at hT; cases hT
     | true =>
      rw [hb] at hT
      cases hT
      have ht := Nat.eq_of_beq_eq_true hb
      subst ht
      obtain ⟨l, rfl, rfl, ⟨h0, hl⟩, hK⟩ := hK
      refine specM_of (R := [(1000, k)]) (N := [(500, d)]) (Hl := [(1000, rowI l)]) T67rok mixed Tryd.func26 (by kernel_rfl) (by kernel_rfl) (by rfl)
       (as0 := [.x false [.w 1000 0 l.length]]) ?_ (hand1 e1 rfl rfl) rfl (by simp) (by simp) (fun p hp => by simp at hp; subst hp; exact hd) (fun x => ⟨fun p hp => ?_, fun p hp b hb => ?_⟩) (g_cloneW l h0 hl) (fun x hx => ?_)
      ·simp [renAs, renAV, renCh, lkB]
      ·simp at hp
       subst hp
       exact fun h => by have h' : some (rowI _) = none := h; cases h'
      ·simp at hp
       rcases hp with rfl | rfl
       ·have h' : some (rowI _) = some b := hb; cases h'; rfl
       ·have h' : some (rowI _) = some b := hb; cases h'; rfl
      ·exact ⟨_, rfl, hK⟩
    ·cases hT
   ·cases hT
  ·cases hT
 ·cases hT
def goal_roAll (n s : Int) : Prop := goalM (X := Unit) T67r noO noL Tryd.f29 [iA .i64 n, iA .i64 s] [] (fun _ => True) (fun _ => ⟨[(4, .x false [.f 56 [2, 3]])], [(2, .box 3 [.v (.int .i64 n)]), (3, .box 3 [.v (.int .i64 s)])]⟩)
theorem goal_roAll_vc (n : Int) (s : Int) : goal_roAll n s = (∃(x:Unit),True∧56=56∧3=3∧n=n∧3=3∧s=s∧True) := by kernel_rfl
theorem g_roAll (n s : Int) : Holds (goal_roAll n s) := by
 refine ⟨?_⟩
 rw [goal_roAll_vc]
 simp only [Int.ofNat_eq_natCast, true_and, and_true, Nat.zero_add, Nat.le_refl, true_implies, true_or, or_true]
 exact ⟨(), trivial⟩
def cm_roAll : CtrM := fun as0 H d => match as0 with
 | [.x false [.v (.int .i64 n)], .x false [.v (.int .i64 s)]] => match H d, H (d + 1000) with
  | none, none => some fun K => K (.x false [.f 56 [d, d + 1000]]) (backH [(2, d), (3, d + 1000)] (lookH [(2, .box 3 [.v (.int .i64 n)]), (3, .box 3 [.v (.int .i64 s)])]) H)
  | _, _ => none
 | _ => none
theorem okm_roAll : CtrMOK Tryd.prog tabG debT 29 cm_roAll := by
 refine ⟨enters Tryd.func29 (by kernel_rfl), fun l H d T hT K hK => ?_⟩
 unfold cm_roAll at hT
 split at hT
 ·split at hT
  ·rename_i n s _ _ hd1 hd2
   cases hT
   refine specM_of (R := []) (N := [(2, d), (3, d + 1000)]) (Hl := []) T67rok mixed Tryd.func29 (by kernel_rfl) (by kernel_rfl) (by rfl)
    (as0 := [iA .i64 n, iA .i64 s]) ?_ .nil rfl (by simp) (by simp) (fun p hp => by simp at hp; rcases hp with rfl | rfl <;> assumption) (fun x => ⟨(fun _ h => by cases h), fun p hp b hb => ?_⟩) (g_roAll n s) (fun x hx => ?_)
   ·simp [renAs, renAV, renCh]; exact ⟨rfl, rfl⟩
   ·simp at hp
    rcases hp with rfl | rfl
    ·have h' : some (Blk.box _ _) = some b := hb; cases h'; rfl
    ·have h' : some (Blk.box _ _) = some b := hb; cases h'; rfl
   ·exact ⟨_, rfl, hK⟩
  ·cases hT
 ·cases hT
def M68r : List (Nat × CtrM) := (29, cm_roAll) :: (26, cm_cloneW) :: M65r
noncomputable def T67s : Tabs := mkTV L67r M68r X4
theorem M68rok : CtrMsOK Tryd.prog tabG debT M68r := .cons okm_roAll (.cons okm_cloneW M65rok)
theorem T67sok : TabsOK Tryd.prog tabG debT T67s := mkTVok L67rok M68rok X4ok
def ot_roVW : OT := fun id => bif id.beq 16 then ([0, 1, 2, 3, 4, 5, 6, 7, 8, 9], [[], [], [], [1, 2], [3, 1, 2], [], [4, 3, 1, 2, 5], [6, 4, 3, 1, 2, 5], [0, 7, 6, 4, 3, 1, 2, 5], [8, 0, 7, 6, 4, 3, 1, 2, 5]]) else ([], [])
def goal_roVW (a : ArmV) (s : Int) (ks : List Int) : Prop := goalM (X := Unit) T67s ot_roVW (fun _ => .inv ⟨Nat, fun i => ⟨[(1, iA .i64 s), (2, .x false [.w 1000 0 ks.length]), (9, .x false [.s 1 (a.links.map joCh)]), (11, .x false [.w 500 0 i]), (36, .x false [.w 1000 0 ks.length]), (37, iA .i64 ks.length), (38, iA .i64 i)], [(1000, rowI ks), (500, rowR 319 ((valR a s ks).take i))]⟩, fun i => i ≤ ks.length, fun i => ks.length - i, fun _ => 0⟩) Tryd.f20 [armA a, iA .i64 s, .x false [.w 1000 0 ks.length]] [(1000, rowI ks)] (fun _ => True) (fun _ => ⟨[(6, .x false [.w 500 0 ks.length]), (7, iA .i64 0)], [(1000, rowI ks), (500, rowR 319 (valR a s ks))]⟩)
theorem goal_roVW_vc (a : ArmV) (s : Int) (ks : List Int) : goal_roVW a s ks = (∃(a_1:ArmV),[Ch.v (Value.string a.name),Ch.r a.x 63,Ch.r a.y 63,Ch.v (Value.bool a.half),Ch.r a.t 63,Ch.s 16 (List.map linkCh a.links)]=[Ch.v (Value.string a_1.name),Ch.r a_1.x 63,Ch.r a_1.y 63,Ch.v (Value.bool a_1.half),Ch.r a_1.t 63,Ch.s 16 (List.map linkCh a_1.links)]∧(GoodArm a_1∧1≤s∧s≤12)∧bif Int.ofNat ks.length != Int.ofNat (List.map linkCh a.links).length then ∃(x:Unit),True∧Value.slice none 0 0=Value.slice none 0 0∧0=0∧ks.length=0∧(1:Int)=0∧3=3∧1=1∧(ints ks=ints ks∨RowLE (ints ks) (ints ks))∧List.map (fun(q:Rat)=>[Ch.r q 319]) (valR a s ks)=[]∧True else ∃(a_2:ArmV),[Ch.v (Value.string a.name),Ch.r a.x 63,Ch.r a.y 63,Ch.v (Value.bool a.half),Ch.r a.t 63,Ch.s 16 (List.map linkCh a.links)]=[Ch.v (Value.string a_2.name),Ch.r a_2.x 63,Ch.r a_2.y 63,Ch.v (Value.bool a_2.half),Ch.r a_2.t 63,Ch.s 16 (List.map linkCh a_2.links)]∧GoodArm a_2∧(∃(x:Nat),(x≤ks.length∧OfNat.ofNat 0=0)∧s=s∧0=0∧ks.length=ks.length∧1=1∧List.map joCh a_2.links=List.map joCh a.links∧Value.slice none 0 0=Value.slice none 0 0∧0=0∧x=0∧0=0∧ks.length=ks.length∧Int.ofNat ks.length=Int.ofNat ks.length∧0=Int.ofNat x∧3=3∧1=1∧(ints ks=ints ks∨RowLE (ints ks) (ints ks))∧List.map (fun(q:Rat)=>[Ch.r q 319]) (List.take x (valR a s ks))=[]∧True)∧∀(x:Nat),x≤ks.length→OfNat.ofNat 0=0→bif decide (Int.ofNat x<Int.ofNat ks.length) then (0≤Int.ofNat x∧Int.ofNat x<Int.ofNat ks.length)∧∃(d:Int),ldE (ints ks) (0+(Int.ofNat x).toNat) 0 1=some [Ch.v (Value.int IntKind.i64 d)]∧bif decide (d<0) then ∃(x:Unit),True∧Value.slice none 0 0=Value.slice none 0 0∧0=0∧ks.length=0∧(17:Int)=0∧3=3∧1=1∧(ints ks=ints ks∨RowLE (ints ks) (ints ks))∧List.map (fun(q:Rat)=>[Ch.r q 319]) (valR a s ks)=[]∧True else bif decide (d>s) then ∃(x:Unit),True∧Value.slice none 0 0=Value.slice none 0 0∧0=0∧ks.length=0∧(17:Int)=0∧3=3∧1=1∧(ints ks=ints ks∨RowLE (ints ks) (ints ks))∧List.map (fun(q:Rat)=>[Ch.r q 319]) (valR a s ks)=[]∧True else (((-9223372036854775808≤d∧d<9223372036854775808)∧ -9223372036854775808≤s∧s<9223372036854775808)∧(↑s:Rat)≠OfNat.ofNat 0)∧(0≤Int.ofNat x∧Int.ofNat x<Int.ofNat (List.map joCh a.links).length)∧∃(ds:List Ch),ldE (List.map joCh a.links) (Int.ofNat x).toNat 0 1=some [Ch.i 132 true ds]∧∃(L:LinkV),ds=[Ch.r L.len 63,Ch.r L.lo 63,Ch.r L.hi 63,Ch.r L.sp 63,Ch.r L.br 63,Ch.s 6 (List.map vecCh L.shape)]∧128≤1000000∧((x+1)*40≤140737488355328∧x+1≤9223372036854775807)∧∃(x':Nat),(x'≤ks.length∧OfNat.ofNat 0=0∧ks.length-x'<ks.length-x)∧s=s∧0=0∧ks.length=ks.length∧1=1∧List.map joCh a.links=List.map joCh a.links∧0=0∧x+1=x'∧0=0∧ks.length=ks.length∧Int.ofNat ks.length=Int.ofNat ks.length∧IntKind.i64.wrap (Int.ofNat x+1)=Int.ofNat x'∧3=3∧1=1∧(ints ks=ints ks∨RowLE (ints ks) (ints ks))∧25=25∧3=3∧(List.take x (List.map (fun(q:Rat)=>[Ch.r q 319]) (List.take x (valR a s ks)))++[[Ch.r (L.lo+(L.hi-L.lo)*((↑d:Rat)/(↑s:Rat))) 319]]=List.map (fun(q:Rat)=>[Ch.r q 319]) (List.take x' (valR a s ks))∨RowLE (List.take x (List.map (fun(q:Rat)=>[Ch.r q 319]) (List.take x (valR a s ks)))++[[Ch.r (L.lo+(L.hi-L.lo)*((↑d:Rat)/(↑s:Rat))) 319]]) (List.map (fun(q:Rat)=>[Ch.r q 319]) (List.take x' (valR a s ks))))∧True else ∃(x_1:Unit),True∧0=0∧x=ks.length∧(0:Int)=0∧3=3∧1=1∧(ints ks=ints ks∨RowLE (ints ks) (ints ks))∧25=25∧3=3∧(List.map (fun(q:Rat)=>[Ch.r q 319]) (List.take x (valR a s ks))=List.map (fun(q:Rat)=>[Ch.r q 319]) (valR a s ks)∨RowLE (List.map (fun(q:Rat)=>[Ch.r q 319]) (List.take x (valR a s ks))) (List.map (fun(q:Rat)=>[Ch.r q 319]) (valR a s ks)))∧True) := by kernel_rfl
theorem g_roVW (a : ArmV) (s : Int) (ks : List Int) (hg : GoodArm a) (hs : 1 ≤ s ∧ s ≤ 12) (hl : ks.length = a.links.length) (hks : ∀ k ∈ ks, 0 ≤ k ∧ k ≤ s) : Holds (goal_roVW a s ks) := by
 refine ⟨?_⟩
 rw [goal_roVW_vc]
 simp only [Int.ofNat_eq_natCast, true_and, and_true, Nat.zero_add, Nat.le_refl, true_implies, true_or, or_true]
 obtain ⟨s1, s2⟩ := hs
 have hn := hg.n
 have lv : (valR a s ks).length = ks.length := by simp [valR, hl]
 simp only [List.length_map, ints_len]
 refine ⟨a, rfl, ⟨hg, s1, s2⟩, bif_mk (fun h => by simp [hl] at h) (fun _ => ⟨a, rfl, hg, ⟨0, by omega, rfl, rfl, rfl, rfl⟩, fun x hx => bif_mk (fun hp => ?_) (fun hp => ?_)⟩)⟩
 ·have hp : x < ks.length := by have := of_decide_eq_true hp; omega
  obtain ⟨k, hk⟩ : ∃ k, ks[x]? = some k := ⟨_, List.getElem?_eq_getElem hp⟩
  have hkb := hks k (List.mem_of_getElem? hk)
  obtain ⟨L, hL⟩ : ∃ L, a.links[x]? = some L := ⟨_, List.getElem?_eq_getElem (by omega)⟩
  have hv : (valR a s ks)[x]? = some (valV s L k) := by simp [valR, List.getElem?_zipWith, hL, hk]
  refine ⟨by omega, k, ints_ld (by simpa using hk), bif_mk (fun h => by have := of_decide_eq_true h; omega) (fun _ => bif_mk (fun h => by have := of_decide_eq_true h; omega) (fun _ => ⟨⟨by omega, ?_⟩, by omega, _, jo_ld (by simpa using hL), L, rfl, by omega, by omega, x + 1, ⟨by omega, by omega⟩, rfl, by rw [w64 (by omega)]; simp, .inl ?_⟩))⟩
  ·intro h
   have h2 : (0 : Rat) < ((s : Int) : Rat) := Rat.intCast_pos.2 (by omega)
   grind
  ·rw [List.take_of_length_le (by rw [List.length_map, List.length_take]; omega), List.take_add_one, hv, List.map_append]
   rfl
 ·have hp : x = ks.length := by have := of_decide_eq_false hp; omega
  subst hp
  exact ⟨(), by first | trivial | rfl, .inl (by rw [List.take_of_length_le (by omega)])⟩
def cm_roVW : CtrM := fun as0 H d => match as0 with
 | [.x true xs, .x false [.v (.int .i64 s)], .x false [.w k o n]] => match o with
  | 0 => match H k with
   | some (.row t 1 ys) => match H d with
    | none => bif t.beq 3 then
     some fun K => ∃ (a : ArmV) (ks : List Int), xs = armCh a ∧ ys = ints ks ∧ n = ks.length ∧ GoodArm a ∧ (1 ≤ s ∧ s ≤ 12) ∧ ks.length = a.links.length ∧ (∀ k ∈ ks, 0 ≤ k ∧ k ≤ s) ∧
      K (.t [(false, [.w d 0 ks.length]), (false, [.v (.int .i64 0)])]) (backH [(1000, k), (500, d)] (lookH [(1000, rowI ks), (500, rowR 319 (valR a s ks))]) H)
     else none
    | some _ => none
   | _ => none
  | _ + 1 => none
 | _ => none
theorem okm_roVW : CtrMOK Tryd.prog tabG debT 20 cm_roVW := by
 refine ⟨enters Tryd.func20 (by kernel_rfl), fun l H d T hT K hK => ?_⟩
 unfold cm_roVW at hT
 split at hT
 ·rename_i xs s k o n
  split at hT
  ·split at hT
   ·rename_i t ys e1
    split at hT
    ·rename_i hd
     cases hb : t.beq 3 with
     | false => rw [hb] at hT; cases hT
     | true =>
      rw [hb] at hT
      cases hT
      have ht := Nat.eq_of_beq_eq_true hb
      subst ht
      obtain ⟨a, ks, rfl, rfl, rfl, ha, hs, hl, hks, hK⟩ := hK
      refine specM_of (R := [(1000, k)]) (N := [(500, d)]) (Hl := [(1000, rowI ks)]) T67sok mixed Tryd.func20 (by kernel_rfl) (by kernel_rfl) (by rfl)
       (as0 := [armA a, iA .i64 s, .x false [.w 1000 0 ks.length]]) ?_ (hand1 e1 rfl rfl) rfl (by simp) (by simp) (fun p hp => by simp at hp; subst hp; exact hd) (fun x => ⟨fun p hp => ?_, fun p hp b hb => ?_⟩) (g_roVW a s ks ha hs hl hks) (fun x hx => ?_)
      ·simp [renAs, renAV, renCh, lkB, armA, armCh]; rfl
      ·simp at hp
       subst hp
       exact fun h => by have h' : some (rowI _) = none := h; cases h'
      ·simp at hp
       rcases hp with rfl | rfl
       ·have h' : some (rowI _) = some b := hb; cases h'; rfl
       ·have h' : some (rowR _ _) = some b := hb; cases h'; rfl
      ·exact ⟨_, rfl, hK⟩
    ·cases hT
   ·cases hT
  ·cases hT
 ·cases hT
def M69r : List (Nat × CtrM) := (20, cm_roVW) :: M68r
noncomputable def T67u : Tabs := mkTV L67r M69r X4
theorem M69rok : CtrMsOK Tryd.prog tabG debT M69r := .cons okm_roVW M68rok
theorem T67uok : TabsOK Tryd.prog tabG debT T67u := mkTVok L67rok M69rok X4ok
def ot_roNumG : OT := fun _ => ([], [])
def goal_roNumG (n : Int) (s : Int) (l : List Int) (K : AV → Prop) : Prop := goalL T67u ot_roNumG (fun _ => .inv ⟨Nat × Int, fun x => ⟨[(1, iA .i64 s), (8, iA .i64 x.2), (31, .x false [.s 1 (ints l)]), (32, iA .i64 l.length), (33, iA .i64 x.1)], []⟩, fun x => x.1 ≤ l.length ∧ x.2 * (s + 1) ^ (l.length - x.1) + numV s (l.drop x.1) = numV s l ∧ 0 ≤ x.2 ∧ x.2 < 13 ^ x.1, fun x => l.length - x.1, fun _ => 0⟩) Tryd.f17 [iA .i64 n, iA .i64 s, .x false [.s 1 (ints l)]] K
theorem goal_roNumG_vc (n : Int) (s : Int) (l : List Int) (K : AV → Prop) : goal_roNumG n s l K = (bif decide (n<1) then K (AV.t [(false,[Ch.v (Value.int IntKind.i64 0)]),(false,[Ch.v (Value.int IntKind.i64 1)])]) else bif decide (n>3) then K (AV.t [(false,[Ch.v (Value.int IntKind.i64 0)]),(false,[Ch.v (Value.int IntKind.i64 1)])]) else bif decide (s<1) then K (AV.t [(false,[Ch.v (Value.int IntKind.i64 0)]),(false,[Ch.v (Value.int IntKind.i64 1)])]) else bif decide (s>12) then K (AV.t [(false,[Ch.v (Value.int IntKind.i64 0)]),(false,[Ch.v (Value.int IntKind.i64 1)])]) else bif Int.ofNat (ints l).length != n then K (AV.t [(false,[Ch.v (Value.int IntKind.i64 0)]),(false,[Ch.v (Value.int IntKind.i64 1)])]) else (∃(x:Nat × Int),((x.fst≤l.length∧x.snd*(s+1)^(l.length-x.fst)+numV s (List.drop x.fst l)=numV s l∧0≤x.snd∧x.snd<13^x.fst)∧OfNat.ofNat 0=0)∧s=s∧0=x.snd∧1=1∧ints l=ints l∧Int.ofNat (ints l).length=Int.ofNat l.length∧0=Int.ofNat x.fst∧True)∧∀(x:Nat × Int),x.fst≤l.length∧x.snd*(s+1)^(l.length-x.fst)+numV s (List.drop x.fst l)=numV s l∧0≤x.snd∧x.snd<13^x.fst→OfNat.ofNat 0=0→bif decide (Int.ofNat x.fst<Int.ofNat l.length) then (0≤Int.ofNat x.fst∧Int.ofNat x.fst<Int.ofNat (ints l).length)∧∃(d:Int),ldE (ints l) (Int.ofNat x.fst).toNat 0 1=some [Ch.v (Value.int IntKind.i64 d)]∧bif decide (d<0) then K (AV.t [(false,[Ch.v (Value.int IntKind.i64 0)]),(false,[Ch.v (Value.int IntKind.i64 17)])]) else bif decide (d>s) then K (AV.t [(false,[Ch.v (Value.int IntKind.i64 0)]),(false,[Ch.v (Value.int IntKind.i64 17)])]) else ∃(x':Nat × Int),((x'.fst≤l.length∧x'.snd*(s+1)^(l.length-x'.fst)+numV s (List.drop x'.fst l)=numV s l∧0≤x'.snd∧x'.snd<13^x'.fst)∧OfNat.ofNat 0=0∧l.length-x'.fst<l.length-x.fst)∧s=s∧IntKind.i64.wrap (IntKind.i64.wrap (x.snd*IntKind.i64.wrap (s+1))+d)=x'.snd∧1=1∧ints l=ints l∧Int.ofNat l.length=Int.ofNat l.length∧IntKind.i64.wrap (Int.ofNat x.fst+1)=Int.ofNat x'.fst∧True else K (AV.t [(false,[Ch.v (Value.int IntKind.i64 x.snd)]),(false,[Ch.v (Value.int IntKind.i64 0)])])) := by kernel_rfl
theorem g_roNumG (n : Int) (s : Int) (l : List Int) (hc : ((1 ≤ l.length ∧ l.length ≤ 3) ∧ n = l.length) ∧ (1 ≤ s ∧ s ≤ 12) ∧ (∀ k ∈ l, 0 ≤ k ∧ k ≤ s)) (K : AV → Prop) (hK : K (.t [(false, [.v (.int .i64 (numV s l))]), (false, [.v (.int .i64 0)])])) : Holds (goal_roNumG n s l K) := by
 refine ⟨?_⟩
 rw [goal_roNumG_vc]
 try simp only [Int.ofNat_eq_natCast, true_and, and_true, Nat.zero_add, Nat.le_refl, true_implies, true_or, or_true]
 obtain ⟨⟨⟨h1, h3⟩, rfl⟩, ⟨s1, s2⟩, hk⟩ := hc
 have es : IntKind.i64.wrap (s + 1) = s + 1 := w64 (by omega)
 simp only [ints_len, es]
 refine bif_mk (fun h => by have := of_decide_eq_true h; omega) (fun _ => bif_mk (fun h => by have := of_decide_eq_true h; omega) (fun _ => bif_mk (fun h => by have := of_decide_eq_true h; omega) (fun _ => bif_mk (fun h => by have := of_decide_eq_true h; omega) (fun _ => bif_mk (fun h => by simp at h) (fun _ => ⟨⟨(0, 0), ⟨Nat.zero_le _, by simp, by simp, by simp⟩, rfl, by first | trivial | rfl, rfl⟩, fun x hx => bif_mk (fun hp => ?_) (fun hp => ?_)⟩)))))
 ·obtain ⟨i, n⟩ := x
  obtain ⟨hi, he, n0, n1⟩ := hx
  simp only at hi he n0 n1 hp ⊢
  have hp : i < l.length := by have := of_decide_eq_true hp; omega
  obtain ⟨k, hkk⟩ : ∃ k, l[i]? = some k := ⟨_, List.getElem?_eq_getElem hp⟩
  have kb := hk k (List.mem_of_getElem? hkk)
  have hn : n ≤ 168 := by
   have : i = 0 ∨ i = 1 ∨ i = 2 := by omega
   rcases this with rfl | rfl | rfl <;> simp at n1 <;> omega
  have m0 : 0 ≤ n * (s + 1) := Int.mul_nonneg n0 (by omega)
  have m1 : n * (s + 1) ≤ 168 * 13 := Int.mul_le_mul hn (by omega) (by omega) (by omega)
  have m2 : n * (s + 1) ≤ (13 ^ i - 1) * 13 := Int.mul_le_mul (by omega) (by omega) (by omega) (by omega)
  have m3 : (13 : Int) ^ (i + 1) = 13 ^ i * 13 := Int.pow_succ ..
  refine ⟨by omega, k, ints_ld (by simpa using hkk), bif_mk (fun h => by have := of_decide_eq_true h; omega) (fun _ => bif_mk (fun h => by have := of_decide_eq_true h; omega) (fun _ => ⟨(i + 1, n * (s + 1) + k), ⟨⟨by simp only; omega, numV_drop hkk he, by simp only; omega, by simp only; rw [m3]; omega⟩, by simp only; omega⟩, by rw [w64 (n := n * (s + 1)) (by omega), w64 (by omega)], by rw [w64 (by omega)]; simp⟩))⟩
 ·obtain ⟨i, n⟩ := x
  obtain ⟨hi, he, n0, n1⟩ := hx
  simp only at hi he n0 n1 hp ⊢
  have hp : i = l.length := by have := of_decide_eq_false hp; omega
  subst hp
  rw [List.drop_length, Nat.sub_self] at he
  have : n = numV s l := by rw [← he]; simp [numV]
  rw [this]
  exact hK
def c_roNumG : Ctr := fun as0 => match as0 with
 | [.x false [.v (.int .i64 n)], .x false [.v (.int .i64 s)], .x false [.s 1 ys]] => some fun K => ∃ (l : List Int), ys = ints l ∧ (((1 ≤ l.length ∧ l.length ≤ 3) ∧ n = l.length) ∧ (1 ≤ s ∧ s ≤ 12) ∧ (∀ k ∈ l, 0 ≤ k ∧ k ≤ s)) ∧ (K (.t [(false, [.v (.int .i64 (numV s l))]), (false, [.v (.int .i64 0)])]))
 | _ => none
theorem ok_roNumG : CtrOK Tryd.prog tabG debT 17 c_roNumG := by
 refine ⟨enters Tryd.func17 (by kernel_rfl), fun l T hT K hK => ?_⟩
 unfold c_roNumG at hT
 split at hT
 ·cases hT
  obtain ⟨l, rfl, hc, hK⟩ := hK
  exact spec_ofL T67uok mixed Tryd.func17 (by kernel_rfl) (by kernel_rfl) (by rfl) (g_roNumG _ _ _ hc K hK)
 ·cases hT
def L68s : List (Nat × Ctr) := (17, c_roNumG) :: L67r
noncomputable def T68s : Tabs := mkTV L68s M69r X4
theorem L68sok : CtrsOK Tryd.prog tabG debT L68s := .cons ok_roNumG L67rok
theorem T68sok : TabsOK Tryd.prog tabG debT T68s := mkTVok L68sok M69rok X4ok
def ot_roEqI : OT := fun id => bif id.beq 6 then ([0, 1, 2, 3, 4, 5, 6, 7, 8], [[], [], [0, 1], [2, 0, 1], [], [], [4, 5], [6, 4, 5], [3, 2, 0, 1, 7, 6, 4, 5]]) else ([], [])
def goal_roEqI (l : List Int) (m : List Int) (K : AV → Prop) : Prop := goalL T68s ot_roEqI (inv_eqI l m) Tryd.f22 [.x false [.s 1 (ints l)], .x false [.s 1 (ints m)]] K
theorem goal_roEqI_vc (l : List Int) (m : List Int) (K : AV → Prop) : goal_roEqI l m K = (bif Int.ofNat (ints l).length != Int.ofNat (ints m).length then K (AV.x false [Ch.v (Value.bool false)]) else (∃(x:Nat),((x≤l.length∧List.take x l=List.take x m)∧OfNat.ofNat 0=0)∧1=1∧ints l=ints l∧1=1∧ints m=ints m∧Int.ofNat (ints l).length=Int.ofNat l.length∧0=Int.ofNat x∧True)∧∀(x:Nat),x≤l.length∧List.take x l=List.take x m→OfNat.ofNat 0=0→bif decide (Int.ofNat x<Int.ofNat l.length) then (0≤Int.ofNat x∧Int.ofNat x<Int.ofNat (ints l).length)∧∃(d:Int),ldE (ints l) (Int.ofNat x).toNat 0 1=some [Ch.v (Value.int IntKind.i64 d)]∧(0≤Int.ofNat x∧Int.ofNat x<Int.ofNat (ints m).length)∧∃(d_1:Int),ldE (ints m) (Int.ofNat x).toNat 0 1=some [Ch.v (Value.int IntKind.i64 d_1)]∧bif d != d_1 then K (AV.x false [Ch.v (Value.bool false)]) else ∃(x':Nat),((x'≤l.length∧List.take x' l=List.take x' m)∧OfNat.ofNat 0=0∧l.length-x'<l.length-x)∧1=1∧ints l=ints l∧1=1∧ints m=ints m∧Int.ofNat l.length=Int.ofNat l.length∧IntKind.i64.wrap (Int.ofNat x+1)=Int.ofNat x'∧True else K (AV.x false [Ch.v (Value.bool true)])) := by kernel_rfl
theorem g_roEqI (l : List Int) (m : List Int) (hc : (l.length ≤ 1000 ∧ m.length ≤ 1000)) (K : AV → Prop) (hK : K (.x false [.v (.bool (decide (l = m)))])) : Holds (goal_roEqI l m K) := by
 refine ⟨?_⟩
 rw [goal_roEqI_vc]
 try simp only [Int.ofNat_eq_natCast, true_and, and_true, Nat.zero_add, Nat.le_refl, true_implies, true_or, or_true]
 obtain ⟨hl, hl2⟩ := hc
 simp only [ints_len]
 refine bif_mk (fun h => ?_) (fun h => ⟨⟨0, ⟨by omega, rfl⟩, by first | trivial | rfl, rfl⟩, fun x hx => bif_mk (fun hp => ?_) (fun hp => ?_)⟩)
 ·have h : l.length ≠ m.length := fun e => by rw [e] at h; simp at h
  have : decide (l = m) = false := by simp; exact fun e => h (by rw [e])
  rw [this] at hK; exact hK
 ·have h : l.length = m.length := by simp at h; omega
  have hp : x < l.length := by have := of_decide_eq_true hp; omega
  obtain ⟨p, hpp⟩ : ∃ p, l[x]? = some p := ⟨_, List.getElem?_eq_getElem hp⟩
  obtain ⟨q, hqq⟩ : ∃ q, m[x]? = some q := ⟨_, List.getElem?_eq_getElem (by omega)⟩
  simp only [Int.toNat_natCast]
  refine ⟨by omega, p, ints_ld hpp, by omega, q, ints_ld hqq, bif_mk (fun he => ?_) (fun he => ?_)⟩
  ·have he : p ≠ q := by simpa using he
   have : decide (l = m) = false := by
    simp
    intro e
    rw [e, hqq] at hpp
    exact he (Option.some.inj hpp).symm
   rw [this] at hK; exact hK
  ·have he : p = q := by simpa using he
   subst he
   refine ⟨x + 1, ⟨⟨by omega, ?_⟩, by omega⟩, by rw [w64 (by omega)]; simp⟩
   rw [List.take_add_one, List.take_add_one, hx.2, hpp, hqq]
 ·have h : l.length = m.length := by simp at h; omega
  have hp : ¬ x < l.length := by have := of_decide_eq_false hp; omega
  have e := hx.2
  rw [List.take_of_length_le (by omega), List.take_of_length_le (by omega)] at e
  have : decide (l = m) = true := by simpa using e
  rw [this] at hK; exact hK
def c_roEqI : Ctr := fun as0 => match as0 with
 | [.x false [.s 1 xs], .x false [.s 1 ys]] => some fun K => ∃ (l : List Int) (m : List Int), xs = ints l ∧ ys = ints m ∧ ((l.length ≤ 1000 ∧ m.length ≤ 1000)) ∧ (K (.x false [.v (.bool (decide (l = m)))]))
 | _ => none
theorem ok_roEqI : CtrOK Tryd.prog tabG debT 22 c_roEqI := by
 refine ⟨enters Tryd.func22 (by kernel_rfl), fun l T hT K hK => ?_⟩
 unfold c_roEqI at hT
 split at hT
 ·cases hT
  obtain ⟨l, m, rfl, rfl, hc, hK⟩ := hK
  exact spec_ofL T68sok mixed Tryd.func22 (by kernel_rfl) (by kernel_rfl) (by rfl) (g_roEqI _ _ hc K hK)
 ·cases hT
def L69s : List (Nat × Ctr) := (22, c_roEqI) :: L68s
noncomputable def T69s : Tabs := mkTV L69s M69r X4
theorem L69sok : CtrsOK Tryd.prog tabG debT L69s := .cons ok_roEqI L68sok
theorem T69sok : TabsOK Tryd.prog tabG debT T69s := mkTVok L69sok M69rok X4ok
structure RbX where
 a : ArmV
 s : Int
 y : Int
 N : Int
 l : List Int
 c : Int
 i : Int
structure RbI (x : RbX) : Prop where
 good : GoodArm x.a
 s : 1 ≤ x.s ∧ x.s ≤ 5
 N : x.N = (x.s + 1) ^ x.a.links.length
 l : x.l.length = x.a.links.length
 r : ∀ k ∈ x.l, 0 ≤ k ∧ k ≤ x.s
 c : 0 ≤ x.c ∧ x.c ≤ x.N ∧ x.N ≤ 216
def rbH (x : RbX) : List (Nat × Blk) := [(4, .box 3 [.v (.int .i64 x.s)]), (5, .box 3 [.v (.int .i64 x.y)]), (6, .box 4 [.v (.bool false)]), (9, .box 34 (armCh x.a)), (10, .box 3 [.v (.int .i64 x.c)]), (52, .box 3 [.v (.int .i64 x.a.links.length)]), (1052, .box 3 [.v (.int .i64 x.s)])]
def rbSt : Inv := ⟨RbX, fun x => ⟨[(4, .x false [.p 4 0]), (5, .x false [.p 5 0]), (6, .x false [.p 6 0]), (9, .x false [.p 9 0]), (10, .x false [.p 10 0]), (11, iA .i64 x.N), (52, .x false [.f 56 [52, 1052]])], rbH x⟩, fun x => RbI x ∧ x.c = 0, fun _ => 0, fun _ => 0⟩
def rbT (x : RbX) : List (Nat × AV) := [(0, .x false [.yl 900]), (1, .x false [.p 52 0]), (2, .x false [.p 1052 0]), (4, .x false [.w 500 0 x.l.length])]
def rbO (x0 : RbX) : Inv := ⟨RbX, fun x => ⟨rbT x, (900, .lp 0) :: (500, rowI x.l) :: rbH x⟩, fun x => RbI x ∧ x.N = x0.N ∧ numV x.s x.l = x.c, fun x => (x.N - x.c).toNat, fun _ => 0⟩
def rbIn (x0 : RbX) : Inv := ⟨RbX, fun x => ⟨(5, iA .i64 x.i) :: rbT x, (900, .lp 0) :: (500, rowI x.l) :: rbH x⟩, fun x => (RbI x ∧ x.N = x0.N) ∧ (-1 ≤ x.i ∧ x.i < x.l.length) ∧ (∀ (j : Nat) (k : Int), x.i < j → x.l[j]? = some k → k = 0) ∧ numV x.s x.l + (x.s + 1) ^ (x.l.length - 1 - x.i).toNat = x.c, fun x => (x.i + 1).toNat, fun x => (x.N + 1 - x.c).toNat⟩
def inv_back : LI := fun id => bif id.beq 13 then .it rbSt [] 900 [0, 1, 2, 4] (fun x0 id => bif id.beq 2 then .inv (rbO x0) else .inv (rbIn x0))
 else .inv ⟨RbX, fun x => ⟨[(4, .x false [.p 4 0]), (5, .x false [.p 5 0]), (6, .x false [.p 6 0]), (9, .x false [.p 9 0]), (10, .x false [.p 10 0]), (11, iA .i64 ((x.s + 1) ^ x.i.toNat)), (37, iA .i64 x.a.links.length), (38, iA .i64 x.i)], [(4, .box 3 [.v (.int .i64 x.s)]), (5, .box 3 [.v (.int .i64 x.y)]), (6, .box 4 [.v (.bool false)]), (9, .box 34 (armCh x.a)), (10, .box 3 [.v (.int .i64 0)])]⟩, fun x => GoodArm x.a ∧ (1 ≤ x.s ∧ x.s ≤ 5) ∧ 0 ≤ x.i ∧ x.i ≤ x.a.links.length, fun x => (x.a.links.length - x.i).toNat, fun _ => 0⟩
theorem bif_if {b : Bool} {X R : Prop} (hr : R) (h : b = true → R → X) : bif b then X else R := by
 cases b with
 | true => exact h rfl hr
 | false => exact hr
theorem powB {s : Int} {k : Nat} (h : 1 ≤ s ∧ s ≤ 5) (hk : k ≤ 3) : 1 ≤ (s + 1) ^ k ∧ (s + 1) ^ k ≤ 216 := by
 have h1 : s = 1 ∨ s = 2 ∨ s = 3 ∨ s = 4 ∨ s = 5 := by omega
 have h2 : k = 0 ∨ k = 1 ∨ k = 2 ∨ k = 3 := by omega
 rcases h1 with rfl | rfl | rfl | rfl | rfl <;> rcases h2 with rfl | rfl | rfl | rfl <;> decide
theorem near_val {s k : Int} (hs : 1 ≤ s) {L : LinkV} (hl : L.lo < L.hi) : nearV s L (valV s L k) = k := by
 have e1 : (L.hi - L.lo) * (L.hi - L.lo)⁻¹ = 1 := Rat.mul_inv_cancel _ (by grind)
 have s0 : (0 : Rat) < (s : Rat) := Rat.intCast_pos.2 (by omega)
 have e2 : (s : Rat) * (s : Rat)⁻¹ = 1 := Rat.mul_inv_cancel _ (by grind)
 have e : nearY s L (valV s L k) = halfR - (k : Rat) := by
  unfold nearY valV
  rw [Rat.div_def, Rat.div_def]
  generalize (L.hi - L.lo)⁻¹ = di at *
  generalize (s : Rat)⁻¹ = si at *
  grind
 have hh := half_two
 have f1 : -k ≤ (nearY s L (valV s L k)).floor := Rat.le_floor_iff.2 (by
  rw [e, Rat.intCast_neg]
  have : (0 : Rat) ≤ halfR := by decide +kernel
  grind)
 have f2 : (nearY s L (valV s L k)).floor < -k + 1 := Rat.floor_lt_iff.2 (by
  rw [e, Rat.intCast_add, Rat.intCast_neg]
  have h1 : ((1 : Int) : Rat) = 1 := rfl
  rw [h1]
  have : halfR < 1 := by decide +kernel
  grind)
 unfold nearV
 omega
theorem near_vals {s : Int} (hs : 1 ≤ s) : ∀ {ls : List LinkV} {ks : List Int}, ks.length = ls.length → (∀ L ∈ ls, L.lo < L.hi) → List.zipWith (nearV s) ls (List.zipWith (valV s) ls ks) = ks := by
 intro ls
 induction ls with
 | nil => intro ks h _; cases ks with | nil => rfl | cons => simp at h
 | cons L ls ih =>
  intro ks h hl
  cases ks with
  | nil => simp at h
  | cons k ks =>
   simp only [List.zipWith_cons_cons]
   rw [near_val hs (hl L (by simp)), ih (by simpa using h) fun M hM => hl M (by simp [hM])]
theorem val_fit {a : ArmV} {s : Int} {ks : List Int} (hg : GoodArm a) (hs : 1 ≤ s) (hk : ∀ k ∈ ks, 0 ≤ k ∧ k ≤ s) : Fit a (valR a s ks) := by
 intro i L q hL hq
 unfold valR at hq
 rw [List.getElem?_zipWith_eq_some] at hq
 obtain ⟨M, k, hM, hkk, rfl⟩ := hq
 rw [hL] at hM
 cases hM
 obtain ⟨k0, k1⟩ := hk k (List.mem_of_getElem? hkk)
 have hl := (hg.links L (List.mem_of_getElem? hL)).lim
 have s0 : (0 : Rat) < (s : Rat) := Rat.intCast_pos.2 (by omega)
 have e2 : (s : Rat) * (s : Rat)⁻¹ = 1 := Rat.mul_inv_cancel _ (by grind)
 have sp : 0 < (s : Rat)⁻¹ := Rat.inv_pos.2 s0
 have y0 : 0 ≤ (k : Rat) / (s : Rat) := by
  rw [Rat.div_def]; exact Rat.mul_nonneg (Rat.intCast_nonneg.2 k0) (Rat.le_of_lt sp)
 have y1 : (k : Rat) / (s : Rat) ≤ 1 := by
  rw [Rat.div_def, ← e2]; exact Rat.mul_le_mul_of_nonneg_right (Rat.intCast_le_intCast.2 k1) (Rat.le_of_lt sp)
 unfold valV
 have z0 := Rat.mul_nonneg (show 0 ≤ L.hi - L.lo by grind) y0
 have z1 := Rat.mul_le_mul_of_nonneg_left y1 (show 0 ≤ L.hi - L.lo by grind)
 constructor <;> grind
def ot_kBack : OT := fun _ => ([], [])
def goal_kBack (l : List Int) (x : Int) (y : Int) (K : AV → Prop) : Prop := goalL T69s ot_kBack (inv_back) Tryd.f6 [.x false [.s 1 (ints l)], iA .i64 x, iA .i64 y] K
theorem goal_kBack_vc (l : List Int) (x : Int) (y : Int) (K : AV → Prop) : goal_kBack l x y K = (∃(l_1:List Int),[[Ch.v (Value.int IntKind.i64 1)],[Ch.v (Value.int IntKind.i64 2)]]=ints l_1∧(((1≤l_1.length∧l_1.length≤3)∧2=Int.ofNat l_1.length)∧((1:Int)≤3∧(3:Int)≤12)∧∀(k:Int),k ∈ l_1→0≤k∧k≤3)∧bif numV 3 l_1 != 6 then K (AV.x false [Ch.v (Value.bool false)]) else ∃(l_2:List Int),ints l=ints l_2∧l_2.length≤9223372036854775807∧∀(a:ArmV),Made a∧1≤a.links.length→((0:Int)<5∧(5:Int)<9223372036854775808)∧(∃(x_1:RbX),((GoodArm x_1.a∧(1≤x_1.s∧x_1.s≤5)∧0≤x_1.i∧x_1.i≤Int.ofNat x_1.a.links.length)∧OfNat.ofNat 0=0)∧0=0∧0=0∧0=0∧0=0∧0=0∧1=(x_1.s+1)^x_1.i.toNat∧Int.ofNat (List.map linkCh a.links).length=Int.ofNat x_1.a.links.length∧0=x_1.i∧3=3∧IntKind.i64.wrap (1+x%5)=x_1.s∧3=3∧y=x_1.y∧4=4∧false=false∧34=34∧a.name=x_1.a.name∧a.x=x_1.a.x∧63≤63∧a.y=x_1.a.y∧63≤63∧a.half=x_1.a.half∧a.t=x_1.a.t∧63≤63∧16=16∧List.map linkCh a.links=List.map linkCh x_1.a.links∧3=3∧(0:Int)=0∧True)∧∀(x:RbX),GoodArm x.a∧(1≤x.s∧x.s≤5)∧0≤x.i∧x.i≤Int.ofNat x.a.links.length→OfNat.ofNat 0=0→bif decide (x.i<Int.ofNat x.a.links.length) then ∃(x':RbX),((GoodArm x'.a∧(1≤x'.s∧x'.s≤5)∧0≤x'.i∧x'.i≤Int.ofNat x'.a.links.length)∧OfNat.ofNat 0=0∧(Int.ofNat x'.a.links.length-x'.i).toNat<(Int.ofNat x.a.links.length-x.i).toNat)∧0=0∧0=0∧0=0∧0=0∧0=0∧IntKind.i64.wrap ((x.s+1)^x.i.toNat*IntKind.i64.wrap (x.s+1))=(x'.s+1)^x'.i.toNat∧Int.ofNat x.a.links.length=Int.ofNat x'.a.links.length∧IntKind.i64.wrap (x.i+1)=x'.i∧3=3∧x.s=x'.s∧3=3∧x.y=x'.y∧4=4∧false=false∧34=34∧x.a.name=x'.a.name∧x.a.x=x'.a.x∧63≤63∧x.a.y=x'.a.y∧63≤63∧x.a.half=x'.a.half∧x.a.t=x'.a.t∧63≤63∧16=16∧List.map linkCh x.a.links=List.map linkCh x'.a.links∧3=3∧(0:Int)=0∧True else (0<(x.s+1)^x.i.toNat∧(x.s+1)^x.i.toNat<9223372036854775808)∧(∃(x_1:RbX),((RbI x_1∧x_1.c=0)∧OfNat.ofNat 0=0)∧0=0∧0=0∧0=0∧0=0∧0=0∧(x.s+1)^x.i.toNat=x_1.N∧56=56∧3=3∧x.s=x_1.s∧3=3∧x.y%(x.s+1)^x.i.toNat=x_1.y∧4=4∧false=false∧34=34∧x.a.name=x_1.a.name∧x.a.x=x_1.a.x∧63≤63∧x.a.y=x_1.a.y∧63≤63∧x.a.half=x_1.a.half∧x.a.t=x_1.a.t∧63≤63∧16=16∧List.map linkCh x.a.links=List.map linkCh x_1.a.links∧3=3∧0=x_1.c∧3=3∧Int.ofNat (List.map linkCh x.a.links).length=Int.ofNat x_1.a.links.length∧3=3∧x.s=x_1.s∧True)∧∀(x:RbX),RbI x∧x.c=0→OfNat.ofNat 0=0→bif decide (Int.ofNat x.a.links.length<1) then K (AV.x false [Ch.v (Value.bool (x.c==x.N))]) else bif decide (Int.ofNat x.a.links.length>3) then K (AV.x false [Ch.v (Value.bool (x.c==x.N))]) else bif decide (x.s<1) then K (AV.x false [Ch.v (Value.bool (x.c==x.N))]) else bif decide (x.s>12) then K (AV.x false [Ch.v (Value.bool (x.c==x.N))]) else (0≤Int.ofNat x.a.links.length∧Int.ofNat x.a.links.length≤Int.ofNat x.a.links.length∧8*Int.ofNat x.a.links.length≤281474976710656∧Int.ofNat x.a.links.length≤9223372036854775807)∧(∃(x_1:RbX),((RbI x_1∧x_1.N=x.N∧numV x_1.s x_1.l=x_1.c)∧OfNat.ofNat 0=OfNat.ofNat 0)∧0=0∧0=0∧0=0∧(Int.ofNat x.a.links.length).toNat=x_1.l.length∧0=0∧3=3∧1=1∧(List.replicate (Int.ofNat x.a.links.length).toNat [Ch.v (Value.int IntKind.i64 0)]=ints x_1.l∨RowLE (List.replicate (Int.ofNat x.a.links.length).toNat [Ch.v (Value.int IntKind.i64 0)]) (ints x_1.l))∧3=3∧x.s=x_1.s∧3=3∧x.y=x_1.y∧4=4∧false=false∧34=34∧x.a.name=x_1.a.name∧x.a.x=x_1.a.x∧63≤63∧x.a.y=x_1.a.y∧63≤63∧x.a.half=x_1.a.half∧x.a.t=x_1.a.t∧63≤63∧16=16∧List.map linkCh x.a.links=List.map linkCh x_1.a.links∧3=3∧x.c=x_1.c∧3=3∧Int.ofNat x.a.links.length=Int.ofNat x_1.a.links.length∧3=3∧x.s=x_1.s∧True)∧∀(x_1:RbX),RbI x_1∧x_1.N=x.N∧numV x_1.s x_1.l=x_1.c→OfNat.ofNat 0=OfNat.ofNat 0→∃(l:List Int),ints x_1.l=ints l∧x_1.l.length=l.length∧(l≠[]∧l.length*8≤140737488355328)∧∃(l_3:List Int),List.take l.length (List.drop 0 (ints l))=ints l_3∧(((1≤l_3.length∧l_3.length≤3)∧Int.ofNat (List.map linkCh x_1.a.links).length=Int.ofNat l_3.length)∧(1≤x_1.s∧x_1.s≤12)∧∀(k:Int),k ∈ l_3→0≤k∧k≤x_1.s)∧bif numV x_1.s l_3 != x_1.c then K (AV.x false [Ch.v (Value.bool false)]) else bif x_1.c==x_1.y then ∃(a:ArmV),∃(ks:List Int),[Ch.v (Value.string x_1.a.name),Ch.r x_1.a.x 63,Ch.r x_1.a.y 63,Ch.v (Value.bool x_1.a.half),Ch.r x_1.a.t 63,Ch.s 16 (List.map linkCh x_1.a.links)]=[Ch.v (Value.string a.name),Ch.r a.x 63,Ch.r a.y 63,Ch.v (Value.bool a.half),Ch.r a.t 63,Ch.s 16 (List.map linkCh a.links)]∧ints l=ints ks∧l.length=ks.length∧GoodArm a∧(1≤x_1.s∧x_1.s≤12)∧ks.length=a.links.length∧(∀(k:Int),k ∈ ks→0≤k∧k≤x_1.s)∧∃(a_2:ArmV),∃(n:Nat),∃(qs:List Rat),[Ch.v (Value.string x_1.a.name),Ch.r x_1.a.x 63,Ch.r x_1.a.y 63,Ch.v (Value.bool x_1.a.half),Ch.r x_1.a.t 63,Ch.s 16 (List.map linkCh x_1.a.links)]=[Ch.v (Value.string a_2.name),Ch.r a_2.x 63,Ch.r a_2.y 63,Ch.v (Value.bool a_2.half),Ch.r a_2.t 63,Ch.s 16 (List.map linkCh a_2.links)]∧List.take ks.length (List.drop 0 (List.map (fun(q:Rat)=>[Ch.r q 319]) (valR a x_1.s ks)))=lR n qs∧(GoodArm a_2∧(1≤x_1.s∧x_1.s≤12)∧qs.length=a_2.links.length∧(∀(i:Nat) (L:LinkV) (q:Rat),a_2.links[i]?=some L→qs[i]?=some q→L.lo≤q∧q≤L.hi)∧n≤100000)∧∃(l_4:List Int),∃(m:List Int),ints (nearR a_2 x_1.s qs)=ints l_4∧List.take l.length (List.drop 0 (ints ks))=ints m∧(l_4.length≤1000∧m.length≤1000)∧bif !decide (l_4=m) then K (AV.x false [Ch.v (Value.bool false)]) else (∃(x_2:RbX),(((RbI x_2∧x_2.N=x.N)∧(-1≤x_2.i∧x_2.i<Int.ofNat x_2.l.length)∧(∀(j:Nat) (k:Int),x_2.i<Int.ofNat j→x_2.l[j]?=some k→k=0)∧numV x_2.s x_2.l+(x_2.s+1)^(Int.ofNat x_2.l.length-1-x_2.i).toNat=x_2.c)∧(x_2.N+1-x_2.c).toNat=(x_1.N-x_1.c).toNat)∧IntKind.i64.wrap (Int.ofNat x_1.a.links.length-1)=x_2.i∧0=0∧0=0∧0=0∧x_1.l.length=x_2.l.length∧0=0∧3=3∧1=1∧(ints l=ints x_2.l∨RowLE (ints l) (ints x_2.l))∧3=3∧x_1.s=x_2.s∧3=3∧x_1.y=x_2.y∧4=4∧false=false∧34=34∧x_1.a.name=x_2.a.name∧x_1.a.x=x_2.a.x∧63≤63∧x_1.a.y=x_2.a.y∧63≤63∧x_1.a.half=x_2.a.half∧x_1.a.t=x_2.a.t∧63≤63∧16=16∧List.map linkCh x_1.a.links=List.map linkCh x_2.a.links∧3=3∧IntKind.i64.wrap (x_1.c+1)=x_2.c∧3=3∧Int.ofNat x_1.a.links.length=Int.ofNat x_2.a.links.length∧3=3∧x_1.s=x_2.s∧True)∧∀(x_2:RbX),(RbI x_2∧x_2.N=x.N)∧(-1≤x_2.i∧x_2.i<Int.ofNat x_2.l.length)∧(∀(j:Nat) (k:Int),x_2.i<Int.ofNat j→x_2.l[j]?=some k→k=0)∧numV x_2.s x_2.l+(x_2.s+1)^(Int.ofNat x_2.l.length-1-x_2.i).toNat=x_2.c→(x_2.N+1-x_2.c).toNat=(x_1.N-x_1.c).toNat→bif decide (x_2.i≥0) then (0≤x_2.i∧x_2.i<Int.ofNat x_2.l.length)∧∃(d:Int),ldE (ints x_2.l) (0+x_2.i.toNat) 0 1=some [Ch.v (Value.int IntKind.i64 d)]∧bif d==x_2.s then (0≤x_2.i∧x_2.i<Int.ofNat x_2.l.length)∧0+x_2.i.toNat<(ints x_2.l).length∧∃(x':RbX),(((RbI x'∧x'.N=x.N)∧(-1≤x'.i∧x'.i<Int.ofNat x'.l.length)∧(∀(j:Nat) (k:Int),x'.i<Int.ofNat j→x'.l[j]?=some k→k=0)∧numV x'.s x'.l+(x'.s+1)^(Int.ofNat x'.l.length-1-x'.i).toNat=x'.c)∧(x'.N+1-x'.c).toNat=(x_1.N-x_1.c).toNat∧(x'.i+1).toNat<(x_2.i+1).toNat)∧IntKind.i64.wrap (x_2.i-1)=x'.i∧0=0∧0=0∧0=0∧x_2.l.length=x'.l.length∧0=0∧3=3∧1=1∧((ints x_2.l).set (0+x_2.i.toNat) [Ch.v (Value.int IntKind.i64 0)]=ints x'.l∨RowLE ((ints x_2.l).set (0+x_2.i.toNat) [Ch.v (Value.int IntKind.i64 0)]) (ints x'.l))∧3=3∧x_2.s=x'.s∧3=3∧x_2.y=x'.y∧4=4∧false=false∧34=34∧x_2.a.name=x'.a.name∧x_2.a.x=x'.a.x∧63≤63∧x_2.a.y=x'.a.y∧63≤63∧x_2.a.half=x'.a.half∧x_2.a.t=x'.a.t∧63≤63∧16=16∧List.map linkCh x_2.a.links=List.map linkCh x'.a.links∧3=3∧x_2.c=x'.c∧3=3∧Int.ofNat x_2.a.links.length=Int.ofNat x'.a.links.length∧3=3∧x_2.s=x'.s∧True else bif decide (x_2.i<0) then K (AV.x false [Ch.v (Value.bool (x_2.c==x.N))]) else (0≤x_2.i∧x_2.i<Int.ofNat x_2.l.length)∧∃(d:Int),ldE (ints x_2.l) (0+x_2.i.toNat) 0 1=some [Ch.v (Value.int IntKind.i64 d)]∧(0≤x_2.i∧x_2.i<Int.ofNat x_2.l.length)∧0+x_2.i.toNat<(ints x_2.l).length∧∃(x':RbX),((RbI x'∧x'.N=x.N∧numV x'.s x'.l=x'.c)∧OfNat.ofNat 0=OfNat.ofNat 0∧(x'.N-x'.c).toNat<(x_1.N-x_1.c).toNat)∧0=0∧0=0∧0=0∧x_2.l.length=x'.l.length∧0=0∧3=3∧1=1∧((ints x_2.l).set (0+x_2.i.toNat) [Ch.v (Value.int IntKind.i64 (IntKind.i64.wrap (d+1)))]=ints x'.l∨RowLE ((ints x_2.l).set (0+x_2.i.toNat) [Ch.v (Value.int IntKind.i64 (IntKind.i64.wrap (d+1)))]) (ints x'.l))∧3=3∧x_2.s=x'.s∧3=3∧x_2.y=x'.y∧4=4∧false=false∧34=34∧x_2.a.name=x'.a.name∧x_2.a.x=x'.a.x∧63≤63∧x_2.a.y=x'.a.y∧63≤63∧x_2.a.half=x'.a.half∧x_2.a.t=x'.a.t∧63≤63∧16=16∧List.map linkCh x_2.a.links=List.map linkCh x'.a.links∧3=3∧x_2.c=x'.c∧3=3∧Int.ofNat x_2.a.links.length=Int.ofNat x'.a.links.length∧3=3∧x_2.s=x'.s∧True else bif decide (x_2.i<0) then K (AV.x false [Ch.v (Value.bool (x_2.c==x.N))]) else (0≤x_2.i∧x_2.i<Int.ofNat x_2.l.length)∧∃(d:Int),ldE (ints x_2.l) (0+x_2.i.toNat) 0 1=some [Ch.v (Value.int IntKind.i64 d)]∧(0≤x_2.i∧x_2.i<Int.ofNat x_2.l.length)∧0+x_2.i.toNat<(ints x_2.l).length∧∃(x':RbX),((RbI x'∧x'.N=x.N∧numV x'.s x'.l=x'.c)∧OfNat.ofNat 0=OfNat.ofNat 0∧(x'.N-x'.c).toNat<(x_1.N-x_1.c).toNat)∧0=0∧0=0∧0=0∧x_2.l.length=x'.l.length∧0=0∧3=3∧1=1∧((ints x_2.l).set (0+x_2.i.toNat) [Ch.v (Value.int IntKind.i64 (IntKind.i64.wrap (d+1)))]=ints x'.l∨RowLE ((ints x_2.l).set (0+x_2.i.toNat) [Ch.v (Value.int IntKind.i64 (IntKind.i64.wrap (d+1)))]) (ints x'.l))∧3=3∧x_2.s=x'.s∧3=3∧x_2.y=x'.y∧4=4∧false=false∧34=34∧x_2.a.name=x'.a.name∧x_2.a.x=x'.a.x∧63≤63∧x_2.a.y=x'.a.y∧63≤63∧x_2.a.half=x'.a.half∧x_2.a.t=x'.a.t∧63≤63∧16=16∧List.map linkCh x_2.a.links=List.map linkCh x'.a.links∧3=3∧x_2.c=x'.c∧3=3∧Int.ofNat x_2.a.links.length=Int.ofNat x'.a.links.length∧3=3∧x_2.s=x'.s∧True else (∃(x_2:RbX),(((RbI x_2∧x_2.N=x.N)∧(-1≤x_2.i∧x_2.i<Int.ofNat x_2.l.length)∧(∀(j:Nat) (k:Int),x_2.i<Int.ofNat j→x_2.l[j]?=some k→k=0)∧numV x_2.s x_2.l+(x_2.s+1)^(Int.ofNat x_2.l.length-1-x_2.i).toNat=x_2.c)∧(x_2.N+1-x_2.c).toNat=(x_1.N-x_1.c).toNat)∧IntKind.i64.wrap (Int.ofNat x_1.a.links.length-1)=x_2.i∧0=0∧0=0∧0=0∧x_1.l.length=x_2.l.length∧0=0∧3=3∧1=1∧(ints l=ints x_2.l∨RowLE (ints l) (ints x_2.l))∧3=3∧x_1.s=x_2.s∧3=3∧x_1.y=x_2.y∧4=4∧false=false∧34=34∧x_1.a.name=x_2.a.name∧x_1.a.x=x_2.a.x∧63≤63∧x_1.a.y=x_2.a.y∧63≤63∧x_1.a.half=x_2.a.half∧x_1.a.t=x_2.a.t∧63≤63∧16=16∧List.map linkCh x_1.a.links=List.map linkCh x_2.a.links∧3=3∧IntKind.i64.wrap (x_1.c+1)=x_2.c∧3=3∧Int.ofNat x_1.a.links.length=Int.ofNat x_2.a.links.length∧3=3∧x_1.s=x_2.s∧True)∧∀(x_2:RbX),(RbI x_2∧x_2.N=x.N)∧(-1≤x_2.i∧x_2.i<Int.ofNat x_2.l.length)∧(∀(j:Nat) (k:Int),x_2.i<Int.ofNat j→x_2.l[j]?=some k→k=0)∧numV x_2.s x_2.l+(x_2.s+1)^(Int.ofNat x_2.l.length-1-x_2.i).toNat=x_2.c→(x_2.N+1-x_2.c).toNat=(x_1.N-x_1.c).toNat→bif decide (x_2.i≥0) then (0≤x_2.i∧x_2.i<Int.ofNat x_2.l.length)∧∃(d:Int),ldE (ints x_2.l) (0+x_2.i.toNat) 0 1=some [Ch.v (Value.int IntKind.i64 d)]∧bif d==x_2.s then (0≤x_2.i∧x_2.i<Int.ofNat x_2.l.length)∧0+x_2.i.toNat<(ints x_2.l).length∧∃(x':RbX),(((RbI x'∧x'.N=x.N)∧(-1≤x'.i∧x'.i<Int.ofNat x'.l.length)∧(∀(j:Nat) (k:Int),x'.i<Int.ofNat j→x'.l[j]?=some k→k=0)∧numV x'.s x'.l+(x'.s+1)^(Int.ofNat x'.l.length-1-x'.i).toNat=x'.c)∧(x'.N+1-x'.c).toNat=(x_1.N-x_1.c).toNat∧(x'.i+1).toNat<(x_2.i+1).toNat)∧IntKind.i64.wrap (x_2.i-1)=x'.i∧0=0∧0=0∧0=0∧x_2.l.length=x'.l.length∧0=0∧3=3∧1=1∧((ints x_2.l).set (0+x_2.i.toNat) [Ch.v (Value.int IntKind.i64 0)]=ints x'.l∨RowLE ((ints x_2.l).set (0+x_2.i.toNat) [Ch.v (Value.int IntKind.i64 0)]) (ints x'.l))∧3=3∧x_2.s=x'.s∧3=3∧x_2.y=x'.y∧4=4∧false=false∧34=34∧x_2.a.name=x'.a.name∧x_2.a.x=x'.a.x∧63≤63∧x_2.a.y=x'.a.y∧63≤63∧x_2.a.half=x'.a.half∧x_2.a.t=x'.a.t∧63≤63∧16=16∧List.map linkCh x_2.a.links=List.map linkCh x'.a.links∧3=3∧x_2.c=x'.c∧3=3∧Int.ofNat x_2.a.links.length=Int.ofNat x'.a.links.length∧3=3∧x_2.s=x'.s∧True else bif decide (x_2.i<0) then K (AV.x false [Ch.v (Value.bool (x_2.c==x.N))]) else (0≤x_2.i∧x_2.i<Int.ofNat x_2.l.length)∧∃(d:Int),ldE (ints x_2.l) (0+x_2.i.toNat) 0 1=some [Ch.v (Value.int IntKind.i64 d)]∧(0≤x_2.i∧x_2.i<Int.ofNat x_2.l.length)∧0+x_2.i.toNat<(ints x_2.l).length∧∃(x':RbX),((RbI x'∧x'.N=x.N∧numV x'.s x'.l=x'.c)∧OfNat.ofNat 0=OfNat.ofNat 0∧(x'.N-x'.c).toNat<(x_1.N-x_1.c).toNat)∧0=0∧0=0∧0=0∧x_2.l.length=x'.l.length∧0=0∧3=3∧1=1∧((ints x_2.l).set (0+x_2.i.toNat) [Ch.v (Value.int IntKind.i64 (IntKind.i64.wrap (d+1)))]=ints x'.l∨RowLE ((ints x_2.l).set (0+x_2.i.toNat) [Ch.v (Value.int IntKind.i64 (IntKind.i64.wrap (d+1)))]) (ints x'.l))∧3=3∧x_2.s=x'.s∧3=3∧x_2.y=x'.y∧4=4∧false=false∧34=34∧x_2.a.name=x'.a.name∧x_2.a.x=x'.a.x∧63≤63∧x_2.a.y=x'.a.y∧63≤63∧x_2.a.half=x'.a.half∧x_2.a.t=x'.a.t∧63≤63∧16=16∧List.map linkCh x_2.a.links=List.map linkCh x'.a.links∧3=3∧x_2.c=x'.c∧3=3∧Int.ofNat x_2.a.links.length=Int.ofNat x'.a.links.length∧3=3∧x_2.s=x'.s∧True else bif decide (x_2.i<0) then K (AV.x false [Ch.v (Value.bool (x_2.c==x.N))]) else (0≤x_2.i∧x_2.i<Int.ofNat x_2.l.length)∧∃(d:Int),ldE (ints x_2.l) (0+x_2.i.toNat) 0 1=some [Ch.v (Value.int IntKind.i64 d)]∧(0≤x_2.i∧x_2.i<Int.ofNat x_2.l.length)∧0+x_2.i.toNat<(ints x_2.l).length∧∃(x':RbX),((RbI x'∧x'.N=x.N∧numV x'.s x'.l=x'.c)∧OfNat.ofNat 0=OfNat.ofNat 0∧(x'.N-x'.c).toNat<(x_1.N-x_1.c).toNat)∧0=0∧0=0∧0=0∧x_2.l.length=x'.l.length∧0=0∧3=3∧1=1∧((ints x_2.l).set (0+x_2.i.toNat) [Ch.v (Value.int IntKind.i64 (IntKind.i64.wrap (d+1)))]=ints x'.l∨RowLE ((ints x_2.l).set (0+x_2.i.toNat) [Ch.v (Value.int IntKind.i64 (IntKind.i64.wrap (d+1)))]) (ints x'.l))∧3=3∧x_2.s=x'.s∧3=3∧x_2.y=x'.y∧4=4∧false=false∧34=34∧x_2.a.name=x'.a.name∧x_2.a.x=x'.a.x∧63≤63∧x_2.a.y=x'.a.y∧63≤63∧x_2.a.half=x'.a.half∧x_2.a.t=x'.a.t∧63≤63∧16=16∧List.map linkCh x_2.a.links=List.map linkCh x'.a.links∧3=3∧x_2.c=x'.c∧3=3∧Int.ofNat x_2.a.links.length=Int.ofNat x'.a.links.length∧3=3∧x_2.s=x'.s∧True) := by kernel_rfl
theorem g_kBack (l : List Int) (x : Int) (y : Int) (hc : (l.length ≤ 9223372036854775807)) (K : AV → Prop) (hK : K (.x false [.v (.bool true)])) : Holds (goal_kBack l x y K) := by
 refine ⟨?_⟩
 rw [goal_kBack_vc]
 try simp only [Int.ofNat_eq_natCast, true_and, and_true, Nat.zero_add, Nat.le_refl, true_implies, true_or, or_true]
 have b1 := Int.emod_nonneg x (show (5 : Int) ≠ 0 by decide)
 have b2 := Int.emod_lt_of_pos x (show (0 : Int) < 5 by decide)
 have es : IntKind.i64.wrap (1 + x % 5) = 1 + x % 5 := w64 (by omega)
 rw [es]
 have hs : 1 ≤ 1 + x % 5 ∧ 1 + x % 5 ≤ 5 := by omega
 generalize 1 + x % 5 = s at *
 refine ⟨[1, 2], rfl, ⟨⟨⟨by simp, by simp⟩, by simp⟩, by omega, fun k hk => by simp at hk; omega⟩, bif_mk (fun h => absurd h (by decide)) (fun _ => ⟨l, rfl, hc, fun a ha => ⟨by omega, ⟨⟨a, s, y, 0, [], 0, 0⟩, ⟨MadeA.good ha, hs, by simp only; omega, by simp only; omega⟩, by simp, by rw [List.length_map], rfl, rfl, rfl, rfl, rfl, rfl, rfl, rfl, rfl⟩, fun z hz => ?_⟩⟩)⟩
 obtain ⟨hzg, hzs, hz0, hz1⟩ := hz
 have hzn := hzg.n
 refine bif_mk (fun hp => ?_) (fun hp => ?_)
 ·have hp := of_decide_eq_true hp
  have pb := powB (k := z.i.toNat) hzs (by omega)
  have pb2 := powB (k := z.i.toNat + 1) hzs (by omega)
  have e2 : (z.i + 1).toNat = z.i.toNat + 1 := by omega
  have ew : IntKind.i64.wrap (z.s + 1) = z.s + 1 := w64 (by omega)
  rw [Int.pow_succ] at pb2
  refine ⟨⟨z.a, z.s, z.y, 0, [], 0, z.i + 1⟩, ⟨⟨hzg, hzs, by simp only; omega, by simp only; omega⟩, by simp only; omega⟩, ?_, rfl, by rw [w64 (by omega)], rfl, rfl, rfl, rfl, rfl, rfl, rfl, rfl⟩
  rw [ew, w64 (by omega)]
  show _ = (z.s + 1) ^ (z.i + 1).toNat
  rw [e2, Int.pow_succ]
 have hp := of_decide_eq_false hp
 have hzi : z.i.toNat = z.a.links.length := by omega
 rw [hzi]
 have pb := powB (k := z.a.links.length) hzs (by omega)
 generalize hNN : (z.s + 1) ^ z.a.links.length = N at *
 refine ⟨⟨by omega, by omega⟩, ⟨⟨z.a, z.s, z.y % N, N, List.replicate z.a.links.length 0, 0, 0⟩, ⟨⟨hzg, hzs, hNN.symm, by simp, fun k hk => ?_, by simp only; omega⟩, rfl⟩, rfl, rfl, rfl, rfl, rfl, rfl, rfl, rfl, rfl, rfl, by rw [List.length_map], rfl⟩, fun x0 hx0 => ?_⟩
 ·have := List.eq_of_mem_replicate hk
  simp only; omega
 obtain ⟨hx0, hc0⟩ := hx0
 have x0s := hx0.s
 have x0n := hx0.good.n
 refine bif_mk (fun h => by have := of_decide_eq_true h; omega) (fun _ => bif_mk (fun h => by have := of_decide_eq_true h; omega) (fun _ => bif_mk (fun h => by have := of_decide_eq_true h; omega) (fun _ => bif_mk (fun h => by have := of_decide_eq_true h; omega) (fun _ => ⟨⟨by omega, by omega, by omega, by omega⟩, ⟨⟨x0.a, x0.s, x0.y, x0.N, List.replicate x0.a.links.length 0, 0, 0⟩, ⟨⟨hx0.good, hx0.s, hx0.N, by simp, fun k hk => ?_, by have := hx0.c; simp only; omega⟩, rfl, numV_zero fun j k hj => ?_⟩, by simp, .inl (by simp [ints]), rfl, rfl, rfl, rfl, rfl, rfl, rfl, rfl, hc0, rfl, rfl⟩, fun x hx => ?_⟩))))
 ·have := List.eq_of_mem_replicate hk
  simp only; omega
 ·exact List.eq_of_mem_replicate (List.mem_of_getElem? hj)
 obtain ⟨hx, hxN, hxv⟩ := hx
 have xs := hx.s
 have xn := hx.good.n
 have xl := hx.l
 have xc := hx.c
 have vb := numV_bounds (s := x.s) (by omega) hx.r
 rw [xl, ← hx.N, hxv] at vb
 have et : List.take x.l.length (List.drop 0 (ints x.l)) = ints x.l := by rw [List.drop_zero, List.take_of_length_le (by rw [ints_len]; exact Nat.le_refl _)]
 have lv : (valR x.a x.s x.l).length = x.l.length := by simp [valR, xl]
 refine ⟨x.l, rfl, rfl, ⟨fun e => by rw [e] at xl; simp at xl; omega, by omega⟩, x.l, et, ⟨⟨⟨by omega, by omega⟩, by rw [List.length_map, xl]⟩, ⟨by omega, by omega⟩, hx.r⟩, bif_mk (fun h => by rw [hxv] at h; simp at h) (fun _ => bif_if ?_ (fun _ hr => ⟨x.a, x.l, rfl, rfl, rfl, hx.good, ⟨by omega, by omega⟩, xl, hx.r, x.a, 319, valR x.a x.s x.l, rfl, ?_, ⟨hx.good, ⟨by omega, by omega⟩, by omega, val_fit hx.good xs.1 hx.r, by omega⟩, nearR x.a x.s (valR x.a x.s x.l), x.l, rfl, et, ⟨?_, by omega⟩, bif_mk (fun h => ?_) (fun _ => hr)⟩))⟩
 ·have e1 : IntKind.i64.wrap ((x.a.links.length : Int) - 1) = (x.a.links.length : Int) - 1 := w64 (by omega)
  have e2 : IntKind.i64.wrap (x.c + 1) = x.c + 1 := w64 (by omega)
  rw [e1, e2]
  refine ⟨⟨⟨x.a, x.s, x.y, x.N, x.l, x.c + 1, (x.a.links.length : Int) - 1⟩, ⟨⟨⟨⟨hx.good, hx.s, hx.N, hx.l, hx.r, by simp only; omega⟩, hxN⟩, ⟨by simp only; omega, by simp only; omega⟩, fun j k hj hjk => ?_, ?_⟩, by simp only; omega⟩, rfl, rfl, .inl rfl, rfl, rfl, rfl, rfl, rfl, rfl, rfl, rfl, rfl, rfl, rfl⟩, fun z hz htie => ?_⟩
  ·have := (List.getElem?_eq_some_iff.1 hjk).1
   simp only at hj this
   omega
  ·simp only
   rw [show ((x.l.length : Int) - 1 - ((x.a.links.length : Int) - 1)).toNat = 0 by omega, hxv, Int.pow_zero]
  obtain ⟨⟨hz, hzN⟩, ⟨i1, i2⟩, hzero, hsum⟩ := hz
  have zs := hz.s
  have zn := hz.good.n
  have zl := hz.l
  have zc := hz.c
  refine bif_mk (fun hp => ?_) (fun hp => ?_)
  ·have hp := of_decide_eq_true hp
   obtain ⟨i, hi⟩ : ∃ i : Nat, z.i = i := ⟨z.i.toNat, by omega⟩
   rw [hi] at hzero hsum i2 ⊢
   rw [Int.toNat_natCast]
   obtain ⟨d, hd⟩ : ∃ d, z.l[i]? = some d := ⟨_, List.getElem?_eq_getElem (by omega)⟩
   have hdb := hz.r d (List.mem_of_getElem? hd)
   have ex : ((z.l.length : Int) - 1 - (i : Int)).toNat = z.l.length - 1 - i := by omega
   rw [ex] at hsum
   refine ⟨⟨by omega, by omega⟩, d, ints_ld hd, bif_mk (fun hds => ?_) (fun hds => bif_mk (fun h => by have := of_decide_eq_true h; omega) (fun _ => ?_))⟩
   ·have hds : d = z.s := by simpa using hds
    have e3 : IntKind.i64.wrap ((i : Int) - 1) = (i : Int) - 1 := w64 (by omega)
    rw [e3]
    refine ⟨⟨by omega, by omega⟩, by rw [ints_len]; omega, ⟨z.a, z.s, z.y, z.N, z.l.set i 0, z.c, (i : Int) - 1⟩, ⟨⟨⟨⟨hz.good, hz.s, hz.N, by rw [List.length_set]; exact hz.l, fun k hk => ?_, hz.c⟩, hzN⟩, ⟨by simp only; omega, by simp only [List.length_set]; omega⟩, fun j k hj hjk => ?_, ?_⟩, htie, by simp only; omega⟩, rfl, by rw [List.length_set], .inl (by simp only [ints, List.map_set]), rfl, rfl, rfl, rfl, rfl, rfl, rfl, rfl, rfl, rfl, rfl⟩
    ·rcases List.mem_or_eq_of_mem_set hk with h | h
     ·exact hz.r k h
     ·subst h; simp only; omega
    ·simp only at hj hjk
     by_cases e : j = i
     ·subst e
      rw [List.getElem?_set, if_pos rfl, if_pos (by omega)] at hjk
      exact (Option.some.inj hjk).symm
     ·rw [List.getElem?_set_ne (fun h => e h.symm)] at hjk
      exact hzero j k (by omega) hjk
    ·simp only [List.length_set]
     rw [numV_set hd, show ((z.l.length : Int) - 1 - ((i : Int) - 1)).toNat = (z.l.length - 1 - i) + 1 by omega, Int.pow_succ, hds]
     grind
   ·have hds : d ≠ z.s := by simpa using hds
    have e3 : IntKind.i64.wrap (d + 1) = d + 1 := w64 (by omega)
    refine ⟨⟨by omega, by omega⟩, d, ints_ld hd, ⟨by omega, by omega⟩, by rw [ints_len]; omega, ⟨z.a, z.s, z.y, z.N, z.l.set i (d + 1), z.c, 0⟩, ⟨⟨⟨hz.good, hz.s, hz.N, by rw [List.length_set]; exact hz.l, fun k hk => ?_, hz.c⟩, hzN, ?_⟩, by simp only; omega⟩, by rw [List.length_set], .inl (by rw [e3]; simp only [ints, List.map_set]), rfl, rfl, rfl, rfl, rfl, rfl, rfl, rfl, rfl, rfl, rfl⟩
    ·rcases List.mem_or_eq_of_mem_set hk with h | h
     ·exact hz.r k h
     ·subst h; simp only; omega
    ·simp only
     rw [numV_set hd]
     grind
  ·have hp := of_decide_eq_false hp
   refine bif_mk (fun _ => ?_) (fun h => by have := of_decide_eq_false h; omega)
   have hz0' : numV z.s z.l = 0 := numV_zero fun j k hjk => hzero j k (by omega) hjk
   rw [hz0', show ((z.l.length : Int) - 1 - z.i).toNat = z.l.length by omega, zl, ← hz.N] at hsum
   have : z.c = x0.N := by omega
   rw [this]
   simpa using hK
 ·rw [List.drop_zero, List.take_of_length_le (by rw [List.length_map, lv]; exact Nat.le_refl _)]; rfl
 ·simp only [nearR, List.length_zipWith]; omega
 ·exact absurd h (by
   have : nearR x.a x.s (valR x.a x.s x.l) = x.l := near_vals xs.1 xl fun L hL => (hx.good.links L hL).lim
   rw [this]; simp)
def c_kBack : Ctr := fun as0 => match as0 with
 | [.x false [.s 1 xs], .x false [.v (.int .i64 x)], .x false [.v (.int .i64 y)]] => some fun K => ∃ (l : List Int), xs = ints l ∧ ((l.length ≤ 9223372036854775807)) ∧ (K (.x false [.v (.bool true)]))
 | _ => none
def L70s : List (Nat × Ctr) := (6, c_kBack) :: L69s
noncomputable def T70s : Tabs := mkTV L70s M69r X4
theorem spec_back (l : List Int) (x y : Int) (hl : l.length ≤ 9223372036854775807) : Eng.Spec Tryd.prog tabG debT 6 [.x false [.s 1 (ints l)], iA .i64 x, iA .i64 y] (fun av => av = .x false [.v (.bool true)]) :=
 spec_ofL T69sok mixed Tryd.func6 (by kernel_rfl) (by kernel_rfl) (by rfl) (g_kBack l x y hl _ rfl)
end Go.Proofs
