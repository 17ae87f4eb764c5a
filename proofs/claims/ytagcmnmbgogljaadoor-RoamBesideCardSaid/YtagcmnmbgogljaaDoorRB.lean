/- Digits of a base, the highest first. -/
import Derived.Test.YtagcmnmbgogljaaDoorRN
/- Digits of a base, the highest first. -/
namespace Go.Proofs
/-- The number that digits of base s + 1 stand for. -/
def numV (s : Int) : List Int → Int
  | [] => 0
  | k :: l => k * (s + 1) ^ l.length + numV s l
theorem pow_pos' {s : Int} (hs : 0 ≤ s) (n : Nat) : 1 ≤ (s + 1) ^ n := by
 induction n with
 | zero => simp
 | succ n ih =>
  rw [Int.pow_succ]
  have : (s + 1) ^ n * 1 ≤ (s + 1) ^ n * (s + 1) := Int.mul_le_mul_of_nonneg_left (by omega) (by omega)
  omega
theorem numV_bounds {s : Int} (hs : 0 ≤ s) : ∀ {l : List Int}, (∀ k ∈ l, 0 ≤ k ∧ k ≤ s) → 0 ≤ numV s l ∧ numV s l < (s + 1) ^ l.length := by
 intro l
 induction l with
 | nil => intro _; simp [numV]
 | cons k l ih =>
  intro h
  have hk := h k (by simp)
  obtain ⟨i1, i2⟩ := ih fun z hz => h z (by simp [hz])
  have hp := pow_pos' hs l.length
  unfold numV
  rw [List.length_cons, Int.pow_succ]
  have h1 : 0 ≤ k * (s + 1) ^ l.length := Int.mul_nonneg hk.1 (by omega)
  have h2 : k * (s + 1) ^ l.length ≤ s * (s + 1) ^ l.length := Int.mul_le_mul_of_nonneg_right hk.2 (by omega)
  have h3 : (s + 1) ^ l.length * (s + 1) = s * (s + 1) ^ l.length + (s + 1) ^ l.length := by grind
  omega
theorem numV_drop {s : Int} {l : List Int} {i : Nat} {k n : Int} (h : l[i]? = some k) (hn : n * (s + 1) ^ (l.length - i) + numV s (l.drop i) = numV s l) : (n * (s + 1) + k) * (s + 1) ^ (l.length - (i + 1)) + numV s (l.drop (i + 1)) = numV s l := by
 have hi := (List.getElem?_eq_some_iff.1 h).1
 have e : l.drop i = k :: l.drop (i + 1) := by
  rw [List.drop_eq_getElem_cons hi]
  rw [List.getElem?_eq_getElem hi] at h
  rw [Option.some.inj h]
 rw [e, numV, List.length_drop, show l.length - i = (l.length - (i + 1)) + 1 by omega, Int.pow_succ] at hn
 grind
end Go.Proofs
/- roam.Number, All; slices.Equal of integers; RoamBack. -/
namespace Go.Proofs
open Go Go.Eng
def inv_eqI (l : List Int) (m : List Int) : LI := fun _ => .inv ⟨Nat, fun i => ⟨[(0, .x false [.s 1 (ints l)]), (1, .x false [.s 1 (ints m)]), (12, iA .i64 l.length), (13, iA .i64 i)], []⟩, fun i => i ≤ l.length ∧ l.take i = m.take i, fun i => l.length - i, fun _ => 0⟩
def goal_cloneW (l : List Int) : Prop := goalM (X := Unit) T67r noO noL Tryd.f17 [.x false [.w 1000 0 l.length]] [(1000, rowI l)] (fun _ => True) (fun _ => ⟨[(2, .x false [.w 500 0 l.length])], [(1000, rowI l), (500, rowI l)]⟩)
theorem goal_cloneW_vc (l : List Int) : goal_cloneW l = (l.length≠0∧((0+(List.take l.length (List.drop 0 (ints l))).length)*8≤140737488355328∧0+(List.take l.length (List.drop 0 (ints l))).length≤9223372036854775807)∧∃(x:Unit),True∧0=0∧0+(List.take l.length (List.drop 0 (ints l))).length=l.length∧3=3∧1=1∧(ints l=ints l∨RowLE (ints l) (ints l))∧3=3∧1=1∧(List.take l.length (List.drop 0 (ints l))=ints l∨RowLE (List.take l.length (List.drop 0 (ints l))) (ints l))∧True) := by kernel_rfl
theorem g_cloneW (l : List Int) (h0 : l ≠ []) (h : l.length * 8 ≤ 140737488355328) : Holds (goal_cloneW l) := by
 refine ⟨?_⟩
 rw [goal_cloneW_vc]
 simp only [Int.ofNat_eq_natCast, true_and, and_true, Nat.zero_add, Nat.le_refl, true_implies, true_or, or_true]
 have e : List.take l.length (List.drop 0 (ints l)) = ints l := by rw [List.drop_zero, List.take_of_length_le (by rw [ints_len]; exact Nat.le_refl _)]
 rw [e, ints_len]
 exact ⟨fun e => h0 (List.length_eq_zero_iff.1 e), ⟨h, by omega⟩, (), rfl, .inl rfl⟩
def cm_cloneW : CtrM := fun as0 H d => match as0 with
 | [.x false [.w k o n]] => match o with
  | 0 => match H k with
   | some (.row t 1 ys) => match H d with
    | none => bif t.beq 3 then
     some fun K => ∃ l : List Int, ys = ints l ∧ n = l.length ∧ (l ≠ [] ∧ l.length * 8 ≤ 140737488355328) ∧
      K (.x false [.w d 0 l.length]) (backH [(1000, k), (500, d)] (lookH [(1000, rowI l), (500, rowI l)]) H)
     else none
    | some _ => none
   | _ => none
  | _ + 1 => none
 | _ => none
theorem okm_cloneW : CtrMOK Tryd.prog tabG debT 17 cm_cloneW := by
 refine ⟨enters Tryd.func17 (by kernel_rfl), fun l H d T hT K hK => ?_⟩
 unfold cm_cloneW at hT
 split at hT
 ·rename_i k o n
  split at hT
  ·split at hT
   ·rename_i t ys e1
    split at hT
    ·rename_i hd
     cases hb : t.beq 3 with
     | false => rw [hb] at hT; cases hT
     | true =>
      rw [hb] at hT
      cases hT
      have ht := Nat.eq_of_beq_eq_true hb
      subst ht
      obtain ⟨l, rfl, rfl, ⟨h0, hl⟩, hK⟩ := hK
      refine specM_of (R := [(1000, k)]) (N := [(500, d)]) (Hl := [(1000, rowI l)]) T67rok mixed Tryd.func17 (by kernel_rfl) (by kernel_rfl) (by rfl)
       (as0 := [.x false [.w 1000 0 l.length]]) ?_ (hand1 e1 rfl rfl) rfl (by simp) (by simp) (fun p hp => by simp at hp; subst hp; exact hd) (fun x => ⟨fun p hp => ?_, fun p hp b hb => ?_⟩) (g_cloneW l h0 hl) (fun x hx => ?_)
      ·simp [renAs, renAV, renCh, lkB]
      ·simp at hp
       subst hp
       exact fun h => by have h' : some (rowI _) = none := h; cases h'
      ·simp at hp
       rcases hp with rfl | rfl
       ·have h' : some (rowI _) = some b := hb; cases h'; rfl
       ·have h' : some (rowI _) = some b := hb; cases h'; rfl
      ·exact ⟨_, rfl, hK⟩
    ·cases hT
   ·cases hT
  ·cases hT
 ·cases hT
def M68r : List (Nat × CtrM) := (17, cm_cloneW) :: M65r
noncomputable def T67s : Tabs := mkTV L67r M68r X4
theorem M68rok : CtrMsOK Tryd.prog tabG debT M68r := .cons okm_cloneW M65rok
theorem T67sok : TabsOK Tryd.prog tabG debT T67s := mkTVok L67rok M68rok X4ok
def ot_roVW : OT := fun id => bif id.beq 16 then ([0, 1, 2, 3, 4, 5, 6, 7, 8, 9], [[], [], [], [1, 2], [3, 1, 2], [], [4, 3, 1, 2, 5], [6, 4, 3, 1, 2, 5], [0, 7, 6, 4, 3, 1, 2, 5], [8, 0, 7, 6, 4, 3, 1, 2, 5]]) else ([], [])
def goal_roVW (a : ArmV) (s : Int) (ks : List Int) : Prop := goalM (X := Unit) T67s ot_roVW (fun _ => .inv ⟨Nat, fun i => ⟨[(1, iA .i64 s), (2, .x false [.w 1000 0 ks.length]), (9, .x false [.s 1 (a.links.map joCh)]), (11, .x false [.w 500 0 i]), (36, .x false [.w 1000 0 ks.length]), (37, iA .i64 ks.length), (38, iA .i64 i)], [(1000, rowI ks), (500, rowR 319 ((valR a s ks).take i))]⟩, fun i => i ≤ ks.length, fun i => ks.length - i, fun _ => 0⟩) Tryd.f8 [armA a, iA .i64 s, .x false [.w 1000 0 ks.length]] [(1000, rowI ks)] (fun _ => True) (fun _ => ⟨[(6, .x false [.w 500 0 ks.length]), (7, iA .i64 0)], [(1000, rowI ks), (500, rowR 319 (valR a s ks))]⟩)
theorem goal_roVW_vc (a : ArmV) (s : Int) (ks : List Int) : goal_roVW a s ks = (∃(a_1:ArmV),[Ch.v (Value.string a.name),Ch.r a.x 63,Ch.r a.y 63,Ch.v (Value.bool a.half),Ch.r a.t 63,Ch.s 16 (List.map linkCh a.links)]=[Ch.v (Value.string a_1.name),Ch.r a_1.x 63,Ch.r a_1.y 63,Ch.v (Value.bool a_1.half),Ch.r a_1.t 63,Ch.s 16 (List.map linkCh a_1.links)]∧(GoodArm a_1∧1≤s∧s≤12)∧bif Int.ofNat ks.length != Int.ofNat (List.map linkCh a.links).length then ∃(x:Unit),True∧Value.slice none 0 0=Value.slice none 0 0∧0=0∧ks.length=0∧(1:Int)=0∧3=3∧1=1∧(ints ks=ints ks∨RowLE (ints ks) (ints ks))∧List.map (fun(q:Rat)=>[Ch.r q 319]) (valR a s ks)=[]∧True else ∃(a_2:ArmV),[Ch.v (Value.string a.name),Ch.r a.x 63,Ch.r a.y 63,Ch.v (Value.bool a.half),Ch.r a.t 63,Ch.s 16 (List.map linkCh a.links)]=[Ch.v (Value.string a_2.name),Ch.r a_2.x 63,Ch.r a_2.y 63,Ch.v (Value.bool a_2.half),Ch.r a_2.t 63,Ch.s 16 (List.map linkCh a_2.links)]∧GoodArm a_2∧(∃(x:Nat),(x≤ks.length∧OfNat.ofNat 0=0)∧s=s∧0=0∧ks.length=ks.length∧1=1∧List.map joCh a_2.links=List.map joCh a.links∧Value.slice none 0 0=Value.slice none 0 0∧0=0∧x=0∧0=0∧ks.length=ks.length∧Int.ofNat ks.length=Int.ofNat ks.length∧0=Int.ofNat x∧3=3∧1=1∧(ints ks=ints ks∨RowLE (ints ks) (ints ks))∧List.map (fun(q:Rat)=>[Ch.r q 319]) (List.take x (valR a s ks))=[]∧True)∧∀(x:Nat),x≤ks.length→OfNat.ofNat 0=0→bif decide (Int.ofNat x<Int.ofNat ks.length) then (0≤Int.ofNat x∧Int.ofNat x<Int.ofNat ks.length)∧∃(d:Int),ldE (ints ks) (0+(Int.ofNat x).toNat) 0 1=some [Ch.v (Value.int IntKind.i64 d)]∧bif decide (d<0) then ∃(x:Unit),True∧Value.slice none 0 0=Value.slice none 0 0∧0=0∧ks.length=0∧(17:Int)=0∧3=3∧1=1∧(ints ks=ints ks∨RowLE (ints ks) (ints ks))∧List.map (fun(q:Rat)=>[Ch.r q 319]) (valR a s ks)=[]∧True else bif decide (d>s) then ∃(x:Unit),True∧Value.slice none 0 0=Value.slice none 0 0∧0=0∧ks.length=0∧(17:Int)=0∧3=3∧1=1∧(ints ks=ints ks∨RowLE (ints ks) (ints ks))∧List.map (fun(q:Rat)=>[Ch.r q 319]) (valR a s ks)=[]∧True else (((-9223372036854775808≤d∧d<9223372036854775808)∧ -9223372036854775808≤s∧s<9223372036854775808)∧(↑s:Rat)≠OfNat.ofNat 0)∧(0≤Int.ofNat x∧Int.ofNat x<Int.ofNat (List.map joCh a.links).length)∧∃(ds:List Ch),ldE (List.map joCh a.links) (Int.ofNat x).toNat 0 1=some [Ch.i 75 true ds]∧∃(L:LinkV),ds=[Ch.r L.len 63,Ch.r L.lo 63,Ch.r L.hi 63,Ch.r L.sp 63,Ch.r L.br 63,Ch.s 6 (List.map vecCh L.shape)]∧128≤1000000∧((x+1)*40≤140737488355328∧x+1≤9223372036854775807)∧∃(x':Nat),(x'≤ks.length∧OfNat.ofNat 0=0∧ks.length-x'<ks.length-x)∧s=s∧0=0∧ks.length=ks.length∧1=1∧List.map joCh a.links=List.map joCh a.links∧0=0∧x+1=x'∧0=0∧ks.length=ks.length∧Int.ofNat ks.length=Int.ofNat ks.length∧IntKind.i64.wrap (Int.ofNat x+1)=Int.ofNat x'∧3=3∧1=1∧(ints ks=ints ks∨RowLE (ints ks) (ints ks))∧27=27∧3=3∧(List.take x (List.map (fun(q:Rat)=>[Ch.r q 319]) (List.take x (valR a s ks)))++[[Ch.r (L.lo+(L.hi-L.lo)*((↑d:Rat)/(↑s:Rat))) 319]]=List.map (fun(q:Rat)=>[Ch.r q 319]) (List.take x' (valR a s ks))∨RowLE (List.take x (List.map (fun(q:Rat)=>[Ch.r q 319]) (List.take x (valR a s ks)))++[[Ch.r (L.lo+(L.hi-L.lo)*((↑d:Rat)/(↑s:Rat))) 319]]) (List.map (fun(q:Rat)=>[Ch.r q 319]) (List.take x' (valR a s ks))))∧True else ∃(x_1:Unit),True∧0=0∧x=ks.length∧(0:Int)=0∧3=3∧1=1∧(ints ks=ints ks∨RowLE (ints ks) (ints ks))∧27=27∧3=3∧(List.map (fun(q:Rat)=>[Ch.r q 319]) (List.take x (valR a s ks))=List.map (fun(q:Rat)=>[Ch.r q 319]) (valR a s ks)∨RowLE (List.map (fun(q:Rat)=>[Ch.r q 319]) (List.take x (valR a s ks))) (List.map (fun(q:Rat)=>[Ch.r q 319]) (valR a s ks)))∧True) := by kernel_rfl
theorem g_roVW (a : ArmV) (s : Int) (ks : List Int) (hg : GoodArm a) (hs : 1 ≤ s ∧ s ≤ 12) (hl : ks.length = a.links.length) (hks : ∀ k ∈ ks, 0 ≤ k ∧ k ≤ s) : Holds (goal_roVW a s ks) := by
 refine ⟨?_⟩
 rw [goal_roVW_vc]
 simp only [Int.ofNat_eq_natCast, true_and, and_true, Nat.zero_add, Nat.le_refl, true_implies, true_or, or_true]
 obtain ⟨s1, s2⟩ := hs
 have hn := hg.n
 have lv : (valR a s ks).length = ks.length := by simp [valR, hl]
 simp only [List.length_map, ints_len]
 refine ⟨a, rfl, ⟨hg, s1, s2⟩, bif_mk (fun h => by simp [hl] at h) (fun _ => ⟨a, rfl, hg, ⟨0, by omega, rfl, rfl, rfl, rfl⟩, fun x hx => bif_mk (fun hp => ?_) (fun hp => ?_)⟩)⟩
 ·have hp : x < ks.length := by have := of_decide_eq_true hp; omega
  obtain ⟨k, hk⟩ : ∃ k, ks[x]? = some k := ⟨_, List.getElem?_eq_getElem hp⟩
  have hkb := hks k (List.mem_of_getElem? hk)
  obtain ⟨L, hL⟩ : ∃ L, a.links[x]? = some L := ⟨_, List.getElem?_eq_getElem (by omega)⟩
  have hv : (valR a s ks)[x]? = some (valV s L k) := by simp [valR, List.getElem?_zipWith, hL, hk]
  refine ⟨by omega, k, ints_ld (by simpa using hk), bif_mk (fun h => by have := of_decide_eq_true h; omega) (fun _ => bif_mk (fun h => by have := of_decide_eq_true h; omega) (fun _ => ⟨⟨by omega, ?_⟩, by omega, _, jo_ld (by simpa using hL), L, rfl, by omega, by omega, x + 1, ⟨by omega, by omega⟩, rfl, by rw [w64 (by omega)]; simp, .inl ?_⟩))⟩
  ·intro h
   have h2 : (0 : Rat) < ((s : Int) : Rat) := Rat.intCast_pos.2 (by omega)
   grind
  ·rw [List.take_of_length_le (by rw [List.length_map, List.length_take]; omega), List.take_add_one, hv, List.map_append]
   rfl
 ·have hp : x = ks.length := by have := of_decide_eq_false hp; omega
  subst hp
  exact ⟨(), by first | trivial | rfl, .inl (by rw [List.take_of_length_le (by omega)])⟩
def cm_roVW : CtrM := fun as0 H d => match as0 with
 | [.x true xs, .x false [.v (.int .i64 s)], .x false [.w k o n]] => match o with
  | 0 => match H k with
   | some (.row t 1 ys) => match H d with
    | none => bif t.beq 3 then
     some fun K => ∃ (a : ArmV) (ks : List Int), xs = armCh a ∧ ys = ints ks ∧ n = ks.length ∧ GoodArm a ∧ (1 ≤ s ∧ s ≤ 12) ∧ ks.length = a.links.length ∧ (∀ k ∈ ks, 0 ≤ k ∧ k ≤ s) ∧
      K (.t [(false, [.w d 0 ks.length]), (false, [.v (.int .i64 0)])]) (backH [(1000, k), (500, d)] (lookH [(1000, rowI ks), (500, rowR 319 (valR a s ks))]) H)
     else none
    | some _ => none
   | _ => none
  | _ + 1 => none
 | _ => none
theorem okm_roVW : CtrMOK Tryd.prog tabG debT 8 cm_roVW := by
 refine ⟨enters Tryd.func8 (by kernel_rfl), fun l H d T hT K hK => ?_⟩
 unfold cm_roVW at hT
 split at hT
 ·rename_i xs s k o n
  split at hT
  ·split at hT
   ·rename_i t ys e1
    split at hT
    ·rename_i hd
     cases hb : t.beq 3 with
     | false => rw [hb] at hT; cases hT
     | true =>
      rw [hb] at hT
      cases hT
      have ht := Nat.eq_of_beq_eq_true hb
      subst ht
      obtain ⟨a, ks, rfl, rfl, rfl, ha, hs, hl, hks, hK⟩ := hK
      refine specM_of (R := [(1000, k)]) (N := [(500, d)]) (Hl := [(1000, rowI ks)]) T67sok mixed Tryd.func8 (by kernel_rfl) (by kernel_rfl) (by rfl)
       (as0 := [armA a, iA .i64 s, .x false [.w 1000 0 ks.length]]) ?_ (hand1 e1 rfl rfl) rfl (by simp) (by simp) (fun p hp => by simp at hp; subst hp; exact hd) (fun x => ⟨fun p hp => ?_, fun p hp b hb => ?_⟩) (g_roVW a s ks ha hs hl hks) (fun x hx => ?_)
      ·simp [renAs, renAV, renCh, lkB, armA, armCh]; rfl
      ·simp at hp
       subst hp
       exact fun h => by have h' : some (rowI _) = none := h; cases h'
      ·simp at hp
       rcases hp with rfl | rfl
       ·have h' : some (rowI _) = some b := hb; cases h'; rfl
       ·have h' : some (rowR _ _) = some b := hb; cases h'; rfl
      ·exact ⟨_, rfl, hK⟩
    ·cases hT
   ·cases hT
  ·cases hT
 ·cases hT
def M69r : List (Nat × CtrM) := (8, cm_roVW) :: M68r
noncomputable def T67u : Tabs := mkTV L67r M69r X4
theorem M69rok : CtrMsOK Tryd.prog tabG debT M69r := .cons okm_roVW M68rok
theorem T67uok : TabsOK Tryd.prog tabG debT T67u := mkTVok L67rok M69rok X4ok
def ot_roNumG : OT := fun _ => ([], [])
def goal_roNumG (n : Int) (s : Int) (l : List Int) (K : AV → Prop) : Prop := goalL T67u ot_roNumG (fun _ => .inv ⟨Nat × Int, fun x => ⟨[(1, iA .i64 s), (8, iA .i64 x.2), (31, .x false [.s 1 (ints l)]), (32, iA .i64 l.length), (33, iA .i64 x.1)], []⟩, fun x => x.1 ≤ l.length ∧ x.2 * (s + 1) ^ (l.length - x.1) + numV s (l.drop x.1) = numV s l ∧ 0 ≤ x.2 ∧ x.2 < 13 ^ x.1, fun x => l.length - x.1, fun _ => 0⟩) Tryd.f4 [iA .i64 n, iA .i64 s, .x false [.s 1 (ints l)]] K
theorem goal_roNumG_vc (n : Int) (s : Int) (l : List Int) (K : AV → Prop) : goal_roNumG n s l K = (bif decide (n<1) then K (AV.t [(false,[Ch.v (Value.int IntKind.i64 0)]),(false,[Ch.v (Value.int IntKind.i64 1)])]) else bif decide (n>3) then K (AV.t [(false,[Ch.v (Value.int IntKind.i64 0)]),(false,[Ch.v (Value.int IntKind.i64 1)])]) else bif decide (s<1) then K (AV.t [(false,[Ch.v (Value.int IntKind.i64 0)]),(false,[Ch.v (Value.int IntKind.i64 1)])]) else bif decide (s>12) then K (AV.t [(false,[Ch.v (Value.int IntKind.i64 0)]),(false,[Ch.v (Value.int IntKind.i64 1)])]) else bif Int.ofNat (ints l).length != n then K (AV.t [(false,[Ch.v (Value.int IntKind.i64 0)]),(false,[Ch.v (Value.int IntKind.i64 1)])]) else (∃(x:Nat × Int),((x.fst≤l.length∧x.snd*(s+1)^(l.length-x.fst)+numV s (List.drop x.fst l)=numV s l∧0≤x.snd∧x.snd<13^x.fst)∧OfNat.ofNat 0=0)∧s=s∧0=x.snd∧1=1∧ints l=ints l∧Int.ofNat (ints l).length=Int.ofNat l.length∧0=Int.ofNat x.fst∧True)∧∀(x:Nat × Int),x.fst≤l.length∧x.snd*(s+1)^(l.length-x.fst)+numV s (List.drop x.fst l)=numV s l∧0≤x.snd∧x.snd<13^x.fst→OfNat.ofNat 0=0→bif decide (Int.ofNat x.fst<Int.ofNat l.length) then (0≤Int.ofNat x.fst∧Int.ofNat x.fst<Int.ofNat (ints l).length)∧∃(d:Int),ldE (ints l) (Int.ofNat x.fst).toNat 0 1=some [Ch.v (Value.int IntKind.i64 d)]∧bif decide (d<0) then K (AV.t [(false,[Ch.v (Value.int IntKind.i64 0)]),(false,[Ch.v (Value.int IntKind.i64 17)])]) else bif decide (d>s) then K (AV.t [(false,[Ch.v (Value.int IntKind.i64 0)]),(false,[Ch.v (Value.int IntKind.i64 17)])]) else ∃(x':Nat × Int),((x'.fst≤l.length∧x'.snd*(s+1)^(l.length-x'.fst)+numV s (List.drop x'.fst l)=numV s l∧0≤x'.snd∧x'.snd<13^x'.fst)∧OfNat.ofNat 0=0∧l.length-x'.fst<l.length-x.fst)∧s=s∧IntKind.i64.wrap (IntKind.i64.wrap (x.snd*IntKind.i64.wrap (s+1))+d)=x'.snd∧1=1∧ints l=ints l∧Int.ofNat l.length=Int.ofNat l.length∧IntKind.i64.wrap (Int.ofNat x.fst+1)=Int.ofNat x'.fst∧True else K (AV.t [(false,[Ch.v (Value.int IntKind.i64 x.snd)]),(false,[Ch.v (Value.int IntKind.i64 0)])])) := by kernel_rfl
theorem g_roNumG (n : Int) (s : Int) (l : List Int) (hc : ((1 ≤ l.length ∧ l.length ≤ 3) ∧ n = l.length) ∧ (1 ≤ s ∧ s ≤ 12) ∧ (∀ k ∈ l, 0 ≤ k ∧ k ≤ s)) (K : AV → Prop) (hK : K (.t [(false, [.v (.int .i64 (numV s l))]), (false, [.v (.int .i64 0)])])) : Holds (goal_roNumG n s l K) := by
 refine ⟨?_⟩
 rw [goal_roNumG_vc]
 try simp only [Int.ofNat_eq_natCast, true_and, and_true, Nat.zero_add, Nat.le_refl, true_implies, true_or, or_true]
 obtain ⟨⟨⟨h1, h3⟩, rfl⟩, ⟨s1, s2⟩, hk⟩ := hc
 have es : IntKind.i64.wrap (s + 1) = s + 1 := w64 (by omega)
 simp only [ints_len, es]
 refine bif_mk (fun h => by have := of_decide_eq_true h; omega) (fun _ => bif_mk (fun h => by have := of_decide_eq_true h; omega) (fun _ => bif_mk (fun h => by have := of_decide_eq_true h; omega) (fun _ => bif_mk (fun h => by have := of_decide_eq_true h; omega) (fun _ => bif_mk (fun h => by simp at h) (fun _ => ⟨⟨(0, 0), ⟨Nat.zero_le _, by simp, by simp, by simp⟩, rfl, by first | trivial | rfl, rfl⟩, fun x hx => bif_mk (fun hp => ?_) (fun hp => ?_)⟩)))))
 ·obtain ⟨i, n⟩ := x
  obtain ⟨hi, he, n0, n1⟩ := hx
  simp only at hi he n0 n1 hp ⊢
  have hp : i < l.length := by have := of_decide_eq_true hp; omega
  obtain ⟨k, hkk⟩ : ∃ k, l[i]? = some k := ⟨_, List.getElem?_eq_getElem hp⟩
  have kb := hk k (List.mem_of_getElem? hkk)
  have hn : n ≤ 168 := by
   have : i = 0 ∨ i = 1 ∨ i = 2 := by omega
   rcases this with rfl | rfl | rfl <;> simp at n1 <;> omega
  have m0 : 0 ≤ n * (s + 1) := Int.mul_nonneg n0 (by omega)
  have m1 : n * (s + 1) ≤ 168 * 13 := Int.mul_le_mul hn (by omega) (by omega) (by omega)
  have m2 : n * (s + 1) ≤ (13 ^ i - 1) * 13 := Int.mul_le_mul (by omega) (by omega) (by omega) (by omega)
  have m3 : (13 : Int) ^ (i + 1) = 13 ^ i * 13 := Int.pow_succ ..
  refine ⟨by omega, k, ints_ld (by simpa using hkk), bif_mk (fun h => by have := of_decide_eq_true h; omega) (fun _ => bif_mk (fun h => by have := of_decide_eq_true h; omega) (fun _ => ⟨(i + 1, n * (s + 1) + k), ⟨⟨by simp only; omega, numV_drop hkk he, by simp only; omega, by simp only; rw [m3]; omega⟩, by simp only; omega⟩, by rw [w64 (n := n * (s + 1)) (by omega), w64 (by omega)], by rw [w64 (by omega)]; simp⟩))⟩
 ·obtain ⟨i, n⟩ := x
  obtain ⟨hi, he, n0, n1⟩ := hx
  simp only at hi he n0 n1 hp ⊢
  have hp : i = l.length := by have := of_decide_eq_false hp; omega
  subst hp
  rw [List.drop_length, Nat.sub_self] at he
  have : n = numV s l := by rw [← he]; simp [numV]
  rw [this]
  exact hK
def c_roNumG : Ctr := fun as0 => match as0 with
 | [.x false [.v (.int .i64 n)], .x false [.v (.int .i64 s)], .x false [.s 1 ys]] => some fun K => ∃ (l : List Int), ys = ints l ∧ (((1 ≤ l.length ∧ l.length ≤ 3) ∧ n = l.length) ∧ (1 ≤ s ∧ s ≤ 12) ∧ (∀ k ∈ l, 0 ≤ k ∧ k ≤ s)) ∧ (K (.t [(false, [.v (.int .i64 (numV s l))]), (false, [.v (.int .i64 0)])]))
 | _ => none
theorem ok_roNumG : CtrOK Tryd.prog tabG debT 4 c_roNumG := by
 refine ⟨enters Tryd.func4 (by kernel_rfl), fun l T hT K hK => ?_⟩
 unfold c_roNumG at hT
 split at hT
 ·cases hT
  obtain ⟨l, rfl, hc, hK⟩ := hK
  exact spec_ofL T67uok mixed Tryd.func4 (by kernel_rfl) (by kernel_rfl) (by rfl) (g_roNumG _ _ _ hc K hK)
 ·cases hT
def L68s : List (Nat × Ctr) := (4, c_roNumG) :: L67r
noncomputable def T68s : Tabs := mkTV L68s M69r X4
theorem L68sok : CtrsOK Tryd.prog tabG debT L68s := .cons ok_roNumG L67rok
theorem T68sok : TabsOK Tryd.prog tabG debT T68s := mkTVok L68sok M69rok X4ok
def ot_roEqI : OT := fun id => bif id.beq 6 then ([0, 1, 2, 3, 4, 5, 6, 7, 8], [[], [], [0, 1], [2, 0, 1], [], [], [4, 5], [6, 4, 5], [3, 2, 0, 1, 7, 6, 4, 5]]) else ([], [])
def goal_roEqI (l : List Int) (m : List Int) (K : AV → Prop) : Prop := goalL T68s ot_roEqI (inv_eqI l m) Tryd.f10 [.x false [.s 1 (ints l)], .x false [.s 1 (ints m)]] K
theorem goal_roEqI_vc (l : List Int) (m : List Int) (K : AV → Prop) : goal_roEqI l m K = (bif Int.ofNat (ints l).length != Int.ofNat (ints m).length then K (AV.x false [Ch.v (Value.bool false)]) else (∃(x:Nat),((x≤l.length∧List.take x l=List.take x m)∧OfNat.ofNat 0=0)∧1=1∧ints l=ints l∧1=1∧ints m=ints m∧Int.ofNat (ints l).length=Int.ofNat l.length∧0=Int.ofNat x∧True)∧∀(x:Nat),x≤l.length∧List.take x l=List.take x m→OfNat.ofNat 0=0→bif decide (Int.ofNat x<Int.ofNat l.length) then (0≤Int.ofNat x∧Int.ofNat x<Int.ofNat (ints l).length)∧∃(d:Int),ldE (ints l) (Int.ofNat x).toNat 0 1=some [Ch.v (Value.int IntKind.i64 d)]∧(0≤Int.ofNat x∧Int.ofNat x<Int.ofNat (ints m).length)∧∃(d_1:Int),ldE (ints m) (Int.ofNat x).toNat 0 1=some [Ch.v (Value.int IntKind.i64 d_1)]∧bif d != d_1 then K (AV.x false [Ch.v (Value.bool false)]) else ∃(x':Nat),((x'≤l.length∧List.take x' l=List.take x' m)∧OfNat.ofNat 0=0∧l.length-x'<l.length-x)∧1=1∧ints l=ints l∧1=1∧ints m=ints m∧Int.ofNat l.length=Int.ofNat l.length∧IntKind.i64.wrap (Int.ofNat x+1)=Int.ofNat x'∧True else K (AV.x false [Ch.v (Value.bool true)])) := by kernel_rfl
theorem g_roEqI (l : List Int) (m : List Int) (hc : (l.length ≤ 1000 ∧ m.length ≤ 1000)) (K : AV → Prop) (hK : K (.x false [.v (.bool (decide (l = m)))])) : Holds (goal_roEqI l m K) := by
 refine ⟨?_⟩
 rw [goal_roEqI_vc]
 try simp only [Int.ofNat_eq_natCast, true_and, and_true, Nat.zero_add, Nat.le_refl, true_implies, true_or, or_true]
 obtain ⟨hl, hl2⟩ := hc
 simp only [ints_len]
 refine bif_mk (fun h => ?_) (fun h => ⟨⟨0, ⟨by omega, rfl⟩, by first | trivial | rfl, rfl⟩, fun x hx => bif_mk (fun hp => ?_) (fun hp => ?_)⟩)
 ·have h : l.length ≠ m.length := fun e => by rw [e] at h; simp at h
  have : decide (l = m) = false := by simp; exact fun e => h (by rw [e])
  rw [this] at hK; exact hK
 ·have h : l.length = m.length := by simp at h; omega
  have hp : x < l.length := by have := of_decide_eq_true hp; omega
  obtain ⟨p, hpp⟩ : ∃ p, l[x]? = some p := ⟨_, List.getElem?_eq_getElem hp⟩
  obtain ⟨q, hqq⟩ : ∃ q, m[x]? = some q := ⟨_, List.getElem?_eq_getElem (by omega)⟩
  simp only [Int.toNat_natCast]
  refine ⟨by omega, p, ints_ld hpp, by omega, q, ints_ld hqq, bif_mk (fun he => ?_) (fun he => ?_)⟩
  ·have he : p ≠ q := by simpa using he
   have : decide (l = m) = false := by
    simp
    intro e
    rw [e, hqq] at hpp
    exact he (Option.some.inj hpp).symm
   rw [this] at hK; exact hK
  ·have he : p = q := by simpa using he
   subst he
   refine ⟨x + 1, ⟨⟨by omega, ?_⟩, by omega⟩, by rw [w64 (by omega)]; simp⟩
   rw [List.take_add_one, List.take_add_one, hx.2, hpp, hqq]
 ·have h : l.length = m.length := by simp at h; omega
  have hp : ¬ x < l.length := by have := of_decide_eq_false hp; omega
  have e := hx.2
  rw [List.take_of_length_le (by omega), List.take_of_length_le (by omega)] at e
  have : decide (l = m) = true := by simpa using e
  rw [this] at hK; exact hK
def c_roEqI : Ctr := fun as0 => match as0 with
 | [.x false [.s 1 xs], .x false [.s 1 ys]] => some fun K => ∃ (l : List Int) (m : List Int), xs = ints l ∧ ys = ints m ∧ ((l.length ≤ 1000 ∧ m.length ≤ 1000)) ∧ (K (.x false [.v (.bool (decide (l = m)))]))
 | _ => none
theorem ok_roEqI : CtrOK Tryd.prog tabG debT 10 c_roEqI := by
 refine ⟨enters Tryd.func10 (by kernel_rfl), fun l T hT K hK => ?_⟩
 unfold c_roEqI at hT
 split at hT
 ·cases hT
  obtain ⟨l, m, rfl, rfl, hc, hK⟩ := hK
  exact spec_ofL T68sok mixed Tryd.func10 (by kernel_rfl) (by kernel_rfl) (by rfl) (g_roEqI _ _ hc K hK)
 ·cases hT
def L69s : List (Nat × Ctr) := (10, c_roEqI) :: L68s
theorem L69sok : CtrsOK Tryd.prog tabG debT L69s := .cons ok_roEqI L68sok
theorem near_val {s k : Int} (hs : 1 ≤ s) {L : LinkV} (hl : L.lo < L.hi) : nearV s L (valV s L k) = k := by
 have e1 : (L.hi - L.lo) * (L.hi - L.lo)⁻¹ = 1 := Rat.mul_inv_cancel _ (by grind)
 have s0 : (0 : Rat) < (s : Rat) := Rat.intCast_pos.2 (by omega)
 have e2 : (s : Rat) * (s : Rat)⁻¹ = 1 := Rat.mul_inv_cancel _ (by grind)
 have e : nearY s L (valV s L k) = halfR - (k : Rat) := by
  unfold nearY valV
  rw [Rat.div_def, Rat.div_def]
  generalize (L.hi - L.lo)⁻¹ = di at *
  generalize (s : Rat)⁻¹ = si at *
  grind
 have hh := half_two
 have f1 : -k ≤ (nearY s L (valV s L k)).floor := Rat.le_floor_iff.2 (by
  rw [e, Rat.intCast_neg]
  have : (0 : Rat) ≤ halfR := by decide +kernel
  grind)
 have f2 : (nearY s L (valV s L k)).floor < -k + 1 := Rat.floor_lt_iff.2 (by
  rw [e, Rat.intCast_add, Rat.intCast_neg]
  have h1 : ((1 : Int) : Rat) = 1 := rfl
  rw [h1]
  have : halfR < 1 := by decide +kernel
  grind)
 unfold nearV
 omega
def L70s : List (Nat × Ctr) := L69s
noncomputable def T70s : Tabs := mkTV L70s M69r X4
end Go.Proofs
