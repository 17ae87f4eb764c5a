/- Clamp; Conf with a row of its own; slices.Clone of integers; gantmake.Rat. -/
import Derived.Test.YtdkakhlabdoilaaDoorAJ
/- Clamp; Conf with a row of its own; slices.Clone of integers; gantmake.Rat. -/
namespace Go.Proofs
open Go Go.Eng
def clampQ (L : LinkV) (q : Rat) : Rat := maxR L.lo (minR L.hi q)
def clampR (ls : List LinkV) (qs : List Rat) : List Rat := List.zipWith clampQ ls qs
def clB (b : Nat) : Nat := max 63 (max 63 b)
def inv_clamp (a : ArmV) (b : Nat) (qs : List Rat) : LI := fun _ => .inv ⟨Nat, fun i => ⟨[(1, .x false [.w 1000 0 qs.length]), (7, .x false [.w 500 0 i]), (18, .x false [.s 16 (a.links.map linkCh)]), (19, iA .i64 a.links.length), (20, iA .i64 i)], [(1000, rowR b qs), (500, rowR (clB b) ((clampR a.links qs).take i))]⟩, fun i => i ≤ a.links.length, fun i => a.links.length - i, fun _ => 0⟩
def ot_clamp : OT := fun id => bif id.beq 8 then ([0, 1, 2, 3, 4, 5, 6, 7, 8, 9, 10, 11, 12, 13], [[], [], [1], [], [3], [], [], [5, 6], [7, 5, 6], [4, 3, 8, 7, 5, 6], [2, 1, 9, 4, 3, 8, 7, 5, 6], [10, 2, 1, 9, 4, 3, 8, 7, 5, 6], [0, 11, 10, 2, 1, 9, 4, 3, 8, 7, 5, 6], [12, 0, 11, 10, 2, 1, 9, 4, 3, 8, 7, 5, 6]]) else ([], [])
def goal_clamp (a : ArmV) (b : Nat) (qs : List Rat) : Prop := goalM (X := Unit) T52 ot_clamp (inv_clamp a b qs) Tryd.f27 [armA a, .x false [.w 1000 0 qs.length]] [(1000, rowR b qs)] (fun _ => True) (fun _ => ⟨[(4, .x false [.w 500 0 qs.length]), (5, iA .i64 0)], [(1000, rowR b qs), (500, rowR (clB b) (clampR a.links qs))]⟩)
theorem goal_clamp_vc (a : ArmV) (b : Nat) (qs : List Rat) : goal_clamp a b qs = (∃(a_1:ArmV),[Ch.v (Value.string a.name),Ch.r a.x 63,Ch.r a.y 63,Ch.v (Value.bool a.half),Ch.r a.t 63,Ch.s 16 (List.map linkCh a.links)]=[Ch.v (Value.string a_1.name),Ch.r a_1.x 63,Ch.r a_1.y 63,Ch.v (Value.bool a_1.half),Ch.r a_1.t 63,Ch.s 16 (List.map linkCh a_1.links)]∧(GoodArm a_1∧Int.ofNat qs.length=Int.ofNat a_1.links.length)∧(∃(x:Nat),(x≤a.links.length∧OfNat.ofNat 0=0)∧0=0∧qs.length=qs.length∧Value.slice none 0 0=Value.slice none 0 0∧0=0∧x=0∧16=16∧List.map linkCh a.links=List.map linkCh a.links∧Int.ofNat (List.map linkCh a.links).length=Int.ofNat a.links.length∧0=Int.ofNat x∧25=25∧3=3∧(List.map (fun(q:Rat)=>[Ch.r q b]) qs=List.map (fun(q:Rat)=>[Ch.r q b]) qs∨RowLE (List.map (fun(q:Rat)=>[Ch.r q b]) qs) (List.map (fun(q:Rat)=>[Ch.r q b]) qs))∧List.map (fun(q:Rat)=>[Ch.r q (clB b)]) (List.take x (clampR a.links qs))=[]∧True)∧∀(x:Nat),x≤a.links.length→OfNat.ofNat 0=0→bif decide (Int.ofNat x<Int.ofNat a.links.length) then (0≤Int.ofNat x∧Int.ofNat x<Int.ofNat (List.map linkCh a.links).length)∧∃(q:Rat),∃(n:Nat),∃(q_1:Rat),∃(n_1:Nat),∃(q_2:Rat),∃(n_2:Nat),∃(q_3:Rat),∃(n_3:Nat),∃(q_4:Rat),∃(n_4:Nat),∃(ys:List (List Ch)),ldE (List.map linkCh a.links) (Int.ofNat x).toNat 0 16=some [Ch.r q n,Ch.r q_1 n_1,Ch.r q_2 n_2,Ch.r q_3 n_3,Ch.r q_4 n_4,Ch.s 6 ys]∧(0≤Int.ofNat x∧Int.ofNat x<Int.ofNat qs.length)∧∃(q:Rat),∃(n:Nat),ldE (List.map (fun(q:Rat)=>[Ch.r q b]) qs) (0+(Int.ofNat x).toNat) 0 3=some [Ch.r q n]∧n_2+n≤4294967296∧n_1+max n_2 n≤4294967296∧((x+1)*40≤140737488355328∧x+1≤9223372036854775807)∧∃(x':Nat),(x'≤a.links.length∧OfNat.ofNat 0=0∧a.links.length-x'<a.links.length-x)∧0=0∧qs.length=qs.length∧0=0∧x+1=x'∧16=16∧List.map linkCh a.links=List.map linkCh a.links∧Int.ofNat a.links.length=Int.ofNat a.links.length∧IntKind.i64.wrap (Int.ofNat x+1)=Int.ofNat x'∧25=25∧3=3∧(List.map (fun(q:Rat)=>[Ch.r q b]) qs=List.map (fun(q:Rat)=>[Ch.r q b]) qs∨RowLE (List.map (fun(q:Rat)=>[Ch.r q b]) qs) (List.map (fun(q:Rat)=>[Ch.r q b]) qs))∧25=25∧3=3∧(List.take x (List.map (fun(q:Rat)=>[Ch.r q (clB b)]) (List.take x (clampR a.links qs)))++[[Ch.r (maxR q_1 (minR q_2 q)) (max n_1 (max n_2 n))]]=List.map (fun(q:Rat)=>[Ch.r q (clB b)]) (List.take x' (clampR a.links qs))∨RowLE (List.take x (List.map (fun(q:Rat)=>[Ch.r q (clB b)]) (List.take x (clampR a.links qs)))++[[Ch.r (maxR q_1 (minR q_2 q)) (max n_1 (max n_2 n))]]) (List.map (fun(q:Rat)=>[Ch.r q (clB b)]) (List.take x' (clampR a.links qs))))∧True else ∃(_x_1:Unit),True∧0=0∧x=qs.length∧(0:Int)=0∧25=25∧3=3∧(List.map (fun(q:Rat)=>[Ch.r q b]) qs=List.map (fun(q:Rat)=>[Ch.r q b]) qs∨RowLE (List.map (fun(q:Rat)=>[Ch.r q b]) qs) (List.map (fun(q:Rat)=>[Ch.r q b]) qs))∧25=25∧3=3∧(List.map (fun(q:Rat)=>[Ch.r q (clB b)]) (List.take x (clampR a.links qs))=List.map (fun(q:Rat)=>[Ch.r q (clB b)]) (clampR a.links qs)∨RowLE (List.map (fun(q:Rat)=>[Ch.r q (clB b)]) (List.take x (clampR a.links qs))) (List.map (fun(q:Rat)=>[Ch.r q (clB b)]) (clampR a.links qs)))∧True) := by kernel_rfl
def goal_confM (a : ArmV) (l : List Int) : Prop := goalM (X := List Rat) T52 noO noL Tryd.f18 [armA a, .x false [.s 1 (ints l)]] [] (fun qs => Fit a qs ∧ qs.length = a.links.length) (fun qs => ⟨[(4, .x false [.w 0 0 qs.length])], [(0, rowR 63 qs)]⟩)
theorem goal_confM_vc (a : ArmV) (l : List Int) : goal_confM a l = (∃(a_1:ArmV),∃(l_1:List Int),[Ch.v (Value.string a.name),Ch.r a.x 63,Ch.r a.y 63,Ch.v (Value.bool a.half),Ch.r a.t 63,Ch.s 16 (List.map linkCh a.links)]=[Ch.v (Value.string a_1.name),Ch.r a_1.x 63,Ch.r a_1.y 63,Ch.v (Value.bool a_1.half),Ch.r a_1.t 63,Ch.s 16 (List.map linkCh a_1.links)]∧ints l=ints l_1∧GoodArm a_1∧l_1.length≤9223372036854775807∧∀(qs:List Rat) (l':List Int),(∀(i:Nat) (L:LinkV) (q:Rat),a_1.links[i]?=some L→qs[i]?=some q→L.lo≤q∧q≤L.hi)→qs.length=a_1.links.length→l'.length≤l_1.length→∃(x:List Rat),((∀(i:Nat) (L:LinkV) (q:Rat),a.links[i]?=some L→x[i]?=some q→L.lo≤q∧q≤L.hi)∧x.length=a.links.length)∧0=0∧qs.length=x.length∧25=25∧3=3∧(List.map (fun(q:Rat)=>[Ch.r q 63]) qs=List.map (fun(q:Rat)=>[Ch.r q 63]) x∨RowLE (List.map (fun(q:Rat)=>[Ch.r q 63]) qs) (List.map (fun(q:Rat)=>[Ch.r q 63]) x))∧True) := by kernel_rfl
def rowI (l : List Int) : Blk := .row 3 1 (ints l)
def goal_cloneI (l : List Int) : Prop := goalM (X := Unit) T52 noO noL Tryd.f31 [.x false [.s 1 (ints l)]] [] (fun _ => True) (fun _ => ⟨[(2, .x false [.w 0 0 l.length])], [(0, rowI l)]⟩)
theorem goal_cloneI_vc (l : List Int) : goal_cloneI l = (ints l≠[]∧((0+(ints l).length)*8≤140737488355328∧0+(ints l).length≤9223372036854775807)∧∃(_x:Unit),True∧0=0∧0+(ints l).length=l.length∧3=3∧1=1∧(ints l=ints l∨RowLE (ints l) (ints l))∧True) := by kernel_rfl
def goal_cloneI0 (l0 : List Int) : Prop := goalM (X := Unit) T52 noO noL Tryd.f31 [.x false [.v (.slice none 0 0)]] [] (fun _ => True) (fun _ => ⟨[(2, .x false [.w 0 0 0])], [(0, rowI l0)]⟩)
theorem goal_cloneI0_vc (l0 : List Int) : goal_cloneI0 l0 = (True∧∃(_x:Unit),True∧Value.slice none 0 0=Value.slice none 0 0∧0=0∧0=0∧ints l0=[]∧True) := by kernel_rfl
def goal_cloneI1 (b o c : Nat) (l0 : List Int) : Prop := goalM (X := Unit) T52 noO noL Tryd.f31 [.x false [.v (.slice (some ⟨b, o, none⟩) 0 c)]] [] (fun _ => True) (fun _ => ⟨[(2, .x false [.w 0 0 0])], [(0, rowI l0)]⟩)
theorem goal_cloneI1_vc (b : Nat) (o : Nat) (c : Nat) (l0 : List Int) : goal_cloneI1 b o c l0 = (True∧(0≤140737488355328∧0≤9223372036854775807)∧∃(_x:Unit),True∧0=0∧0=0∧3=3∧1=1∧([]=ints l0∨RowLE [] (ints l0))∧True) := by kernel_rfl
def ot_mRat : OT := fun _ => ([], [])
def goal_mRat (x : Int) (K : AV → Prop) : Prop := goalL T52 ot_mRat noL Tryd.f30 [iA .i64 x] K
theorem goal_mRat_vc (x : Int) (K : AV → Prop) : goal_mRat x K = (((0:Int)<6∧(6:Int)<9223372036854775808)∧(0≤x%6∧x%6<6)∧∃(d:Int),ldE [[Ch.v (Value.int IntKind.i64 1)],[Ch.v (Value.int IntKind.i64 2)],[Ch.v (Value.int IntKind.i64 3)],[Ch.v (Value.int IntKind.i64 4)],[Ch.v (Value.int IntKind.i64 5)],[Ch.v (Value.int IntKind.i64 8)]] (0+(x%6).toNat) 0 1=some [Ch.v (Value.int IntKind.i64 d)]∧(6:Int)≠0∧(0<IntKind.i64.wrap (IntKind.i64.wrap (16*d)+1)∧IntKind.i64.wrap (IntKind.i64.wrap (16*d)+1)<9223372036854775808)∧((-9223372036854775808<IntKind.i64.wrap (IntKind.i64.wrap (x.tdiv 6)%IntKind.i64.wrap (IntKind.i64.wrap (16*d)+1)-IntKind.i64.wrap (8*d))∧IntKind.i64.wrap (IntKind.i64.wrap (x.tdiv 6)%IntKind.i64.wrap (IntKind.i64.wrap (16*d)+1)-IntKind.i64.wrap (8*d))<9223372036854775808)∧0<d∧d<9223372036854775808)∧K (AV.x true [Ch.r (mkRat (IntKind.i64.wrap (IntKind.i64.wrap (x.tdiv 6)%IntKind.i64.wrap (IntKind.i64.wrap (16*d)+1)-IntKind.i64.wrap (8*d))) d.toNat) 63])) := by kernel_rfl
theorem g_mRat (x : Int) (_hc : (-9223372036854775808 ≤ x ∧ x < 9223372036854775808)) (K : AV → Prop) (hK : ∀ q : Rat, K (rA q 63)) : Holds (goal_mRat x K) := by
 refine ⟨?_⟩
 rw [goal_mRat_vc]
 try simp only [Nat.zero_add]
 have b1 := Int.emod_nonneg x (show (6 : Int) ≠ 0 by decide)
 have b2 := Int.emod_lt_of_pos x (show (0 : Int) < 6 by decide)
 obtain ⟨d, hd, hdr⟩ : ∃ d, ldE [[Ch.v (Value.int IntKind.i64 1)], [Ch.v (Value.int IntKind.i64 2)], [Ch.v (Value.int IntKind.i64 3)], [Ch.v (Value.int IntKind.i64 4)], [Ch.v (Value.int IntKind.i64 5)], [Ch.v (Value.int IntKind.i64 8)]] (x % 6).toNat 0 1 = some [Ch.v (Value.int IntKind.i64 d)] ∧ 1 ≤ d ∧ d ≤ 8 := by
  generalize x % 6 = r at b1 b2
  have : r = 0 ∨ r = 1 ∨ r = 2 ∨ r = 3 ∨ r = 4 ∨ r = 5 := by omega
  rcases this with rfl | rfl | rfl | rfl | rfl | rfl
  ·exact ⟨1, rfl, by omega⟩
  ·exact ⟨2, rfl, by omega⟩
  ·exact ⟨3, rfl, by omega⟩
  ·exact ⟨4, rfl, by omega⟩
  ·exact ⟨5, rfl, by omega⟩
  ·exact ⟨8, rfl, by omega⟩
 have e1 : IntKind.i64.wrap (IntKind.i64.wrap (16 * d) + 1) = 16 * d + 1 := by rw [w64 (n := 16 * d) (by omega), w64 (by omega)]
 have e2 : IntKind.i64.wrap (8 * d) = 8 * d := w64 (by omega)
 have b3 := Int.emod_nonneg (IntKind.i64.wrap (x.tdiv 6)) (show 16 * d + 1 ≠ 0 by omega)
 have b4 := Int.emod_lt_of_pos (IntKind.i64.wrap (x.tdiv 6)) (show 0 < 16 * d + 1 by omega)
 refine ⟨by omega, by omega, d, hd, by decide, ?_⟩
 rw [e1, e2, w64 (n := _ - 8 * d) (by omega)]
 exact ⟨by omega, by omega, hK _⟩
def c_mRat : Ctr := fun as0 => match as0 with
 | [.x false [.v (.int .i64 x)]] => some fun K => ((-9223372036854775808 ≤ x ∧ x < 9223372036854775808)) ∧ (∀ q : Rat, K (rA q 63))
 | _ => none
theorem ok_mRat : CtrOK Tryd.prog tabG debT 30 c_mRat := by
 refine ⟨enters Tryd.func30 (by kernel_rfl), fun l T hT K hK => ?_⟩
 unfold c_mRat at hT
 split at hT
 ·cases hT
  obtain ⟨hc, hK⟩ := hK
  exact spec_ofL T52ok mixed Tryd.func30 (by kernel_rfl) (by kernel_rfl) (by rfl) (g_mRat _ hc K hK)
 ·cases hT
def L53 : List (Nat × Ctr) := (30, c_mRat) :: L52
def T53 : Tabs := mkT L53 M48 X4
theorem L53ok : CtrsOK Tryd.prog tabG debT L53 := .cons ok_mRat L52ok
theorem g_clamp (a : ArmV) (b : Nat) (qs : List Rat) (ha : GoodArm a) (hb : b ≤ 1000000) (hq : qs.length = a.links.length) : Holds (goal_clamp a b qs) := by
 refine ⟨?_⟩
 rw [goal_clamp_vc]
 simp only [Int.ofNat_eq_natCast, true_and, and_true, Nat.zero_add, true_implies, true_or]
 have hn := ha.n
 have lc : (clampR a.links qs).length = a.links.length := by simp [clampR, hq]
 refine ⟨a, rfl, ⟨ha, by omega⟩, ⟨0, by omega, rfl, by simp, rfl, by simp⟩, fun x hx => bif_mk (fun hp => ?_) (fun hp => ?_)⟩
 ·have hp : x < a.links.length := by have := of_decide_eq_true hp; omega
  obtain ⟨L, hL⟩ : ∃ L, a.links[x]? = some L := ⟨_, List.getElem?_eq_getElem hp⟩
  obtain ⟨q, hqq⟩ : ∃ q, qs[x]? = some q := ⟨_, List.getElem?_eq_getElem (by omega)⟩
  have hc : (clampR a.links qs)[x]? = some (clampQ L q) := by simp [clampR, List.getElem?_zipWith, hL, hqq]
  refine ⟨by rw [List.length_map]; omega, _, _, _, _, _, _, _, _, _, _, _, link_ld (by simpa using hL), by omega, _, _, lR_ld (n := b) (by simpa using hqq), by omega, by omega, by omega, x + 1, ⟨by omega, by omega⟩, rfl, by rw [w64 (by omega)]; simp, .inl ?_⟩
  rw [List.take_of_length_le (by rw [List.length_map, List.length_take]; omega), List.take_add_one, hc, List.map_append]
  rfl
 ·have hp : x = a.links.length := by have := of_decide_eq_false hp; omega
  subst hp
  exact ⟨(), hq.symm, .inl (by rw [List.take_of_length_le (by omega)])⟩
theorem g_confM (a : ArmV) (l : List Int) (ha : GoodArm a) (hl : l.length ≤ 9223372036854775807) : Holds (goal_confM a l) := by
 refine ⟨?_⟩
 rw [goal_confM_vc]
 simp only [true_and, and_true]
 exact ⟨a, l, rfl, rfl, ha, hl, fun qs l' hf hq _ => ⟨qs, ⟨hf, hq⟩, rfl, .inl rfl⟩⟩
theorem g_cloneI (l : List Int) (h : l ≠ []) (hl : l.length * 8 ≤ 140737488355328) : Holds (goal_cloneI l) := by
 refine ⟨?_⟩
 rw [goal_cloneI_vc]
 simp only [true_and, and_true, Nat.zero_add, true_or]
 rw [ints_len]
 exact ⟨fun e => h (by simpa [ints] using e), by omega, (), rfl⟩
theorem g_cloneI0 : Holds (goal_cloneI0 []) := by
 refine ⟨?_⟩
 rw [goal_cloneI0_vc]
 simp only [true_and, and_true]
 exact ⟨(), rfl⟩
theorem g_cloneI1 (b o c : Nat) : Holds (goal_cloneI1 b o c []) := by
 refine ⟨?_⟩
 rw [goal_cloneI1_vc]
 simp only [true_and, and_true]
 exact ⟨by omega, (), .inl rfl⟩
theorem spec_empty {P : Program} {g : Nat} {tab : List Value} {f sz : Nat} {H : HP} {K : KK} (hA : SpecM P g tab f [.x false [.v (.slice none 0 0)]] H K) (hB : ∀ b o c, SpecM P g tab f [.x false [.v (.slice (some ⟨b, o, none⟩) 0 c)]] H K) : SpecM P g tab f [.x false [.s sz []]] H K := by
 intro w0 M ρ w vals hg ht hs hc
 cases hc with
 | cons h t =>
  cases t
  obtain ⟨us, hcc, hv⟩ := h
  simp only [Bool.false_eq_true, if_false] at hv
  subst hv
  cases hcc with
  | s0 h => exact hA w0 M ρ w _ hg ht hs (.cons ⟨_, .v rfl .nil, rfl⟩ .nil)
  | s00 h => exact hB _ _ _ w0 M ρ w _ hg ht hs (.cons ⟨_, .v rfl .nil, rfl⟩ .nil)
  | s hr hx hcap h => exact hB _ _ _ w0 M ρ w _ hg ht hs (.cons ⟨_, .v rfl .nil, rfl⟩ .nil)
def c_clamp : CtrM := fun as0 H d => match as0 with
 | [.x true xs, .x false [.w k o n]] => match o with
  | 0 => match H k with
   | some (.row t 3 ys) => match H d with
    | none => bif t.beq 25 then
     some fun K => ∃ (a : ArmV) (b : Nat) (qs : List Rat), xs = armCh a ∧ ys = lR b qs ∧ n = qs.length ∧ GoodArm a ∧ b ≤ 1000000 ∧ qs.length = a.links.length ∧
      K (.t [(false, [.w d 0 qs.length]), (false, [.v (.int .i64 0)])]) (backH [(1000, k), (500, d)] (lookH [(1000, rowR b qs), (500, rowR (clB b) (clampR a.links qs))]) H)
     else none
    | some _ => none
   | _ => none
  | _ + 1 => none
 | _ => none
def c_confM : CtrM := fun as0 H d => match as0 with
 | [.x true xs, .x false [.s 1 ys]] => match H d with
  | none => some fun K => ∃ a l, xs = armCh a ∧ ys = ints l ∧ GoodArm a ∧ l.length ≤ 9223372036854775807 ∧ ∀ qs : List Rat, Fit a qs → qs.length = a.links.length → K (.x false [.w d 0 qs.length]) (backH [(0, d)] (lookH [(0, rowR 63 qs)]) H)
  | some _ => none
 | _ => none
def c_cloneI : CtrM := fun as0 H d => match as0 with
 | [.x false [.s 1 xs]] => match H d with
  | none => some fun K => ∃ l, xs = ints l ∧ l.length * 8 ≤ 140737488355328 ∧ K (.x false [.w d 0 l.length]) (backH [(0, d)] (lookH [(0, rowI l)]) H)
  | some _ => none
 | _ => none
theorem ok_clamp : CtrMOK Tryd.prog tabG debT 27 c_clamp := by
 refine ⟨enters Tryd.func27 (by kernel_rfl), fun l H d T hT K hK => ?_⟩
 unfold c_clamp at hT
 split at hT
 ·rename_i xs k o n
  split at hT
  ·split at hT
   ·rename_i t ys e1
    split at hT
    ·rename_i hd
     cases hb : t.beq 25 with
     | false => rw [hb] at hT; cases hT
     | true =>
      rw [hb] at hT
      cases hT
      have ht := Nat.eq_of_beq_eq_true hb
      subst ht
      obtain ⟨a, b, qs, rfl, rfl, rfl, ha, hbb, hq, hK⟩ := hK
      refine specM_of (R := [(1000, k)]) (N := [(500, d)]) (Hl := [(1000, rowR b qs)]) T52ok mixed Tryd.func27 (by kernel_rfl) (by kernel_rfl) (by rfl)
       (as0 := [armA a, .x false [.w 1000 0 qs.length]]) ?_ (hand1 e1 rfl rfl) rfl (by simp) (by simp) (fun p hp => by simp at hp; subst hp; exact hd) (fun x => ⟨fun p hp => ?_, fun p hp b hb => ?_⟩) (g_clamp a b qs ha hbb hq) (fun x hx => ?_)
      ·simp [renAs, renAV, renCh, lkB, armA, armCh]
      ·simp at hp
       subst hp
       exact fun h => by have h' : some (rowR _ _) = none := h; cases h'
      ·simp at hp
       rcases hp with rfl | rfl
       ·have h' : some (rowR _ _) = some b := hb; cases h'; rfl
       ·have h' : some (rowR _ _) = some b := hb; cases h'; rfl
      ·exact ⟨_, rfl, hK⟩
    ·cases hT
   ·cases hT
  ·cases hT
 ·cases hT
theorem ok_confM : CtrMOK Tryd.prog tabG debT 18 c_confM := by
 refine ⟨enters Tryd.func18 (by kernel_rfl), fun l H d T hT K hK => ?_⟩
 unfold c_confM at hT
 split at hT
 ·split at hT
  ·rename_i hd
   cases hT
   obtain ⟨a, l, rfl, rfl, ha, hl, hK⟩ := hK
   refine specM_of (R := []) (N := [(0, d)]) (Hl := []) T52ok mixed Tryd.func18 (by kernel_rfl) (by kernel_rfl) (by rfl)
    (as0 := [armA a, .x false [.s 1 (ints l)]]) ?_ .nil rfl (by simp) (by simp) (fun p hp => by simp at hp; subst hp; exact hd) (fun x => ⟨(fun _ h => by cases h), fun p hp b hb => ?_⟩) (g_confM a l ha hl) (fun x hx => ?_)
   ·simp [renAs, renAV, renCh, armA, armCh]
   ·simp at hp
    subst hp
    have h' : some (rowR _ _) = some b := hb; cases h'; rfl
   ·exact ⟨_, rfl, hK x hx.1 hx.2⟩
  ·cases hT
 ·cases hT
theorem ok_cloneI : CtrMOK Tryd.prog tabG debT 31 c_cloneI := by
 refine ⟨enters Tryd.func31 (by kernel_rfl), fun l H d T hT K hK => ?_⟩
 unfold c_cloneI at hT
 split at hT
 ·split at hT
  ·rename_i hd
   cases hT
   obtain ⟨l, rfl, hl, hK⟩ := hK
   by_cases h : l = []
   ·subst h
    refine spec_empty ?_ fun b o c => ?_
    ·exact specM_new T52ok mixed Tryd.func31 (by kernel_rfl) (by kernel_rfl) (by rfl) (by rfl) hd (by kernel_rfl) g_cloneI0 hK
    ·exact specM_new T52ok mixed Tryd.func31 (by kernel_rfl) (by kernel_rfl) (by rfl) (by rfl) hd (by kernel_rfl) (g_cloneI1 b o c) hK
   ·exact specM_new T52ok mixed Tryd.func31 (by kernel_rfl) (by kernel_rfl) (by rfl) (by rfl) hd (by kernel_rfl) (g_cloneI l h hl) hK
  ·cases hT
 ·cases hT
def M54 : List (Nat × CtrM) := (27, c_clamp) :: (18, c_confM) :: (31, c_cloneI) :: M48
def L54 : List (Nat × Ctr) := (15, c_equalR) :: L53
def T54 : Tabs := mkT L54 M54 X4
theorem M54ok : CtrMsOK Tryd.prog tabG debT M54 := .cons ok_clamp (.cons ok_confM (.cons ok_cloneI M48ok))
theorem L54ok : CtrsOK Tryd.prog tabG debT L54 := .cons ok_equalR L53ok
theorem T54ok : TabsOK Tryd.prog tabG debT T54 := mkTok L54ok M54ok X4ok
end Go.Proofs
/- ArmClamps. -/
namespace Go.Proofs
open Go Go.Eng
/-- A row part way through: the first i elements have grown by a sum. -/
def mixR (i : Nat) (qs : List Rat) : List (List Ch) := lR 127 (qs.take i) ++ lR 63 (qs.drop i)
structure CmX where
 a : ArmV
 qs : List Rat
 i : Nat
def inv_aclamp (k : List Int) : LI := fun _ => .inv ⟨CmX, fun x => ⟨[(2, .x false [.s 1 (ints k)]), (9, .x false [.p 9 0]), (10, .x false [.w 500 0 x.qs.length]), (54, iA .i64 x.qs.length), (55, iA .i64 x.i)], [(9, .box 34 (armCh x.a)), (500, .row 25 3 (mixR x.i x.qs))]⟩, fun x => (GoodArm x.a ∧ x.qs.length = x.a.links.length) ∧ x.i ≤ x.qs.length, fun x => x.qs.length - x.i, fun _ => 0⟩
def ot_aclamp : OT := fun id => bif id.beq 2 then ([0, 1, 2, 3, 4, 5, 6], [[], [0], [1, 0], [2, 1, 0], [2, 1, 0], [3, 2, 1, 0, 4], [2, 1, 0, 5, 3, 4]]) else bif id.beq 12 then ([0, 1, 2, 3, 4, 5, 6, 8, 10, 11, 12, 13, 7, 9, 14, 15, 16, 17, 18, 19], [[], [], [], [], [2, 3], [4, 2, 3], [], [6], [], [7, 6, 8], [], [], [11], [10, 12, 11], [9, 7, 6, 8, 13, 10, 12, 11], [14, 9, 7, 6, 8, 13, 10, 12, 11], [15, 14, 9, 7, 6, 8, 13, 10, 12, 11], [5, 4, 2, 3, 16, 15, 14, 9, 7, 6, 8, 13, 10, 12, 11], [0, 1, 2, 3, 4, 5, 6, 7, 8, 9, 10, 11, 12, 13, 14, 15, 16, 17], [18, 0, 1, 2, 3, 4, 5, 6, 7, 8, 9, 10, 11, 12, 13, 14, 15, 16, 17]]) else ([], [])
def goal_aclamp (l m k : List Int) (K : AV → Prop) : Prop := goalL T54 ot_aclamp (inv_aclamp k) Tryd.f5 [.x false [.s 1 (ints l)], .x false [.s 1 (ints m)], .x false [.s 1 (ints k)]] K
theorem goal_aclamp_vc (l : List Int) (m : List Int) (k : List Int) (K : AV → Prop) : goal_aclamp l m k K = (∃(ns:List Int),[[Ch.v (Value.int IntKind.i64 3)],[Ch.v (Value.int IntKind.i64 2)]]=ints ns∧(ns.length≤3∧∀(n:Int),n ∈ ns→1≤n∧n≤1000)∧∃(a:ArmV),[Ch.v (Value.string (sampleV ns).name),Ch.r (sampleV ns).x 63,Ch.r (sampleV ns).y 63,Ch.v (Value.bool false),Ch.r (sampleV ns).t 63,Ch.s 16 (List.map linkCh (sampleV ns).links)]=[Ch.v (Value.string a.name),Ch.r a.x 63,Ch.r a.y 63,Ch.v (Value.bool a.half),Ch.r a.t 63,Ch.s 16 (List.map linkCh a.links)]∧GoodArm a∧(((-9223372036854775808:Int)<5∧(5:Int)<9223372036854775808)∧(0:Int)<1∧(1:Int)<9223372036854775808)∧bif !(decide (sumLen a.links=mkRat 5 (Int.toNat 1))&&true) then K (AV.x false [Ch.v (Value.bool false)]) else ∃(l_1:List Int),ints l=ints l_1∧l_1.length≤9223372036854775807∧∀(a:ArmV),Made a∧1≤a.links.length→∃(a_2:ArmV),∃(l:List Int),[Ch.v (Value.string a.name),Ch.r a.x 63,Ch.r a.y 63,Ch.v (Value.bool a.half),Ch.r a.t 63,Ch.s 16 (List.map linkCh a.links)]=[Ch.v (Value.string a_2.name),Ch.r a_2.x 63,Ch.r a_2.y 63,Ch.v (Value.bool a_2.half),Ch.r a_2.t 63,Ch.s 16 (List.map linkCh a_2.links)]∧ints m=ints l∧GoodArm a_2∧l.length≤9223372036854775807∧∀(qs:List Rat),(∀(i:Nat) (L:LinkV) (q:Rat),a_2.links[i]?=some L→qs[i]?=some q→L.lo≤q∧q≤L.hi)→qs.length=a_2.links.length→∃(a_5:ArmV),∃(b:Nat),∃(qs_1:List Rat),[Ch.v (Value.string a.name),Ch.r a.x 63,Ch.r a.y 63,Ch.v (Value.bool a.half),Ch.r a.t 63,Ch.s 16 (List.map linkCh a.links)]=[Ch.v (Value.string a_5.name),Ch.r a_5.x 63,Ch.r a_5.y 63,Ch.v (Value.bool a_5.half),Ch.r a_5.t 63,Ch.s 16 (List.map linkCh a_5.links)]∧List.map (fun(q:Rat)=>[Ch.r q 63]) qs=lR b qs_1∧qs.length=qs_1.length∧GoodArm a_5∧b≤1000000∧qs_1.length=a_5.links.length∧∃(a_6:Nat),∃(ps:List Rat),∃(b_1:Nat),∃(qs_2:List Rat),List.take qs_1.length (List.drop 0 (List.map (fun(q:Rat)=>[Ch.r q (clB b)]) (clampR a_5.links qs_1)))=lR a_6 ps∧List.take qs.length (List.drop 0 (List.map (fun(q:Rat)=>[Ch.r q b]) qs_1))=lR b_1 qs_2∧(ps.length≤1000000000∧qs_2.length≤1000000000)∧bif !decide (ps=qs_2) then K (AV.x false [Ch.v (Value.bool false)]) else ∃(a_7:ArmV),∃(n:Nat),∃(qs_3:List Rat),[Ch.v (Value.string a.name),Ch.r a.x 63,Ch.r a.y 63,Ch.v (Value.bool a.half),Ch.r a.t 63,Ch.s 16 (List.map linkCh a.links)]=[Ch.v (Value.string a_7.name),Ch.r a_7.x 63,Ch.r a_7.y 63,Ch.v (Value.bool a_7.half),Ch.r a_7.t 63,Ch.s 16 (List.map linkCh a_7.links)]∧List.take qs.length (List.drop 0 (List.map (fun(q:Rat)=>[Ch.r q b]) qs_1))=lR n qs_3∧(GoodArm a_7∧n≤1000000∧qs_3.length=a_7.links.length)∧((∀(i:Nat) (L:LinkV) (q:Rat),a_7.links[i]?=some L→qs_3[i]?=some q→L.lo≤q∧q≤L.hi)→(∃(x:CmX),(((GoodArm x.a∧x.qs.length=x.a.links.length)∧x.i≤x.qs.length)∧OfNat.ofNat 0=0)∧1=1∧ints k=ints k∧0=0∧0=0∧qs.length=x.qs.length∧Int.ofNat qs.length=Int.ofNat x.qs.length∧0=Int.ofNat x.i∧34=34∧a.name=x.a.name∧a.x=x.a.x∧63≤63∧a.y=x.a.y∧63≤63∧a.half=x.a.half∧a.t=x.a.t∧63≤63∧16=16∧List.map linkCh a.links=List.map linkCh x.a.links∧25=25∧3=3∧(List.map (fun(q:Rat)=>[Ch.r q b]) qs_1=mixR x.i x.qs∨RowLE (List.map (fun(q:Rat)=>[Ch.r q b]) qs_1) (mixR x.i x.qs))∧True)∧∀(x:CmX),(GoodArm x.a∧x.qs.length=x.a.links.length)∧x.i≤x.qs.length→OfNat.ofNat 0=0→bif decide (Int.ofNat x.i<Int.ofNat x.qs.length) then (0≤Int.ofNat x.i∧Int.ofNat x.i<Int.ofNat x.qs.length)∧∃(q:Rat),∃(n:Nat),ldE (mixR x.i x.qs) (0+(Int.ofNat x.i).toNat) 0 3=some [Ch.r q n]∧∃(l:List Int),ints k=ints l∧l.length*8≤140737488355328∧((l.length+1)*8≤140737488355328∧l.length+1≤9223372036854775807)∧((0≤bif false then if Int.ofNat (ints k).length>Int.ofNat x.i then Int.ofNat (ints k).length else Int.ofNat x.i else if Int.ofNat (ints k).length<Int.ofNat x.i then Int.ofNat (ints k).length else Int.ofNat x.i)∧(bif false then if Int.ofNat (ints k).length>Int.ofNat x.i then Int.ofNat (ints k).length else Int.ofNat x.i else if Int.ofNat (ints k).length<Int.ofNat x.i then Int.ofNat (ints k).length else Int.ofNat x.i)<Int.ofNat (l.length+1))∧∃(d:Int),ldE (List.take l.length (ints l)++[[Ch.v (Value.int IntKind.i64 0)]]) (0+(bif false then if Int.ofNat (ints k).length>Int.ofNat x.i then Int.ofNat (ints k).length else Int.ofNat x.i else if Int.ofNat (ints k).length<Int.ofNat x.i then Int.ofNat (ints k).length else Int.ofNat x.i).toNat) 0 1=some [Ch.v (Value.int IntKind.i64 d)]∧(-9223372036854775808≤d∧d<9223372036854775808)∧∀(q_1:Rat),n+63+1≤4294967296∧(0≤Int.ofNat x.i∧Int.ofNat x.i<Int.ofNat x.qs.length)∧0+(Int.ofNat x.i).toNat<(mixR x.i x.qs).length∧∃(x':CmX),(((GoodArm x'.a∧x'.qs.length=x'.a.links.length)∧x'.i≤x'.qs.length)∧OfNat.ofNat 0=0∧x'.qs.length-x'.i<x.qs.length-x.i)∧1=1∧ints k=ints k∧0=0∧0=0∧x.qs.length=x'.qs.length∧Int.ofNat x.qs.length=Int.ofNat x'.qs.length∧IntKind.i64.wrap (Int.ofNat x.i+1)=Int.ofNat x'.i∧34=34∧x.a.name=x'.a.name∧x.a.x=x'.a.x∧63≤63∧x.a.y=x'.a.y∧63≤63∧x.a.half=x'.a.half∧x.a.t=x'.a.t∧63≤63∧16=16∧List.map linkCh x.a.links=List.map linkCh x'.a.links∧25=25∧3=3∧((mixR x.i x.qs).set (0+(Int.ofNat x.i).toNat) [Ch.r (q+q_1) (n+63+1)]=mixR x'.i x'.qs∨RowLE ((mixR x.i x.qs).set (0+(Int.ofNat x.i).toNat) [Ch.r (q+q_1) (n+63+1)]) (mixR x'.i x'.qs))∧True else ∃(a:ArmV),∃(b:Nat),∃(qs:List Rat),[Ch.v (Value.string x.a.name),Ch.r x.a.x 63,Ch.r x.a.y 63,Ch.v (Value.bool x.a.half),Ch.r x.a.t 63,Ch.s 16 (List.map linkCh x.a.links)]=[Ch.v (Value.string a.name),Ch.r a.x 63,Ch.r a.y 63,Ch.v (Value.bool a.half),Ch.r a.t 63,Ch.s 16 (List.map linkCh a.links)]∧mixR x.i x.qs=lR b qs∧x.qs.length=qs.length∧GoodArm a∧b≤1000000∧qs.length=a.links.length∧∃(a_9:ArmV),∃(n:Nat),∃(qs_4:List Rat),[Ch.v (Value.string x.a.name),Ch.r x.a.x 63,Ch.r x.a.y 63,Ch.v (Value.bool x.a.half),Ch.r x.a.t 63,Ch.s 16 (List.map linkCh x.a.links)]=[Ch.v (Value.string a_9.name),Ch.r a_9.x 63,Ch.r a_9.y 63,Ch.v (Value.bool a_9.half),Ch.r a_9.t 63,Ch.s 16 (List.map linkCh a_9.links)]∧List.take qs.length (List.drop 0 (List.map (fun(q:Rat)=>[Ch.r q (clB b)]) (clampR a.links qs)))=lR n qs_4∧(GoodArm a_9∧n≤1000000∧qs_4.length=a_9.links.length)∧((∀(i:Nat) (L:LinkV) (q:Rat),a_9.links[i]?=some L→qs_4[i]?=some q→L.lo≤q∧q≤L.hi)→∃(a_11:ArmV),∃(n:Nat),∃(qs_5:List Rat),[Ch.v (Value.string x.a.name),Ch.r x.a.x 63,Ch.r x.a.y 63,Ch.v (Value.bool x.a.half),Ch.r x.a.t 63,Ch.s 16 (List.map linkCh x.a.links)]=[Ch.v (Value.string a_11.name),Ch.r a_11.x 63,Ch.r a_11.y 63,Ch.v (Value.bool a_11.half),Ch.r a_11.t 63,Ch.s 16 (List.map linkCh a_11.links)]∧List.take x.qs.length (List.drop 0 (List.map (fun(q:Rat)=>[Ch.r q b]) qs))=lR n qs_5∧(GoodArm a_11∧n≤1000000∧qs_5.length=a_11.links.length)∧((∀(i:Nat) (L:LinkV) (q:Rat),a_11.links[i]?=some L→qs_5[i]?=some q→L.lo≤q∧q≤L.hi)→∃(a_13:Nat),∃(ps:List Rat),∃(b_2:Nat),∃(qs_6:List Rat),List.take qs.length (List.drop 0 (List.map (fun(q:Rat)=>[Ch.r q (clB b)]) (clampR a.links qs)))=lR a_13 ps∧List.take x.qs.length (List.drop 0 (List.map (fun(q:Rat)=>[Ch.r q b]) qs))=lR b_2 qs_6∧(ps.length≤1000000000∧qs_6.length≤1000000000)∧K (AV.x false [Ch.v (Value.bool (decide (ps=qs_6)))]))∧(¬Fit a_11 qs_5→K (AV.x false [Ch.v (Value.bool true)])))∧(¬Fit a_9 qs_4→K (AV.x false [Ch.v (Value.bool false)])))∧(¬Fit a_7 qs_3→K (AV.x false [Ch.v (Value.bool false)]))) := by kernel_rfl
theorem maxR_le {a b c : Rat} (h1 : a ≤ c) (h2 : b ≤ c) : maxR a b ≤ c := by unfold maxR; split <;> grind
theorem maxR_ge1 {a b : Rat} : a ≤ maxR a b := by unfold maxR; split <;> grind
theorem clampQ_range {L : LinkV} (h : L.lo < L.hi) (q : Rat) : L.lo ≤ clampQ L q ∧ clampQ L q ≤ L.hi := by
 unfold clampQ
 exact ⟨maxR_ge1, maxR_le (Rat.le_of_lt h) minR_le1⟩
theorem clampQ_id {L : LinkV} {q : Rat} (h1 : L.lo ≤ q) (h2 : q ≤ L.hi) : clampQ L q = q := by
 unfold clampQ minR maxR
 split
 ·split <;> grind
 ·split <;> grind
theorem clampR_fit {a : ArmV} (ha : GoodArm a) (qs : List Rat) : Fit a (clampR a.links qs) := by
 intro i L r hL hr
 unfold clampR at hr
 simp only [List.getElem?_zipWith, hL] at hr
 cases hq : qs[i]? with
 | none => rw [hq] at hr; cases hr
 | some q =>
  rw [hq] at hr
  cases hr
  exact clampQ_range (ha.links L (List.mem_of_getElem? hL)).lim q
theorem clampR_id {a : ArmV} {qs : List Rat} (hl : qs.length = a.links.length) (hf : Fit a qs) : clampR a.links qs = qs := by
 apply List.ext_getElem?
 intro i
 unfold clampR
 simp only [List.getElem?_zipWith]
 cases hL : a.links[i]? with
 | none =>
  rw [List.getElem?_eq_none_iff] at hL
  rw [List.getElem?_eq_none (by omega)]
 | some L =>
  cases hq : qs[i]? with
  | none => rfl
  | some q =>
   have := hf i L q hL hq
   simp only
   rw [clampQ_id this.1 this.2]
theorem mixR_zero (qs : List Rat) : mixR 0 qs = lR 63 qs := by simp [mixR, lR]
theorem mixR_all (qs : List Rat) : mixR qs.length qs = lR 127 qs := by simp [mixR, lR]
theorem mixR_ld {qs : List Rat} {i : Nat} {q : Rat} (h : qs[i]? = some q) : ldE (mixR i qs) i 0 3 = some [.r q 63] := by
 have hi : i < qs.length := (List.getElem?_eq_some_iff.1 h).1
 have e : (mixR i qs)[i]? = some [Ch.r q 63] := by
  simp only [mixR, lR]
  rw [List.getElem?_append_right (by simp; omega)]
  simp only [List.length_map, List.length_take, List.getElem?_map, List.getElem?_drop]
  rw [show i + (i - min i qs.length) = i by omega, h]; rfl
 simp only [ldE, e]; rfl
theorem mixR_len (i : Nat) (qs : List Rat) : (mixR i qs).length = qs.length := by simp [mixR, lR]; omega
theorem mixR_set {qs : List Rat} {i : Nat} {q : Rat} (h : i < qs.length) : (mixR i qs).set i [Ch.r q 127] = mixR (i + 1) (qs.set i q) := by
 apply List.ext_getElem?
 intro j
 simp only [mixR, lR, List.getElem?_set, List.getElem?_append, List.length_append, List.length_map, List.length_take, List.length_drop, List.length_set, List.getElem?_map, List.getElem?_take, List.getElem?_drop]
 by_cases h1 : i = j
 ·subst h1
  rw [if_pos rfl, if_pos (by omega), if_pos (by omega), if_pos (by omega), if_pos rfl, if_pos h]; rfl
 ·rw [if_neg h1]
  by_cases h2 : j < i
  ·rw [if_pos (by omega), if_pos (by omega), if_pos (by omega), if_pos (by omega), if_neg h1]
  ·rw [if_neg (by omega), if_neg (by omega), if_neg (by omega)]
   rw [show i + (j - min i qs.length) = j by omega, show i + 1 + (j - min (i + 1) qs.length) = j by omega]
theorem g_aclamp (l m k : List Int) (hkr : ∀ n ∈ k, -9223372036854775808 ≤ n ∧ n < 9223372036854775808) (hl : l.length ≤ 9223372036854775807) (hm : m.length ≤ 9223372036854775807) (hk : (k.length + 1) * 8 ≤ 140737488355328) (K : AV → Prop) (hK : K (.x false [.v (.bool true)])) : Holds (goal_aclamp l m k K) := by
 refine ⟨?_⟩
 rw [goal_aclamp_vc]
 simp only [Int.ofNat_eq_natCast, true_and, and_true, Nat.zero_add, Nat.le_refl, true_implies]
 have e5 : sumLen (sampleV [3, 2]).links = mkRat 5 1 := by decide +kernel
 refine ⟨[3, 2], rfl, ⟨by simp, by simp⟩, sampleV [3, 2], rfl, sample_good (by simp) (by simp), by omega, ?_⟩
 rw [show (decide (sumLen (sampleV [3, 2]).links = mkRat 5 (Int.toNat 1))) = true from decide_eq_true e5]
 refine ⟨l, rfl, hl, fun a ha => ⟨a, m, rfl, rfl, MadeA.good ha, hm, fun qs hf hq => ?_⟩⟩
 have hg := MadeA.good ha
 have hn := hg.n
 have tk : ∀ (b : Nat) (qs : List Rat), List.take qs.length (List.drop 0 (List.map (fun q => [Ch.r q b]) qs)) = lR b qs := fun b qs => by rw [List.drop_zero, List.take_of_length_le (by rw [List.length_map]; exact Nat.le_refl _)]; rfl
 have tc : ∀ (b : Nat) (qs : List Rat), qs.length = a.links.length → List.take qs.length (List.drop 0 (List.map (fun q => [Ch.r q b]) (clampR a.links qs))) = lR b (clampR a.links qs) := fun b qs h => by
  rw [List.drop_zero, List.take_of_length_le (by simp [clampR, h])]; rfl
 refine ⟨a, 63, qs, rfl, rfl, rfl, hg, by omega, hq, _, _, _, _, tc _ qs hq, tk _ qs, ⟨by simp [clampR, hq]; omega, by omega⟩, ?_⟩
 rw [clampR_id hq hf, decide_eq_true rfl]
 refine ⟨a, _, _, rfl, tk _ qs, ⟨hg, by omega, hq⟩, fun _ => ⟨⟨⟨a, qs, 0⟩, ⟨⟨hg, hq⟩, by simp⟩, rfl, rfl, rfl, rfl, rfl, rfl, rfl, rfl, rfl, .inl (mixR_zero qs).symm⟩, fun x hx => bif_mk (fun hp => ?_) (fun hp => ?_)⟩, fun h => absurd hf h⟩
 ·obtain ⟨⟨hga, hxq⟩, hxi⟩ := hx
  have hlt : x.i < x.qs.length := by have := of_decide_eq_true hp; omega
  have hna := hga.n
  obtain ⟨q, hqi⟩ : ∃ q, x.qs[x.i]? = some q := ⟨_, List.getElem?_eq_getElem hlt⟩
  have hM : (bif false then if ((ints k).length : Int) > (x.i : Int) then ((ints k).length : Int) else (x.i : Int) else if ((ints k).length : Int) < (x.i : Int) then ((ints k).length : Int) else (x.i : Int)) = ((min k.length x.i : Nat) : Int) := by
   simp only [ints, List.length_map, cond_false]
   split <;> omega
  obtain ⟨d, hd, hdr⟩ : ∃ d, (k ++ [0])[min k.length x.i]? = some d ∧ -9223372036854775808 ≤ d ∧ d < 9223372036854775808 := by
   have hi : min k.length x.i < (k ++ [0]).length := by simp; omega
   refine ⟨_, List.getElem?_eq_getElem hi, ?_⟩
   have := List.getElem_mem hi
   rcases List.mem_append.1 this with h | h
   ·exact hkr _ h
   ·rw [List.mem_singleton.1 h]; omega
  refine ⟨by omega, q, 63, mixR_ld hqi, k, rfl, by omega, by omega, ?_⟩
  rw [hM]
  have ek : List.take k.length (ints k) ++ [[Ch.v (.int .i64 0)]] = ints (k ++ [0]) := by
   rw [List.take_of_length_le (by simp [ints])]; simp [ints]
  rw [ek]
  refine ⟨by omega, d, int_ld hd, hdr, fun r => ⟨by omega, by omega, by rw [mixR_len]; exact hlt, ⟨x.a, x.qs.set x.i (q + r), x.i + 1⟩, ⟨⟨⟨hga, by simp [hxq]⟩, by simp only [List.length_set]; omega⟩, by simp only [List.length_set]; omega⟩, by simp, by simp, by rw [w64 (by omega)]; simp, rfl, rfl, rfl, rfl, rfl, rfl, .inl ?_⟩⟩
  exact mixR_set hlt
 ·obtain ⟨⟨hga, hxq⟩, hxi⟩ := hx
  have he : x.i = x.qs.length := by have := of_decide_eq_false hp; omega
  rw [he, mixR_all]
  have hn := hga.n
  have hcl : (clampR x.a.links x.qs).length = x.a.links.length := by simp [clampR, hxq]
  refine ⟨x.a, 127, x.qs, rfl, rfl, rfl, hga, by omega, hxq, x.a, clB 127, clampR x.a.links x.qs, rfl, ?_, ⟨hga, by decide, hcl⟩, fun _ => ⟨x.a, 127, x.qs, rfl, ?_, ⟨hga, by omega, hxq⟩, fun hfx => ⟨clB 127, clampR x.a.links x.qs, 127, x.qs, ?_, ?_, ⟨by omega, by omega⟩, ?_⟩, fun _ => hK⟩, fun h => absurd (clampR_fit hga _) h⟩
  ·rw [List.drop_zero, List.take_of_length_le (by rw [List.length_map, hcl]; omega)]; rfl
  ·rw [List.drop_zero, List.take_of_length_le (by rw [List.length_map]; omega)]; rfl
  ·rw [List.drop_zero, List.take_of_length_le (by rw [List.length_map, hcl]; omega)]; rfl
  ·rw [List.drop_zero, List.take_of_length_le (by rw [List.length_map]; omega)]; rfl
  ·rw [clampR_id hxq hfx, decide_eq_true rfl]; exact hK
theorem spec_aclamp (l m k : List Int) (hl : l.length ≤ 9223372036854775807) (hm : m.length ≤ 9223372036854775807) (hk : k.length * 8 ≤ 140737488351232) (hkr : ∀ n ∈ k, -9223372036854775808 ≤ n ∧ n < 9223372036854775808) : Eng.Spec Tryd.prog tabG debT 5 [.x false [.s 1 (ints l)], .x false [.s 1 (ints m)], .x false [.s 1 (ints k)]] (fun av => av = .x false [.v (.bool true)]) :=
 spec_ofL T54ok mixed Tryd.func5 (by kernel_rfl) (by kernel_rfl) (by rfl) (g_aclamp l m k hkr hl hm (by omega) _ rfl)
end Go.Proofs
