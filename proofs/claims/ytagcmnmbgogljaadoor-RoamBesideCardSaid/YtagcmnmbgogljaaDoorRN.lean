/- roam: check, Number at one point, Value, Near; arm.Joints and the joint behind it; RoamNear. -/
import Derived.Test.YtagcmnmbgogljaaDoorA2
import Derived.Test.YtagcmnmbgogljaaDoorPB
/- roam: check, Number at one point, Value, Near; arm.Joints and the joint behind it; RoamNear. -/
namespace Go.Proofs
open Go Go.Eng
def halfR : Rat := ((1 : Int) : Rat) / ((2 : Int) : Rat)
def valV (s : Int) (L : LinkV) (k : Int) : Rat := L.lo + (L.hi - L.lo) * ((k : Rat) / (s : Rat))
def valR (a : ArmV) (s : Int) (ks : List Int) : List Rat := List.zipWith (valV s) a.links ks
def nearY (s : Int) (L : LinkV) (q : Rat) : Rat := halfR - (q - L.lo) / (L.hi - L.lo) * (s : Rat)
def nearV (s : Int) (L : LinkV) (q : Rat) : Int := -(nearY s L q).floor
def joCh (L : LinkV) : List Ch := [.i 75 true (linkCh L)]
def rowJ (l : List LinkV) : Blk := .row 60 1 (l.map joCh)
theorem jo_ld {l : List LinkV} {i : Nat} {L : LinkV} (h : l[i]? = some L) : ldE (l.map joCh) i 0 1 = some (joCh L) := by
 simp only [ldE, List.getElem?_map, h]; rfl
theorem half_two : halfR + halfR = 1 := by decide +kernel
def mtL : List (Nat × String × Nat) → MTab
 | [], _, _ => none
 | p :: l, t, n => bif t.beq p.1 && p.2.1 == n then some p.2.2 else mtL l t n
def mtV : List (Nat × String × Nat) := [(75, "Value", 93)]
noncomputable def mkTV (l : List (Nat × Ctr)) (m : List (Nat × CtrM)) (x : List (Nat × CtrX)) : Tabs := ⟨tbL Tryd.tyL, prL l, pmL m, pxL x, mtL mtV, itP Tryd.prog itAll, imAll⟩
theorem mtL_eq {P : Program} : ∀ {l : List (Nat × String × Nat)}, (∀ p ∈ l, methP P p.1 p.2.1 = some p.2.2) → ∀ t n f, mtL l t n = some f → methP P t n = some f
 | [], _, _, _, _, h => by cases h
 | p :: l, hl, t, n, f, h => by
  unfold mtL at h
  cases hb : t.beq p.1 && p.2.1 == n with
  | false => rw [hb] at h; exact mtL_eq (fun q hq => hl q (by simp [hq])) t n f h
  | true =>
   rw [hb] at h
   cases h
   simp only [Bool.and_eq_true, beq_iff_eq] at hb
   have := Nat.eq_of_beq_eq_true hb.1
   subst this
   rw [← hb.2]
   exact hl p (by simp)
theorem mtL_ok {P : Program} {l : List (Nat × String × Nat)} (h : ∀ p ∈ l, methP P p.1 p.2.1 = some p.2.2) : MethOK P (mtL l) := fun t name f hf v w => methP_ok P t name f (mtL_eq h t name f hf) v w
theorem mtV_ok : MethOK Tryd.prog (mtL mtV) := mtL_ok fun p hp => by
 simp only [mtV, List.mem_singleton] at hp
 subst hp
 kernel_rfl
theorem mkTVok {g : Nat} {tab : List Value} {l : List (Nat × Ctr)} {m : List (Nat × CtrM)} {x : List (Nat × CtrX)} (h : CtrsOK Tryd.prog g tab l) (hm : CtrMsOK Tryd.prog g tab m) (hx : CtrXsOK Tryd.prog x) : TabsOK Tryd.prog g tab (mkTV l m x) :=
 tok_of (mkTV.eq_1 l m x) Tryd.tb_ok (prL_ok h) (pmL_ok hm) (pxL_ok hx) mtV_ok (itP_ok Tryd.prog itAll) fun _ _ e j _ _ he hu => by rw [(Tryd.tb_ok e j he).und, hu]
def c_cI : List (Nat × CtrM) := (17, c_cloneI) :: M48
def L60r : List (Nat × Ctr) := L53
noncomputable def T60r : Tabs := mkTV L60r c_cI X4
theorem c_cIok : CtrMsOK Tryd.prog tabG debT c_cI := .cons ok_cloneI M48ok
theorem L60rok : CtrsOK Tryd.prog tabG debT L60r := L53ok
theorem T60rok : TabsOK Tryd.prog tabG debT T60r := mkTVok L60rok c_cIok X4ok
def ot_rMakeN : OT := fun _ => ([], [])
def goal_rMakeN (x : Int) (y : Int) (K : AV → Prop) : Prop := goalL T60r ot_rMakeN noL Tryd.f15 [iA .i64 x, iA .i64 y] K
theorem goal_rMakeN_vc (x : Int) (y : Int) (K : AV → Prop) : goal_rMakeN x y K = ((-9223372036854775808≤x∧x<9223372036854775808)∧(-9223372036854775808≤y∧y<9223372036854775808)∧128≤4294967296∧((↑y:Rat)≠OfNat.ofNat 0→K (AV.t [(true,[Ch.r ((↑x:Rat)/(↑y:Rat)) 128]),(false,[Ch.v (Value.int IntKind.i64 0)])]))∧((↑y:Rat)=OfNat.ofNat 0→K (AV.t [(true,[Ch.v (Value.bool false),Ch.v (Value.string (ByteArray.mk (Array.mk []))),Ch.v (Value.string (ByteArray.mk (Array.mk [])))]),(false,[Ch.v (Value.int IntKind.i64 12)])]))) := by kernel_rfl
theorem g_rMakeN (x : Int) (y : Int) (hc : ((-9223372036854775808 ≤ x ∧ x < 9223372036854775808) ∧ -9223372036854775808 ≤ y ∧ y < 9223372036854775808) ∧ ((y : Rat) ≠ 0)) (K : AV → Prop) (hK : K (.t [(true, [.r ((x : Rat) / (y : Rat)) 128]), (false, [.v (.int .i64 0)])])) : Holds (goal_rMakeN x y K) := by
 refine ⟨?_⟩
 rw [goal_rMakeN_vc]
 try simp only [Int.ofNat_eq_natCast, true_and, and_true, Nat.zero_add, Nat.le_refl, true_implies, true_or, or_true]
 exact ⟨hc.1.1, hc.1.2, by omega, fun _ => hK, fun h => absurd h hc.2⟩
def c_rMakeN : Ctr := fun as0 => match as0 with
 | [.x false [.v (.int .i64 x)], .x false [.v (.int .i64 y)]] => some fun K => (((-9223372036854775808 ≤ x ∧ x < 9223372036854775808) ∧ -9223372036854775808 ≤ y ∧ y < 9223372036854775808) ∧ ((y : Rat) ≠ 0)) ∧ (K (.t [(true, [.r ((x : Rat) / (y : Rat)) 128]), (false, [.v (.int .i64 0)])]))
 | _ => none
theorem ok_rMakeN : CtrOK Tryd.prog tabG debT 15 c_rMakeN := by
 refine ⟨enters Tryd.func15 (by kernel_rfl), fun l T hT K hK => ?_⟩
 unfold c_rMakeN at hT
 split at hT
 ·cases hT
  obtain ⟨hc, hK⟩ := hK
  exact spec_ofL T60rok mixed Tryd.func15 (by kernel_rfl) (by kernel_rfl) (by rfl) (g_rMakeN _ _ hc K hK)
 ·cases hT
def L61r : List (Nat × Ctr) := (15, c_rMakeN) :: L60r
noncomputable def T61r : Tabs := mkTV L61r c_cI X4
theorem L61rok : CtrsOK Tryd.prog tabG debT L61r := .cons ok_rMakeN L60rok
theorem T61rok : TabsOK Tryd.prog tabG debT T61r := mkTVok L61rok c_cIok X4ok
def ot_roCheck : OT := fun _ => ([], [])
def goal_roCheck (a : ArmV) (s : Int) (K : AV → Prop) : Prop := goalL T61r ot_roCheck noL Tryd.f13 [armA a, iA .i64 s] K
theorem goal_roCheck_vc (a : ArmV) (s : Int) (K : AV → Prop) : goal_roCheck a s K = (∃(a_1:ArmV),[Ch.v (Value.string a.name),Ch.r a.x 63,Ch.r a.y 63,Ch.v (Value.bool a.half),Ch.r a.t 63,Ch.s 16 (List.map linkCh a.links)]=[Ch.v (Value.string a_1.name),Ch.r a_1.x 63,Ch.r a_1.y 63,Ch.v (Value.bool a_1.half),Ch.r a_1.t 63,Ch.s 16 (List.map linkCh a_1.links)]∧GoodArm a_1∧bif decide (s<1) then K (AV.x false [Ch.v (Value.int IntKind.i64 1)]) else bif decide (s>12) then K (AV.x false [Ch.v (Value.int IntKind.i64 1)]) else K (AV.x false [Ch.v (Value.int IntKind.i64 0)])) := by kernel_rfl
theorem g_roCheck (a : ArmV) (s : Int) (hc : (GoodArm a) ∧ (1 ≤ s ∧ s ≤ 12)) (K : AV → Prop) (hK : K (iA .i64 0)) : Holds (goal_roCheck a s K) := by
 refine ⟨?_⟩
 rw [goal_roCheck_vc]
 try simp only [Int.ofNat_eq_natCast, true_and, and_true, Nat.zero_add, Nat.le_refl, true_implies, true_or, or_true]
 exact ⟨a, rfl, hc.1, bif_mk (fun h => by have := of_decide_eq_true h; omega) (fun _ => bif_mk (fun h => by have := of_decide_eq_true h; omega) (fun _ => hK))⟩
def c_roCheck : Ctr := fun as0 => match as0 with
 | [.x true xs, .x false [.v (.int .i64 s)]] => some fun K => ∃ (a : ArmV), xs = armCh a ∧ ((GoodArm a) ∧ (1 ≤ s ∧ s ≤ 12)) ∧ (K (iA .i64 0))
 | _ => none
theorem ok_roCheck : CtrOK Tryd.prog tabG debT 13 c_roCheck := by
 refine ⟨enters Tryd.func13 (by kernel_rfl), fun l T hT K hK => ?_⟩
 unfold c_roCheck at hT
 split at hT
 ·cases hT
  obtain ⟨a, rfl, hc, hK⟩ := hK
  exact spec_ofL T61rok mixed Tryd.func13 (by kernel_rfl) (by kernel_rfl) (by rfl) (g_roCheck _ _ hc K hK)
 ·cases hT
def L62r : List (Nat × Ctr) := (13, c_roCheck) :: L61r
noncomputable def T62r : Tabs := mkTV L62r c_cI X4
theorem L62rok : CtrsOK Tryd.prog tabG debT L62r := .cons ok_roCheck L61rok
theorem T62rok : TabsOK Tryd.prog tabG debT T62r := mkTVok L62rok c_cIok X4ok
def ot_roNum : OT := fun _ => ([], [])
def goal_roNum  (K : AV → Prop) : Prop := goalL T62r ot_roNum (fun _ => .unroll 3) Tryd.f4 [iA .i64 2, iA .i64 3, .x false [.s 1 (ints [1, 2])]] K
theorem goal_roNum_vc (K : AV → Prop) : goal_roNum K = (((0:Int)≤0∧(0:Int)<2)∧∃(d:Int),some [Ch.v (Value.int IntKind.i64 1)]=some [Ch.v (Value.int IntKind.i64 d)]∧bif decide (d<0) then K (AV.t [(false,[Ch.v (Value.int IntKind.i64 0)]),(false,[Ch.v (Value.int IntKind.i64 17)])]) else bif decide (d>3) then K (AV.t [(false,[Ch.v (Value.int IntKind.i64 0)]),(false,[Ch.v (Value.int IntKind.i64 17)])]) else ((0:Int)≤1∧(1:Int)<2)∧∃(d_1:Int),some [Ch.v (Value.int IntKind.i64 2)]=some [Ch.v (Value.int IntKind.i64 d_1)]∧bif decide (d_1<0) then K (AV.t [(false,[Ch.v (Value.int IntKind.i64 0)]),(false,[Ch.v (Value.int IntKind.i64 17)])]) else bif decide (d_1>3) then K (AV.t [(false,[Ch.v (Value.int IntKind.i64 0)]),(false,[Ch.v (Value.int IntKind.i64 17)])]) else K (AV.t [(false,[Ch.v (Value.int IntKind.i64 (IntKind.i64.wrap (IntKind.i64.wrap (IntKind.i64.wrap (0+d)*4)+d_1)))]),(false,[Ch.v (Value.int IntKind.i64 0)])])) := by kernel_rfl
theorem g_roNum  (hc : True) (K : AV → Prop) (hK : K (.t [(false, [.v (.int .i64 6)]), (false, [.v (.int .i64 0)])])) : Holds (goal_roNum  K) := by
 refine ⟨?_⟩
 rw [goal_roNum_vc]
 try simp only [Int.ofNat_eq_natCast, true_and, and_true, Nat.zero_add, Nat.le_refl, true_implies, true_or, or_true]
 exact ⟨by omega, 1, rfl, bif_mk (fun h => by simp at h) (fun _ => bif_mk (fun h => by simp at h) (fun _ => ⟨by omega, 2, rfl, bif_mk (fun h => by simp at h) (fun _ => bif_mk (fun h => by simp at h) (fun _ => hK))⟩))⟩
def c_roNum : Ctr := fun as0 => match as0 with
 | [.x false [.v (.int .i64 2)], .x false [.v (.int .i64 3)], .x false [.s 1 [[.v (.int .i64 1)], [.v (.int .i64 2)]]]] => some fun K => (True) ∧ (K (.t [(false, [.v (.int .i64 6)]), (false, [.v (.int .i64 0)])]))
 | _ => none
theorem ok_roNum : CtrOK Tryd.prog tabG debT 4 c_roNum := by
 refine ⟨enters Tryd.func4 (by kernel_rfl), fun l T hT K hK => ?_⟩
 unfold c_roNum at hT
 split at hT
 ·cases hT
  obtain ⟨hc, hK⟩ := hK
  exact spec_ofL T62rok mixed Tryd.func4 (by kernel_rfl) (by kernel_rfl) (by rfl) (g_roNum  hc K hK)
 ·cases hT
def L63r : List (Nat × Ctr) := (4, c_roNum) :: L62r
noncomputable def T63r : Tabs := mkTV L63r c_cI X4
theorem L63rok : CtrsOK Tryd.prog tabG debT L63r := .cons ok_roNum L62rok
theorem T63rok : TabsOK Tryd.prog tabG debT T63r := mkTVok L63rok c_cIok X4ok
def ot_aJoints : OT := fun _ => ([], [])
def goal_aJoints (a : ArmV) (K : AV → Prop) : Prop := goalL T63r ot_aJoints (fun _ => .inv ⟨Nat, fun i => ⟨[(5, .x false [.w 500 0 i]), (14, .x false [.s 16 (a.links.map linkCh)]), (15, iA .i64 a.links.length), (16, iA .i64 i)], [(500, rowJ (a.links.take i))]⟩, fun i => i ≤ a.links.length, fun i => a.links.length - i, fun _ => 0⟩) Tryd.f14 [armA a] K
theorem goal_aJoints_vc (a : ArmV) (K : AV → Prop) : goal_aJoints a K = (∃(a_1:ArmV),[Ch.v (Value.string a.name),Ch.r a.x 63,Ch.r a.y 63,Ch.v (Value.bool a.half),Ch.r a.t 63,Ch.s 16 (List.map linkCh a.links)]=[Ch.v (Value.string a_1.name),Ch.r a_1.x 63,Ch.r a_1.y 63,Ch.v (Value.bool a_1.half),Ch.r a_1.t 63,Ch.s 16 (List.map linkCh a_1.links)]∧GoodArm a_1∧(∃(x:Nat),(x≤a.links.length∧OfNat.ofNat 0=0)∧Value.slice none 0 0=Value.slice none 0 0∧0=0∧x=0∧16=16∧List.map linkCh a.links=List.map linkCh a.links∧Int.ofNat (List.map linkCh a.links).length=Int.ofNat a.links.length∧0=Int.ofNat x∧List.map joCh (List.take x a.links)=[]∧True)∧∀(x:Nat),x≤a.links.length→OfNat.ofNat 0=0→bif decide (Int.ofNat x<Int.ofNat a.links.length) then (0≤Int.ofNat x∧Int.ofNat x<Int.ofNat (List.map linkCh a.links).length)∧∃(q:Rat),∃(n:Nat),∃(q_1:Rat),∃(n_1:Nat),∃(q_2:Rat),∃(n_2:Nat),∃(q_3:Rat),∃(n_3:Nat),∃(q_4:Rat),∃(n_4:Nat),∃(ys:List (List Ch)),ldE (List.map linkCh a.links) (Int.ofNat x).toNat 0 16=some [Ch.r q n,Ch.r q_1 n_1,Ch.r q_2 n_2,Ch.r q_3 n_3,Ch.r q_4 n_4,Ch.s 6 ys]∧((x+1)*16≤140737488355328∧x+1≤9223372036854775807)∧∃(x':Nat),(x'≤a.links.length∧OfNat.ofNat 0=0∧a.links.length-x'<a.links.length-x)∧0=0∧x+1=x'∧16=16∧List.map linkCh a.links=List.map linkCh a.links∧Int.ofNat a.links.length=Int.ofNat a.links.length∧IntKind.i64.wrap (Int.ofNat x+1)=Int.ofNat x'∧60=60∧1=1∧(List.take x (List.map joCh (List.take x a.links))++[[Ch.i 75 true [Ch.r q n,Ch.r q_1 n_1,Ch.r q_2 n_2,Ch.r q_3 n_3,Ch.r q_4 n_4,Ch.s 6 ys]]]=List.map joCh (List.take x' a.links)∨RowLE (List.take x (List.map joCh (List.take x a.links))++[[Ch.i 75 true [Ch.r q n,Ch.r q_1 n_1,Ch.r q_2 n_2,Ch.r q_3 n_3,Ch.r q_4 n_4,Ch.s 6 ys]]]) (List.map joCh (List.take x' a.links)))∧True else K (AV.t [(false,[Ch.s 1 (List.take x (List.drop 0 (List.map joCh (List.take x a.links))))]),(false,[Ch.v (Value.int IntKind.i64 0)])])) := by kernel_rfl
theorem g_aJoints (a : ArmV) (hc : (GoodArm a)) (K : AV → Prop) (hK : K (.t [(false, [.s 1 (a.links.map joCh)]), (false, [.v (.int .i64 0)])])) : Holds (goal_aJoints a K) := by
 refine ⟨?_⟩
 rw [goal_aJoints_vc]
 try simp only [Int.ofNat_eq_natCast, true_and, and_true, Nat.zero_add, Nat.le_refl, true_implies, true_or, or_true]
 have hn := hc.n
 simp only [List.length_map]
 refine ⟨a, rfl, hc, ⟨0, by omega, rfl, trivial, rfl, rfl⟩, fun x hx => bif_mk (fun hp => ?_) (fun hp => ?_)⟩
 ·have hp : x < a.links.length := by have := of_decide_eq_true hp; omega
  obtain ⟨L, hL⟩ : ∃ L, a.links[x]? = some L := ⟨_, List.getElem?_eq_getElem hp⟩
  refine ⟨by omega, _, _, _, _, _, _, _, _, _, _, _, link_ld (by simpa using hL), by omega, x + 1, ⟨by omega, by omega⟩, rfl, by rw [w64 (by omega)]; simp, .inl ?_⟩
  rw [List.take_of_length_le (by rw [List.length_map, List.length_take]; omega), List.take_add_one, hL, List.map_append]
  rfl
 ·have hp : x = a.links.length := by have := of_decide_eq_false hp; omega
  subst hp
  rw [List.drop_zero, List.take_of_length_le (l := List.map joCh _) (by rw [List.length_map, List.length_take]; omega), List.take_length]
  exact hK
def c_aJoints : Ctr := fun as0 => match as0 with
 | [.x true xs] => some fun K => ∃ (a : ArmV), xs = armCh a ∧ ((GoodArm a)) ∧ (K (.t [(false, [.s 1 (a.links.map joCh)]), (false, [.v (.int .i64 0)])]))
 | _ => none
theorem ok_aJoints : CtrOK Tryd.prog tabG debT 14 c_aJoints := by
 refine ⟨enters Tryd.func14 (by kernel_rfl), fun l T hT K hK => ?_⟩
 unfold c_aJoints at hT
 split at hT
 ·cases hT
  obtain ⟨a, rfl, hc, hK⟩ := hK
  exact spec_ofL T63rok mixed Tryd.func14 (by kernel_rfl) (by kernel_rfl) (by rfl) (g_aJoints _ hc K hK)
 ·cases hT
def L64r : List (Nat × Ctr) := (14, c_aJoints) :: L63r
noncomputable def T64r : Tabs := mkTV L64r c_cI X4
theorem L64rok : CtrsOK Tryd.prog tabG debT L64r := .cons ok_aJoints L63rok
theorem T64rok : TabsOK Tryd.prog tabG debT T64r := mkTVok L64rok c_cIok X4ok
def ot_hValue : OT := fun id => bif id.beq 1 then ([0, 1, 2, 3, 4, 5, 6, 7, 8, 10, 9, 11, 12, 13], [[], [0], [1, 0], [], [3], [4, 3], [], [6], [7, 6], [5, 4, 3, 8, 7, 6], [], [9, 5, 4, 3, 8, 7, 6, 10], [2, 1, 0, 11, 9, 5, 4, 3, 8, 7, 6, 10], [12, 2, 1, 0, 11, 9, 5, 4, 3, 8, 7, 6, 10]]) else ([], [])
def goal_hValue (L : LinkV) (q : Rat) (b : Nat) (K : AV → Prop) : Prop := goalL T64r ot_hValue noL Tryd.f93 [.x true (linkCh L), rA q b] K
theorem goal_hValue_vc (L : LinkV) (q : Rat) (b : Nat) (K : AV → Prop) : goal_hValue L q b K = (127≤4294967296∧127+b≤4294967296∧63+(127+b)+1≤4294967296∧K (AV.x true [Ch.r (L.lo+(L.hi-L.lo)*q) (63+(127+b)+1)])) := by kernel_rfl
theorem g_hValue (L : LinkV) (q : Rat) (b : Nat) (hc : (b ≤ 1000000)) (K : AV → Prop) (hK : K (rA (L.lo + (L.hi - L.lo) * q) (63 + (63 + 63 + 1 + b) + 1))) : Holds (goal_hValue L q b K) := by
 refine ⟨?_⟩
 rw [goal_hValue_vc]
 try simp only [Int.ofNat_eq_natCast, true_and, and_true, Nat.zero_add, Nat.le_refl, true_implies, true_or, or_true]
 exact ⟨by omega, by omega, by omega, hK⟩
def c_hValue : Ctr := fun as0 => match as0 with
 | [.x true xs, .x true [.r q b]] => some fun K => ∃ (L : LinkV), xs = linkCh L ∧ ((b ≤ 1000000)) ∧ (K (rA (L.lo + (L.hi - L.lo) * q) (63 + (63 + 63 + 1 + b) + 1)))
 | _ => none
theorem ok_hValue : CtrOK Tryd.prog tabG debT 93 c_hValue := by
 refine ⟨enters Tryd.func93 (by kernel_rfl), fun l T hT K hK => ?_⟩
 unfold c_hValue at hT
 split at hT
 ·cases hT
  obtain ⟨L, rfl, hc, hK⟩ := hK
  exact spec_ofL T64rok mixed Tryd.func93 (by kernel_rfl) (by kernel_rfl) (by rfl) (g_hValue _ _ _ hc K hK)
 ·cases hT
def L65r : List (Nat × Ctr) := (93, c_hValue) :: L64r
noncomputable def T65r : Tabs := mkTV L65r c_cI X4
theorem L65rok : CtrsOK Tryd.prog tabG debT L65r := .cons ok_hValue L64rok
end Go.Proofs
/- roam: Value, Near; RoamNear. -/
namespace Go.Proofs
open Go Go.Eng
theorem specM_plain {P : Program} {g : Nat} {tab : List Value} {f : Nat} {c : Ctr} (hc : CtrOK P g tab f c) {as0 : List AV} {H : HP} {K : KK} {d : Nat} (h : callA (prL [(f, c)]) (fun _ _ _ _ => none) f d as0 H K) : SpecM P g tab f as0 H K := fun w0 M ρ w vals hg ht hs ha => by
 subst hg ht
 exact (callA_sound (prL_ok (.cons hc .nil)) (PmOK.mk (fun _ _ _ _ _ (h : none = some _) => nomatch h) (fun _ _ _ _ _ (h : none = some _) => nomatch h)) hs ha h).2
theorem ints_ld {l : List Int} {i : Nat} {k : Int} (h : l[i]? = some k) : ldE (ints l) i 0 1 = some [.v (.int .i64 k)] := by
 simp only [ldE, ints, List.getElem?_map, h]; rfl
def cm_hValue : CtrM := fun as0 H _ => match as0 with
 | [.x true ds, .x true [.r q b]] => some fun K => ∃ L, ds = linkCh L ∧ b ≤ 1000000 ∧ K (rA (L.lo + (L.hi - L.lo) * q) (63 + (63 + 63 + 1 + b) + 1)) H
 | _ => none
def M65r : List (Nat × CtrM) := (93, cm_hValue) :: c_cI
noncomputable def T65s : Tabs := mkTV L65r M65r X4
theorem okm_hValue : CtrMOK Tryd.prog tabG debT 93 cm_hValue := by
 refine ⟨ok_hValue.enter, fun l H d T hT K hK => ?_⟩
 unfold cm_hValue at hT
 split at hT
 ·cases hT
  obtain ⟨L, rfl, hc, hK⟩ := hK
  exact specM_plain ok_hValue (d := 0) ⟨L, rfl, hc, hK⟩
 ·cases hT
theorem M65rok : CtrMsOK Tryd.prog tabG debT M65r := .cons okm_hValue c_cIok
theorem T65sok : TabsOK Tryd.prog tabG debT T65s := mkTVok L65rok M65rok X4ok
def ot_roValue : OT := fun id => bif id.beq 16 then ([0, 1, 2, 3, 4, 5, 6, 7, 8, 9], [[], [], [], [1, 2], [3, 1, 2], [], [4, 3, 1, 2, 5], [6, 4, 3, 1, 2, 5], [0, 7, 6, 4, 3, 1, 2, 5], [8, 0, 7, 6, 4, 3, 1, 2, 5]]) else ([], [])
def goal_roValue (a : ArmV) (s : Int) (ks : List Int) (K : AV → Prop) : Prop := goalL T65s ot_roValue (fun _ => .inv ⟨Nat, fun i => ⟨[(1, iA .i64 s), (2, .x false [.s 1 (ints ks)]), (9, .x false [.s 1 (a.links.map joCh)]), (11, .x false [.w 500 0 i]), (36, .x false [.s 1 (ints ks)]), (37, iA .i64 ks.length), (38, iA .i64 i)], [(500, rowR 319 ((valR a s ks).take i))]⟩, fun i => i ≤ ks.length, fun i => ks.length - i, fun _ => 0⟩) Tryd.f8 [armA a, iA .i64 s, .x false [.s 1 (ints ks)]] K
theorem goal_roValue_vc (a : ArmV) (s : Int) (ks : List Int) (K : AV → Prop) : goal_roValue a s ks K = (∃(a_1:ArmV),[Ch.v (Value.string a.name),Ch.r a.x 63,Ch.r a.y 63,Ch.v (Value.bool a.half),Ch.r a.t 63,Ch.s 16 (List.map linkCh a.links)]=[Ch.v (Value.string a_1.name),Ch.r a_1.x 63,Ch.r a_1.y 63,Ch.v (Value.bool a_1.half),Ch.r a_1.t 63,Ch.s 16 (List.map linkCh a_1.links)]∧(GoodArm a_1∧1≤s∧s≤12)∧bif Int.ofNat (ints ks).length != Int.ofNat (List.map linkCh a.links).length then K (AV.t [(false,[Ch.v (Value.slice none 0 0)]),(false,[Ch.v (Value.int IntKind.i64 1)])]) else ∃(a_2:ArmV),[Ch.v (Value.string a.name),Ch.r a.x 63,Ch.r a.y 63,Ch.v (Value.bool a.half),Ch.r a.t 63,Ch.s 16 (List.map linkCh a.links)]=[Ch.v (Value.string a_2.name),Ch.r a_2.x 63,Ch.r a_2.y 63,Ch.v (Value.bool a_2.half),Ch.r a_2.t 63,Ch.s 16 (List.map linkCh a_2.links)]∧GoodArm a_2∧(∃(x:Nat),(x≤ks.length∧OfNat.ofNat 0=0)∧s=s∧1=1∧ints ks=ints ks∧1=1∧List.map joCh a_2.links=List.map joCh a.links∧Value.slice none 0 0=Value.slice none 0 0∧0=0∧x=0∧1=1∧ints ks=ints ks∧Int.ofNat (ints ks).length=Int.ofNat ks.length∧0=Int.ofNat x∧List.map (fun(q:Rat)=>[Ch.r q 319]) (List.take x (valR a s ks))=[]∧True)∧∀(x:Nat),x≤ks.length→OfNat.ofNat 0=0→bif decide (Int.ofNat x<Int.ofNat ks.length) then (0≤Int.ofNat x∧Int.ofNat x<Int.ofNat (ints ks).length)∧∃(d:Int),ldE (ints ks) (Int.ofNat x).toNat 0 1=some [Ch.v (Value.int IntKind.i64 d)]∧bif decide (d<0) then K (AV.t [(false,[Ch.v (Value.slice none 0 0)]),(false,[Ch.v (Value.int IntKind.i64 17)])]) else bif decide (d>s) then K (AV.t [(false,[Ch.v (Value.slice none 0 0)]),(false,[Ch.v (Value.int IntKind.i64 17)])]) else (((-9223372036854775808≤d∧d<9223372036854775808)∧ -9223372036854775808≤s∧s<9223372036854775808)∧(↑s:Rat)≠OfNat.ofNat 0)∧(0≤Int.ofNat x∧Int.ofNat x<Int.ofNat (List.map joCh a.links).length)∧∃(ds:List Ch),ldE (List.map joCh a.links) (Int.ofNat x).toNat 0 1=some [Ch.i 75 true ds]∧∃(L:LinkV),ds=[Ch.r L.len 63,Ch.r L.lo 63,Ch.r L.hi 63,Ch.r L.sp 63,Ch.r L.br 63,Ch.s 6 (List.map vecCh L.shape)]∧128≤1000000∧((x+1)*40≤140737488355328∧x+1≤9223372036854775807)∧∃(x':Nat),(x'≤ks.length∧OfNat.ofNat 0=0∧ks.length-x'<ks.length-x)∧s=s∧1=1∧ints ks=ints ks∧1=1∧List.map joCh a.links=List.map joCh a.links∧0=0∧x+1=x'∧1=1∧ints ks=ints ks∧Int.ofNat ks.length=Int.ofNat ks.length∧IntKind.i64.wrap (Int.ofNat x+1)=Int.ofNat x'∧27=27∧3=3∧(List.take x (List.map (fun(q:Rat)=>[Ch.r q 319]) (List.take x (valR a s ks)))++[[Ch.r (L.lo+(L.hi-L.lo)*((↑d:Rat)/(↑s:Rat))) 319]]=List.map (fun(q:Rat)=>[Ch.r q 319]) (List.take x' (valR a s ks))∨RowLE (List.take x (List.map (fun(q:Rat)=>[Ch.r q 319]) (List.take x (valR a s ks)))++[[Ch.r (L.lo+(L.hi-L.lo)*((↑d:Rat)/(↑s:Rat))) 319]]) (List.map (fun(q:Rat)=>[Ch.r q 319]) (List.take x' (valR a s ks))))∧True else K (AV.t [(false,[Ch.s 3 (List.take x (List.drop 0 (List.map (fun(q:Rat)=>[Ch.r q 319]) (List.take x (valR a s ks)))))]),(false,[Ch.v (Value.int IntKind.i64 0)])])) := by kernel_rfl
theorem g_roValue (a : ArmV) (s : Int) (ks : List Int) (hc : (GoodArm a) ∧ (1 ≤ s ∧ s ≤ 12) ∧ (ks.length = a.links.length ∧ ∀ k ∈ ks, 0 ≤ k ∧ k ≤ s)) (K : AV → Prop) (hK : K (.t [(false, [.s 3 (lR 319 (valR a s ks))]), (false, [.v (.int .i64 0)])])) : Holds (goal_roValue a s ks K) := by
 refine ⟨?_⟩
 rw [goal_roValue_vc]
 try simp only [Int.ofNat_eq_natCast, true_and, and_true, Nat.zero_add, Nat.le_refl, true_implies, true_or, or_true]
 obtain ⟨hg, ⟨s1, s2⟩, hl, hks⟩ := hc
 have hn := hg.n
 have lv : (valR a s ks).length = ks.length := by simp [valR, hl]
 simp only [List.length_map, ints_len]
 refine ⟨a, rfl, ⟨hg, s1, s2⟩, bif_mk (fun h => by simp [hl] at h) (fun _ => ⟨a, rfl, hg, ⟨0, by omega, rfl, rfl, trivial, rfl, rfl⟩, fun x hx => bif_mk (fun hp => ?_) (fun hp => ?_)⟩)⟩
 ·have hp : x < ks.length := by have := of_decide_eq_true hp; omega
  obtain ⟨k, hk⟩ : ∃ k, ks[x]? = some k := ⟨_, List.getElem?_eq_getElem hp⟩
  have hkb := hks k (List.mem_of_getElem? hk)
  obtain ⟨L, hL⟩ : ∃ L, a.links[x]? = some L := ⟨_, List.getElem?_eq_getElem (by omega)⟩
  have hv : (valR a s ks)[x]? = some (valV s L k) := by simp [valR, List.getElem?_zipWith, hL, hk]
  refine ⟨by omega, k, ints_ld (by simpa using hk), bif_mk (fun h => by have := of_decide_eq_true h; omega) (fun _ => bif_mk (fun h => by have := of_decide_eq_true h; omega) (fun _ => ⟨⟨by omega, ?_⟩, by omega, _, jo_ld (by simpa using hL), L, rfl, by omega, by omega, x + 1, ⟨by omega, by omega⟩, rfl, by rw [w64 (by omega)]; simp, .inl ?_⟩))⟩
  ·intro h
   have h2 : (0 : Rat) < ((s : Int) : Rat) := Rat.intCast_pos.2 (by omega)
   grind
  ·rw [List.take_of_length_le (by rw [List.length_map, List.length_take]; omega), List.take_add_one, hv, List.map_append]
   rfl
 ·have hp : x = ks.length := by have := of_decide_eq_false hp; omega
  subst hp
  rw [List.drop_zero, List.take_of_length_le (by rw [List.length_map, List.length_take]; omega), List.take_of_length_le (by omega)]
  exact hK
def c_roValue : Ctr := fun as0 => match as0 with
 | [.x true xs, .x false [.v (.int .i64 s)], .x false [.s 1 ys]] => some fun K => ∃ (a : ArmV) (ks : List Int), xs = armCh a ∧ ys = ints ks ∧ ((GoodArm a) ∧ (1 ≤ s ∧ s ≤ 12) ∧ (ks.length = a.links.length ∧ ∀ k ∈ ks, 0 ≤ k ∧ k ≤ s)) ∧ (K (.t [(false, [.s 3 (lR 319 (valR a s ks))]), (false, [.v (.int .i64 0)])]))
 | _ => none
theorem ok_roValue : CtrOK Tryd.prog tabG debT 8 c_roValue := by
 refine ⟨enters Tryd.func8 (by kernel_rfl), fun l T hT K hK => ?_⟩
 unfold c_roValue at hT
 split at hT
 ·cases hT
  obtain ⟨a, ks, rfl, rfl, hc, hK⟩ := hK
  exact spec_ofL T65sok mixed Tryd.func8 (by kernel_rfl) (by kernel_rfl) (by rfl) (g_roValue _ _ _ hc K hK)
 ·cases hT
def L66r : List (Nat × Ctr) := (8, c_roValue) :: L65r
theorem L66rok : CtrsOK Tryd.prog tabG debT L66r := .cons ok_roValue L65rok
def L67r : List (Nat × Ctr) := L66r
noncomputable def T67r : Tabs := mkTV L67r M65r X4
theorem L67rok : CtrsOK Tryd.prog tabG debT L67r := L66rok
theorem T67rok : TabsOK Tryd.prog tabG debT T67r := mkTVok L67rok M65rok X4ok
end Go.Proofs
/- RoamNear. -/
namespace Go.Proofs
open Go Go.Eng
def L68r : List (Nat × Ctr) := L67r
noncomputable def T68r : Tabs := mkTV L68r M65r X4
end Go.Proofs
