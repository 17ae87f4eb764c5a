/- Ways: plain laws. -/
import Derived.Test.YtglebancgilfdaaGreatDoorE4
import Derived.Test.YtglebancgilfdaaGreatDoorPl
import Derived.Test.YtglebancgilfdaaGreatDoorR1
import Derived.Test.YtglebancgilfdaaGreatDoorAJ
open Int renaming ofNat → Za, ofNat_eq_natCast → Zm
open List renaming getElem?_eq_getElem → Zb, map → Zd, drop → Zg, take → Zh, take_of_length_le → Zj, mem_of_getElem? → Zl, drop_zero → Zo
open ByteArray renaming mk → Zc
open Go.IntKind renaming i64 → Ze
open Array renaming mk → Zf
open Go.Value renaming string → Zi, bool → Zn
open Go.Eng.Ch renaming r → Zk, v → Zp
/- Ways: plain laws. -/
namespace Go.Proofs
open Go Go.Eng
end Go.Proofs
/- How long a way is. -/
namespace Go.Proofs
open Go Go.Eng
def dst : List Rat → List Rat → Rat
 | p :: ps, q :: qs => absR (q - p) + dst ps qs
 | _, _ => 0
def meas : List (List Rat) → Rat
 | x :: y :: r => dst x y + meas (y :: r)
 | _ => 0
end Go.Proofs
/- short: good, between, check, Measure, Plain; slices.EqualFunc on ways. -/
namespace Go.Proofs
open Go Go.Eng
def wEl (n : Nat) (q : List Rat) : List Ch := [.s 3 (lR n q)]
def wN (n : Nat) (w : List (List Rat)) : List (List Ch) := w.map (wEl n)
def sW (n : Nat) (w : List (List Rat)) : AV := .x false [.s 1 (wN n w)]
/-- Configurations of one length. -/
structure WayOK (w : List (List Rat)) (m : Nat) : Prop where
  n : 1 ≤ w.length ∧ w.length ≤ 60
  len : ∀ q ∈ w, q.length = m
  m : 1 ≤ m ∧ m ≤ 3
structure MsX where
 i : Nat
 j : Nat
 s : Rat
def L99 : List (Nat × Ctr) := (16, c_equalR) :: L52
def M99 : List (Nat × CtrM) := M48
def T99 : Tabs := mkT L99 M99 X4
theorem way_ld {n : Nat} {w : List (List Rat)} {i : Nat} {q : List Rat} (h : w[i]? = some q) : ldE (wN n w) i 0 1 = some [.s 3 (lR n q)] := by
 simp only [ldE, wN, List.getElem?_map, h]; rfl
theorem wgetD {w : List (List Rat)} {i : Nat} {q : List Rat} (h : w[i]? = some q) : w.getD i [] = q := by rw [List.getD_eq_getElem?_getD, h]; rfl
theorem drop_of {w : List (List Rat)} {i : Nat} {q : List Rat} (h : w[i]? = some q) : w.drop i = q :: w.drop (i + 1) := by
 have hi := (List.getElem?_eq_some_iff.1 h).1
 rw [List.drop_eq_getElem_cons hi]
 rw [Zb hi] at h
 rw [Option.some.inj h]
theorem dropR_of {l : List Rat} {i : Nat} {q : Rat} (h : l[i]? = some q) : l.drop i = q :: l.drop (i + 1) := by
 have hi := (List.getElem?_eq_some_iff.1 h).1
 rw [List.drop_eq_getElem_cons hi]
 rw [Zb hi] at h
 rw [Option.some.inj h]
theorem meas_drop {w : List (List Rat)} {i : Nat} {p q : List Rat} (hi : 1 ≤ i) (hp : w[i - 1]? = some p) (hq : w[i]? = some q) : meas (w.drop (i - 1)) = dst p q + meas (w.drop i) := by
 rw [drop_of hp, show i - 1 + 1 = i by omega, drop_of hq]; rfl
theorem dst_drop {p q : List Rat} {j : Nat} {x y : Rat} (hp : p[j]? = some x) (hq : q[j]? = some y) : dst (p.drop j) (q.drop j) = absR (y - x) + dst (p.drop (j + 1)) (q.drop (j + 1)) := by
 rw [dropR_of hp, dropR_of hq]; rfl
theorem wN_snoc (n : Nat) (o : List (List Rat)) (q : List Rat) : Zh o.length (wN n o) ++ [[.s 3 (lR n q)]] = wN n (o ++ [q]) := by
 rw [Zj (by simp [wN])]; simp [wN, wEl]
theorem L99ok : CtrsOK Tryz.prog tabG debT L99 := .cons ok_equalR L52ok
theorem M99ok : CtrMsOK Tryz.prog tabG debT M99 := M48ok
theorem T99ok : TabsOK Tryz.prog tabG debT T99 := mkTok L99ok M99ok X4ok
def ot_sGood : OT := fun id => bif id.beq 5 then ([0, 1, 2, 3, 4, 5, 6], [[], [], [], [1, 2], [3, 1, 2], [0, 4, 3, 1, 2], [5, 0, 4, 3, 1, 2]]) else ([], [])
def goal_sGood (n : Nat) (qs : List Rat) (K : AV → Prop) : Prop := goalL T99 ot_sGood (fun _ => .inv ⟨Nat, fun k => ⟨[(3, .x false [.w 500 0 k]), (6, sR n qs), (7, iA .i64 qs.length), (8, iA .i64 k)], [(500, rowR (n + 65) (qs.take k))]⟩, fun k => k ≤ qs.length, fun k => qs.length - k, fun _ => 0⟩) Tryz.f49 [sR n qs] K
theorem goal_sGood_vc (n : Nat) (qs : List Rat) (K : AV → Prop) : goal_sGood n qs K = ((∃(x:Nat),(x≤qs.length∧OfNat.ofNat 0=0)∧Value.slice none 0 0=Value.slice none 0 0∧0=0∧x=0∧3=3∧lR n qs=lR n qs∧Za (lR n qs).length=Za qs.length∧0=Za x∧Zd (fun(q:Rat)=>[Zk q (n+65)]) (Zh x qs)=[]∧True)∧∀(x:Nat),x≤qs.length→OfNat.ofNat 0=0→bif decide (Za x<Za qs.length) then (0≤Za x∧Za x<Za (lR n qs).length)∧∃(q:Rat),∃(n_1:Nat),ldE (lR n qs) (Za x).toNat 0 3=some [Zk q n_1]∧((-9223372036854775808:Int)≤0∧(0:Int)<9223372036854775808)∧n_1+64+1≤4294967296∧((x+1)*40≤140737488355328∧x+1≤9223372036854775807)∧∃(x':Nat),(x'≤qs.length∧OfNat.ofNat 0=0∧qs.length-x'<qs.length-x)∧0=0∧x+1=x'∧3=3∧lR n qs=lR n qs∧Za qs.length=Za qs.length∧Ze.wrap (Za x+1)=Za x'∧25=25∧3=3∧(Zh x (Zd (fun(q:Rat)=>[Zk q (n+65)]) (Zh x qs))++[[Zk (q+↑(0:Int)) (n_1+64+1)]]=Zd (fun(q:Rat)=>[Zk q (n+65)]) (Zh x' qs)∨RowLE (Zh x (Zd (fun(q:Rat)=>[Zk q (n+65)]) (Zh x qs))++[[Zk (q+↑(0:Int)) (n_1+64+1)]]) (Zd (fun(q:Rat)=>[Zk q (n+65)]) (Zh x' qs)))∧True else K (AV.x false [Ch.s 3 (Zh x (Zg 0 (Zd (fun(q:Rat)=>[Zk q (n+65)]) (Zh x qs))))])) := by kernel_rfl
theorem g_sGood (n : Nat) (qs : List Rat) (hc : (n ≤ 1000000 ∧ qs.length ≤ 1000000)) (K : AV → Prop) (hK : K (sR (n + 65) qs)) : Holds (goal_sGood n qs K) := by
 refine ⟨?_⟩
 rw [goal_sGood_vc]
 try simp only [Zm, true_and, and_true, true_implies]
 refine ⟨⟨0, by omega, rfl, by rw [lR_len], rfl, by simp⟩, fun x hx => bif_mk (fun hp => ?_) (fun hp => ?_)⟩
 ·have hp : x < qs.length := by have := of_decide_eq_true hp; omega
  obtain ⟨q, hq⟩ : ∃ q, qs[x]? = some q := ⟨_, Zb hp⟩
  refine ⟨by rw [lR_len]; omega, _, _, lR_ld (by simpa using hq), by omega, by omega, by omega, x + 1, ⟨by omega, by omega⟩, rfl, by rw [w64 (by omega)]; simp, .inl ?_⟩
  rw [Zj (by rw [List.length_map, List.length_take]; omega), List.take_add_one, hq, List.map_append]
  simp only [Option.toList, List.map_cons, List.map_nil]
  rw [show q + ((0 : Int) : Rat) = q by rw [Rat.intCast_zero, Rat.add_zero]]
 ·have hp : x = qs.length := by have := of_decide_eq_false hp; omega
  subst hp
  rw [Zo, List.take_length, Zj (by rw [List.length_map]; exact Nat.le_refl _)]
  exact hK
def c_sGood : Ctr := fun as0 => match as0 with
 | [.x false [.s 3 xs]] => some fun K => ∃ (n : Nat) (qs : List Rat), xs = lR n qs ∧ ((n ≤ 1000000 ∧ qs.length ≤ 1000000)) ∧ (K (sR (n + 65) qs))
 | _ => none
theorem ok_sGood : CtrOK Tryz.prog tabG debT 49 c_sGood := by
 refine ⟨enters Tryz.func49 (by kernel_rfl), fun l T hT K hK => ?_⟩
 unfold c_sGood at hT
 split at hT
 ·cases hT
  obtain ⟨n, qs, rfl, hc, hK⟩ := hK
  exact spec_ofL T99ok mixed Tryz.func49 (by kernel_rfl) (by kernel_rfl) (by rfl) (g_sGood _ _ hc K hK)
 ·cases hT
def L100 : List (Nat × Ctr) := (49, c_sGood) :: L99
theorem L100ok : CtrsOK Tryz.prog tabG debT L100 := .cons ok_sGood L99ok
def L101 : List (Nat × Ctr) := L100
def T101 : Tabs := mkT L101 M99 X4
theorem L101ok : CtrsOK Tryz.prog tabG debT L101 := L100ok
theorem T101ok : TabsOK Tryz.prog tabG debT T101 := mkTok L101ok M99ok X4ok
def ot_sCheck : OT := fun _ => ([], [])
def goal_sCheck (a : ArmV) (n : Nat) (w : List (List Rat)) (K : AV → Prop) : Prop := goalL T101 ot_sCheck (fun _ => .inv ⟨Nat, fun i => ⟨[(2, .x false [.p 2 0]), (20, sW n w), (21, iA .i64 w.length), (22, iA .i64 i)], [(2, .box 34 (armCh a))]⟩, fun i => i ≤ w.length, fun i => w.length - i, fun _ => 0⟩) Tryz.f47 [armA a, sW n w] K
theorem goal_sCheck_vc (a : ArmV) (n : Nat) (w : List (List Rat)) (K : AV → Prop) : goal_sCheck a n w K = (∃(a_1:ArmV),[Zp (Zi a.name),Zk a.x 63,Zk a.y 63,Zp (Zn a.half),Zk a.t 63,Ch.s 16 (Zd linkCh a.links)]=[Zp (Zi a_1.name),Zk a_1.x 63,Zk a_1.y 63,Zp (Zn a_1.half),Zk a_1.t 63,Ch.s 16 (Zd linkCh a_1.links)]∧GoodArm a_1∧bif Za (wN n w).length==0 then K (AV.x false [Zp (Value.int Ze 14)]) else bif decide (Za (wN n w).length>60) then K (AV.x false [Zp (Value.int Ze 2)]) else (∃(x:Nat),(x≤w.length∧OfNat.ofNat 0=0)∧0=0∧1=1∧wN n w=wN n w∧Za (wN n w).length=Za w.length∧0=Za x∧34=34∧a.name=a.name∧a.x=a.x∧63≤63∧a.y=a.y∧63≤63∧a.half=a.half∧a.t=a.t∧63≤63∧16=16∧Zd linkCh a.links=Zd linkCh a.links∧True)∧∀(x:Nat),x≤w.length→OfNat.ofNat 0=0→bif decide (Za x<Za w.length) then (0≤Za x∧Za x<Za (wN n w).length)∧∃(ys:List (List Ch)),ldE (wN n w) (Za x).toNat 0 1=some [Ch.s 3 ys]∧∃(a_4:ArmV),[Zp (Zi a.name),Zk a.x 63,Zk a.y 63,Zp (Zn a.half),Zk a.t 63,Ch.s 16 (Zd linkCh a.links)]=[Zp (Zi a_4.name),Zk a_4.x 63,Zk a_4.y 63,Zp (Zn a_4.half),Zk a_4.t 63,Ch.s 16 (Zd linkCh a_4.links)]∧(GoodArm a_4∧Za ys.length=Za a_4.links.length)∧∃(x':Nat),(x'≤w.length∧OfNat.ofNat 0=0∧w.length-x'<w.length-x)∧0=0∧1=1∧wN n w=wN n w∧Za w.length=Za w.length∧Ze.wrap (Za x+1)=Za x'∧34=34∧a.name=a.name∧a.x=a.x∧63≤63∧a.y=a.y∧63≤63∧a.half=a.half∧a.t=a.t∧63≤63∧16=16∧Zd linkCh a.links=Zd linkCh a.links∧True else K (AV.x false [Zp (Value.int Ze 0)])) := by kernel_rfl
theorem g_sCheck (a : ArmV) (n : Nat) (w : List (List Rat)) (hc : (GoodArm a) ∧ (WayOK w a.links.length)) (K : AV → Prop) (hK : K (iA .i64 0)) : Holds (goal_sCheck a n w K) := by
 refine ⟨?_⟩
 rw [goal_sCheck_vc]
 try simp only [Zm, true_and, and_true, Nat.le_refl, true_implies]
 obtain ⟨ha, hw⟩ := hc
 have hn := hw.n
 have hm := ha.n
 have hlw : (wN n w).length = w.length := by simp [wN]
 rw [hlw]
 refine ⟨a, rfl, ha, bif_mk (fun h => by have h := eq_of_beq h; omega) (fun _ => bif_mk (fun h => by have := of_decide_eq_true h; omega) (fun _ => ⟨⟨0, by omega, rfl, rfl⟩, fun x hx => bif_mk (fun hp => ?_) (fun _ => hK)⟩))⟩
 have hp : x < w.length := by have := of_decide_eq_true hp; omega
 obtain ⟨q, hq⟩ : ∃ q, w[x]? = some q := ⟨_, Zb hp⟩
 exact ⟨by omega, _, way_ld (by simpa using hq), a, rfl, ⟨ha, by rw [lR_len, hw.len q (Zl hq)]⟩, x + 1, ⟨by omega, by omega⟩, by rw [w64 (by omega)]; simp⟩
def c_sCheck : Ctr := fun as0 => match as0 with
 | [.x true xs, .x false [.s 1 ys]] => some fun K => ∃ (a : ArmV) (n : Nat) (w : List (List Rat)), xs = armCh a ∧ ys = wN n w ∧ ((GoodArm a) ∧ (WayOK w a.links.length)) ∧ (K (iA .i64 0))
 | _ => none
theorem ok_sCheck : CtrOK Tryz.prog tabG debT 47 c_sCheck := by
 refine ⟨enters Tryz.func47 (by kernel_rfl), fun l T hT K hK => ?_⟩
 unfold c_sCheck at hT
 split at hT
 ·cases hT
  obtain ⟨a, n, w, rfl, rfl, hc, hK⟩ := hK
  exact spec_ofL T101ok mixed Tryz.func47 (by kernel_rfl) (by kernel_rfl) (by rfl) (g_sCheck _ _ _ hc K hK)
 ·cases hT
def L102 : List (Nat × Ctr) := (47, c_sCheck) :: L101
def T102 : Tabs := mkT L102 M99 X4
theorem L102ok : CtrsOK Tryz.prog tabG debT L102 := .cons ok_sCheck L101ok
theorem T102ok : TabsOK Tryz.prog tabG debT T102 := mkTok L102ok M99ok X4ok
def ot_sMeasure : OT := fun id => bif id.beq 11 then ([0, 1, 2, 3, 4, 5, 6, 7, 8, 9, 10, 11, 12, 13, 14, 15, 16, 17, 18, 19], [[], [], [], [1, 2], [3, 1, 2], [], [4, 3, 1, 2, 5], [6, 4, 3, 1, 2, 5], [], [], [9], [8, 10, 9], [11, 8, 10, 9], [], [12, 11, 8, 10, 9, 13], [14, 12, 11, 8, 10, 9, 13], [7, 6, 4, 3, 1, 2, 5, 15, 14, 12, 11, 8, 10, 9, 13], [16, 7, 6, 4, 3, 1, 2, 5, 15, 14, 12, 11, 8, 10, 9, 13], [0, 17, 16, 7, 6, 4, 3, 1, 2, 5, 15, 14, 12, 11, 8, 10, 9, 13], [18, 0, 17, 16, 7, 6, 4, 3, 1, 2, 5, 15, 14, 12, 11, 8, 10, 9, 13]]) else ([], [])
def goal_sMeasure (a : ArmV) (n : Nat) (w : List (List Rat)) (K : AV → Prop) : Prop := goalL T102 ot_sMeasure (fun id => bif id.beq 6 then .inv ⟨MsX, fun x => ⟨[(1, sW n w), (2, .x false [.p 2 0]), (4, .x false [.p 4 0]), (7, .x false [.p 7 0]), (8, iA .i64 x.i)], [(2, .box 34 (armCh a)), (4, .box 25 zeroR), (7, .box 25 [.r x.s (64 + (2 * n + 2) * (3 * (x.i - 1)))])]⟩, fun x => (1 ≤ x.i ∧ x.i ≤ w.length) ∧ x.s + meas (w.drop (x.i - 1)) = meas w, fun x => w.length - x.i, fun _ => 0⟩ else .inv ⟨MsX, fun x => ⟨[(1, sW n w), (2, .x false [.p 2 0]), (4, .x false [.p 4 0]), (7, .x false [.p 7 0]), (8, iA .i64 x.i), (28, iA .i64 a.links.length), (29, iA .i64 x.j)], [(2, .box 34 (armCh a)), (4, .box 25 zeroR), (7, .box 25 [.r x.s (64 + (2 * n + 2) * (3 * (x.i - 1) + x.j))])]⟩, fun x => ((1 ≤ x.i ∧ x.i < w.length) ∧ x.j ≤ a.links.length) ∧ x.s + dst ((w.getD (x.i - 1) []).drop x.j) ((w.getD x.i []).drop x.j) + meas (w.drop x.i) = meas w, fun x => a.links.length - x.j, fun x => w.length - x.i⟩) Tryz.f18 [armA a, sW n w] K
theorem goal_sMeasure_vc (a : ArmV) (n : Nat) (w : List (List Rat)) (K : AV → Prop) : goal_sMeasure a n w K = (∃(a_1:ArmV),∃(n_1:Nat),∃(w_1:List (List Rat)),[Zp (Zi a.name),Zk a.x 63,Zk a.y 63,Zp (Zn a.half),Zk a.t 63,Ch.s 16 (Zd linkCh a.links)]=[Zp (Zi a_1.name),Zk a_1.x 63,Zk a_1.y 63,Zp (Zn a_1.half),Zk a_1.t 63,Ch.s 16 (Zd linkCh a_1.links)]∧wN n w=wN n_1 w_1∧(GoodArm a_1∧WayOK w_1 a_1.links.length)∧((-9223372036854775808:Int)≤0∧(0:Int)<9223372036854775808)∧(∃(x:MsX),(((1≤x.i∧x.i≤w.length)∧x.s+meas (Zg (x.i-1) w)=meas w)∧OfNat.ofNat 0=0)∧1=1∧wN n w=wN n w∧0=0∧0=0∧0=0∧1=Za x.i∧34=34∧a.name=a.name∧a.x=a.x∧63≤63∧a.y=a.y∧63≤63∧a.half=a.half∧a.t=a.t∧63≤63∧16=16∧Zd linkCh a.links=Zd linkCh a.links∧25=25∧false=false∧Zc (Zf [])=Zc (Zf [])∧Zc (Zf [])=Zc (Zf [])∧25=25∧↑(0:Int)=x.s∧64≤64+(2*n+2)*(3*(x.i-1))∧True)∧∀(x:MsX),(1≤x.i∧x.i≤w.length)∧x.s+meas (Zg (x.i-1) w)=meas w→OfNat.ofNat 0=0→bif decide (Za x.i<Za (wN n w).length) then (0≤Za x.i∧Za x.i<Za (wN n w).length)∧∃(ys:List (List Ch)),ldE (wN n w) (Za x.i).toNat 0 1=some [Ch.s 3 ys]∧(∃(x_1:MsX),((((1≤x_1.i∧x_1.i<w.length)∧x_1.j≤a.links.length)∧x_1.s+dst (Zg x_1.j (w.getD (x_1.i-1) [])) (Zg x_1.j (w.getD x_1.i []))+meas (Zg x_1.i w)=meas w)∧w.length-x_1.i=w.length-x.i)∧1=1∧wN n w=wN n w∧0=0∧0=0∧0=0∧Za x.i=Za x_1.i∧Za ys.length=Za a.links.length∧0=Za x_1.j∧34=34∧a.name=a.name∧a.x=a.x∧63≤63∧a.y=a.y∧63≤63∧a.half=a.half∧a.t=a.t∧63≤63∧16=16∧Zd linkCh a.links=Zd linkCh a.links∧25=25∧false=false∧Zc (Zf [])=Zc (Zf [])∧Zc (Zf [])=Zc (Zf [])∧25=25∧x.s=x_1.s∧64+(2*n+2)*(3*(x.i-1))≤64+(2*n+2)*(3*(x_1.i-1)+x_1.j)∧True)∧∀(x_1:MsX),((1≤x_1.i∧x_1.i<w.length)∧x_1.j≤a.links.length)∧x_1.s+dst (Zg x_1.j (w.getD (x_1.i-1) [])) (Zg x_1.j (w.getD x_1.i []))+meas (Zg x_1.i w)=meas w→w.length-x_1.i=w.length-x.i→bif decide (Za x_1.j<Za a.links.length) then (0≤Za x_1.i∧Za x_1.i<Za (wN n w).length)∧∃(ys:List (List Ch)),ldE (wN n w) (Za x_1.i).toNat 0 1=some [Ch.s 3 ys]∧(0≤Za x_1.j∧Za x_1.j<Za ys.length)∧∃(q:Rat),∃(n_2:Nat),ldE ys (Za x_1.j).toNat 0 3=some [Zk q n_2]∧(0≤Ze.wrap (Za x_1.i-1)∧Ze.wrap (Za x_1.i-1)<Za (wN n w).length)∧∃(ys:List (List Ch)),ldE (wN n w) (Ze.wrap (Za x_1.i-1)).toNat 0 1=some [Ch.s 3 ys]∧(0≤Za x_1.j∧Za x_1.j<Za ys.length)∧∃(q_1:Rat),∃(n_3:Nat),ldE ys (Za x_1.j).toNat 0 3=some [Zk q_1 n_3]∧n_2+n_3+1≤4294967296∧n_2+n_3+1≤4294967296∧64+(2*n+2)*(3*(x_1.i-1)+x_1.j)+(n_2+n_3+1)+1≤4294967296∧∃(x':MsX),((((1≤x'.i∧x'.i<w.length)∧x'.j≤a.links.length)∧x'.s+dst (Zg x'.j (w.getD (x'.i-1) [])) (Zg x'.j (w.getD x'.i []))+meas (Zg x'.i w)=meas w)∧w.length-x'.i=w.length-x.i∧a.links.length-x'.j<a.links.length-x_1.j)∧1=1∧wN n w=wN n w∧0=0∧0=0∧0=0∧Za x_1.i=Za x'.i∧Za a.links.length=Za a.links.length∧Ze.wrap (Za x_1.j+1)=Za x'.j∧34=34∧a.name=a.name∧a.x=a.x∧63≤63∧a.y=a.y∧63≤63∧a.half=a.half∧a.t=a.t∧63≤63∧16=16∧Zd linkCh a.links=Zd linkCh a.links∧25=25∧false=false∧Zc (Zf [])=Zc (Zf [])∧Zc (Zf [])=Zc (Zf [])∧25=25∧x_1.s+absR (q-q_1)=x'.s∧64+(2*n+2)*(3*(x_1.i-1)+x_1.j)+(n_2+n_3+1)+1≤64+(2*n+2)*(3*(x'.i-1)+x'.j)∧True else ∃(x':MsX),(((1≤x'.i∧x'.i≤w.length)∧x'.s+meas (Zg (x'.i-1) w)=meas w)∧OfNat.ofNat 0=0∧w.length-x'.i<w.length-x.i)∧1=1∧wN n w=wN n w∧0=0∧0=0∧0=0∧Ze.wrap (Za x_1.i+1)=Za x'.i∧34=34∧a.name=a.name∧a.x=a.x∧63≤63∧a.y=a.y∧63≤63∧a.half=a.half∧a.t=a.t∧63≤63∧16=16∧Zd linkCh a.links=Zd linkCh a.links∧25=25∧false=false∧Zc (Zf [])=Zc (Zf [])∧Zc (Zf [])=Zc (Zf [])∧25=25∧x_1.s=x'.s∧64+(2*n+2)*(3*(x_1.i-1)+x_1.j)≤64+(2*n+2)*(3*(x'.i-1))∧True else K (AV.t [(true,[Zk x.s (64+(2*n+2)*(3*(x.i-1)))]),(false,[Zp (Value.int Ze 0)])])) := by kernel_rfl
theorem g_sMeasure (a : ArmV) (n : Nat) (w : List (List Rat)) (hc : (GoodArm a) ∧ (WayOK w a.links.length ∧ n ≤ 100000)) (K : AV → Prop) (hK : K (.t [(true, [.r (meas w) (64 + (2 * n + 2) * (3 * (w.length - 1)))]), (false, [.v (.int .i64 0)])])) : Holds (goal_sMeasure a n w K) := by
 refine ⟨?_⟩
 rw [goal_sMeasure_vc]
 try simp only [Zm, true_and, and_true, Nat.le_refl, true_implies]
 obtain ⟨ha, hw, hn⟩ := hc
 have hwn := hw.n
 have hm := ha.n
 have hlw : (wN n w).length = w.length := by simp [wN]
 rw [hlw]
 refine ⟨a, n, w, rfl, rfl, ⟨ha, hw⟩, by omega, ⟨⟨1, 0, 0⟩, ⟨by simp only; omega, ?_⟩, rfl, rfl, by simp⟩, fun x ⟨⟨hi1, hi2⟩, hs⟩ => bif_mk (fun hp => ?_) (fun hp => ?_)⟩
 ·show (0 : Rat) + meas (w.drop 0) = meas w
  rw [Zo]; exact Rat.zero_add _
 ·have hp : x.i < w.length := by have := of_decide_eq_true hp; omega
  obtain ⟨q, hq⟩ : ∃ q, w[x.i]? = some q := ⟨_, Zb hp⟩
  obtain ⟨p, hpp⟩ : ∃ p, w[x.i - 1]? = some p := ⟨_, Zb (by omega)⟩
  have lq := hw.len q (Zl hq)
  have lp := hw.len p (Zl hpp)
  refine ⟨by omega, _, way_ld (by simpa using hq), ⟨⟨x.i, 0, x.s⟩, ⟨⟨⟨⟨hi1, hp⟩, by simp⟩, ?_⟩, rfl⟩, rfl, by rw [lR_len, lq], rfl, rfl, by simp⟩, fun y ⟨⟨⟨hy1, hy2⟩, hy3⟩, hy4⟩ ht => ?_⟩
  ·simp only [Zo]
   rw [wgetD hq, wgetD hpp]
   rw [meas_drop hi1 hpp hq] at hs
   rw [Rat.add_assoc]; exact hs
  have hyi : y.i = x.i := by omega
  rw [hyi] at hy4 ⊢
  rw [wgetD hq, wgetD hpp] at hy4
  have hB : (2 * n + 2) * (3 * (x.i - 1) + y.j) ≤ 200002 * 183 := Nat.mul_le_mul (by omega) (by omega)
  refine bif_mk (fun hj => ?_) (fun hj => ?_)
  ·have hj : y.j < a.links.length := by have := of_decide_eq_true hj; omega
   obtain ⟨u, hu⟩ : ∃ u, q[y.j]? = some u := ⟨_, Zb (by omega)⟩
   obtain ⟨v, hv⟩ : ∃ v, p[y.j]? = some v := ⟨_, Zb (by omega)⟩
   rw [w64 (n := (x.i : Int) - 1) (by omega), show ((x.i : Int) - 1).toNat = x.i - 1 by omega]
   have hB2 : (2 * n + 2) * (3 * (x.i - 1) + (y.j + 1)) = (2 * n + 2) * (3 * (x.i - 1) + y.j) + (2 * n + 2) := by rw [← Nat.add_assoc, Nat.mul_succ]
   refine ⟨by omega, _, way_ld (by simpa using hq), by rw [lR_len]; omega, u, n, lR_ld (by simpa using hu), by omega, _, way_ld hpp, by rw [lR_len]; omega, v, n, lR_ld (by simpa using hv), by omega, by omega, by omega, ⟨x.i, y.j + 1, y.s + absR (u - v)⟩, ⟨⟨⟨⟨hi1, hp⟩, hj⟩, ?_⟩, rfl, by simp only; omega⟩, rfl, by rw [w64 (by omega)]; simp, rfl, by simp only; omega⟩
   simp only
   rw [wgetD hq, wgetD hpp]
   rw [dst_drop hv hu] at hy4
   rw [← hy4]
   grind
  ·have hj : y.j = a.links.length := by have := of_decide_eq_false hj; omega
   refine ⟨⟨x.i + 1, 0, y.s⟩, ⟨⟨⟨by simp only; omega, by simp only; omega⟩, ?_⟩, by simp only; omega⟩, by rw [w64 (by omega)]; simp, rfl, ?_⟩
   ·simp only
    rw [List.drop_eq_nil_of_le (by omega : p.length ≤ y.j)] at hy4
    rw [show x.i + 1 - 1 = x.i by omega]
    have e : dst [] (q.drop y.j) = 0 := by unfold dst; rfl
    rw [e, Rat.add_zero] at hy4
    exact hy4
   ·simp only
    exact Nat.add_le_add_left (Nat.mul_le_mul_left _ (by omega)) _
 ·have hp : x.i = w.length := by have := of_decide_eq_false hp; omega
  obtain ⟨p, hpp⟩ : ∃ p, w[x.i - 1]? = some p := ⟨_, Zb (by omega)⟩
  rw [drop_of hpp, show x.i - 1 + 1 = x.i by omega, hp, List.drop_length] at hs
  rw [show meas [p] = 0 from rfl, Rat.add_zero] at hs
  rw [hs, hp]
  exact hK
def c_sMeasure : Ctr := fun as0 => match as0 with
 | [.x true xs, .x false [.s 1 ys]] => some fun K => ∃ (a : ArmV) (n : Nat) (w : List (List Rat)), xs = armCh a ∧ ys = wN n w ∧ ((GoodArm a) ∧ (WayOK w a.links.length ∧ n ≤ 100000)) ∧ (K (.t [(true, [.r (meas w) (64 + (2 * n + 2) * (3 * (w.length - 1)))]), (false, [.v (.int .i64 0)])]))
 | _ => none
theorem ok_sMeasure : CtrOK Tryz.prog tabG debT 18 c_sMeasure := by
 refine ⟨enters Tryz.func18 (by kernel_rfl), fun l T hT K hK => ?_⟩
 unfold c_sMeasure at hT
 split at hT
 ·cases hT
  obtain ⟨a, n, w, rfl, rfl, hc, hK⟩ := hK
  exact spec_ofL T102ok mixed Tryz.func18 (by kernel_rfl) (by kernel_rfl) (by rfl) (g_sMeasure _ _ _ hc K hK)
 ·cases hT
def L103 : List (Nat × Ctr) := (18, c_sMeasure) :: L102
theorem L103ok : CtrsOK Tryz.prog tabG debT L103 := .cons ok_sMeasure L102ok
def L104 : List (Nat × Ctr) := L103
def T104 : Tabs := mkT L104 M99 X4
theorem L104ok : CtrsOK Tryz.prog tabG debT L104 := L103ok
end Go.Proofs
