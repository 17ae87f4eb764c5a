/- ForeLengths. -/
import Derived.Test.YtdkakhlabdoilaaDoorFC
/- ForeLengths. -/
namespace Go.Proofs
open Go Go.Eng
structure FlX where
 a : ArmV
 fs : List FrV
 f : FrV
 i : Nat
structure FlI (x : FlX) : Prop where
 good : GoodArm x.a
 len : x.fs.length = x.a.links.length
 eq : ∃ qs : List Rat, qs.length = x.a.links.length ∧ x.fs ++ [x.f] = framesV (baseV x.a) x.a.links qs
 le : x.i ≤ x.a.links.length
def inv_flen : LI := fun _ => .inv ⟨FlX, fun x => ⟨[(5, .x false [.p 5 0]), (6, .x false [.s 10 (x.fs.map frCh ++ [frN (bnd x.a.links.length) x.f])]), (46, .x false [.s 16 (x.a.links.map linkCh)]), (47, iA .i64 x.a.links.length), (48, iA .i64 x.i)], [(5, .box 34 (armCh x.a))]⟩, FlI, fun x => x.a.links.length - x.i, fun _ => 0⟩
def ot_flen : OT := fun id => bif id.beq 4 then ([0, 1, 2, 3, 4, 5, 6, 7, 8, 9], [[], [], [], [1, 2], [0, 3, 1, 2], [4, 0, 3, 1, 2], [5, 4, 0, 3, 1, 2], [5, 4, 0, 3, 1, 2], [6, 5, 4, 0, 3, 1, 2], [7, 5, 4, 0, 3, 1, 2, 8, 6]]) else bif id.beq 5 then ([0, 1, 2, 3, 4, 5, 6, 7, 8, 9, 10, 11, 12, 13, 14, 15, 16, 17, 18, 19, 20, 21], [[], [0], [1, 0], [2, 1, 0], [3, 2, 1, 0], [2, 1, 0], [5, 2, 1, 0], [6, 5, 2, 1, 0], [7, 6, 5, 2, 1, 0], [4, 3, 2, 1, 0, 8, 7, 6, 5], [2, 1, 0, 9, 4, 3, 8, 7, 6, 5], [10, 2, 1, 0, 9, 4, 3, 8, 7, 6, 5], [11, 10, 2, 1, 0, 9, 4, 3, 8, 7, 6, 5], [12, 11, 10, 2, 1, 0, 9, 4, 3, 8, 7, 6, 5], [13, 12, 11, 10, 2, 1, 0, 9, 4, 3, 8, 7, 6, 5], [14, 13, 12, 11, 10, 2, 1, 0, 9, 4, 3, 8, 7, 6, 5], [11, 10, 2, 1, 0, 9, 4, 3, 8, 7, 6, 5], [16, 11, 10, 2, 1, 0, 9, 4, 3, 8, 7, 6, 5], [17, 16, 11, 10, 2, 1, 0, 9, 4, 3, 8, 7, 6, 5], [15, 14, 13, 12, 11, 10, 2, 1, 0, 9, 4, 3, 8, 7, 6, 5, 18, 17, 16], [19, 15, 14, 13, 12, 11, 10, 2, 1, 0, 9, 4, 3, 8, 7, 6, 5, 18, 17, 16], [11, 10, 2, 1, 0, 9, 4, 3, 8, 7, 6, 5, 20, 19, 15, 14, 13, 12, 18, 17, 16]]) else bif id.beq 10 then ([0, 1, 2, 3, 4, 5, 6, 7, 8, 9, 10, 12, 11, 13], [[], [], [1], [0, 2, 1], [3, 0, 2, 1], [4, 3, 0, 2, 1], [], [], [6, 7], [8, 6, 7], [9, 8, 6, 7], [5, 4, 3, 0, 2, 1, 10, 9, 8, 6, 7], [], [12, 11, 5, 4, 3, 0, 2, 1, 10, 9, 8, 6, 7]]) else bif id.beq 11 then ([0, 1, 3, 4, 5, 6, 2, 7, 8, 9], [[], [], [0, 1], [], [3], [], [5], [4, 3, 6, 5, 2, 0, 1], [2, 0, 1, 7, 4, 3, 6, 5], [8, 2, 0, 1, 7, 4, 3, 6, 5]]) else bif id.beq 14 then ([0, 1, 2, 3, 4, 5, 6, 7, 8, 9, 10, 11, 12, 13, 14, 15], [[], [], [1], [2, 1], [0, 3, 2, 1], [4, 0, 3, 2, 1], [5, 4, 0, 3, 2, 1], [], [], [8], [9, 8], [7, 10, 9, 8], [11, 7, 10, 9, 8], [12, 11, 7, 10, 9, 8], [6, 5, 4, 0, 3, 2, 1, 13, 12, 11, 7, 10, 9, 8], [14, 6, 5, 4, 0, 3, 2, 1, 13, 12, 11, 7, 10, 9, 8]]) else ([], [])
def goal_flen (l m : List Int) (K : AV → Prop) : Prop := goalL T95 ot_flen inv_flen Tryd.f6 [.x false [.s 1 (ints l)], .x false [.s 1 (ints m)]] K
theorem goal_flen_vc (l : List Int) (m : List Int) (K : AV → Prop) : goal_flen l m K = (True∧∃(l_1:List Int),ints l=ints l_1∧l_1.length≤9223372036854775807∧∀(a:ArmV),Made a∧1≤a.links.length→∃(a_2:ArmV),∃(l:List Int),[Ch.v (Value.string a.name),Ch.r a.x 63,Ch.r a.y 63,Ch.v (Value.bool a.half),Ch.r a.t 63,Ch.s 16 (List.map linkCh a.links)]=[Ch.v (Value.string a_2.name),Ch.r a_2.x 63,Ch.r a_2.y 63,Ch.v (Value.bool a_2.half),Ch.r a_2.t 63,Ch.s 16 (List.map linkCh a_2.links)]∧ints m=ints l∧(GoodArm a_2∧l.length≤9223372036854775807)∧∀(qs:List Rat),(∀(i:Nat) (L:LinkV) (q:Rat),a_2.links[i]?=some L→qs[i]?=some q→L.lo≤q∧q≤L.hi)→qs.length=a_2.links.length→∃(a_5:ArmV),∃(b:Nat),∃(qs_1:List Rat),[Ch.v (Value.string a.name),Ch.r a.x 63,Ch.r a.y 63,Ch.v (Value.bool a.half),Ch.r a.t 63,Ch.s 16 (List.map linkCh a.links)]=[Ch.v (Value.string a_5.name),Ch.r a_5.x 63,Ch.r a_5.y 63,Ch.v (Value.bool a_5.half),Ch.r a_5.t 63,Ch.s 16 (List.map linkCh a_5.links)]∧lR 63 qs=lR b qs_1∧(GoodArm a_5∧b≤400∧qs_1.length=a_5.links.length)∧∀(fs:List FrV) (f:FrV),fs++[f]=framesV (baseV a_5) a_5.links qs_1→fs.length=a_5.links.length→bif Int.ofNat (List.map frCh fs++[[Ch.r f.x (bnd a_5.links.length),Ch.r f.y (bnd a_5.links.length),Ch.v (Value.bool f.h),Ch.r f.t (bnd a_5.links.length)]]).length != IntKind.i64.wrap (Int.ofNat (List.map linkCh a.links).length+1) then K (AV.x false [Ch.v (Value.bool false)]) else ((0:Int)≤0∧0<Int.ofNat (List.map frCh fs++[[Ch.r f.x (bnd a_5.links.length),Ch.r f.y (bnd a_5.links.length),Ch.v (Value.bool f.h),Ch.r f.t (bnd a_5.links.length)]]).length)∧∃(q:Rat),∃(n:Nat),∃(q_1:Rat),∃(n_1:Nat),ldE (List.map frCh fs++[[Ch.r f.x (bnd a_5.links.length),Ch.r f.y (bnd a_5.links.length),Ch.v (Value.bool f.h),Ch.r f.t (bnd a_5.links.length)]]) 0 0 6=some [Ch.r q n,Ch.r q_1 n_1]∧(n+63≤4294967290∧n_1+63≤4294967290)∧bif !(decide (q=a.x)&&decide (q_1=a.y)) then K (AV.x false [Ch.v (Value.bool false)]) else (∃(x:FlX),(FlI x∧OfNat.ofNat 0=0)∧0=0∧10=10∧List.map frCh fs++[[Ch.r f.x (bnd a_5.links.length),Ch.r f.y (bnd a_5.links.length),Ch.v (Value.bool f.h),Ch.r f.t (bnd a_5.links.length)]]=List.map frCh x.fs++[[Ch.r x.f.x (bnd x.a.links.length),Ch.r x.f.y (bnd x.a.links.length),Ch.v (Value.bool x.f.h),Ch.r x.f.t (bnd x.a.links.length)]]∧16=16∧List.map linkCh a.links=List.map linkCh x.a.links∧Int.ofNat (List.map linkCh a.links).length=Int.ofNat x.a.links.length∧0=Int.ofNat x.i∧34=34∧a.name=x.a.name∧a.x=x.a.x∧63≤63∧a.y=x.a.y∧63≤63∧a.half=x.a.half∧a.t=x.a.t∧63≤63∧16=16∧List.map linkCh a.links=List.map linkCh x.a.links∧True)∧∀(x:FlX),FlI x→OfNat.ofNat 0=0→bif decide (Int.ofNat x.i<Int.ofNat x.a.links.length) then (0≤Int.ofNat x.i∧Int.ofNat x.i<Int.ofNat (List.map linkCh x.a.links).length)∧∃(q:Rat),∃(n:Nat),∃(q_2:Rat),∃(n_2:Nat),∃(q_3:Rat),∃(n_3:Nat),∃(q_4:Rat),∃(n_4:Nat),∃(q_5:Rat),∃(n_5:Nat),∃(ys:List (List Ch)),ldE (List.map linkCh x.a.links) (Int.ofNat x.i).toNat 0 16=some [Ch.r q n,Ch.r q_2 n_2,Ch.r q_3 n_3,Ch.r q_4 n_4,Ch.r q_5 n_5,Ch.s 6 ys]∧(0≤IntKind.i64.wrap (Int.ofNat x.i+1)∧IntKind.i64.wrap (Int.ofNat x.i+1)<Int.ofNat (List.map frCh x.fs++[[Ch.r x.f.x (bnd x.a.links.length),Ch.r x.f.y (bnd x.a.links.length),Ch.v (Value.bool x.f.h),Ch.r x.f.t (bnd x.a.links.length)]]).length)∧∃(q_6:Rat),∃(n_6:Nat),∃(q_7:Rat),∃(n_7:Nat),ldE (List.map frCh x.fs++[[Ch.r x.f.x (bnd x.a.links.length),Ch.r x.f.y (bnd x.a.links.length),Ch.v (Value.bool x.f.h),Ch.r x.f.t (bnd x.a.links.length)]]) (IntKind.i64.wrap (Int.ofNat x.i+1)).toNat 0 6=some [Ch.r q_6 n_6,Ch.r q_7 n_7]∧(0≤Int.ofNat x.i∧Int.ofNat x.i<Int.ofNat (List.map frCh x.fs++[[Ch.r x.f.x (bnd x.a.links.length),Ch.r x.f.y (bnd x.a.links.length),Ch.v (Value.bool x.f.h),Ch.r x.f.t (bnd x.a.links.length)]]).length)∧∃(q_8:Rat),∃(n_8:Nat),∃(q_9:Rat),∃(n_9:Nat),ldE (List.map frCh x.fs++[[Ch.r x.f.x (bnd x.a.links.length),Ch.r x.f.y (bnd x.a.links.length),Ch.v (Value.bool x.f.h),Ch.r x.f.t (bnd x.a.links.length)]]) (Int.ofNat x.i).toNat 0 6=some [Ch.r q_8 n_8,Ch.r q_9 n_9]∧(n_6+n_8≤4294967290∧n_7+n_9≤4294967290)∧n_6+n_8+1+(n_7+n_9+1)+(n_6+n_8+1)+(n_7+n_9+1)≤4294967290∧n+n≤4294967296∧n_6+n_8+1+(n_6+n_8+1)+(n_7+n_9+1+(n_7+n_9+1))+1+(n+n)≤4294967296∧bif cmpR ((q_6-q_8)*(q_6-q_8)+(q_7-q_9)*(q_7-q_9)) (q*q) != 0 then K (AV.x false [Ch.v (Value.bool false)]) else ∃(x':FlX),(FlI x'∧OfNat.ofNat 0=0∧x'.a.links.length-x'.i<x.a.links.length-x.i)∧0=0∧10=10∧List.map frCh x.fs++[[Ch.r x.f.x (bnd x.a.links.length),Ch.r x.f.y (bnd x.a.links.length),Ch.v (Value.bool x.f.h),Ch.r x.f.t (bnd x.a.links.length)]]=List.map frCh x'.fs++[[Ch.r x'.f.x (bnd x'.a.links.length),Ch.r x'.f.y (bnd x'.a.links.length),Ch.v (Value.bool x'.f.h),Ch.r x'.f.t (bnd x'.a.links.length)]]∧16=16∧List.map linkCh x.a.links=List.map linkCh x'.a.links∧Int.ofNat x.a.links.length=Int.ofNat x'.a.links.length∧IntKind.i64.wrap (Int.ofNat x.i+1)=Int.ofNat x'.i∧34=34∧x.a.name=x'.a.name∧x.a.x=x'.a.x∧63≤63∧x.a.y=x'.a.y∧63≤63∧x.a.half=x'.a.half∧x.a.t=x'.a.t∧63≤63∧16=16∧List.map linkCh x.a.links=List.map linkCh x'.a.links∧True else (0≤IntKind.i64.wrap (Int.ofNat (List.map frCh x.fs++[[Ch.r x.f.x (bnd x.a.links.length),Ch.r x.f.y (bnd x.a.links.length),Ch.v (Value.bool x.f.h),Ch.r x.f.t (bnd x.a.links.length)]]).length-1)∧IntKind.i64.wrap (Int.ofNat (List.map frCh x.fs++[[Ch.r x.f.x (bnd x.a.links.length),Ch.r x.f.y (bnd x.a.links.length),Ch.v (Value.bool x.f.h),Ch.r x.f.t (bnd x.a.links.length)]]).length-1)<Int.ofNat (List.map frCh x.fs++[[Ch.r x.f.x (bnd x.a.links.length),Ch.r x.f.y (bnd x.a.links.length),Ch.v (Value.bool x.f.h),Ch.r x.f.t (bnd x.a.links.length)]]).length)∧∃(b:Bool),∃(q:Rat),∃(n:Nat),ldE (List.map frCh x.fs++[[Ch.r x.f.x (bnd x.a.links.length),Ch.r x.f.y (bnd x.a.links.length),Ch.v (Value.bool x.f.h),Ch.r x.f.t (bnd x.a.links.length)]]) (IntKind.i64.wrap (Int.ofNat (List.map frCh x.fs++[[Ch.r x.f.x (bnd x.a.links.length),Ch.r x.f.y (bnd x.a.links.length),Ch.v (Value.bool x.f.h),Ch.r x.f.t (bnd x.a.links.length)]]).length-1)).toNat 6 4=some [Ch.v (Value.bool b),Ch.r q n]∧(0≤IntKind.i64.wrap (Int.ofNat (List.map frCh x.fs++[[Ch.r x.f.x (bnd x.a.links.length),Ch.r x.f.y (bnd x.a.links.length),Ch.v (Value.bool x.f.h),Ch.r x.f.t (bnd x.a.links.length)]]).length-2)∧IntKind.i64.wrap (Int.ofNat (List.map frCh x.fs++[[Ch.r x.f.x (bnd x.a.links.length),Ch.r x.f.y (bnd x.a.links.length),Ch.v (Value.bool x.f.h),Ch.r x.f.t (bnd x.a.links.length)]]).length-2)<Int.ofNat (List.map frCh x.fs++[[Ch.r x.f.x (bnd x.a.links.length),Ch.r x.f.y (bnd x.a.links.length),Ch.v (Value.bool x.f.h),Ch.r x.f.t (bnd x.a.links.length)]]).length)∧∃(b_1:Bool),∃(q_2:Rat),∃(n:Nat),ldE (List.map frCh x.fs++[[Ch.r x.f.x (bnd x.a.links.length),Ch.r x.f.y (bnd x.a.links.length),Ch.v (Value.bool x.f.h),Ch.r x.f.t (bnd x.a.links.length)]]) (IntKind.i64.wrap (Int.ofNat (List.map frCh x.fs++[[Ch.r x.f.x (bnd x.a.links.length),Ch.r x.f.y (bnd x.a.links.length),Ch.v (Value.bool x.f.h),Ch.r x.f.t (bnd x.a.links.length)]]).length-2)).toNat 6 4=some [Ch.v (Value.bool b_1),Ch.r q_2 n]∧K (AV.x false [Ch.v (Value.bool (b==b_1&&(decide (q=q_2)&&true)))])) := by kernel_rfl
theorem g_flen (l m : List Int) (hl : l.length ≤ 9223372036854775807) (hm : m.length ≤ 9223372036854775807) (K : AV → Prop) (hK : K (.x false [.v (.bool true)])) : Holds (goal_flen l m K) := by
 refine ⟨?_⟩
 rw [goal_flen_vc]
 simp only [Int.ofNat_eq_natCast, true_and, and_true, Nat.le_refl, true_implies]
 refine ⟨l, rfl, hl, fun a ha => ⟨a, m, rfl, rfl, ⟨MadeA.good ha, hm⟩, fun qs hf hq => ⟨a, 63, qs, rfl, rfl, ⟨MadeA.good ha, by omega, hq⟩, fun fs f hfs hlen => ?_⟩⟩⟩
 have hg := MadeA.good ha
 have hn := hg.n
 have hbn : ∀ a : ArmV, a.links.length ≤ 3 → bnd a.links.length ≤ 120000000 := fun a h => bnd_le h
 obtain ⟨g0, rest, e0, ex, ey⟩ := frames_head (baseV a) a.links qs
 have h0 : (fs ++ [f])[0]? = some g0 := by rw [hfs, e0]; rfl
 obtain ⟨n0, hn0, ld0, _⟩ := frs_at (hbn a hn.2) h0
 simp only [List.length_append, List.length_map, List.length_cons, List.length_nil]
 refine bif_mk (fun h => ?_) (fun _ => ⟨by omega, g0.x, n0, g0.y, n0, ld0, by omega, bif_mk (fun h => ?_) (fun _ => ⟨⟨⟨a, fs, f, 0⟩, ⟨hg, hlen, ⟨qs, hq, hfs⟩, by simp⟩, rfl, rfl, rfl, rfl, rfl, rfl, rfl, rfl, rfl, rfl⟩, fun x ⟨xg, xl, ⟨xq, xql, xe⟩, xi⟩ => ?_⟩)⟩)
 ·rw [w64 (by omega)] at h
  exfalso
  simp at h
  omega
 ·exfalso
  rw [ex, ey] at h
  simp [baseV] at h
 have hxn := xg.n
 have hb := hbn x.a hxn.2
 have hat : ∀ i, i ≤ x.a.links.length → ∃ g, (x.fs ++ [x.f])[i]? = some g := fun i hi => ⟨_, List.getElem?_eq_getElem (by simp; omega)⟩
 refine bif_mk (fun hp => ?_) (fun hp => ?_)
 ·have hp : x.i < x.a.links.length := by have := of_decide_eq_true hp; omega
  obtain ⟨L, hL⟩ : ∃ L, x.a.links[x.i]? = some L := ⟨_, List.getElem?_eq_getElem hp⟩
  obtain ⟨g1, hg1⟩ := hat (x.i + 1) hp
  obtain ⟨g2, hg2⟩ := hat x.i xi
  obtain ⟨n1, hn1, ld1, _⟩ := frs_at hb hg1
  obtain ⟨n2, hn2, ld2, _⟩ := frs_at hb hg2
  rw [w64 (n := (x.i : Int) + 1) (by omega)]
  refine ⟨by omega, _, _, _, _, _, _, _, _, _, _, _, link_ld (by simpa using hL), by omega, g1.x, n1, g1.y, n1, ld1, by omega, g2.x, n2, g2.y, n2, ld2, by omega, by omega, by omega, by omega, bif_mk (fun h => ?_) (fun _ => ⟨⟨x.a, x.fs, x.f, x.i + 1⟩, ⟨⟨xg, xl, ⟨xq, xql, xe⟩, hp⟩, by simp only; omega⟩, rfl, rfl, rfl, rfl, rfl, rfl, rfl, rfl, rfl, rfl⟩)⟩
  exfalso
  rw [xe] at hg1 hg2
  rw [frames_step x.a.links xq _ x.i L g2 g1 xql hL hg2 hg1] at h
  simp [cmpR, Rat.lt_irrefl] at h
 ·have hp : x.i = x.a.links.length := by have := of_decide_eq_false hp; omega
  obtain ⟨g1, hg1⟩ := hat x.a.links.length (Nat.le_refl _)
  obtain ⟨g2, hg2⟩ := hat (x.a.links.length - 1) (by omega)
  obtain ⟨n1, hn1, _, ld1⟩ := frs_at hb hg1
  obtain ⟨n2, hn2, _, ld2⟩ := frs_at hb hg2
  rw [w64 (n := ((x.fs.length + (0 + 1) : Nat) : Int) - 1) (by omega), w64 (n := ((x.fs.length + (0 + 1) : Nat) : Int) - 2) (by omega)]
  rw [show (((x.fs.length + (0 + 1) : Nat) : Int) - 1).toNat = x.a.links.length by omega, show (((x.fs.length + (0 + 1) : Nat) : Int) - 2).toNat = x.a.links.length - 1 by omega]
  refine ⟨by omega, _, _, _, ld1, by omega, _, _, _, ld2, ?_⟩
  rw [xe] at hg1 hg2
  obtain ⟨e1, e2⟩ := frames_last x.a.links xq _ g2 g1 xql hxn.1 hg2 hg1
  rw [e1, e2]
  simpa using hK
theorem spec_flen (l m : List Int) (hl : l.length ≤ 9223372036854775807) (hm : m.length ≤ 9223372036854775807) : Eng.Spec Tryd.prog tabG debT 6 [.x false [.s 1 (ints l)], .x false [.s 1 (ints m)]] (fun av => av = .x false [.v (.bool true)]) :=
 spec_ofL T95ok mixed Tryd.func6 (by kernel_rfl) (by kernel_rfl) (by rfl) (g_flen l m hl hm _ rfl)
end Go.Proofs
