/- gantmake.poly, Poly; walls, clears. -/
import Derived.Test.YtdkakhlabdoilaaGreatDoorCA
/- gantmake.poly, Poly; walls, clears. -/
namespace Go.Proofs
open Go Go.Eng
def M185 : List (Nat × CtrM) := M79
theorem M185ok : CtrMsOK Tryz.prog tabG debT M185 := M79ok
def L186c : List (Nat × Ctr) := L184c
theorem L186cok : CtrsOK Tryz.prog tabG debT L186c := L184cok
def L187c : List (Nat × Ctr) := L186c
def T187c : Tabs := mkT L187c M185 X4
theorem L187cok : CtrsOK Tryz.prog tabG debT L187c := L186cok
theorem T187cok : TabsOK Tryz.prog tabG debT T187c := mkTok L187cok M185ok X4ok
def ot_kClears : OT := fun _ => ([], [])
def goal_kClears  (K : AV → Prop) : Prop := goalL T187c ot_kClears noL Tryz.f10 [] K
theorem goal_kClears_vc (K : AV → Prop) : goal_kClears K = ((((-9223372036854775808:Int)<2∧(2:Int)<9223372036854775808)∧(-9223372036854775808:Int)<0∧(0:Int)<9223372036854775808)∧(((-9223372036854775808:Int)<4∧(4:Int)<9223372036854775808)∧(-9223372036854775808:Int)<0∧(0:Int)<9223372036854775808)∧(((-9223372036854775808:Int)<4∧(4:Int)<9223372036854775808)∧(-9223372036854775808:Int)<1∧(1:Int)<9223372036854775808)∧∃(ns:List Int),[[Ch.v (Value.int IntKind.i64 3)]]=ints ns∧(ns.length≤3∧∀(n:Int),n ∈ ns→1≤n∧n≤1000)∧(((-9223372036854775808:Int)<0∧(0:Int)<9223372036854775808)∧(0:Int)<1∧(1:Int)<9223372036854775808)∧∃(a:ArmV),∃(b:Nat),∃(qs:List Rat),∃(m:Nat),∃(ws:List (List (Rat × Rat))),[Ch.v (Value.string (sampleV ns).name),Ch.r (sampleV ns).x 63,Ch.r (sampleV ns).y 63,Ch.v (Value.bool false),Ch.r (sampleV ns).t 63,Ch.s 16 (List.map linkCh (sampleV ns).links)]=[Ch.v (Value.string a.name),Ch.r a.x 63,Ch.r a.y 63,Ch.v (Value.bool a.half),Ch.r a.t 63,Ch.s 16 (List.map linkCh a.links)]∧[[Ch.r (mkRat 0 1) 63]]=lR b qs∧[[Ch.s 6 [[Ch.r (mkRat 2 1,mkRat 0 1).fst 63,Ch.r (mkRat 2 1,mkRat 0 1).snd 63],[Ch.r (mkRat 4 1,mkRat 0 1).fst 63,Ch.r (mkRat 4 1,mkRat 0 1).snd 63],[Ch.r (mkRat 4 1,mkRat 1 1).fst 63,Ch.r (mkRat 4 1,mkRat 1 1).snd 63]]]]=shN m ws∧(GoodArm a∧(b≤400∧qs.length=a.links.length)∧m≤400000000∧(∀(w:List (Rat × Rat)),w ∈ ws→PolyOK w)∧ws.length≤20)∧∀(fs:List FrV) (f:FrV),fs++[f]=framesV (baseV a) a.links qs→fs.length=a.links.length→∃(ns:List Int),[[Ch.v (Value.int IntKind.i64 3)]]=ints ns∧(ns.length≤3∧∀(n:Int),n ∈ ns→1≤n∧n≤1000)∧(((-9223372036854775808:Int)<2∧(2:Int)<9223372036854775808)∧(0:Int)<1∧(1:Int)<9223372036854775808)∧∃(a_3:ArmV),∃(b:Nat),∃(qs:List Rat),∃(m:Nat),∃(ws_1:List (List (Rat × Rat))),[Ch.v (Value.string (sampleV ns).name),Ch.r (sampleV ns).x 63,Ch.r (sampleV ns).y 63,Ch.v (Value.bool false),Ch.r (sampleV ns).t 63,Ch.s 16 (List.map linkCh (sampleV ns).links)]=[Ch.v (Value.string a_3.name),Ch.r a_3.x 63,Ch.r a_3.y 63,Ch.v (Value.bool a_3.half),Ch.r a_3.t 63,Ch.s 16 (List.map linkCh a_3.links)]∧[[Ch.r (mkRat 2 1) 63]]=lR b qs∧[[Ch.s 6 [[Ch.r (mkRat 2 1,mkRat 0 1).fst 63,Ch.r (mkRat 2 1,mkRat 0 1).snd 63],[Ch.r (mkRat 4 1,mkRat 0 1).fst 63,Ch.r (mkRat 4 1,mkRat 0 1).snd 63],[Ch.r (mkRat 4 1,mkRat 1 1).fst 63,Ch.r (mkRat 4 1,mkRat 1 1).snd 63]]]]=shN m ws_1∧(GoodArm a_3∧(b≤400∧qs.length=a_3.links.length)∧m≤400000000∧(∀(w:List (Rat × Rat)),w ∈ ws_1→PolyOK w)∧ws_1.length≤20)∧∀(fs_1:List FrV) (f:FrV),fs_1++[f]=framesV (baseV a_3) a_3.links qs→fs_1.length=a_3.links.length→bif !freeB (placeV fs a.links) ws then K (AV.x false [Ch.v (Value.bool (freeB (placeV fs_1 a_3.links) ws_1))]) else K (AV.x false [Ch.v (Value.bool false)])) := by kernel_rfl
theorem g_kClears  (_hc : True) (K : AV → Prop) (hK : K (.x false [.v (.bool true)])) : Holds (goal_kClears  K) := by
 refine ⟨?_⟩
 rw [goal_kClears_vc]
 try simp only []
 have k1 : freeB (placeV ((framesV (baseV (sampleV [3])) (sampleV [3]).links [mkRat 0 1]).take 1) (sampleV [3]).links) [[pt1 2 0, pt1 4 0, pt1 4 1]] = false := by decide +kernel
 have k2 : freeB (placeV ((framesV (baseV (sampleV [3])) (sampleV [3]).links [mkRat 2 1]).take 1) (sampleV [3]).links) [[pt1 2 0, pt1 4 0, pt1 4 1]] = true := by decide +kernel
 have wp : ∀ w ∈ [[pt1 2 0, pt1 4 0, pt1 4 1]], PolyOK w := fun w hw => by
  rw [List.mem_singleton.1 hw]
  exact polyB_ok (by decide +kernel)
 refine ⟨by omega, by omega, by omega, [3], rfl, ⟨by simp, by simp⟩, by omega, sampleV [3], 63, [mkRat 0 1], 63, [[pt1 2 0, pt1 4 0, pt1 4 1]], rfl, rfl, rfl, ⟨sample_good (by simp) (by simp), ⟨by omega, rfl⟩, by omega, wp, by simp⟩, fun fs f hf hl => ⟨[3], rfl, ⟨by simp, by simp⟩, by omega, sampleV [3], 63, [mkRat 2 1], 63, [[pt1 2 0, pt1 4 0, pt1 4 1]], rfl, rfl, rfl, ⟨sample_good (by simp) (by simp), ⟨by omega, rfl⟩, by omega, wp, by simp⟩, fun gs g hg hgl => ?_⟩⟩
 obtain ⟨e1, _⟩ := snoc_of hf (show fs.length = 1 from hl)
 obtain ⟨e2, _⟩ := snoc_of hg (show gs.length = 1 from hgl)
 rw [← e1] at k1
 rw [← e2] at k2
 rw [k1, k2]
 exact hK
def c_kClears : Ctr := fun as0 => match as0 with
 | [] => some fun K => (True) ∧ (K (.x false [.v (.bool true)]))
 | _ => none
theorem ok_kClears : CtrOK Tryz.prog tabG debT 10 c_kClears := by
 refine ⟨enters Tryz.func10 (by kernel_rfl), fun l T hT K hK => ?_⟩
 unfold c_kClears at hT
 split at hT
 ·cases hT
  obtain ⟨hc, hK⟩ := hK
  exact spec_ofL T187cok mixed Tryz.func10 (by kernel_rfl) (by kernel_rfl) (by rfl) (g_kClears  hc K hK)
 ·cases hT
def L188c : List (Nat × Ctr) := (10, c_kClears) :: L187c
def T188c : Tabs := mkT L188c M185 X4
theorem L188cok : CtrsOK Tryz.prog tabG debT L188c := .cons ok_kClears L187cok
theorem T188cok : TabsOK Tryz.prog tabG debT T188c := mkTok L188cok M185ok X4ok
end Go.Proofs
/- ClearFewer, ClearBoth, ClearProves, ClearBack. -/
namespace Go.Proofs
open Go Go.Eng
def inA (l : List Int) : AV := .x false [.s 1 (ints l)]
def ot_cbth : OT := fun id => bif id.beq 4 then ([0, 1, 3, 4, 2, 5, 6, 7], [[], [], [0, 1], [], [], [3, 4, 2, 0, 1], [2, 0, 1, 5, 3, 4], [5, 3, 4, 2, 0, 1, 6]]) else ([], [])
def goal_cbth (l m k n : List Int) (K : AV → Prop) : Prop := goalL T188c ot_cbth noL Tryz.f3 [inA l, inA m, inA k, inA n] K
theorem goal_cbth_vc (l : List Int) (m : List Int) (k : List Int) (n : List Int) (K : AV → Prop) : goal_cbth l m k n K = (True∧∃(l_1:List Int),ints l=ints l_1∧l_1.length≤9223372036854775807∧∀(a:ArmV),Made a∧1≤a.links.length→∃(l:List Int),ints m=ints l∧l.length≤9223372036854775807∧∀(a_2:ArmV),Made a_2∧1≤a_2.links.length→∃(a_4:ArmV),∃(l:List Int),[Ch.v (Value.string a.name),Ch.r a.x 63,Ch.r a.y 63,Ch.v (Value.bool a.half),Ch.r a.t 63,Ch.s 16 (List.map linkCh a.links)]=[Ch.v (Value.string a_4.name),Ch.r a_4.x 63,Ch.r a_4.y 63,Ch.v (Value.bool a_4.half),Ch.r a_4.t 63,Ch.s 16 (List.map linkCh a_4.links)]∧ints k=ints l∧(GoodArm a_4∧l.length≤9223372036854775807)∧∀(qs:List Rat),(∀(i:Nat) (L:LinkV) (q:Rat),a_4.links[i]?=some L→qs[i]?=some q→L.lo≤q∧q≤L.hi)→qs.length=a_4.links.length→∃(a_7:ArmV),∃(l:List Int),[Ch.v (Value.string a_2.name),Ch.r a_2.x 63,Ch.r a_2.y 63,Ch.v (Value.bool a_2.half),Ch.r a_2.t 63,Ch.s 16 (List.map linkCh a_2.links)]=[Ch.v (Value.string a_7.name),Ch.r a_7.x 63,Ch.r a_7.y 63,Ch.v (Value.bool a_7.half),Ch.r a_7.t 63,Ch.s 16 (List.map linkCh a_7.links)]∧ints n=ints l∧(GoodArm a_7∧l.length≤9223372036854775807)∧∀(qs_1:List Rat),(∀(i:Nat) (L:LinkV) (q:Rat),a_7.links[i]?=some L→qs_1[i]?=some q→L.lo≤q∧q≤L.hi)→qs_1.length=a_7.links.length→∃(a_10:ArmV),∃(b:ArmV),∃(n:Nat),∃(ps:List Rat),∃(m:Nat),∃(qs_2:List Rat),[Ch.v (Value.string a.name),Ch.r a.x 63,Ch.r a.y 63,Ch.v (Value.bool a.half),Ch.r a.t 63,Ch.s 16 (List.map linkCh a.links)]=[Ch.v (Value.string a_10.name),Ch.r a_10.x 63,Ch.r a_10.y 63,Ch.v (Value.bool a_10.half),Ch.r a_10.t 63,Ch.s 16 (List.map linkCh a_10.links)]∧[Ch.v (Value.string a_2.name),Ch.r a_2.x 63,Ch.r a_2.y 63,Ch.v (Value.bool a_2.half),Ch.r a_2.t 63,Ch.s 16 (List.map linkCh a_2.links)]=[Ch.v (Value.string b.name),Ch.r b.x 63,Ch.r b.y 63,Ch.v (Value.bool b.half),Ch.r b.t 63,Ch.s 16 (List.map linkCh b.links)]∧lR 63 qs=lR n ps∧lR 63 qs_1=lR m qs_2∧((GoodArm a_10∧GoodArm b)∧(n≤400∧ps.length=a_10.links.length)∧m≤400∧qs_2.length=b.links.length)∧∀(fs:List FrV) (f:FrV) (gs:List FrV) (g:FrV),fs++[f]=framesV (baseV a_10) a_10.links ps→fs.length=a_10.links.length→gs++[g]=framesV (baseV b) b.links qs_2→gs.length=b.links.length→∃(a_15:ArmV),∃(b_1:ArmV),∃(n:Nat),∃(ps:List Rat),∃(m:Nat),∃(qs_3:List Rat),[Ch.v (Value.string a_2.name),Ch.r a_2.x 63,Ch.r a_2.y 63,Ch.v (Value.bool a_2.half),Ch.r a_2.t 63,Ch.s 16 (List.map linkCh a_2.links)]=[Ch.v (Value.string a_15.name),Ch.r a_15.x 63,Ch.r a_15.y 63,Ch.v (Value.bool a_15.half),Ch.r a_15.t 63,Ch.s 16 (List.map linkCh a_15.links)]∧[Ch.v (Value.string a.name),Ch.r a.x 63,Ch.r a.y 63,Ch.v (Value.bool a.half),Ch.r a.t 63,Ch.s 16 (List.map linkCh a.links)]=[Ch.v (Value.string b_1.name),Ch.r b_1.x 63,Ch.r b_1.y 63,Ch.v (Value.bool b_1.half),Ch.r b_1.t 63,Ch.s 16 (List.map linkCh b_1.links)]∧lR 63 qs_1=lR n ps∧lR 63 qs=lR m qs_3∧((GoodArm a_15∧GoodArm b_1)∧(n≤400∧ps.length=a_15.links.length)∧m≤400∧qs_3.length=b_1.links.length)∧∀(fs_1:List FrV) (f:FrV) (gs_1:List FrV) (g:FrV),fs_1++[f]=framesV (baseV a_15) a_15.links ps→fs_1.length=a_15.links.length→gs_1++[g]=framesV (baseV b_1) b_1.links qs_3→gs_1.length=b_1.links.length→∃(a_20:ArmV),∃(b_2:ArmV),∃(n:Nat),∃(ps:List Rat),∃(m:Nat),∃(qs_4:List Rat),[Ch.v (Value.string a.name),Ch.r a.x 63,Ch.r a.y 63,Ch.v (Value.bool a.half),Ch.r a.t 63,Ch.s 16 (List.map linkCh a.links)]=[Ch.v (Value.string a_20.name),Ch.r a_20.x 63,Ch.r a_20.y 63,Ch.v (Value.bool a_20.half),Ch.r a_20.t 63,Ch.s 16 (List.map linkCh a_20.links)]∧[Ch.v (Value.string a.name),Ch.r a.x 63,Ch.r a.y 63,Ch.v (Value.bool a.half),Ch.r a.t 63,Ch.s 16 (List.map linkCh a.links)]=[Ch.v (Value.string b_2.name),Ch.r b_2.x 63,Ch.r b_2.y 63,Ch.v (Value.bool b_2.half),Ch.r b_2.t 63,Ch.s 16 (List.map linkCh b_2.links)]∧lR 63 qs=lR n ps∧lR 63 qs=lR m qs_4∧((GoodArm a_20∧GoodArm b_2)∧(n≤400∧ps.length=a_20.links.length)∧m≤400∧qs_4.length=b_2.links.length)∧∀(fs_2:List FrV) (f:FrV) (gs_2:List FrV) (g:FrV),fs_2++[f]=framesV (baseV a_20) a_20.links ps→fs_2.length=a_20.links.length→gs_2++[g]=framesV (baseV b_2) b_2.links qs_4→gs_2.length=b_2.links.length→True∧bif freeB (placeV fs a_10.links) (placeV gs b.links)==freeB (placeV fs_1 a_15.links) (placeV gs_1 b_1.links) then K (AV.x false [Ch.v (Value.bool !freeB (placeV fs_2 a_20.links) (placeV gs_2 b_2.links))]) else K (AV.x false [Ch.v (Value.bool false)])) := by kernel_rfl
theorem snoc_eq {α : Type} {l k : List α} {a b : α} (h : l ++ [a] = k ++ [b]) : l = k := (List.append_inj' h rfl).1
theorem g_cbth (l m k n : List Int) (hl : l.length ≤ 9223372036854775807) (hm : m.length ≤ 9223372036854775807) (hk : k.length ≤ 9223372036854775807) (hn : n.length ≤ 9223372036854775807) (K : AV → Prop) (hK : K (.x false [.v (.bool true)])) : Holds (goal_cbth l m k n K) := by
 refine ⟨?_⟩
 rw [goal_cbth_vc]
 simp only [true_and]
 refine ⟨l, rfl, hl, fun a ha => ⟨m, rfl, hm, fun b hb => ⟨a, k, rfl, rfl, ⟨MadeA.good ha, hk⟩, fun ps _ hp => ⟨b, n, rfl, rfl, ⟨MadeA.good hb, hn⟩, fun qs _ hq => ?_⟩⟩⟩⟩
 have ga := MadeA.good ha
 have gb := MadeA.good hb
 refine ⟨a, b, 63, ps, 63, qs, rfl, rfl, rfl, rfl, ⟨⟨ga, gb⟩, ⟨by omega, hp⟩, by omega, hq⟩, fun f1 e1 f2 e2 h1 l1 h2 l2 => ⟨b, a, 63, qs, 63, ps, rfl, rfl, rfl, rfl, ⟨⟨gb, ga⟩, ⟨by omega, hq⟩, by omega, hp⟩, fun f3 e3 f4 e4 h3 l3 h4 l4 => ⟨a, a, 63, ps, 63, ps, rfl, rfl, rfl, rfl, ⟨⟨ga, ga⟩, ⟨by omega, hp⟩, by omega, hp⟩, fun f5 e5 f6 e6 h5 l5 h6 l6 => ?_⟩⟩⟩
 obtain rfl := snoc_eq (h1.trans h4.symm)
 obtain rfl := snoc_eq (h2.trans h3.symm)
 obtain rfl := snoc_eq (h1.trans h5.symm)
 obtain rfl := snoc_eq (h1.trans h6.symm)
 rw [free_comm (placeV f2 b.links) (placeV f1 a.links)]
 refine bif_mk (fun _ => ?_) (fun h => by simp at h)
 have pl := place_len l1
 have an := ga.n
 obtain ⟨s, hs⟩ : ∃ s, (placeV f1 a.links)[0]? = some s := ⟨_, List.getElem?_eq_getElem (by omega)⟩
 have ms := List.mem_of_getElem? hs
 have s3 := (place_poly ga f1 s ms).lo
 rw [free_self ms (fun e => by rw [e] at s3; simp at s3)]
 exact hK
theorem spec_cbth (l m k n : List Int) (hl : l.length ≤ 9223372036854775807) (hm : m.length ≤ 9223372036854775807) (hk : k.length ≤ 9223372036854775807) (hn : n.length ≤ 9223372036854775807) : Eng.Spec Tryz.prog tabG debT 3 [inA l, inA m, inA k, inA n] (fun av => av = .x false [.v (.bool true)]) :=
 spec_ofL T188cok mixed Tryz.func3 (by kernel_rfl) (by kernel_rfl) (by rfl) (g_cbth l m k n hl hm hk hn _ rfl)
end Go.Proofs
