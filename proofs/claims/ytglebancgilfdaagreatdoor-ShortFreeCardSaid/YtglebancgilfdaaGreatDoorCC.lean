/- gantmake.poly, Poly; walls, clears. -/
import Derived.Test.YtglebancgilfdaaGreatDoorCA
/- gantmake.poly, Poly; walls, clears. -/
namespace Go.Proofs
open Go Go.Eng
def rowP (n : Nat) (ps : List (Rat × Rat)) : Blk := .row 27 6 (ps.map (vecN n))
def ot_kClears : OT := fun _ => ([], [])
def goal_kClears  (K : AV → Prop) : Prop := goalL T184c ot_kClears noL Tryz.f11 [] K
theorem goal_kClears_vc (K : AV → Prop) : goal_kClears K = ((((-9223372036854775808:Int)<2∧(2:Int)<9223372036854775808)∧(-9223372036854775808:Int)<0∧(0:Int)<9223372036854775808)∧(((-9223372036854775808:Int)<4∧(4:Int)<9223372036854775808)∧(-9223372036854775808:Int)<0∧(0:Int)<9223372036854775808)∧(((-9223372036854775808:Int)<4∧(4:Int)<9223372036854775808)∧(-9223372036854775808:Int)<1∧(1:Int)<9223372036854775808)∧∃(ns:List Int),[[Ch.v (Value.int IntKind.i64 3)]]=ints ns∧(ns.length≤3∧∀(n:Int),n ∈ ns→1≤n∧n≤1000)∧(((-9223372036854775808:Int)<0∧(0:Int)<9223372036854775808)∧(0:Int)<1∧(1:Int)<9223372036854775808)∧∃(a:ArmV),∃(b:Nat),∃(qs:List Rat),∃(m:Nat),∃(ws:List (List (Rat × Rat))),[Ch.v (Value.string (sampleV ns).name),Ch.r (sampleV ns).x 63,Ch.r (sampleV ns).y 63,Ch.v (Value.bool false),Ch.r (sampleV ns).t 63,Ch.s 16 (List.map linkCh (sampleV ns).links)]=[Ch.v (Value.string a.name),Ch.r a.x 63,Ch.r a.y 63,Ch.v (Value.bool a.half),Ch.r a.t 63,Ch.s 16 (List.map linkCh a.links)]∧[[Ch.r (mkRat 0 1) 63]]=lR b qs∧[[Ch.s 6 [[Ch.r (mkRat 2 1,mkRat 0 1).fst 63,Ch.r (mkRat 2 1,mkRat 0 1).snd 63],[Ch.r (mkRat 4 1,mkRat 0 1).fst 63,Ch.r (mkRat 4 1,mkRat 0 1).snd 63],[Ch.r (mkRat 4 1,mkRat 1 1).fst 63,Ch.r (mkRat 4 1,mkRat 1 1).snd 63]]]]=shN m ws∧(GoodArm a∧(b≤400∧qs.length=a.links.length)∧m≤400000000∧(∀(w:List (Rat × Rat)),w ∈ ws→PolyOK w)∧ws.length≤20)∧∀(fs:List FrV) (f:FrV),fs++[f]=framesV (baseV a) a.links qs→fs.length=a.links.length→∃(ns:List Int),[[Ch.v (Value.int IntKind.i64 3)]]=ints ns∧(ns.length≤3∧∀(n:Int),n ∈ ns→1≤n∧n≤1000)∧(((-9223372036854775808:Int)<2∧(2:Int)<9223372036854775808)∧(0:Int)<1∧(1:Int)<9223372036854775808)∧∃(a_3:ArmV),∃(b:Nat),∃(qs:List Rat),∃(m:Nat),∃(ws_1:List (List (Rat × Rat))),[Ch.v (Value.string (sampleV ns).name),Ch.r (sampleV ns).x 63,Ch.r (sampleV ns).y 63,Ch.v (Value.bool false),Ch.r (sampleV ns).t 63,Ch.s 16 (List.map linkCh (sampleV ns).links)]=[Ch.v (Value.string a_3.name),Ch.r a_3.x 63,Ch.r a_3.y 63,Ch.v (Value.bool a_3.half),Ch.r a_3.t 63,Ch.s 16 (List.map linkCh a_3.links)]∧[[Ch.r (mkRat 2 1) 63]]=lR b qs∧[[Ch.s 6 [[Ch.r (mkRat 2 1,mkRat 0 1).fst 63,Ch.r (mkRat 2 1,mkRat 0 1).snd 63],[Ch.r (mkRat 4 1,mkRat 0 1).fst 63,Ch.r (mkRat 4 1,mkRat 0 1).snd 63],[Ch.r (mkRat 4 1,mkRat 1 1).fst 63,Ch.r (mkRat 4 1,mkRat 1 1).snd 63]]]]=shN m ws_1∧(GoodArm a_3∧(b≤400∧qs.length=a_3.links.length)∧m≤400000000∧(∀(w:List (Rat × Rat)),w ∈ ws_1→PolyOK w)∧ws_1.length≤20)∧∀(fs_1:List FrV) (f:FrV),fs_1++[f]=framesV (baseV a_3) a_3.links qs→fs_1.length=a_3.links.length→bif !freeB (placeV fs a.links) ws then K (AV.x false [Ch.v (Value.bool (freeB (placeV fs_1 a_3.links) ws_1))]) else K (AV.x false [Ch.v (Value.bool false)])) := by kernel_rfl
theorem g_kClears  (_hc : True) (K : AV → Prop) (hK : K (.x false [.v (.bool true)])) : Holds (goal_kClears  K) := by
 refine ⟨?_⟩
 rw [goal_kClears_vc]
 try simp only []
 have k1 : freeB (placeV ((framesV (baseV (sampleV [3])) (sampleV [3]).links [mkRat 0 1]).take 1) (sampleV [3]).links) [[pt1 2 0, pt1 4 0, pt1 4 1]] = false := by decide +kernel
 have k2 : freeB (placeV ((framesV (baseV (sampleV [3])) (sampleV [3]).links [mkRat 2 1]).take 1) (sampleV [3]).links) [[pt1 2 0, pt1 4 0, pt1 4 1]] = true := by decide +kernel
 have wp : ∀ w ∈ [[pt1 2 0, pt1 4 0, pt1 4 1]], PolyOK w := fun w hw => by
  rw [List.mem_singleton.1 hw]
  exact polyB_ok (by decide +kernel)
 refine ⟨by omega, by omega, by omega, [3], rfl, ⟨by simp, by simp⟩, by omega, sampleV [3], 63, [mkRat 0 1], 63, [[pt1 2 0, pt1 4 0, pt1 4 1]], rfl, rfl, rfl, ⟨sample_good (by simp) (by simp), ⟨by omega, rfl⟩, by omega, wp, by simp⟩, fun fs f hf hl => ⟨[3], rfl, ⟨by simp, by simp⟩, by omega, sampleV [3], 63, [mkRat 2 1], 63, [[pt1 2 0, pt1 4 0, pt1 4 1]], rfl, rfl, rfl, ⟨sample_good (by simp) (by simp), ⟨by omega, rfl⟩, by omega, wp, by simp⟩, fun gs g hg hgl => ?_⟩⟩
 obtain ⟨e1, _⟩ := snoc_of hf (show fs.length = 1 from hl)
 obtain ⟨e2, _⟩ := snoc_of hg (show gs.length = 1 from hgl)
 rw [← e1] at k1
 rw [← e2] at k2
 rw [k1, k2]
 exact hK
def c_kClears : Ctr := fun as0 => match as0 with
 | [] => some fun K => (True) ∧ (K (.x false [.v (.bool true)]))
 | _ => none
theorem ok_kClears : CtrOK Tryz.prog tabG debT 11 c_kClears := by
 refine ⟨enters Tryz.func11 (by kernel_rfl), fun l T hT K hK => ?_⟩
 unfold c_kClears at hT
 split at hT
 ·cases hT
  obtain ⟨hc, hK⟩ := hK
  exact spec_ofL T184cok mixed Tryz.func11 (by kernel_rfl) (by kernel_rfl) (by rfl) (g_kClears  hc K hK)
 ·cases hT
def L185k : List (Nat × Ctr) := (11, c_kClears) :: L184c
theorem L185kok : CtrsOK Tryz.prog tabG debT L185k := .cons ok_kClears L184cok
def gP0 (w h : Int) : List (Rat × Rat) := [at4 (-w) (-h), at4 w (-h), at4 w h, at4 (-w) h]
def gP1 (w h r : Int) : List (Rat × Rat) := [at4 (-w) (-h), at4 w (-h), at4 (r - w) h]
def gP2 (w h : Int) : List (Rat × Rat) := [at4 (-w - 1) (-h - 1), at4 w (-h - 1), at4 (w + 1) (-h), at4 (w + 1) h, at4 (-w - 1) h]
def gP3 (w h : Int) : List (Rat × Rat) := [at4 (-w) 0, at4 0 (-h), at4 w 0, at4 0 h]
theorem gpolys_ok : ([1, 2, 3, 4, 5, 6] : List Int).all (fun w => ([1, 2, 3, 4, 5, 6] : List Int).all fun h => polyB (gP0 w h) && polyB (gP2 w h) && polyB (gP3 w h) && (List.range (2 * w + 1).toNat).all fun (r : Nat) => polyB (gP1 w h (r : Int))) = true := by decide +kernel
theorem gpoly_of {w h : Int} (hw : 1 ≤ w ∧ w ≤ 6) (hh : 1 ≤ h ∧ h ≤ 6) : PolyOK (gP0 w h) ∧ PolyOK (gP2 w h) ∧ PolyOK (gP3 w h) ∧ ∀ r : Int, 0 ≤ r → r < 2 * w + 1 → PolyOK (gP1 w h r) := by
 have m : ∀ {x : Int}, 1 ≤ x ∧ x ≤ 6 → x ∈ ([1, 2, 3, 4, 5, 6] : List Int) := fun {x} hx => by
  have : x = 1 ∨ x = 2 ∨ x = 3 ∨ x = 4 ∨ x = 5 ∨ x = 6 := by omega
  simpa using this
 have k := List.all_eq_true.1 (List.all_eq_true.1 gpolys_ok w (m hw)) h (m hh)
 simp only [Bool.and_eq_true] at k
 refine ⟨polyB_ok k.1.1.1, polyB_ok k.1.1.2, polyB_ok k.1.2, fun r h0 h1 => ?_⟩
 have := List.all_eq_true.1 k.2 r.toNat (List.mem_range.2 (by omega))
 rw [show ((r.toNat : Nat) : Int) = r by omega] at this
 exact polyB_ok this
def c_gpoly : CtrM := fun as0 H d => match as0 with
 | [.x false [.p k o]] => match o with
  | 0 => match H k with
   | some (.box t [.s 1 zs]) => match H d with
    | none => bif t.beq 89 then
     some fun K => ∃ l, zs = ints l ∧ l.length ≤ 9223372036854775807 ∧ ∀ (ps : List (Rat × Rat)) (l' : List Int), PolyOK ps → l'.length ≤ l.length →
      K (.x false [.w d 0 ps.length]) (backH [(1000, k), (500, d)] (lookH [(1000, stB l'), (500, rowP 63 ps)]) H)
     else none
    | some _ => none
   | _ => none
  | _ + 1 => none
 | _ => none
def M185 : List (Nat × CtrM) := (94, c_gpoly) :: M79
def mvP (v p : Rat × Rat) : Rat × Rat := (p.1 + v.1, p.2 + v.2)
theorem poly_mv {l : List (Rat × Rat)} (v : Rat × Rat) (h : PolyOK l) : PolyOK (l.map (mvP v)) := by
 refine ⟨by rw [List.length_map]; exact h.lo, by rw [List.length_map]; exact h.hi, fun i k a b c h1 h2 ha hb hc => ?_⟩
 rw [List.length_map] at h2 hb hc
 rw [List.getElem?_map] at ha hb hc
 obtain ⟨a', ha', rfl⟩ := Option.map_eq_some_iff.1 ha
 obtain ⟨b', hb', rfl⟩ := Option.map_eq_some_iff.1 hb
 obtain ⟨c', hc', rfl⟩ := Option.map_eq_some_iff.1 hc
 have := h.left i k a' b' c' h1 h2 ha' hb' hc'
 unfold lft at this ⊢
 unfold mvP
 simp only
 grind
def c_mPoly : Ctr := fun as0 => match as0 with
 | [.x false [.s 1 xs]] => some fun K => ∃ (l : List Int), xs = ints l ∧ ((l.length ≤ 9223372036854775807)) ∧ (∀ ps, PolyOK ps → K (sVv 63 ps))
 | _ => none
def L186c : List (Nat × Ctr) := (50, c_mPoly) :: L185k
def c_kWalls : Ctr := fun as0 => match as0 with
 | [.x false [.s 1 xs]] => some fun K => ∃ (l : List Int), xs = ints l ∧ ((l.length ≤ 9223372036854775807)) ∧ (∀ ws : List (List (Rat × Rat)), ws.length ≤ 3 → (∀ w ∈ ws, PolyOK w) → K (slA 127 ws))
 | _ => none
def L187c : List (Nat × Ctr) := (15, c_kWalls) :: L186c
def T187c : Tabs := mkT L187c M185 X4
end Go.Proofs
