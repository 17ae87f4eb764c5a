/- Digits: a number tells them. -/
import Derived.Test.YtagcmnmbgogljaaDoorRB
/- Digits: a number tells them. -/
namespace Go.Proofs
theorem numV_inj {s : Int} (hs : 0 ≤ s) : ∀ {l m : List Int}, l.length = m.length → (∀ k ∈ l, 0 ≤ k ∧ k ≤ s) → (∀ k ∈ m, 0 ≤ k ∧ k ≤ s) → numV s l = numV s m → l = m := by
 intro l
 induction l with
 | nil => intro m h _ _ _; cases m with | nil => rfl | cons => simp at h
 | cons a l ih =>
  intro m h h1 h2 he
  cases m with
  | nil => simp at h
  | cons b m =>
   have hl : l.length = m.length := by simpa using h
   have r1 : ∀ k ∈ l, 0 ≤ k ∧ k ≤ s := fun k hk => h1 k (by simp [hk])
   have r2 : ∀ k ∈ m, 0 ≤ k ∧ k ≤ s := fun k hk => h2 k (by simp [hk])
   obtain ⟨a0, a1⟩ := numV_bounds hs r1
   obtain ⟨b0, b1⟩ := numV_bounds hs r2
   unfold numV at he
   rw [← hl] at he b1
   have hp := pow_pos' hs l.length
   generalize (s + 1) ^ l.length = P at *
   have hab : a = b := by
    rcases Int.lt_trichotomy a b with h | h | h
    ·have : a * P + P ≤ b * P := by
      have := Int.mul_le_mul_of_nonneg_right (show a + 1 ≤ b by omega) (show 0 ≤ P by omega)
      grind
     omega
    ·exact h
    ·have : b * P + P ≤ a * P := by
      have := Int.mul_le_mul_of_nonneg_right (show b + 1 ≤ a by omega) (show 0 ≤ P by omega)
      grind
     omega
   subst hab
   rw [ih hl r1 r2 (by omega)]
end Go.Proofs
/- roam.Next; RoamBeside. -/
namespace Go.Proofs
open Go Go.Eng
def goal_roNxS (s : Int) (l : List Int) : Prop := goalM (X := Unit) T67u noO noL Tryd.f9 [iA .i64 s, .x false [.s 1 (ints l)]] [] (fun _ => True) (fun _ => ⟨[(4, .x false [.f 16 [3, 2]])], [(2, .box 3 [.v (.int .i64 s)]), (3, .box 22 [.s 1 (ints l)])]⟩)
theorem goal_roNxS_vc (s : Int) (l : List Int) : goal_roNxS s l = (∃(x:Unit),True∧16=16∧3=3∧s=s∧22=22∧1=1∧ints l=ints l∧True) := by kernel_rfl
theorem g_roNxS (s : Int) (l : List Int) : Holds (goal_roNxS s l) := by
 refine ⟨?_⟩
 rw [goal_roNxS_vc]
 simp only [Int.ofNat_eq_natCast, true_and, and_true, Nat.zero_add, Nat.le_refl, true_implies, true_or, or_true]
 exact ⟨(), trivial⟩
def cm_roNext : CtrM := fun as0 H d => match as0 with
 | [.x false [.v (.int .i64 s)], .x false [.s 1 xs]] => match H d, H (d + 1000) with
  | none, none => some fun K => ∃ l : List Int, xs = ints l ∧ K (.x false [.f 16 [d + 1000, d]]) (backH [(2, d), (3, d + 1000)] (lookH [(2, .box 3 [.v (.int .i64 s)]), (3, .box 22 [.s 1 (ints l)])]) H)
  | _, _ => none
 | _ => none
theorem okm_roNext : CtrMOK Tryd.prog tabG debT 9 cm_roNext := by
 refine ⟨enters Tryd.func9 (by kernel_rfl), fun l H d T hT K hK => ?_⟩
 unfold cm_roNext at hT
 split at hT
 ·split at hT
  ·rename_i s _ _ _ hd1 hd2
   cases hT
   obtain ⟨l, rfl, hK⟩ := hK
   refine specM_of (R := []) (N := [(2, d), (3, d + 1000)]) (Hl := []) T67uok mixed Tryd.func9 (by kernel_rfl) (by kernel_rfl) (by rfl)
    (as0 := [iA .i64 s, .x false [.s 1 (ints l)]]) ?_ .nil rfl (by simp) (by simp) (fun p hp => by simp at hp; rcases hp with rfl | rfl <;> assumption) (fun x => ⟨(fun _ h => by cases h), fun p hp b hb => ?_⟩) (g_roNxS s l) (fun x hx => ?_)
   ·simp [renAs, renAV, renCh]; rfl
   ·simp at hp
    rcases hp with rfl | rfl
    ·have h' : some (Blk.box _ _) = some b := hb; cases h'; rfl
    ·have h' : some (Blk.box _ _) = some b := hb; cases h'; rfl
   ·exact ⟨_, rfl, hK⟩
  ·cases hT
 ·cases hT
def M70r : List (Nat × CtrM) := (9, cm_roNext) :: M65r
noncomputable def T70e : Tabs := mkTV L69s M70r X4
theorem M70rok : CtrMsOK Tryd.prog tabG debT M70r := .cons okm_roNext M65rok
theorem T70eok : TabsOK Tryd.prog tabG debT T70e := mkTVok L69sok M70rok X4ok
structure RsX where
 a : ArmV
 s : Int
 l : List Int
 sl : List Int
 c : Int
 i : Nat
 j : Nat
 v : Int
 m : List Int
 b : Bool
 i2 : Nat
 j2 : Nat
 v2 : Int
 p : Nat
 r : Int
structure RsI (x : RsX) : Prop where
 good : GoodArm x.a
 s : 1 ≤ x.s ∧ x.s ≤ 12
 l : x.l.length = x.a.links.length
 r : ∀ k ∈ x.l, 0 ≤ k ∧ k ≤ x.s
def rsE (s v : Int) (j : Nat) : Int := (if 1 ≤ j ∧ 1 ≤ v then 1 else 0) + (if 2 ≤ j ∧ v + 1 ≤ s then 1 else 0)
/-- What is known of the spot's digit i and how many neighbours have been handed on. -/
structure RsJ (x : RsX) : Prop extends RsI x where
  v : x.l[x.i]? = some x.v
  j : x.j ≤ 2
  c : (x.i : Int) + rsE x.s x.v x.j ≤ x.c ∧ x.c ≤ 2 * x.i + rsE x.s x.v x.j
def rsW (v : Int) (j : Nat) : Int := if j = 0 then v - 1 else v + 1
/-- Within a round. -/
structure RsK (x : RsX) : Prop extends RsJ x where
  j1 : x.j < 2
  w : 0 ≤ rsW x.v x.j ∧ rsW x.v x.j ≤ x.s
  m : x.m = x.l.set x.i (rsW x.v x.j)
/-- The spot has been met among the neighbours of its neighbour. -/
structure RsN (x : RsX) : Prop extends RsK x where
  b : (x.i < x.i2 → x.b = true)
def rsC (x : RsX) : Nat := (numV 12 x.l).toNat * 48 + x.a.links.length * 12 + x.i * 3 + (2 - x.j)
def rsT : List (Nat × AV) := [(5, .x false [.p 5 0]), (6, .x false [.p 6 0]), (9, .x false [.p 9 0]), (11, .x false [.p 11 0]), (12, .x false [.p 12 0]), (14, .x false [.p 14 0])]
def rsH (x : RsX) : List (Nat × Blk) := [(5, .box 3 [.v (.int .i64 x.s)]), (6, .box 4 [.v (.bool false)]), (9, .box 36 (armCh x.a)), (11, .box 22 [.s 1 (ints x.l)]), (12, .box 43 [.s 3 (lR 319 (valR x.a x.s x.l))]), (14, .box 3 [.v (.int .i64 x.c)])]
def rsG (x : RsX) : List (Nat × Blk) := (72, .box 3 [.v (.int .i64 x.s)]) :: (1072, .box 22 [.s 1 (ints x.l)]) :: rsH x
def rsP (x : RsX) : List (Nat × Blk) := (820, rowI [x.v - 1, x.v + 1]) :: rsG x
def rsQ (x : RsX) : List (Nat × Blk) := (16, .box 4 [.v (.bool x.b)]) :: (76, .box 3 [.v (.int .i64 x.s)]) :: (1076, .box 22 [.s 1 (ints x.m)]) :: rsP x
def rsFr (k n1 n2 : Nat) (l : List Int) (i : Nat) : List (Nat × AV) := [(0, .x false [.yl k]), (1, .x false [.p n1 0]), (2, .x false [.p n2 0]), (9, .x false [.s 1 (ints l)]), (10, iA .i64 l.length), (11, iA .i64 i)]
def rsFr2 (i : Nat) (v : Int) (r j : Nat) : List (Nat × AV) := [(4, iA .i64 i), (5, iA .i64 v), (20, .x false [.w r 0 2]), (21, iA .i64 2), (22, iA .i64 j)]
def rsKt : List Nat := [0, 1, 2, 4, 5, 9, 10, 11, 20, 21, 22]
/-- The spot is being drawn. -/
def rsDr (l0 : List Int) : Inv := ⟨RsX, fun x => ⟨[(5, .x false [.p 5 0]), (6, .x false [.p 6 0]), (9, .x false [.p 9 0]), (10, .x false [.p 40 0]), (11, .x false [.p 11 0]), (43, iA .i64 x.a.links.length), (44, iA .i64 x.i)], [(5, .box 3 [.v (.int .i64 x.s)]), (6, .box 4 [.v (.bool false)]), (9, .box 36 (armCh x.a)), (11, .box 22 [.w 500 0 x.l.length]), (40, stB x.sl), (500, rowI x.l)]⟩, fun x => GoodArm x.a ∧ (1 ≤ x.s ∧ x.s ≤ 12) ∧ x.l.length = x.i ∧ x.i ≤ x.a.links.length ∧ (∀ k ∈ x.l, 0 ≤ k ∧ k ≤ x.s) ∧ x.sl.length ≤ l0.length, fun x => x.a.links.length - x.i, fun _ => 0⟩
def rsCut : Inv := ⟨RsX, fun x => ⟨[(5, .x false [.p 5 0]), (6, .x false [.p 6 0]), (9, .x false [.p 9 0]), (11, .x false [.p 11 0])], [(5, .box 3 [.v (.int .i64 x.s)]), (6, .box 4 [.v (.bool false)]), (9, .box 36 (armCh x.a)), (11, .box 22 [.s 1 (ints x.l)])]⟩, RsI, fun _ => 0, fun _ => 0⟩
def rsSt : Inv := ⟨RsX, fun x => ⟨(72, .x false [.f 16 [1072, 72]]) :: rsT, rsG x⟩, fun x => RsI x ∧ x.c = 0, fun _ => 0, fun _ => 0⟩
def rsO1 : Inv := ⟨RsX, fun x => ⟨rsFr 900 1072 72 x.l x.i, (900, .lp 0) :: rsG x⟩, fun x => RsI x ∧ x.i ≤ x.l.length ∧ (x.i : Int) ≤ x.c ∧ x.c ≤ 2 * x.i, fun x => x.l.length - x.i, fun _ => 0⟩
def rsO2 : Inv := ⟨RsX, fun x => ⟨rsFr2 x.i x.v 820 x.j ++ rsFr 900 1072 72 x.l x.i, (900, .lp 0) :: rsP x⟩, RsJ, rsC, fun x => x.l.length - x.i⟩
def rsMid : Inv := ⟨RsX, fun x => ⟨(15, .x false [.s 1 (ints x.m)]) :: (16, .x false [.p 16 0]) :: rsT, (16, .box 4 [.v (.bool false)]) :: (900, .lp 1) :: rsP x⟩, RsK, fun _ => 0, rsC⟩
def rsSt2 : Inv := ⟨RsX, fun x => ⟨(15, .x false [.s 1 (ints x.m)]) :: (16, .x false [.p 16 0]) :: (76, .x false [.f 16 [1076, 76]]) :: rsT, (900, .lp 1) :: rsQ x⟩, fun x => RsK x ∧ x.b = false, fun _ => 0, rsC⟩
def rsN1 (x0 : RsX) : Inv := ⟨RsX, fun x => ⟨rsFr 901 1076 76 x.m x.i2, (901, .lp 0) :: (900, .lp 1) :: rsQ x⟩, fun x => RsN x ∧ rsC x = rsC x0 ∧ x.i2 ≤ x.m.length, fun x => x.m.length - x.i2, fun _ => 0⟩
def rsN2 (x0 : RsX) : Inv := ⟨RsX, fun x => ⟨rsFr2 x.i2 x.v2 821 x.j2 ++ rsFr 901 1076 76 x.m x.i2, (821, rowI [x.v2 - 1, x.v2 + 1]) :: (901, .lp 0) :: (900, .lp 1) :: rsQ x⟩, fun x => RsK x ∧ rsC x = rsC x0 ∧ (x.m[x.i2]? = some x.v2 ∧ x.j2 ≤ 2) ∧ (x.i < x.i2 ∨ (x.i = x.i2 ∧ 2 ≤ x.j2 + x.j) → x.b = true), fun x => 2 - x.j2, fun x => x.m.length - x.i2⟩
def rsCmp : Inv := ⟨RsX, fun x => ⟨(18, .x false [.s 3 (lR 319 (valR x.a x.s x.m))]) :: (20, iA .i64 x.r) :: (105, iA .i64 x.l.length) :: (106, iA .i64 x.p) :: rsT, (900, .lp 1) :: rsP x⟩, fun x => RsK x ∧ x.p ≤ x.l.length ∧ x.r = (if x.i < x.p then 1 else 0), fun x => x.l.length - x.p, rsC⟩
def inv_beside (l0 : List Int) : LI := fun id =>
 bif id.beq 9 then .inv (rsDr l0)
 else bif id.beq 12 then .cutf [500] rsCut
 else bif id.beq 17 then .it rsSt [] 900 rsKt (fun _ id => bif id.beq 1 then .inv rsO1 else .inv rsO2)
 else bif id.beq 19 then .cutf [43] rsMid
 else bif id.beq 20 then .it rsSt2 [] 901 rsKt (fun x0 id => bif id.beq 1 then .inv (rsN1 x0) else .inv (rsN2 x0))
 else bif id.beq 27 then .inv rsCmp
 else .no
def ot_kBeside : OT := fun id => bif id.beq 10 then ([0, 1, 2, 3, 4, 5, 6, 7], [[], [], [], [2], [1, 3, 2], [4, 1, 3, 2], [0, 5, 4, 1, 3, 2], [6, 0, 5, 4, 1, 3, 2]]) else bif id.beq 29 then ([0, 1, 2, 3, 4, 5, 6, 7, 8, 9], [[], [], [0, 1], [2, 0, 1], [], [], [4, 5], [6, 4, 5], [3, 2, 0, 1, 7, 6, 4, 5], [8, 3, 2, 0, 1, 7, 6, 4, 5]]) else ([], [])
def goal_kBeside (l : List Int) (m : List Int) (x : Int) (K : AV → Prop) : Prop := goalL T70e ot_kBeside (inv_beside m) Tryd.f3 [.x false [.s 1 (ints l)], .x false [.s 1 (ints m)], iA .i64 x] K
set_option maxRecDepth 100000 in
set_option maxHeartbeats 2000000 in
theorem goal_kBeside_vc (l : List Int) (m : List Int) (x : Int) (K : AV → Prop) : goal_kBeside l m x K = (∃(l_1:List Int),[[Ch.v (Value.int IntKind.i64 1)],[Ch.v (Value.int IntKind.i64 2)]]=ints l_1∧(((1≤l_1.length∧l_1.length≤3)∧2=Int.ofNat l_1.length)∧((1:Int)≤3∧(3:Int)≤12)∧∀(k:Int),k ∈ l_1→0≤k∧k≤3)∧bif numV 3 l_1 != 6 then K (AV.x false [Ch.v (Value.bool false)]) else ∃(l_2:List Int),ints l=ints l_2∧l_2.length≤9223372036854775807∧∀(a:ArmV),Made a∧1≤a.links.length→((0:Int)<12∧(12:Int)<9223372036854775808)∧((∃(x_1:RsX),((GoodArm x_1.a∧(1≤x_1.s∧x_1.s≤12)∧x_1.l.length=x_1.i∧x_1.i≤x_1.a.links.length∧(∀(k:Int),k ∈ x_1.l→0≤k∧k≤x_1.s)∧x_1.sl.length≤m.length)∧OfNat.ofNat 0=0)∧0=0∧0=0∧0=0∧0=0∧0=0∧Int.ofNat (List.map linkCh a.links).length=Int.ofNat x_1.a.links.length∧0=Int.ofNat x_1.i∧3=3∧IntKind.i64.wrap (1+x%12)=x_1.s∧4=4∧false=false∧36=36∧a.name=x_1.a.name∧a.x=x_1.a.x∧63≤63∧a.y=x_1.a.y∧63≤63∧a.half=x_1.a.half∧a.t=x_1.a.t∧63≤63∧16=16∧List.map linkCh a.links=List.map linkCh x_1.a.links∧22=22∧Value.slice none 0 0=Value.slice none 0 0∧0=0∧x_1.l.length=0∧41=41∧1=1∧ints m=ints x_1.sl∧ints x_1.l=[]∧True)∧∀(x:RsX),GoodArm x.a∧(1≤x.s∧x.s≤12)∧x.l.length=x.i∧x.i≤x.a.links.length∧(∀(k:Int),k ∈ x.l→0≤k∧k≤x.s)∧x.sl.length≤m.length→OfNat.ofNat 0=0→bif decide (Int.ofNat x.i<Int.ofNat x.a.links.length) then ∃(l:List Int),ints x.sl=ints l∧(1≤IntKind.i64.wrap (x.s+1)∧IntKind.i64.wrap (x.s+1)<9223372036854775808)∧l.length≤9223372036854775807∧∀(r:Int) (l':List Int),0≤r∧r<IntKind.i64.wrap (x.s+1)→l'.length≤l.length→((x.l.length+1)*8≤140737488355328∧x.l.length+1≤9223372036854775807)∧∃(x':RsX),((GoodArm x'.a∧(1≤x'.s∧x'.s≤12)∧x'.l.length=x'.i∧x'.i≤x'.a.links.length∧(∀(k:Int),k ∈ x'.l→0≤k∧k≤x'.s)∧x'.sl.length≤m.length)∧OfNat.ofNat 0=0∧x'.a.links.length-x'.i<x.a.links.length-x.i)∧0=0∧0=0∧0=0∧0=0∧0=0∧Int.ofNat x.a.links.length=Int.ofNat x'.a.links.length∧IntKind.i64.wrap (Int.ofNat x.i+1)=Int.ofNat x'.i∧3=3∧x.s=x'.s∧4=4∧false=false∧36=36∧x.a.name=x'.a.name∧x.a.x=x'.a.x∧63≤63∧x.a.y=x'.a.y∧63≤63∧x.a.half=x'.a.half∧x.a.t=x'.a.t∧63≤63∧16=16∧List.map linkCh x.a.links=List.map linkCh x'.a.links∧22=22∧0=0∧x.l.length+1=x'.l.length∧41=41∧1=1∧ints l'=ints x'.sl∧3=3∧1=1∧(List.take x.l.length (ints x.l)++[[Ch.v (Value.int IntKind.i64 r)]]=ints x'.l∨RowLE (List.take x.l.length (ints x.l)++[[Ch.v (Value.int IntKind.i64 r)]]) (ints x'.l))∧True else ∃(x_1:RsX),(RsI x_1∧OfNat.ofNat 0=0)∧0=0∧0=0∧0=0∧0=0∧3=3∧x.s=x_1.s∧4=4∧false=false∧36=36∧x.a.name=x_1.a.name∧x.a.x=x_1.a.x∧63≤63∧x.a.y=x_1.a.y∧63≤63∧x.a.half=x_1.a.half∧x.a.t=x_1.a.t∧63≤63∧16=16∧List.map linkCh x.a.links=List.map linkCh x_1.a.links∧22=22∧1=1∧List.take x.l.length (List.drop 0 (ints x.l))=ints x_1.l∧True)∧∀(x:RsX),RsI x→OfNat.ofNat 0=0→∃(a:ArmV),∃(ks:List Int),[Ch.v (Value.string x.a.name),Ch.r x.a.x 63,Ch.r x.a.y 63,Ch.v (Value.bool x.a.half),Ch.r x.a.t 63,Ch.s 16 (List.map linkCh x.a.links)]=[Ch.v (Value.string a.name),Ch.r a.x 63,Ch.r a.y 63,Ch.v (Value.bool a.half),Ch.r a.t 63,Ch.s 16 (List.map linkCh a.links)]∧ints x.l=ints ks∧(GoodArm a∧(1≤x.s∧x.s≤12)∧ks.length=a.links.length∧∀(k:Int),k ∈ ks→0≤k∧k≤x.s)∧bif Int.ofNat (lR 319 (valR a x.s ks)).length != Int.ofNat (ints x.l).length then K (AV.x false [Ch.v (Value.bool false)]) else ∃(l:List Int),ints x.l=ints l∧(∃(x_1:RsX),((RsI x_1∧x_1.c=0)∧OfNat.ofNat 0=0)∧16=16∧0=0∧0=0∧0=0∧0=0∧0=0∧0=0∧3=3∧x.s=x_1.s∧22=22∧1=1∧ints l=ints x_1.l∧3=3∧x.s=x_1.s∧4=4∧false=false∧36=36∧x.a.name=x_1.a.name∧x.a.x=x_1.a.x∧63≤63∧x.a.y=x_1.a.y∧63≤63∧x.a.half=x_1.a.half∧x.a.t=x_1.a.t∧63≤63∧16=16∧List.map linkCh x.a.links=List.map linkCh x_1.a.links∧22=22∧1=1∧ints x.l=ints x_1.l∧43=43∧3=3∧lR 319 (valR a x.s ks)=lR 319 (valR x_1.a x_1.s x_1.l)∧3=3∧0=x_1.c∧True)∧∀(x:RsX),RsI x∧x.c=0→OfNat.ofNat 0=0→(∃(x_1:RsX),((RsI x_1∧x_1.i≤x_1.l.length∧Int.ofNat x_1.i≤x_1.c∧x_1.c≤2*Int.ofNat x_1.i)∧OfNat.ofNat 0=OfNat.ofNat 0)∧0=0∧0=0∧1=1∧ints x.l=ints x_1.l∧Int.ofNat (ints x.l).length=Int.ofNat x_1.l.length∧0=Int.ofNat x_1.i∧0=0∧3=3∧x.s=x_1.s∧22=22∧1=1∧ints x.l=ints x_1.l∧3=3∧x.s=x_1.s∧4=4∧false=false∧36=36∧x.a.name=x_1.a.name∧x.a.x=x_1.a.x∧63≤63∧x.a.y=x_1.a.y∧63≤63∧x.a.half=x_1.a.half∧x.a.t=x_1.a.t∧63≤63∧16=16∧List.map linkCh x.a.links=List.map linkCh x_1.a.links∧22=22∧1=1∧ints x.l=ints x_1.l∧43=43∧3=3∧lR 319 (valR x.a x.s x.l)=lR 319 (valR x_1.a x_1.s x_1.l)∧3=3∧x.c=x_1.c∧True)∧∀(x:RsX),RsI x∧x.i≤x.l.length∧Int.ofNat x.i≤x.c∧x.c≤2*Int.ofNat x.i→OfNat.ofNat 0=OfNat.ofNat 0→bif decide (Int.ofNat x.i<Int.ofNat x.l.length) then (0≤Int.ofNat x.i∧Int.ofNat x.i<Int.ofNat (ints x.l).length)∧∃(d:Int),ldE (ints x.l) (Int.ofNat x.i).toNat 0 1=some [Ch.v (Value.int IntKind.i64 d)]∧(∃(x_1:RsX),(RsJ x_1∧x_1.l.length-x_1.i=x.l.length-x.i)∧Int.ofNat x.i=Int.ofNat x_1.i∧d=x_1.v∧0=0∧2=2∧(2:Int)=2∧0=Int.ofNat x_1.j∧0=0∧0=0∧1=1∧ints x.l=ints x_1.l∧Int.ofNat x.l.length=Int.ofNat x_1.l.length∧Int.ofNat x.i=Int.ofNat x_1.i∧0=0∧3=3∧1=1∧([[Ch.v (Value.int IntKind.i64 (IntKind.i64.wrap (d-1)))],[Ch.v (Value.int IntKind.i64 (IntKind.i64.wrap (d+1)))]]=[[Ch.v (Value.int IntKind.i64 (x_1.v-1))],[Ch.v (Value.int IntKind.i64 (x_1.v+1))]]∨RowLE [[Ch.v (Value.int IntKind.i64 (IntKind.i64.wrap (d-1)))],[Ch.v (Value.int IntKind.i64 (IntKind.i64.wrap (d+1)))]] [[Ch.v (Value.int IntKind.i64 (x_1.v-1))],[Ch.v (Value.int IntKind.i64 (x_1.v+1))]])∧3=3∧x.s=x_1.s∧22=22∧1=1∧ints x.l=ints x_1.l∧3=3∧x.s=x_1.s∧4=4∧false=false∧36=36∧x.a.name=x_1.a.name∧x.a.x=x_1.a.x∧63≤63∧x.a.y=x_1.a.y∧63≤63∧x.a.half=x_1.a.half∧x.a.t=x_1.a.t∧63≤63∧16=16∧List.map linkCh x.a.links=List.map linkCh x_1.a.links∧22=22∧1=1∧ints x.l=ints x_1.l∧43=43∧3=3∧lR 319 (valR x.a x.s x.l)=lR 319 (valR x_1.a x_1.s x_1.l)∧3=3∧x.c=x_1.c∧True)∧∀(x_1:RsX),RsJ x_1→x_1.l.length-x_1.i=x.l.length-x.i→bif decide (Int.ofNat x_1.j<2) then (0≤Int.ofNat x_1.j∧Int.ofNat x_1.j<2)∧∃(d:Int),ldE [[Ch.v (Value.int IntKind.i64 (x_1.v-1))],[Ch.v (Value.int IntKind.i64 (x_1.v+1))]] (0+(Int.ofNat x_1.j).toNat) 0 1=some [Ch.v (Value.int IntKind.i64 d)]∧bif decide (x_1.v<0) then ∃(x':RsX),(RsJ x'∧x'.l.length-x'.i=x.l.length-x.i∧rsC x'<rsC x_1)∧Int.ofNat x_1.i=Int.ofNat x'.i∧x_1.v=x'.v∧0=0∧2=2∧(2:Int)=2∧IntKind.i64.wrap (Int.ofNat x_1.j+1)=Int.ofNat x'.j∧0=0∧0=0∧1=1∧ints x_1.l=ints x'.l∧Int.ofNat x_1.l.length=Int.ofNat x'.l.length∧Int.ofNat x_1.i=Int.ofNat x'.i∧0=0∧3=3∧1=1∧([[Ch.v (Value.int IntKind.i64 (x_1.v-1))],[Ch.v (Value.int IntKind.i64 (x_1.v+1))]]=[[Ch.v (Value.int IntKind.i64 (x'.v-1))],[Ch.v (Value.int IntKind.i64 (x'.v+1))]]∨RowLE [[Ch.v (Value.int IntKind.i64 (x_1.v-1))],[Ch.v (Value.int IntKind.i64 (x_1.v+1))]] [[Ch.v (Value.int IntKind.i64 (x'.v-1))],[Ch.v (Value.int IntKind.i64 (x'.v+1))]])∧3=3∧x_1.s=x'.s∧22=22∧1=1∧ints x_1.l=ints x'.l∧3=3∧x_1.s=x'.s∧4=4∧false=false∧36=36∧x_1.a.name=x'.a.name∧x_1.a.x=x'.a.x∧63≤63∧x_1.a.y=x'.a.y∧63≤63∧x_1.a.half=x'.a.half∧x_1.a.t=x'.a.t∧63≤63∧16=16∧List.map linkCh x_1.a.links=List.map linkCh x'.a.links∧22=22∧1=1∧ints x_1.l=ints x'.l∧43=43∧3=3∧lR 319 (valR x_1.a x_1.s x_1.l)=lR 319 (valR x'.a x'.s x'.l)∧3=3∧x_1.c=x'.c∧True else bif decide (x_1.v>x_1.s) then ∃(x':RsX),(RsJ x'∧x'.l.length-x'.i=x.l.length-x.i∧rsC x'<rsC x_1)∧Int.ofNat x_1.i=Int.ofNat x'.i∧x_1.v=x'.v∧0=0∧2=2∧(2:Int)=2∧IntKind.i64.wrap (Int.ofNat x_1.j+1)=Int.ofNat x'.j∧0=0∧0=0∧1=1∧ints x_1.l=ints x'.l∧Int.ofNat x_1.l.length=Int.ofNat x'.l.length∧Int.ofNat x_1.i=Int.ofNat x'.i∧0=0∧3=3∧1=1∧([[Ch.v (Value.int IntKind.i64 (x_1.v-1))],[Ch.v (Value.int IntKind.i64 (x_1.v+1))]]=[[Ch.v (Value.int IntKind.i64 (x'.v-1))],[Ch.v (Value.int IntKind.i64 (x'.v+1))]]∨RowLE [[Ch.v (Value.int IntKind.i64 (x_1.v-1))],[Ch.v (Value.int IntKind.i64 (x_1.v+1))]] [[Ch.v (Value.int IntKind.i64 (x'.v-1))],[Ch.v (Value.int IntKind.i64 (x'.v+1))]])∧3=3∧x_1.s=x'.s∧22=22∧1=1∧ints x_1.l=ints x'.l∧3=3∧x_1.s=x'.s∧4=4∧false=false∧36=36∧x_1.a.name=x'.a.name∧x_1.a.x=x'.a.x∧63≤63∧x_1.a.y=x'.a.y∧63≤63∧x_1.a.half=x'.a.half∧x_1.a.t=x'.a.t∧63≤63∧16=16∧List.map linkCh x_1.a.links=List.map linkCh x'.a.links∧22=22∧1=1∧ints x_1.l=ints x'.l∧43=43∧3=3∧lR 319 (valR x_1.a x_1.s x_1.l)=lR 319 (valR x'.a x'.s x'.l)∧3=3∧x_1.c=x'.c∧True else bif decide (d<0) then ∃(x':RsX),(RsJ x'∧x'.l.length-x'.i=x.l.length-x.i∧rsC x'<rsC x_1)∧Int.ofNat x_1.i=Int.ofNat x'.i∧x_1.v=x'.v∧0=0∧2=2∧(2:Int)=2∧IntKind.i64.wrap (Int.ofNat x_1.j+1)=Int.ofNat x'.j∧0=0∧0=0∧1=1∧ints x_1.l=ints x'.l∧Int.ofNat x_1.l.length=Int.ofNat x'.l.length∧Int.ofNat x_1.i=Int.ofNat x'.i∧0=0∧3=3∧1=1∧([[Ch.v (Value.int IntKind.i64 (x_1.v-1))],[Ch.v (Value.int IntKind.i64 (x_1.v+1))]]=[[Ch.v (Value.int IntKind.i64 (x'.v-1))],[Ch.v (Value.int IntKind.i64 (x'.v+1))]]∨RowLE [[Ch.v (Value.int IntKind.i64 (x_1.v-1))],[Ch.v (Value.int IntKind.i64 (x_1.v+1))]] [[Ch.v (Value.int IntKind.i64 (x'.v-1))],[Ch.v (Value.int IntKind.i64 (x'.v+1))]])∧3=3∧x_1.s=x'.s∧22=22∧1=1∧ints x_1.l=ints x'.l∧3=3∧x_1.s=x'.s∧4=4∧false=false∧36=36∧x_1.a.name=x'.a.name∧x_1.a.x=x'.a.x∧63≤63∧x_1.a.y=x'.a.y∧63≤63∧x_1.a.half=x'.a.half∧x_1.a.t=x'.a.t∧63≤63∧16=16∧List.map linkCh x_1.a.links=List.map linkCh x'.a.links∧22=22∧1=1∧ints x_1.l=ints x'.l∧43=43∧3=3∧lR 319 (valR x_1.a x_1.s x_1.l)=lR 319 (valR x'.a x'.s x'.l)∧3=3∧x_1.c=x'.c∧True else bif decide (d>x_1.s) then ∃(x':RsX),(RsJ x'∧x'.l.length-x'.i=x.l.length-x.i∧rsC x'<rsC x_1)∧Int.ofNat x_1.i=Int.ofNat x'.i∧x_1.v=x'.v∧0=0∧2=2∧(2:Int)=2∧IntKind.i64.wrap (Int.ofNat x_1.j+1)=Int.ofNat x'.j∧0=0∧0=0∧1=1∧ints x_1.l=ints x'.l∧Int.ofNat x_1.l.length=Int.ofNat x'.l.length∧Int.ofNat x_1.i=Int.ofNat x'.i∧0=0∧3=3∧1=1∧([[Ch.v (Value.int IntKind.i64 (x_1.v-1))],[Ch.v (Value.int IntKind.i64 (x_1.v+1))]]=[[Ch.v (Value.int IntKind.i64 (x'.v-1))],[Ch.v (Value.int IntKind.i64 (x'.v+1))]]∨RowLE [[Ch.v (Value.int IntKind.i64 (x_1.v-1))],[Ch.v (Value.int IntKind.i64 (x_1.v+1))]] [[Ch.v (Value.int IntKind.i64 (x'.v-1))],[Ch.v (Value.int IntKind.i64 (x'.v+1))]])∧3=3∧x_1.s=x'.s∧22=22∧1=1∧ints x_1.l=ints x'.l∧3=3∧x_1.s=x'.s∧4=4∧false=false∧36=36∧x_1.a.name=x'.a.name∧x_1.a.x=x'.a.x∧63≤63∧x_1.a.y=x'.a.y∧63≤63∧x_1.a.half=x'.a.half∧x_1.a.t=x'.a.t∧63≤63∧16=16∧List.map linkCh x_1.a.links=List.map linkCh x'.a.links∧22=22∧1=1∧ints x_1.l=ints x'.l∧43=43∧3=3∧lR 319 (valR x_1.a x_1.s x_1.l)=lR 319 (valR x'.a x'.s x'.l)∧3=3∧x_1.c=x'.c∧True else ∃(l:List Int),ints x_1.l=ints l∧l.length*8≤140737488355328∧(0≤Int.ofNat x_1.i∧Int.ofNat x_1.i<Int.ofNat l.length)∧0+(Int.ofNat x_1.i).toNat<(ints l).length∧(∃(x:RsX),(RsK x∧rsC x=rsC x_1)∧1=1∧List.take l.length (List.drop 0 ((ints l).set (0+(Int.ofNat x_1.i).toNat) [Ch.v (Value.int IntKind.i64 d)]))=ints x.m∧0=0∧0=0∧0=0∧0=0∧0=0∧0=0∧0=0∧4=4∧false=false∧1=1∧3=3∧1=1∧([[Ch.v (Value.int IntKind.i64 (x_1.v-1))],[Ch.v (Value.int IntKind.i64 (x_1.v+1))]]=[[Ch.v (Value.int IntKind.i64 (x.v-1))],[Ch.v (Value.int IntKind.i64 (x.v+1))]]∨RowLE [[Ch.v (Value.int IntKind.i64 (x_1.v-1))],[Ch.v (Value.int IntKind.i64 (x_1.v+1))]] [[Ch.v (Value.int IntKind.i64 (x.v-1))],[Ch.v (Value.int IntKind.i64 (x.v+1))]])∧3=3∧x_1.s=x.s∧22=22∧1=1∧ints x_1.l=ints x.l∧3=3∧x_1.s=x.s∧4=4∧false=false∧36=36∧x_1.a.name=x.a.name∧x_1.a.x=x.a.x∧63≤63∧x_1.a.y=x.a.y∧63≤63∧x_1.a.half=x.a.half∧x_1.a.t=x.a.t∧63≤63∧16=16∧List.map linkCh x_1.a.links=List.map linkCh x.a.links∧22=22∧1=1∧ints x_1.l=ints x.l∧43=43∧3=3∧lR 319 (valR x_1.a x_1.s x_1.l)=lR 319 (valR x.a x.s x.l)∧3=3∧x_1.c=x.c∧True)∧∀(x_2:RsX),RsK x_2→rsC x_2=rsC x_1→∃(l:List Int),ints x_2.m=ints l∧(∃(x:RsX),((RsK x∧x.b=false)∧rsC x=rsC x_1)∧1=1∧ints x_2.m=ints x.m∧0=0∧16=16∧0=0∧0=0∧0=0∧0=0∧0=0∧0=0∧1=1∧4=4∧false=x.b∧3=3∧x_2.s=x.s∧22=22∧1=1∧ints l=ints x.m∧3=3∧1=1∧([[Ch.v (Value.int IntKind.i64 (x_2.v-1))],[Ch.v (Value.int IntKind.i64 (x_2.v+1))]]=[[Ch.v (Value.int IntKind.i64 (x.v-1))],[Ch.v (Value.int IntKind.i64 (x.v+1))]]∨RowLE [[Ch.v (Value.int IntKind.i64 (x_2.v-1))],[Ch.v (Value.int IntKind.i64 (x_2.v+1))]] [[Ch.v (Value.int IntKind.i64 (x.v-1))],[Ch.v (Value.int IntKind.i64 (x.v+1))]])∧3=3∧x_2.s=x.s∧22=22∧1=1∧ints x_2.l=ints x.l∧3=3∧x_2.s=x.s∧4=4∧false=false∧36=36∧x_2.a.name=x.a.name∧x_2.a.x=x.a.x∧63≤63∧x_2.a.y=x.a.y∧63≤63∧x_2.a.half=x.a.half∧x_2.a.t=x.a.t∧63≤63∧16=16∧List.map linkCh x_2.a.links=List.map linkCh x.a.links∧22=22∧1=1∧ints x_2.l=ints x.l∧43=43∧3=3∧lR 319 (valR x_2.a x_2.s x_2.l)=lR 319 (valR x.a x.s x.l)∧3=3∧x_2.c=x.c∧True)∧∀(x_3:RsX),RsK x_3∧x_3.b=false→rsC x_3=rsC x_1→(∃(x:RsX),((RsN x∧rsC x=rsC x_3∧x.i2≤x.m.length)∧OfNat.ofNat 0=OfNat.ofNat 0)∧0=0∧0=0∧1=1∧ints x_3.m=ints x.m∧Int.ofNat (ints x_3.m).length=Int.ofNat x.m.length∧0=Int.ofNat x.i2∧0=0∧1=1∧4=4∧x_3.b=x.b∧3=3∧x_3.s=x.s∧22=22∧1=1∧ints x_3.m=ints x.m∧3=3∧1=1∧([[Ch.v (Value.int IntKind.i64 (x_3.v-1))],[Ch.v (Value.int IntKind.i64 (x_3.v+1))]]=[[Ch.v (Value.int IntKind.i64 (x.v-1))],[Ch.v (Value.int IntKind.i64 (x.v+1))]]∨RowLE [[Ch.v (Value.int IntKind.i64 (x_3.v-1))],[Ch.v (Value.int IntKind.i64 (x_3.v+1))]] [[Ch.v (Value.int IntKind.i64 (x.v-1))],[Ch.v (Value.int IntKind.i64 (x.v+1))]])∧3=3∧x_3.s=x.s∧22=22∧1=1∧ints x_3.l=ints x.l∧3=3∧x_3.s=x.s∧4=4∧false=false∧36=36∧x_3.a.name=x.a.name∧x_3.a.x=x.a.x∧63≤63∧x_3.a.y=x.a.y∧63≤63∧x_3.a.half=x.a.half∧x_3.a.t=x.a.t∧63≤63∧16=16∧List.map linkCh x_3.a.links=List.map linkCh x.a.links∧22=22∧1=1∧ints x_3.l=ints x.l∧43=43∧3=3∧lR 319 (valR x_3.a x_3.s x_3.l)=lR 319 (valR x.a x.s x.l)∧3=3∧x_3.c=x.c∧True)∧∀(x_4:RsX),RsN x_4∧rsC x_4=rsC x_3∧x_4.i2≤x_4.m.length→OfNat.ofNat 0=OfNat.ofNat 0→bif decide (Int.ofNat x_4.i2<Int.ofNat x_4.m.length) then (0≤Int.ofNat x_4.i2∧Int.ofNat x_4.i2<Int.ofNat (ints x_4.m).length)∧∃(d:Int),ldE (ints x_4.m) (Int.ofNat x_4.i2).toNat 0 1=some [Ch.v (Value.int IntKind.i64 d)]∧(∃(x:RsX),((RsK x∧rsC x=rsC x_3∧(x.m[x.i2]?=some x.v2∧x.j2≤2)∧(x.i<x.i2∨x.i=x.i2∧2≤x.j2+x.j→x.b=true))∧x.m.length-x.i2=x_4.m.length-x_4.i2)∧Int.ofNat x_4.i2=Int.ofNat x.i2∧d=x.v2∧0=0∧2=2∧(2:Int)=2∧0=Int.ofNat x.j2∧0=0∧0=0∧1=1∧ints x_4.m=ints x.m∧Int.ofNat x_4.m.length=Int.ofNat x.m.length∧Int.ofNat x_4.i2=Int.ofNat x.i2∧3=3∧1=1∧([[Ch.v (Value.int IntKind.i64 (IntKind.i64.wrap (d-1)))],[Ch.v (Value.int IntKind.i64 (IntKind.i64.wrap (d+1)))]]=[[Ch.v (Value.int IntKind.i64 (x.v2-1))],[Ch.v (Value.int IntKind.i64 (x.v2+1))]]∨RowLE [[Ch.v (Value.int IntKind.i64 (IntKind.i64.wrap (d-1)))],[Ch.v (Value.int IntKind.i64 (IntKind.i64.wrap (d+1)))]] [[Ch.v (Value.int IntKind.i64 (x.v2-1))],[Ch.v (Value.int IntKind.i64 (x.v2+1))]])∧0=0∧1=1∧4=4∧x_4.b=x.b∧3=3∧x_4.s=x.s∧22=22∧1=1∧ints x_4.m=ints x.m∧3=3∧1=1∧([[Ch.v (Value.int IntKind.i64 (x_4.v-1))],[Ch.v (Value.int IntKind.i64 (x_4.v+1))]]=[[Ch.v (Value.int IntKind.i64 (x.v-1))],[Ch.v (Value.int IntKind.i64 (x.v+1))]]∨RowLE [[Ch.v (Value.int IntKind.i64 (x_4.v-1))],[Ch.v (Value.int IntKind.i64 (x_4.v+1))]] [[Ch.v (Value.int IntKind.i64 (x.v-1))],[Ch.v (Value.int IntKind.i64 (x.v+1))]])∧3=3∧x_4.s=x.s∧22=22∧1=1∧ints x_4.l=ints x.l∧3=3∧x_4.s=x.s∧4=4∧false=false∧36=36∧x_4.a.name=x.a.name∧x_4.a.x=x.a.x∧63≤63∧x_4.a.y=x.a.y∧63≤63∧x_4.a.half=x.a.half∧x_4.a.t=x.a.t∧63≤63∧16=16∧List.map linkCh x_4.a.links=List.map linkCh x.a.links∧22=22∧1=1∧ints x_4.l=ints x.l∧43=43∧3=3∧lR 319 (valR x_4.a x_4.s x_4.l)=lR 319 (valR x.a x.s x.l)∧3=3∧x_4.c=x.c∧True)∧∀(x:RsX),RsK x∧rsC x=rsC x_3∧(x.m[x.i2]?=some x.v2∧x.j2≤2)∧(x.i<x.i2∨x.i=x.i2∧2≤x.j2+x.j→x.b=true)→x.m.length-x.i2=x_4.m.length-x_4.i2→bif decide (Int.ofNat x.j2<2) then (0≤Int.ofNat x.j2∧Int.ofNat x.j2<2)∧∃(d:Int),ldE [[Ch.v (Value.int IntKind.i64 (x.v2-1))],[Ch.v (Value.int IntKind.i64 (x.v2+1))]] (0+(Int.ofNat x.j2).toNat) 0 1=some [Ch.v (Value.int IntKind.i64 d)]∧bif decide (x.v2<0) then ∃(x':RsX),((RsK x'∧rsC x'=rsC x_3∧(x'.m[x'.i2]?=some x'.v2∧x'.j2≤2)∧(x'.i<x'.i2∨x'.i=x'.i2∧2≤x'.j2+x'.j→x'.b=true))∧x'.m.length-x'.i2=x_4.m.length-x_4.i2∧2-x'.j2<2-x.j2)∧Int.ofNat x.i2=Int.ofNat x'.i2∧x.v2=x'.v2∧0=0∧2=2∧(2:Int)=2∧IntKind.i64.wrap (Int.ofNat x.j2+1)=Int.ofNat x'.j2∧0=0∧0=0∧1=1∧ints x.m=ints x'.m∧Int.ofNat x.m.length=Int.ofNat x'.m.length∧Int.ofNat x.i2=Int.ofNat x'.i2∧3=3∧1=1∧([[Ch.v (Value.int IntKind.i64 (x.v2-1))],[Ch.v (Value.int IntKind.i64 (x.v2+1))]]=[[Ch.v (Value.int IntKind.i64 (x'.v2-1))],[Ch.v (Value.int IntKind.i64 (x'.v2+1))]]∨RowLE [[Ch.v (Value.int IntKind.i64 (x.v2-1))],[Ch.v (Value.int IntKind.i64 (x.v2+1))]] [[Ch.v (Value.int IntKind.i64 (x'.v2-1))],[Ch.v (Value.int IntKind.i64 (x'.v2+1))]])∧0=0∧1=1∧4=4∧x.b=x'.b∧3=3∧x.s=x'.s∧22=22∧1=1∧ints x.m=ints x'.m∧3=3∧1=1∧([[Ch.v (Value.int IntKind.i64 (x.v-1))],[Ch.v (Value.int IntKind.i64 (x.v+1))]]=[[Ch.v (Value.int IntKind.i64 (x'.v-1))],[Ch.v (Value.int IntKind.i64 (x'.v+1))]]∨RowLE [[Ch.v (Value.int IntKind.i64 (x.v-1))],[Ch.v (Value.int IntKind.i64 (x.v+1))]] [[Ch.v (Value.int IntKind.i64 (x'.v-1))],[Ch.v (Value.int IntKind.i64 (x'.v+1))]])∧3=3∧x.s=x'.s∧22=22∧1=1∧ints x.l=ints x'.l∧3=3∧x.s=x'.s∧4=4∧false=false∧36=36∧x.a.name=x'.a.name∧x.a.x=x'.a.x∧63≤63∧x.a.y=x'.a.y∧63≤63∧x.a.half=x'.a.half∧x.a.t=x'.a.t∧63≤63∧16=16∧List.map linkCh x.a.links=List.map linkCh x'.a.links∧22=22∧1=1∧ints x.l=ints x'.l∧43=43∧3=3∧lR 319 (valR x.a x.s x.l)=lR 319 (valR x'.a x'.s x'.l)∧3=3∧x.c=x'.c∧True else bif decide (x.v2>x.s) then ∃(x':RsX),((RsK x'∧rsC x'=rsC x_3∧(x'.m[x'.i2]?=some x'.v2∧x'.j2≤2)∧(x'.i<x'.i2∨x'.i=x'.i2∧2≤x'.j2+x'.j→x'.b=true))∧x'.m.length-x'.i2=x_4.m.length-x_4.i2∧2-x'.j2<2-x.j2)∧Int.ofNat x.i2=Int.ofNat x'.i2∧x.v2=x'.v2∧0=0∧2=2∧(2:Int)=2∧IntKind.i64.wrap (Int.ofNat x.j2+1)=Int.ofNat x'.j2∧0=0∧0=0∧1=1∧ints x.m=ints x'.m∧Int.ofNat x.m.length=Int.ofNat x'.m.length∧Int.ofNat x.i2=Int.ofNat x'.i2∧3=3∧1=1∧([[Ch.v (Value.int IntKind.i64 (x.v2-1))],[Ch.v (Value.int IntKind.i64 (x.v2+1))]]=[[Ch.v (Value.int IntKind.i64 (x'.v2-1))],[Ch.v (Value.int IntKind.i64 (x'.v2+1))]]∨RowLE [[Ch.v (Value.int IntKind.i64 (x.v2-1))],[Ch.v (Value.int IntKind.i64 (x.v2+1))]] [[Ch.v (Value.int IntKind.i64 (x'.v2-1))],[Ch.v (Value.int IntKind.i64 (x'.v2+1))]])∧0=0∧1=1∧4=4∧x.b=x'.b∧3=3∧x.s=x'.s∧22=22∧1=1∧ints x.m=ints x'.m∧3=3∧1=1∧([[Ch.v (Value.int IntKind.i64 (x.v-1))],[Ch.v (Value.int IntKind.i64 (x.v+1))]]=[[Ch.v (Value.int IntKind.i64 (x'.v-1))],[Ch.v (Value.int IntKind.i64 (x'.v+1))]]∨RowLE [[Ch.v (Value.int IntKind.i64 (x.v-1))],[Ch.v (Value.int IntKind.i64 (x.v+1))]] [[Ch.v (Value.int IntKind.i64 (x'.v-1))],[Ch.v (Value.int IntKind.i64 (x'.v+1))]])∧3=3∧x.s=x'.s∧22=22∧1=1∧ints x.l=ints x'.l∧3=3∧x.s=x'.s∧4=4∧false=false∧36=36∧x.a.name=x'.a.name∧x.a.x=x'.a.x∧63≤63∧x.a.y=x'.a.y∧63≤63∧x.a.half=x'.a.half∧x.a.t=x'.a.t∧63≤63∧16=16∧List.map linkCh x.a.links=List.map linkCh x'.a.links∧22=22∧1=1∧ints x.l=ints x'.l∧43=43∧3=3∧lR 319 (valR x.a x.s x.l)=lR 319 (valR x'.a x'.s x'.l)∧3=3∧x.c=x'.c∧True else bif decide (d<0) then ∃(x':RsX),((RsK x'∧rsC x'=rsC x_3∧(x'.m[x'.i2]?=some x'.v2∧x'.j2≤2)∧(x'.i<x'.i2∨x'.i=x'.i2∧2≤x'.j2+x'.j→x'.b=true))∧x'.m.length-x'.i2=x_4.m.length-x_4.i2∧2-x'.j2<2-x.j2)∧Int.ofNat x.i2=Int.ofNat x'.i2∧x.v2=x'.v2∧0=0∧2=2∧(2:Int)=2∧IntKind.i64.wrap (Int.ofNat x.j2+1)=Int.ofNat x'.j2∧0=0∧0=0∧1=1∧ints x.m=ints x'.m∧Int.ofNat x.m.length=Int.ofNat x'.m.length∧Int.ofNat x.i2=Int.ofNat x'.i2∧3=3∧1=1∧([[Ch.v (Value.int IntKind.i64 (x.v2-1))],[Ch.v (Value.int IntKind.i64 (x.v2+1))]]=[[Ch.v (Value.int IntKind.i64 (x'.v2-1))],[Ch.v (Value.int IntKind.i64 (x'.v2+1))]]∨RowLE [[Ch.v (Value.int IntKind.i64 (x.v2-1))],[Ch.v (Value.int IntKind.i64 (x.v2+1))]] [[Ch.v (Value.int IntKind.i64 (x'.v2-1))],[Ch.v (Value.int IntKind.i64 (x'.v2+1))]])∧0=0∧1=1∧4=4∧x.b=x'.b∧3=3∧x.s=x'.s∧22=22∧1=1∧ints x.m=ints x'.m∧3=3∧1=1∧([[Ch.v (Value.int IntKind.i64 (x.v-1))],[Ch.v (Value.int IntKind.i64 (x.v+1))]]=[[Ch.v (Value.int IntKind.i64 (x'.v-1))],[Ch.v (Value.int IntKind.i64 (x'.v+1))]]∨RowLE [[Ch.v (Value.int IntKind.i64 (x.v-1))],[Ch.v (Value.int IntKind.i64 (x.v+1))]] [[Ch.v (Value.int IntKind.i64 (x'.v-1))],[Ch.v (Value.int IntKind.i64 (x'.v+1))]])∧3=3∧x.s=x'.s∧22=22∧1=1∧ints x.l=ints x'.l∧3=3∧x.s=x'.s∧4=4∧false=false∧36=36∧x.a.name=x'.a.name∧x.a.x=x'.a.x∧63≤63∧x.a.y=x'.a.y∧63≤63∧x.a.half=x'.a.half∧x.a.t=x'.a.t∧63≤63∧16=16∧List.map linkCh x.a.links=List.map linkCh x'.a.links∧22=22∧1=1∧ints x.l=ints x'.l∧43=43∧3=3∧lR 319 (valR x.a x.s x.l)=lR 319 (valR x'.a x'.s x'.l)∧3=3∧x.c=x'.c∧True else bif decide (d>x.s) then ∃(x':RsX),((RsK x'∧rsC x'=rsC x_3∧(x'.m[x'.i2]?=some x'.v2∧x'.j2≤2)∧(x'.i<x'.i2∨x'.i=x'.i2∧2≤x'.j2+x'.j→x'.b=true))∧x'.m.length-x'.i2=x_4.m.length-x_4.i2∧2-x'.j2<2-x.j2)∧Int.ofNat x.i2=Int.ofNat x'.i2∧x.v2=x'.v2∧0=0∧2=2∧(2:Int)=2∧IntKind.i64.wrap (Int.ofNat x.j2+1)=Int.ofNat x'.j2∧0=0∧0=0∧1=1∧ints x.m=ints x'.m∧Int.ofNat x.m.length=Int.ofNat x'.m.length∧Int.ofNat x.i2=Int.ofNat x'.i2∧3=3∧1=1∧([[Ch.v (Value.int IntKind.i64 (x.v2-1))],[Ch.v (Value.int IntKind.i64 (x.v2+1))]]=[[Ch.v (Value.int IntKind.i64 (x'.v2-1))],[Ch.v (Value.int IntKind.i64 (x'.v2+1))]]∨RowLE [[Ch.v (Value.int IntKind.i64 (x.v2-1))],[Ch.v (Value.int IntKind.i64 (x.v2+1))]] [[Ch.v (Value.int IntKind.i64 (x'.v2-1))],[Ch.v (Value.int IntKind.i64 (x'.v2+1))]])∧0=0∧1=1∧4=4∧x.b=x'.b∧3=3∧x.s=x'.s∧22=22∧1=1∧ints x.m=ints x'.m∧3=3∧1=1∧([[Ch.v (Value.int IntKind.i64 (x.v-1))],[Ch.v (Value.int IntKind.i64 (x.v+1))]]=[[Ch.v (Value.int IntKind.i64 (x'.v-1))],[Ch.v (Value.int IntKind.i64 (x'.v+1))]]∨RowLE [[Ch.v (Value.int IntKind.i64 (x.v-1))],[Ch.v (Value.int IntKind.i64 (x.v+1))]] [[Ch.v (Value.int IntKind.i64 (x'.v-1))],[Ch.v (Value.int IntKind.i64 (x'.v+1))]])∧3=3∧x.s=x'.s∧22=22∧1=1∧ints x.l=ints x'.l∧3=3∧x.s=x'.s∧4=4∧false=false∧36=36∧x.a.name=x'.a.name∧x.a.x=x'.a.x∧63≤63∧x.a.y=x'.a.y∧63≤63∧x.a.half=x'.a.half∧x.a.t=x'.a.t∧63≤63∧16=16∧List.map linkCh x.a.links=List.map linkCh x'.a.links∧22=22∧1=1∧ints x.l=ints x'.l∧43=43∧3=3∧lR 319 (valR x.a x.s x.l)=lR 319 (valR x'.a x'.s x'.l)∧3=3∧x.c=x'.c∧True else ∃(l:List Int),ints x.m=ints l∧l.length*8≤140737488355328∧(0≤Int.ofNat x.i2∧Int.ofNat x.i2<Int.ofNat l.length)∧0+(Int.ofNat x.i2).toNat<(ints l).length∧bif x.b then ∃(x':RsX),((RsK x'∧rsC x'=rsC x_3∧(x'.m[x'.i2]?=some x'.v2∧x'.j2≤2)∧(x'.i<x'.i2∨x'.i=x'.i2∧2≤x'.j2+x'.j→x'.b=true))∧x'.m.length-x'.i2=x_4.m.length-x_4.i2∧2-x'.j2<2-x.j2)∧Int.ofNat x.i2=Int.ofNat x'.i2∧x.v2=x'.v2∧0=0∧2=2∧(2:Int)=2∧IntKind.i64.wrap (Int.ofNat x.j2+1)=Int.ofNat x'.j2∧0=0∧0=0∧1=1∧ints x.m=ints x'.m∧Int.ofNat x.m.length=Int.ofNat x'.m.length∧Int.ofNat x.i2=Int.ofNat x'.i2∧3=3∧1=1∧([[Ch.v (Value.int IntKind.i64 (x.v2-1))],[Ch.v (Value.int IntKind.i64 (x.v2+1))]]=[[Ch.v (Value.int IntKind.i64 (x'.v2-1))],[Ch.v (Value.int IntKind.i64 (x'.v2+1))]]∨RowLE [[Ch.v (Value.int IntKind.i64 (x.v2-1))],[Ch.v (Value.int IntKind.i64 (x.v2+1))]] [[Ch.v (Value.int IntKind.i64 (x'.v2-1))],[Ch.v (Value.int IntKind.i64 (x'.v2+1))]])∧0=0∧1=1∧4=4∧true=x'.b∧3=3∧x.s=x'.s∧22=22∧1=1∧ints x.m=ints x'.m∧3=3∧1=1∧([[Ch.v (Value.int IntKind.i64 (x.v-1))],[Ch.v (Value.int IntKind.i64 (x.v+1))]]=[[Ch.v (Value.int IntKind.i64 (x'.v-1))],[Ch.v (Value.int IntKind.i64 (x'.v+1))]]∨RowLE [[Ch.v (Value.int IntKind.i64 (x.v-1))],[Ch.v (Value.int IntKind.i64 (x.v+1))]] [[Ch.v (Value.int IntKind.i64 (x'.v-1))],[Ch.v (Value.int IntKind.i64 (x'.v+1))]])∧3=3∧x.s=x'.s∧22=22∧1=1∧ints x.l=ints x'.l∧3=3∧x.s=x'.s∧4=4∧false=false∧36=36∧x.a.name=x'.a.name∧x.a.x=x'.a.x∧63≤63∧x.a.y=x'.a.y∧63≤63∧x.a.half=x'.a.half∧x.a.t=x'.a.t∧63≤63∧16=16∧List.map linkCh x.a.links=List.map linkCh x'.a.links∧22=22∧1=1∧ints x.l=ints x'.l∧43=43∧3=3∧lR 319 (valR x.a x.s x.l)=lR 319 (valR x'.a x'.s x'.l)∧3=3∧x.c=x'.c∧True else ∃(l_3:List Int),∃(m:List Int),List.take l.length (List.drop 0 ((ints l).set (0+(Int.ofNat x.i2).toNat) [Ch.v (Value.int IntKind.i64 d)]))=ints l_3∧ints x.l=ints m∧(l_3.length≤1000∧m.length≤1000)∧∃(x':RsX),((RsK x'∧rsC x'=rsC x_3∧(x'.m[x'.i2]?=some x'.v2∧x'.j2≤2)∧(x'.i<x'.i2∨x'.i=x'.i2∧2≤x'.j2+x'.j→x'.b=true))∧x'.m.length-x'.i2=x_4.m.length-x_4.i2∧2-x'.j2<2-x.j2)∧Int.ofNat x.i2=Int.ofNat x'.i2∧x.v2=x'.v2∧0=0∧2=2∧(2:Int)=2∧IntKind.i64.wrap (Int.ofNat x.j2+1)=Int.ofNat x'.j2∧0=0∧0=0∧1=1∧ints x.m=ints x'.m∧Int.ofNat x.m.length=Int.ofNat x'.m.length∧Int.ofNat x.i2=Int.ofNat x'.i2∧3=3∧1=1∧([[Ch.v (Value.int IntKind.i64 (x.v2-1))],[Ch.v (Value.int IntKind.i64 (x.v2+1))]]=[[Ch.v (Value.int IntKind.i64 (x'.v2-1))],[Ch.v (Value.int IntKind.i64 (x'.v2+1))]]∨RowLE [[Ch.v (Value.int IntKind.i64 (x.v2-1))],[Ch.v (Value.int IntKind.i64 (x.v2+1))]] [[Ch.v (Value.int IntKind.i64 (x'.v2-1))],[Ch.v (Value.int IntKind.i64 (x'.v2+1))]])∧0=0∧1=1∧4=4∧decide (l_3=m)=x'.b∧3=3∧x.s=x'.s∧22=22∧1=1∧ints x.m=ints x'.m∧3=3∧1=1∧([[Ch.v (Value.int IntKind.i64 (x.v-1))],[Ch.v (Value.int IntKind.i64 (x.v+1))]]=[[Ch.v (Value.int IntKind.i64 (x'.v-1))],[Ch.v (Value.int IntKind.i64 (x'.v+1))]]∨RowLE [[Ch.v (Value.int IntKind.i64 (x.v-1))],[Ch.v (Value.int IntKind.i64 (x.v+1))]] [[Ch.v (Value.int IntKind.i64 (x'.v-1))],[Ch.v (Value.int IntKind.i64 (x'.v+1))]])∧3=3∧x.s=x'.s∧22=22∧1=1∧ints x.l=ints x'.l∧3=3∧x.s=x'.s∧4=4∧false=false∧36=36∧x.a.name=x'.a.name∧x.a.x=x'.a.x∧63≤63∧x.a.y=x'.a.y∧63≤63∧x.a.half=x'.a.half∧x.a.t=x'.a.t∧63≤63∧16=16∧List.map linkCh x.a.links=List.map linkCh x'.a.links∧22=22∧1=1∧ints x.l=ints x'.l∧43=43∧3=3∧lR 319 (valR x.a x.s x.l)=lR 319 (valR x'.a x'.s x'.l)∧3=3∧x.c=x'.c∧True else ∃(x':RsX),((RsN x'∧rsC x'=rsC x_3∧x'.i2≤x'.m.length)∧OfNat.ofNat 0=OfNat.ofNat 0∧x'.m.length-x'.i2<x_4.m.length-x_4.i2)∧0=0∧0=0∧1=1∧ints x.m=ints x'.m∧Int.ofNat x.m.length=Int.ofNat x'.m.length∧IntKind.i64.wrap (Int.ofNat x.i2+1)=Int.ofNat x'.i2∧0=0∧1=1∧4=4∧x.b=x'.b∧3=3∧x.s=x'.s∧22=22∧1=1∧ints x.m=ints x'.m∧3=3∧1=1∧([[Ch.v (Value.int IntKind.i64 (x.v-1))],[Ch.v (Value.int IntKind.i64 (x.v+1))]]=[[Ch.v (Value.int IntKind.i64 (x'.v-1))],[Ch.v (Value.int IntKind.i64 (x'.v+1))]]∨RowLE [[Ch.v (Value.int IntKind.i64 (x.v-1))],[Ch.v (Value.int IntKind.i64 (x.v+1))]] [[Ch.v (Value.int IntKind.i64 (x'.v-1))],[Ch.v (Value.int IntKind.i64 (x'.v+1))]])∧3=3∧x.s=x'.s∧22=22∧1=1∧ints x.l=ints x'.l∧3=3∧x.s=x'.s∧4=4∧false=false∧36=36∧x.a.name=x'.a.name∧x.a.x=x'.a.x∧63≤63∧x.a.y=x'.a.y∧63≤63∧x.a.half=x'.a.half∧x.a.t=x'.a.t∧63≤63∧16=16∧List.map linkCh x.a.links=List.map linkCh x'.a.links∧22=22∧1=1∧ints x.l=ints x'.l∧43=43∧3=3∧lR 319 (valR x.a x.s x.l)=lR 319 (valR x'.a x'.s x'.l)∧3=3∧x.c=x'.c∧True else ∃(a:ArmV),∃(ks:List Int),[Ch.v (Value.string x_4.a.name),Ch.r x_4.a.x 63,Ch.r x_4.a.y 63,Ch.v (Value.bool x_4.a.half),Ch.r x_4.a.t 63,Ch.s 16 (List.map linkCh x_4.a.links)]=[Ch.v (Value.string a.name),Ch.r a.x 63,Ch.r a.y 63,Ch.v (Value.bool a.half),Ch.r a.t 63,Ch.s 16 (List.map linkCh a.links)]∧ints x_3.m=ints ks∧(GoodArm a∧(1≤x_4.s∧x_4.s≤12)∧ks.length=a.links.length∧∀(k:Int),k ∈ ks→0≤k∧k≤x_4.s)∧bif Int.ofNat (lR 319 (valR a x_4.s ks)).length != Int.ofNat (lR 319 (valR x_4.a x_4.s x_4.l)).length then K (AV.x false [Ch.v (Value.bool false)]) else bif !x_4.b then K (AV.x false [Ch.v (Value.bool false)]) else (∃(x:RsX),((RsK x∧x.p≤x.l.length∧x.r=if x.i<x.p then 1 else 0)∧rsC x=rsC x_1)∧3=3∧lR 319 (valR a x_4.s ks)=lR 319 (valR x.a x.s x.m)∧0=x.r∧Int.ofNat (lR 319 (valR x_4.a x_4.s x_4.l)).length=Int.ofNat x.l.length∧0=Int.ofNat x.p∧0=0∧0=0∧0=0∧0=0∧0=0∧0=0∧1=1∧3=3∧1=1∧([[Ch.v (Value.int IntKind.i64 (x_4.v-1))],[Ch.v (Value.int IntKind.i64 (x_4.v+1))]]=[[Ch.v (Value.int IntKind.i64 (x.v-1))],[Ch.v (Value.int IntKind.i64 (x.v+1))]]∨RowLE [[Ch.v (Value.int IntKind.i64 (x_4.v-1))],[Ch.v (Value.int IntKind.i64 (x_4.v+1))]] [[Ch.v (Value.int IntKind.i64 (x.v-1))],[Ch.v (Value.int IntKind.i64 (x.v+1))]])∧3=3∧x_4.s=x.s∧22=22∧1=1∧ints x_4.l=ints x.l∧3=3∧x_4.s=x.s∧4=4∧false=false∧36=36∧x_4.a.name=x.a.name∧x_4.a.x=x.a.x∧63≤63∧x_4.a.y=x.a.y∧63≤63∧x_4.a.half=x.a.half∧x_4.a.t=x.a.t∧63≤63∧16=16∧List.map linkCh x_4.a.links=List.map linkCh x.a.links∧22=22∧1=1∧ints x_4.l=ints x.l∧43=43∧3=3∧lR 319 (valR x_4.a x_4.s x_4.l)=lR 319 (valR x.a x.s x.l)∧3=3∧x_4.c=x.c∧True)∧∀(x_5:RsX),(RsK x_5∧x_5.p≤x_5.l.length∧x_5.r=if x_5.i<x_5.p then 1 else 0)→rsC x_5=rsC x_1→bif decide (Int.ofNat x_5.p<Int.ofNat x_5.l.length) then (0≤Int.ofNat x_5.p∧Int.ofNat x_5.p<Int.ofNat (lR 319 (valR x_5.a x_5.s x_5.l)).length)∧∃(q:Rat),∃(n:Nat),ldE (lR 319 (valR x_5.a x_5.s x_5.l)) (Int.ofNat x_5.p).toNat 0 3=some [Ch.r q n]∧(0≤Int.ofNat x_5.p∧Int.ofNat x_5.p<Int.ofNat (lR 319 (valR x_5.a x_5.s x_5.m)).length)∧∃(q_1:Rat),∃(n_1:Nat),ldE (lR 319 (valR x_5.a x_5.s x_5.m)) (Int.ofNat x_5.p).toNat 0 3=some [Ch.r q_1 n_1]∧n+n_1≤4294967296∧bif cmpR q q_1 != 0 then ∃(x':RsX),((RsK x'∧x'.p≤x'.l.length∧x'.r=if x'.i<x'.p then 1 else 0)∧rsC x'=rsC x_1∧x'.l.length-x'.p<x_5.l.length-x_5.p)∧3=3∧lR 319 (valR x_5.a x_5.s x_5.m)=lR 319 (valR x'.a x'.s x'.m)∧IntKind.i64.wrap (x_5.r+1)=x'.r∧Int.ofNat x_5.l.length=Int.ofNat x'.l.length∧IntKind.i64.wrap (Int.ofNat x_5.p+1)=Int.ofNat x'.p∧0=0∧0=0∧0=0∧0=0∧0=0∧0=0∧1=1∧3=3∧1=1∧([[Ch.v (Value.int IntKind.i64 (x_5.v-1))],[Ch.v (Value.int IntKind.i64 (x_5.v+1))]]=[[Ch.v (Value.int IntKind.i64 (x'.v-1))],[Ch.v (Value.int IntKind.i64 (x'.v+1))]]∨RowLE [[Ch.v (Value.int IntKind.i64 (x_5.v-1))],[Ch.v (Value.int IntKind.i64 (x_5.v+1))]] [[Ch.v (Value.int IntKind.i64 (x'.v-1))],[Ch.v (Value.int IntKind.i64 (x'.v+1))]])∧3=3∧x_5.s=x'.s∧22=22∧1=1∧ints x_5.l=ints x'.l∧3=3∧x_5.s=x'.s∧4=4∧false=false∧36=36∧x_5.a.name=x'.a.name∧x_5.a.x=x'.a.x∧63≤63∧x_5.a.y=x'.a.y∧63≤63∧x_5.a.half=x'.a.half∧x_5.a.t=x'.a.t∧63≤63∧16=16∧List.map linkCh x_5.a.links=List.map linkCh x'.a.links∧22=22∧1=1∧ints x_5.l=ints x'.l∧43=43∧3=3∧lR 319 (valR x_5.a x_5.s x_5.l)=lR 319 (valR x'.a x'.s x'.l)∧3=3∧x_5.c=x'.c∧True else ∃(x':RsX),((RsK x'∧x'.p≤x'.l.length∧x'.r=if x'.i<x'.p then 1 else 0)∧rsC x'=rsC x_1∧x'.l.length-x'.p<x_5.l.length-x_5.p)∧3=3∧lR 319 (valR x_5.a x_5.s x_5.m)=lR 319 (valR x'.a x'.s x'.m)∧x_5.r=x'.r∧Int.ofNat x_5.l.length=Int.ofNat x'.l.length∧IntKind.i64.wrap (Int.ofNat x_5.p+1)=Int.ofNat x'.p∧0=0∧0=0∧0=0∧0=0∧0=0∧0=0∧1=1∧3=3∧1=1∧([[Ch.v (Value.int IntKind.i64 (x_5.v-1))],[Ch.v (Value.int IntKind.i64 (x_5.v+1))]]=[[Ch.v (Value.int IntKind.i64 (x'.v-1))],[Ch.v (Value.int IntKind.i64 (x'.v+1))]]∨RowLE [[Ch.v (Value.int IntKind.i64 (x_5.v-1))],[Ch.v (Value.int IntKind.i64 (x_5.v+1))]] [[Ch.v (Value.int IntKind.i64 (x'.v-1))],[Ch.v (Value.int IntKind.i64 (x'.v+1))]])∧3=3∧x_5.s=x'.s∧22=22∧1=1∧ints x_5.l=ints x'.l∧3=3∧x_5.s=x'.s∧4=4∧false=false∧36=36∧x_5.a.name=x'.a.name∧x_5.a.x=x'.a.x∧63≤63∧x_5.a.y=x'.a.y∧63≤63∧x_5.a.half=x'.a.half∧x_5.a.t=x'.a.t∧63≤63∧16=16∧List.map linkCh x_5.a.links=List.map linkCh x'.a.links∧22=22∧1=1∧ints x_5.l=ints x'.l∧43=43∧3=3∧lR 319 (valR x_5.a x_5.s x_5.l)=lR 319 (valR x'.a x'.s x'.l)∧3=3∧x_5.c=x'.c∧True else bif x_5.r != 1 then K (AV.x false [Ch.v (Value.bool false)]) else ∃(x':RsX),(RsJ x'∧x'.l.length-x'.i=x.l.length-x.i∧rsC x'<rsC x_1)∧Int.ofNat x_1.i=Int.ofNat x'.i∧x_1.v=x'.v∧0=0∧2=2∧(2:Int)=2∧IntKind.i64.wrap (Int.ofNat x_1.j+1)=Int.ofNat x'.j∧0=0∧0=0∧1=1∧ints x_1.l=ints x'.l∧Int.ofNat x_1.l.length=Int.ofNat x'.l.length∧Int.ofNat x_1.i=Int.ofNat x'.i∧0=0∧3=3∧1=1∧([[Ch.v (Value.int IntKind.i64 (x_5.v-1))],[Ch.v (Value.int IntKind.i64 (x_5.v+1))]]=[[Ch.v (Value.int IntKind.i64 (x'.v-1))],[Ch.v (Value.int IntKind.i64 (x'.v+1))]]∨RowLE [[Ch.v (Value.int IntKind.i64 (x_5.v-1))],[Ch.v (Value.int IntKind.i64 (x_5.v+1))]] [[Ch.v (Value.int IntKind.i64 (x'.v-1))],[Ch.v (Value.int IntKind.i64 (x'.v+1))]])∧3=3∧x_5.s=x'.s∧22=22∧1=1∧ints x_5.l=ints x'.l∧3=3∧x_5.s=x'.s∧4=4∧false=false∧36=36∧x_5.a.name=x'.a.name∧x_5.a.x=x'.a.x∧63≤63∧x_5.a.y=x'.a.y∧63≤63∧x_5.a.half=x'.a.half∧x_5.a.t=x'.a.t∧63≤63∧16=16∧List.map linkCh x_5.a.links=List.map linkCh x'.a.links∧22=22∧1=1∧ints x_5.l=ints x'.l∧43=43∧3=3∧lR 319 (valR x_5.a x_5.s x_5.l)=lR 319 (valR x'.a x'.s x'.l)∧3=3∧IntKind.i64.wrap (x_5.c+1)=x'.c∧True else ∃(x':RsX),((RsI x'∧x'.i≤x'.l.length∧Int.ofNat x'.i≤x'.c∧x'.c≤2*Int.ofNat x'.i)∧OfNat.ofNat 0=OfNat.ofNat 0∧x'.l.length-x'.i<x.l.length-x.i)∧0=0∧0=0∧1=1∧ints x_1.l=ints x'.l∧Int.ofNat x_1.l.length=Int.ofNat x'.l.length∧IntKind.i64.wrap (Int.ofNat x_1.i+1)=Int.ofNat x'.i∧0=0∧3=3∧x_1.s=x'.s∧22=22∧1=1∧ints x_1.l=ints x'.l∧3=3∧x_1.s=x'.s∧4=4∧false=false∧36=36∧x_1.a.name=x'.a.name∧x_1.a.x=x'.a.x∧63≤63∧x_1.a.y=x'.a.y∧63≤63∧x_1.a.half=x'.a.half∧x_1.a.t=x'.a.t∧63≤63∧16=16∧List.map linkCh x_1.a.links=List.map linkCh x'.a.links∧22=22∧1=1∧ints x_1.l=ints x'.l∧43=43∧3=3∧lR 319 (valR x_1.a x_1.s x_1.l)=lR 319 (valR x'.a x'.s x'.l)∧3=3∧x_1.c=x'.c∧True else bif decide (x.c≥Int.ofNat (ints x.l).length) then K (AV.x false [Ch.v (Value.bool (decide (x.c≤IntKind.i64.wrap (2*Int.ofNat (ints x.l).length))))]) else K (AV.x false [Ch.v (Value.bool false)])) := by kernel_rfl
end Go.Proofs
/- RoamBeside: its proof. -/
namespace Go.Proofs
open Go Go.Eng
theorem rsE_zero (s v : Int) : rsE s v 0 = 0 := by simp [rsE]
theorem rsE_two {s v : Int} (hs : 1 ≤ s) (hv : 0 ≤ v ∧ v ≤ s) : 1 ≤ rsE s v 2 ∧ rsE s v 2 ≤ 2 := by
 unfold rsE
 split <;> split <;> omega
theorem rsE_step {s v : Int} {j : Nat} (hj : j < 2) (hv : 0 ≤ v ∧ v ≤ s) : (0 ≤ rsW v j ∧ rsW v j ≤ s → rsE s v (j + 1) = rsE s v j + 1) ∧ (¬ (0 ≤ rsW v j ∧ rsW v j ≤ s) → rsE s v (j + 1) = rsE s v j) := by
 have : j = 0 ∨ j = 1 := by omega
 rcases this with rfl | rfl
 ·unfold rsE rsW
  refine ⟨fun h => ?_, fun h => ?_⟩
  ·simp at h
   rw [if_pos (by omega), if_neg (by omega), if_neg (by omega), if_neg (by omega)]; rfl
  ·simp at h
   rw [if_neg (by omega), if_neg (by omega), if_neg (by omega), if_neg (by omega)]
 ·unfold rsE rsW
  refine ⟨fun h => ?_, fun h => ?_⟩
  ·simp at h
   rw [if_pos (show 2 ≤ 1 + 1 ∧ v + 1 ≤ s by omega), if_neg (show ¬ (2 ≤ 1 ∧ v + 1 ≤ s) by omega)]
   simp
  ·simp at h
   rw [if_neg (show ¬ (2 ≤ 1 + 1 ∧ v + 1 ≤ s) by omega), if_neg (show ¬ (2 ≤ 1 ∧ v + 1 ≤ s) by omega)]
   simp
theorem rsC_inj {x y : RsX} (hx : RsI x) (hy : RsI y) (xi : x.i < x.l.length) (yi : y.i < y.l.length) (xj : x.j ≤ 2) (yj : y.j ≤ 2) (h : rsC x = rsC y) : x.l = y.l ∧ x.i = y.i ∧ x.j = y.j := by
 have xn := hx.good.n
 have yn := hy.good.n
 have xl := hx.l
 have yl := hy.l
 have xs := hx.s
 have ys := hy.s
 have rx : ∀ k ∈ x.l, 0 ≤ k ∧ k ≤ 12 := fun k hk => by have := hx.r k hk; omega
 have ry : ∀ k ∈ y.l, 0 ≤ k ∧ k ≤ 12 := fun k hk => by have := hy.r k hk; omega
 have vx := (numV_bounds (by decide) rx).1
 have vy := (numV_bounds (by decide) ry).1
 unfold rsC at h
 have h1 : numV 12 x.l = numV 12 y.l := by omega
 exact ⟨numV_inj (by decide) (by omega) rx ry h1, by omega, by omega⟩
theorem valV_inj {s : Int} (hs : 1 ≤ s) {L : LinkV} (hl : L.lo < L.hi) {k m : Int} (h : valV s L k = valV s L m) : k = m := by
 rw [← near_val (k := k) hs hl, h, near_val hs hl]
theorem cmp_eq0 {p q : Rat} (h : p = q) : cmpR p q = 0 := by subst h; simp [cmpR, Rat.lt_irrefl]
theorem cmp_ne {p q : Rat} (h : p ≠ q) : cmpR p q ≠ 0 := fun e => by
 have h1 := (cmp_le p q).1 (by omega)
 have h2 := (cmp_ge p q).1 (by omega)
 exact h (Rat.le_antisymm h1 h2)
theorem g_kBeside (l : List Int) (m : List Int) (x : Int) (hl : l.length ≤ 9223372036854775807) (hm : m.length ≤ 9223372036854775807) (K : AV → Prop) (hK : K (.x false [.v (.bool true)])) : Holds (goal_kBeside l m x K) := by
 refine ⟨?_⟩
 rw [goal_kBeside_vc]
 simp only [Int.ofNat_eq_natCast, true_and, and_true, Nat.zero_add, Nat.le_refl, true_implies, true_or, or_true]
 have b1 := Int.emod_nonneg x (show (12 : Int) ≠ 0 by decide)
 have b2 := Int.emod_lt_of_pos x (show (0 : Int) < 12 by decide)
 have es : IntKind.i64.wrap (1 + x % 12) = 1 + x % 12 := w64 (by omega)
 rw [es]
 have hs : 1 ≤ 1 + x % 12 ∧ 1 + x % 12 ≤ 12 := by omega
 generalize 1 + x % 12 = s at *
 refine ⟨[1, 2], rfl, ⟨⟨⟨by simp, by simp⟩, by simp⟩, by omega, fun k hk => by simp at hk; omega⟩, bif_mk (fun h => absurd h (by decide)) (fun _ => ⟨l, rfl, hl, fun a ha => ⟨by omega, ⟨⟨⟨a, s, [], m, 0, 0, 0, 0, [], false, 0, 0, 0, 0, 0⟩, ⟨MadeA.good ha, hs, rfl, Nat.zero_le _, by simp, Nat.le_refl _⟩, by rw [List.length_map], rfl, rfl, rfl, rfl, rfl, rfl, rfl, rfl, rfl, rfl, rfl⟩, fun z hz => bif_mk (fun hp => ?_) (fun hp => ?_)⟩, fun z hz => ?_⟩⟩)⟩
 ·obtain ⟨hg, zs, zl, zi, zr, zsl⟩ := hz
  have hp : z.i < z.a.links.length := by have := of_decide_eq_true hp; omega
  have zn := hg.n
  have ew : IntKind.i64.wrap (z.s + 1) = z.s + 1 := w64 (by omega)
  rw [ew]
  refine ⟨z.sl, rfl, by omega, by omega, fun r l' hr hl' => ⟨by omega, ⟨z.a, z.s, z.l ++ [r], l', 0, z.i + 1, 0, 0, [], false, 0, 0, 0, 0, 0⟩, ⟨⟨hg, zs, by simp only [List.length_append, List.length_singleton]; omega, by simp only; omega, fun k hk => ?_, by simp only; omega⟩, by simp only; omega⟩, rfl, by rw [w64 (by omega)]; simp, rfl, rfl, rfl, rfl, rfl, rfl, rfl, by simp, rfl, .inl ?_⟩⟩
  ·rcases List.mem_append.1 hk with h | h
   ·exact zr k h
   ·rw [List.mem_singleton.1 h]; simp only; omega
  ·rw [List.take_of_length_le (by rw [ints_len]; exact Nat.le_refl _)]
   simp [ints]
 ·obtain ⟨hg, zs, zl, zi, zr, zsl⟩ := hz
  have hp : z.i = z.a.links.length := by have := of_decide_eq_false hp; omega
  exact ⟨⟨z.a, z.s, z.l, [], 0, 0, 0, 0, [], false, 0, 0, 0, 0, 0⟩, ⟨hg, zs, by simp only; omega, zr⟩, rfl, rfl, rfl, rfl, rfl, rfl, rfl, by rw [List.drop_zero, List.take_of_length_le (by rw [ints_len]; exact Nat.le_refl _)]⟩
 have zn := hz.good.n
 have zl := hz.l
 have lv : (valR z.a z.s z.l).length = z.l.length := by simp [valR, zl]
 refine ⟨z.a, z.l, rfl, rfl, ⟨hz.good, hz.s, hz.l, hz.r⟩, bif_mk (fun h => ?_) (fun _ => ⟨z.l, rfl, ⟨⟨z.a, z.s, z.l, [], 0, 0, 0, 0, [], false, 0, 0, 0, 0, 0⟩, ⟨⟨hz.good, hz.s, hz.l, hz.r⟩, rfl⟩, ?_⟩, fun x0 hx0 => ?_⟩)⟩
 ·rw [lR_len, ints_len, lv] at h; simp at h
 ·and_intros <;> first | rfl | exact .inl rfl
 obtain ⟨hx0, hc0⟩ := hx0
 refine ⟨⟨{x0 with i := 0}, ⟨⟨hx0.good, hx0.s, hx0.l, hx0.r⟩, Nat.zero_le _, by simp only; omega, by simp only; omega⟩, ?_⟩, fun x hx => bif_mk (fun hp => ?_) (fun hp => ?_)⟩
 ·and_intros <;> first | rfl | exact .inl rfl | (rw [ints_len])
 ·obtain ⟨hI, hi, c1, c2⟩ := hx
  have hp : x.i < x.l.length := by have := of_decide_eq_true hp; omega
  have xn := hI.good.n
  have xl := hI.l
  have xs := hI.s
  obtain ⟨d, hd⟩ : ∃ d, x.l[x.i]? = some d := ⟨_, List.getElem?_eq_getElem hp⟩
  have db := hI.r d (List.mem_of_getElem? hd)
  refine ⟨⟨by omega, by rw [ints_len]; omega⟩, d, ints_ld (by simpa using hd), ⟨{x with j := 0, v := d}, ⟨⟨⟨hI.good, hI.s, hI.l, hI.r⟩, hd, by simp only; omega, by simp only [rsE_zero]; omega⟩, rfl⟩, ?_⟩, fun y hy hty => bif_mk (fun hp2 => ?_) (fun hp2 => ?_)⟩
  ·and_intros <;> first | rfl | exact .inl rfl | exact .inl (by rw [w64 (by omega), w64 (by omega)])
  ·have ys := hy.s
   have yl := hy.l
   have yc := hy.c
   have yn := hy.good.n
   have yb := hy.r y.v (List.mem_of_getElem? hy.v)
   have yi := (List.getElem?_eq_some_iff.1 hy.v).1
   have hj : y.j < 2 := by have := of_decide_eq_true hp2; omega
   obtain ⟨st1, st2⟩ := rsE_step (s := y.s) hj yb
   have hw : ldE [[Ch.v (Value.int .i64 (y.v - 1))], [Ch.v (Value.int .i64 (y.v + 1))]] (y.j : Int).toNat 0 1 = some [.v (.int .i64 (rsW y.v y.j))] := by
    have : y.j = 0 ∨ y.j = 1 := by omega
    rcases this with e | e <;> rw [e] <;> rfl
   refine ⟨⟨by omega, by omega⟩, rsW y.v y.j, hw, bif_mk (fun h => by have := of_decide_eq_true h; omega) (fun _ => bif_mk (fun h => by have := of_decide_eq_true h; omega) (fun _ => bif_mk (fun h => ?_) (fun h1 => bif_mk (fun h => ?_) (fun h2 => ?_))))⟩
   ·have h := of_decide_eq_true h
    refine ⟨{y with j := y.j + 1}, ⟨⟨⟨hy.good, hy.s, hy.l, hy.r⟩, hy.v, by simp only; omega, by simp only; rw [st2 (by omega)]; exact yc⟩, hty, by unfold rsC; simp only; omega⟩, ?_⟩
    and_intros <;> first | rfl | exact .inl rfl | (rw [w64 (by omega)]; simp)
   ·have h := of_decide_eq_true h
    refine ⟨{y with j := y.j + 1}, ⟨⟨⟨hy.good, hy.s, hy.l, hy.r⟩, hy.v, by simp only; omega, by simp only; rw [st2 (by omega)]; exact yc⟩, hty, by unfold rsC; simp only; omega⟩, ?_⟩
    and_intros <;> first | rfl | exact .inl rfl | (rw [w64 (by omega)]; simp)
   have h1 := of_decide_eq_false h1
   have h2 := of_decide_eq_false h2
   have rK : ∀ {z : RsX}, RsK z → ∀ {z' : RsX}, z'.a = z.a → z'.s = z.s → z'.l = z.l → z'.c = z.c → z'.i = z.i → z'.j = z.j → z'.v = z.v → z'.m = z.m → RsK z' := fun {z} h {z'} e1 e2 e3 e4 e5 e6 e7 e8 =>
    ⟨⟨⟨e1 ▸ h.good, e2 ▸ h.s, by rw [e3, e1]; exact h.l, by rw [e3, e2]; exact h.r⟩, by rw [e3, e5, e7]; exact h.v, by rw [e6]; exact h.j, by rw [e2, e4, e5, e6, e7]; exact h.c⟩, by rw [e6]; exact h.j1, by rw [e2, e6, e7]; exact h.w, by rw [e3, e5, e6, e7, e8]; exact h.m⟩
   refine ⟨y.l, rfl, by omega, ⟨by omega, by omega⟩, by rw [ints_len]; omega, ⟨{y with m := y.l.set y.i (rsW y.v y.j)}, ⟨⟨⟨⟨hy.good, hy.s, hy.l, hy.r⟩, hy.v, hy.j, hy.c⟩, hj, by simp only; omega, rfl⟩, rfl⟩, ?_⟩, fun u hu htu => ⟨u.m, rfl, ⟨{u with b := false}, ⟨⟨rK hu rfl rfl rfl rfl rfl rfl rfl rfl, rfl⟩, htu⟩, ?_⟩, fun w hw htw => ⟨⟨{w with i2 := 0}, ⟨⟨rK hw.1 rfl rfl rfl rfl rfl rfl rfl rfl, fun h => absurd h (Nat.not_lt_zero _)⟩, rfl, Nat.zero_le _⟩, ?_⟩, fun n hn => bif_mk (fun hp3 => ?_) (fun hp3 => ?_)⟩⟩⟩
   ·and_intros <;> first | rfl | exact .inl rfl | (rw [List.drop_zero, List.take_of_length_le (by rw [List.length_set, ints_len]; exact Nat.le_refl _)]; simp [ints, List.map_set])
   ·and_intros <;> first | rfl | exact .inl rfl
   ·and_intros <;> first | rfl | exact .inl rfl | (rw [ints_len])
   ·obtain ⟨⟨hnK, hnb⟩, hnC, hni⟩ := hn
    have hp3 : n.i2 < n.m.length := by have := of_decide_eq_true hp3; omega
    have nl := hnK.l
    have nn := hnK.good.n
    have ns := hnK.s
    have nj := hnK.j1
    have nm : n.m.length = n.l.length := by rw [hnK.m, List.length_set]
    obtain ⟨d2, hd2⟩ : ∃ d, n.m[n.i2]? = some d := ⟨_, List.getElem?_eq_getElem hp3⟩
    have mr : ∀ {z : RsX}, RsK z → ∀ k ∈ z.m, 0 ≤ k ∧ k ≤ z.s := fun {z} hz k hk => by
     rw [hz.m] at hk
     rcases List.mem_or_eq_of_mem_set hk with h | h
     ·exact hz.r k h
     ·rw [h]; exact hz.w
    have d2b := mr hnK d2 (List.mem_of_getElem? hd2)
    refine ⟨⟨by omega, by rw [ints_len]; omega⟩, d2, ints_ld (by simpa using hd2), ⟨{n with v2 := d2, j2 := 0}, ⟨⟨rK hnK rfl rfl rfl rfl rfl rfl rfl rfl, hnC, ⟨hd2, by simp only; omega⟩, fun h => ?_⟩, rfl⟩, ?_⟩, fun q hq hqt => bif_mk (fun hp4 => ?_) (fun hp4 => ?_)⟩
    ·simp only at h
     exact hnb (by omega)
    ·and_intros <;> first | rfl | exact .inl rfl | exact .inl (by rw [w64 (by omega), w64 (by omega)])
    ·obtain ⟨hqK, hqC, ⟨hq2, hqj⟩, hqb⟩ := hq
     have hp4 : q.j2 < 2 := by have := of_decide_eq_true hp4; omega
     have qi := (List.getElem?_eq_some_iff.1 hq2).1
     have qn := hqK.good.n
     have ql := hqK.l
     have qs := hqK.s
     have qj := hqK.j1
     have qm : q.m.length = q.l.length := by rw [hqK.m, List.length_set]
     have q2b := mr hqK q.v2 (List.mem_of_getElem? hq2)
     have qvb := hqK.r q.v (List.mem_of_getElem? hqK.v)
     have qvi := (List.getElem?_eq_some_iff.1 hqK.v).1
     have back : q.i = q.i2 → q.j2 + q.j = 1 → rsW q.v2 q.j2 = q.v := fun e e2 => by
      have hv2 : q.v2 = rsW q.v q.j := by
       have h := hq2
       rw [← e, hqK.m, List.getElem?_set, if_pos rfl, if_pos qvi] at h
       exact (Option.some.inj h).symm
      rw [hv2]
      have : (q.j = 0 ∧ q.j2 = 1) ∨ (q.j = 1 ∧ q.j2 = 0) := by omega
      rcases this with ⟨a1, a2⟩ | ⟨a1, a2⟩ <;> rw [a1, a2] <;> simp [rsW] <;> omega
     have hw2 : ldE [[Ch.v (Value.int .i64 (q.v2 - 1))], [Ch.v (Value.int .i64 (q.v2 + 1))]] (q.j2 : Int).toNat 0 1 = some [.v (.int .i64 (rsW q.v2 q.j2))] := by
      have : q.j2 = 0 ∨ q.j2 = 1 := by omega
      rcases this with e | e <;> rw [e] <;> rfl
     refine ⟨⟨by omega, by omega⟩, rsW q.v2 q.j2, hw2, bif_mk (fun h => by have := of_decide_eq_true h; omega) (fun _ => bif_mk (fun h => by have := of_decide_eq_true h; omega) (fun _ => bif_mk (fun h => ?_) (fun h1 => bif_mk (fun h => ?_) (fun h2 => ⟨q.m, rfl, by omega, ⟨by omega, by omega⟩, by rw [ints_len]; omega, bif_mk (fun hb => ?_) (fun hb => ?_)⟩))))⟩
     ·have h := of_decide_eq_true h
      refine ⟨{q with j2 := q.j2 + 1}, ⟨⟨rK hqK rfl rfl rfl rfl rfl rfl rfl rfl, hqC, ⟨hq2, by simp only; omega⟩, fun h3 => ?_⟩, hqt, by simp only; omega⟩, ?_⟩
      ·simp only at h3
       by_cases e : q.i = q.i2 ∧ q.j2 + q.j = 1
       ·have := back e.1 e.2; omega
       ·exact hqb (by omega)
      and_intros <;> first | rfl | exact .inl rfl | (rw [w64 (by omega)]; simp)
     ·have h := of_decide_eq_true h
      refine ⟨{q with j2 := q.j2 + 1}, ⟨⟨rK hqK rfl rfl rfl rfl rfl rfl rfl rfl, hqC, ⟨hq2, by simp only; omega⟩, fun h3 => ?_⟩, hqt, by simp only; omega⟩, ?_⟩
      ·simp only at h3
       by_cases e : q.i = q.i2 ∧ q.j2 + q.j = 1
       ·have := back e.1 e.2; omega
       ·exact hqb (by omega)
      and_intros <;> first | rfl | exact .inl rfl | (rw [w64 (by omega)]; simp)
     ·refine ⟨{q with j2 := q.j2 + 1, b := true}, ⟨⟨rK hqK rfl rfl rfl rfl rfl rfl rfl rfl, hqC, ⟨hq2, by simp only; omega⟩, fun _ => rfl⟩, hqt, by simp only; omega⟩, ?_⟩
      and_intros <;> first | rfl | exact .inl rfl | (rw [w64 (by omega)]; simp)
     ·refine ⟨q.m.set q.i2 (rsW q.v2 q.j2), q.l, ?_, rfl, ⟨by rw [List.length_set]; omega, by omega⟩, {q with j2 := q.j2 + 1, b := decide (q.m.set q.i2 (rsW q.v2 q.j2) = q.l)}, ⟨⟨rK hqK rfl rfl rfl rfl rfl rfl rfl rfl, hqC, ⟨hq2, by simp only; omega⟩, fun h3 => ?_⟩, hqt, by simp only; omega⟩, ?_⟩
      ·rw [List.drop_zero, List.take_of_length_le (by rw [List.length_set, ints_len]; exact Nat.le_refl _)]; simp [ints, List.map_set]
      ·simp only at h3
       by_cases e : q.i = q.i2 ∧ q.j2 + q.j = 1
       ·refine decide_eq_true ?_
        rw [back e.1 e.2, ← e.1, hqK.m, List.set_set]
        apply List.ext_getElem?
        intro k
        by_cases hk : k = q.i
        ·subst hk; rw [List.getElem?_set, if_pos rfl, if_pos qvi, hqK.v]
        ·rw [List.getElem?_set_ne (fun h => hk h.symm)]
       ·have := hqb (by omega)
        rw [this] at hb; cases hb
      and_intros <;> first | rfl | exact .inl rfl | (rw [w64 (by omega)]; simp)
    ·obtain ⟨hqK, hqC, ⟨hq2, hqj⟩, hqb⟩ := hq
     have hp4 : q.j2 = 2 := by have := of_decide_eq_false hp4; omega
     have qi := (List.getElem?_eq_some_iff.1 hq2).1
     have qn := hqK.good.n
     have ql := hqK.l
     have qm : q.m.length = q.l.length := by rw [hqK.m, List.length_set]
     refine ⟨{q with i2 := q.i2 + 1}, ⟨⟨⟨rK hqK rfl rfl rfl rfl rfl rfl rfl rfl, fun h => hqb (by simp only at h; omega)⟩, hqC, by simp only; omega⟩, by simp only; omega⟩, ?_⟩
     and_intros <;> first | rfl | exact .inl rfl | (rw [w64 (by omega)]; simp)
   ·obtain ⟨⟨hnK, hnb⟩, hnC, hni⟩ := hn
    have hp3 : n.i2 = n.m.length := by have := of_decide_eq_false hp3; omega
    have nl := hnK.l
    have nn := hnK.good.n
    have ns := hnK.s
    have nvi := (List.getElem?_eq_some_iff.1 hnK.v).1
    have wvi := (List.getElem?_eq_some_iff.1 hw.1.v).1
    have nm : n.m.length = n.l.length := by rw [hnK.m, List.length_set]
    have mr : ∀ {z : RsX}, RsK z → ∀ k ∈ z.m, 0 ≤ k ∧ k ≤ z.s := fun {z} hz k hk => by
     rw [hz.m] at hk
     rcases List.mem_or_eq_of_mem_set hk with h | h
     ·exact hz.r k h
     ·rw [h]; exact hz.w
    obtain ⟨ll, li, lj⟩ := rsC_inj hnK.toRsI hw.1.toRsI nvi wvi hnK.j hw.1.j hnC
    have lv : n.v = w.v := by
     have h := hnK.v
     rw [ll, li, hw.1.v] at h
     exact (Option.some.inj h).symm
    have hmw : w.m = n.m := by rw [hnK.m, hw.1.m, ll, li, lj, lv]
    rw [hmw]
    have l1 : (valR n.a n.s n.m).length = n.l.length := by simp [valR, nm, nl]
    have l2 : (valR n.a n.s n.l).length = n.l.length := by simp [valR, nl]
    refine ⟨n.a, n.m, rfl, rfl, ⟨hnK.good, hnK.s, by omega, mr hnK⟩, bif_mk (fun h => ?_) (fun _ => bif_mk (fun h => ?_) (fun _ => ⟨⟨{n with p := 0, r := 0}, ⟨⟨rK hnK rfl rfl rfl rfl rfl rfl rfl rfl, Nat.zero_le _, by simp⟩, hnC.trans htw⟩, ?_⟩, fun c hc hct => bif_mk (fun hp5 => ?_) (fun hp5 => ?_)⟩))⟩
    ·rw [lR_len, lR_len, l1, l2] at h; simp at h
    ·rw [hnb (by omega)] at h; cases h
    ·and_intros <;> first | rfl | exact .inl rfl | (rw [lR_len, l2])
    ·obtain ⟨hcK, hcp, hcr⟩ := hc
     have hp5 : c.p < c.l.length := by have := of_decide_eq_true hp5; omega
     have cl := hcK.l
     have cn := hcK.good.n
     have cs := hcK.s
     have cvi := (List.getElem?_eq_some_iff.1 hcK.v).1
     have cm : c.m.length = c.l.length := by rw [hcK.m, List.length_set]
     obtain ⟨L, hL⟩ : ∃ L, c.a.links[c.p]? = some L := ⟨_, List.getElem?_eq_getElem (by omega)⟩
     obtain ⟨k, hk⟩ : ∃ k, c.l[c.p]? = some k := ⟨_, List.getElem?_eq_getElem hp5⟩
     obtain ⟨k2, hk2⟩ : ∃ k, c.m[c.p]? = some k := ⟨_, List.getElem?_eq_getElem (by omega)⟩
     have v1 : (valR c.a c.s c.l)[c.p]? = some (valV c.s L k) := by simp [valR, List.getElem?_zipWith, hL, hk]
     have v2 : (valR c.a c.s c.m)[c.p]? = some (valV c.s L k2) := by simp [valR, List.getElem?_zipWith, hL, hk2]
     have z1 := (List.getElem?_eq_some_iff.1 v1).1
     have z2 := (List.getElem?_eq_some_iff.1 v2).1
     have same : c.p ≠ c.i → k2 = k := fun e => by
      have h := hk2
      rw [hcK.m, List.getElem?_set_ne (fun h => e h.symm), hk] at h
      exact (Option.some.inj h).symm
     have diff : c.p = c.i → k2 ≠ k := fun e => by
      have h := hk2
      rw [hcK.m, e, List.getElem?_set, if_pos rfl, if_pos cvi] at h
      have h' := hk
      rw [e, hcK.v] at h'
      have h := Option.some.inj h
      have h' := Option.some.inj h'
      rw [← h, ← h']
      unfold rsW; split <;> omega
     have lim := (hcK.good.links L (List.mem_of_getElem? hL)).lim
     refine ⟨⟨by omega, by rw [lR_len]; omega⟩, _, _, lR_ld (by simpa using v1), ⟨by omega, by rw [lR_len]; omega⟩, _, _, lR_ld (by simpa using v2), by omega, bif_mk (fun h => ?_) (fun h => ?_)⟩
     ·have e : c.p = c.i := Classical.byContradiction fun e => by
       rw [same e, cmp_eq0 rfl] at h; simp at h
      rw [if_neg (by omega)] at hcr
      refine ⟨{c with p := c.p + 1, r := c.r + 1}, ⟨⟨rK hcK rfl rfl rfl rfl rfl rfl rfl rfl, by simp only; omega, by simp only; rw [if_pos (by omega)]; omega⟩, hct, by simp only; omega⟩, ?_⟩
      and_intros <;> first | rfl | exact .inl rfl | (rw [w64 (by omega)]; done) | (rw [w64 (by omega)]; simp)
     ·have e : c.p ≠ c.i := fun e => by
       have := cmp_ne (p := valV c.s L k) (q := valV c.s L k2) fun h => diff e (valV_inj cs.1 lim h).symm
       simp at h; exact this h
      refine ⟨{c with p := c.p + 1}, ⟨⟨rK hcK rfl rfl rfl rfl rfl rfl rfl rfl, by simp only; omega, by
       simp only; rw [hcr]
       by_cases hi : c.i < c.p
       ·rw [if_pos hi, if_pos (by omega)]
       ·rw [if_neg hi, if_neg (by omega)]⟩, hct, by simp only; omega⟩, ?_⟩
      and_intros <;> first | rfl | exact .inl rfl | (rw [w64 (by omega)]; simp)
    ·obtain ⟨hcK, hcp, hcr⟩ := hc
     have hp5 : c.p = c.l.length := by have := of_decide_eq_false hp5; omega
     have cvi := (List.getElem?_eq_some_iff.1 hcK.v).1
     have cc := hcK.c
     have cj := hcK.j1
     have cn := hcK.good.n
     have cl := hcK.l
     have cs := hcK.s
     rw [if_pos (by omega)] at hcr
     obtain ⟨ml, mi, mj⟩ := rsC_inj hcK.toRsI hy.toRsI cvi yi hcK.j hy.j hct
     have mv : c.v = y.v := by
      have h := hcK.v
      rw [ml, mi, hy.v] at h
      exact (Option.some.inj h).symm
     obtain ⟨s1, _⟩ := rsE_step (s := c.s) cj (hcK.r c.v (List.mem_of_getElem? hcK.v))
     have s1 := s1 hcK.w
     refine bif_mk (fun h => by rw [hcr] at h; simp at h) (fun _ => ⟨{c with j := c.j + 1, c := c.c + 1}, ⟨⟨⟨hcK.good, hcK.s, hcK.l, hcK.r⟩, hcK.v, by simp only; omega, by simp only; rw [s1]; omega⟩, by simp only; rw [ml, mi]; exact hty, by rw [← hct]; unfold rsC; simp only; omega⟩, ?_⟩)
     have bc : c.c ≤ 8 := by have := (show rsE c.s c.v c.j ≤ 2 by unfold rsE; split <;> split <;> omega); omega
     have bc0 : -8 ≤ c.c := by have := (show 0 ≤ rsE c.s c.v c.j by unfold rsE; split <;> split <;> omega); omega
     and_intros <;> first | rfl | exact .inl rfl | (rw [w64 (by omega)]; done) | (simp only; rw [mi]) | (simp only; rw [mv]) | (simp only; rw [ml]) | (rw [w64 (by omega)]; simp only; omega)
  ·have ys := hy.s
   have yl := hy.l
   have yj := hy.j
   have yc := hy.c
   have yn := hy.good.n
   have yb := hy.r y.v (List.mem_of_getElem? hy.v)
   have yi := (List.getElem?_eq_some_iff.1 hy.v).1
   have hj : y.j = 2 := by have := of_decide_eq_false hp2; omega
   rw [hj] at yc
   have e2 := rsE_two ys.1 yb
   refine ⟨{y with i := y.i + 1}, ⟨⟨⟨hy.good, hy.s, hy.l, hy.r⟩, by simp only; omega, by simp only; omega, by simp only; omega⟩, by simp only; omega⟩, ?_⟩
   and_intros <;> first | rfl | exact .inl rfl | (rw [w64 (by omega)]; simp)
 ·obtain ⟨hI, hi, c1, c2⟩ := hx
  have hp : x.i = x.l.length := by have := of_decide_eq_false hp; omega
  have xn := hI.good.n
  have xl := hI.l
  have e : IntKind.i64.wrap (2 * (x.l.length : Int)) = 2 * x.l.length := w64 (by omega)
  rw [ints_len]
  refine bif_mk (fun _ => ?_) (fun h => by have := of_decide_eq_false h; omega)
  simp only [e]
  rw [decide_eq_true (by omega)]
  exact hK
theorem spec_beside (l m : List Int) (x : Int) (hl : l.length ≤ 9223372036854775807) (hm : m.length ≤ 9223372036854775807) : Eng.Spec Tryd.prog tabG debT 3 [.x false [.s 1 (ints l)], .x false [.s 1 (ints m)], iA .i64 x] (fun av => av = .x false [.v (.bool true)]) :=
 spec_ofL T70eok mixed Tryd.func3 (by kernel_rfl) (by kernel_rfl) (by rfl) (g_kBeside l m x hl hm _ rfl)
end Go.Proofs
