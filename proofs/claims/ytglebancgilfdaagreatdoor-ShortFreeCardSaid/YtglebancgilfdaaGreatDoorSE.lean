/- Placed shapes: List, Place, Convex, Area, Around. -/
import Derived.Test.YtglebancgilfdaaGreatDoorFA
open Int renaming ofNat → Za, ofNat_eq_natCast → Zj
open List renaming map → Zb, getElem?_eq_some_iff → Zf, getElem?_eq_getElem → Zg, take_of_length_le → Zh, take → Zk, getElem?_map → Zn, replicate → Zo
open Go.Value renaming string → Zc, bool → Zd
open ByteArray renaming mk → Ze
open Go.Eng.Ch renaming r → Zi, v → Zl
open Array renaming mk → Zm
/- Placed shapes: List, Place, Convex, Area, Around. -/
namespace Go.Proofs
open Go Go.Eng
def zV : List Ch := zeroR ++ zeroR
def partV (f : FrV) (l : List (Rat × Rat)) (i : Nat) : List (List Ch) := ((l.take i).map fun p => vecN 115300000 (plV f p)) ++ Zo (l.length - i) zV
def inv_list (f : FrV) (i j k n : Nat) (l : List (Rat × Rat)) : LI := fun _ => .inv ⟨Nat, fun x => ⟨[(2, .x false [.p 2 0]), (5, .x false [.w 500 0 l.length]), (11, sVv n l), (12, iA .i64 l.length), (13, iA .i64 x)],
 [(2, .box 31 [.r f.x i, .r f.y j, .v (.bool f.h), .r f.t k]), (500, .row 27 6 (partV f l x))]⟩, fun x => x ≤ l.length, fun x => l.length - x, fun _ => 0⟩
def placeV (fs : List FrV) (ls : List LinkV) : List (List (Rat × Rat)) := List.zipWith (fun f L => L.shape.map (plV f)) fs ls
def shN (n : Nat) (l : List (List (Rat × Rat))) : List (List Ch) := l.map fun s => [Ch.s 6 (s.map (vecN n))]
def inv_place (a : ArmV) (qs : List Rat) : LI := fun _ => .inv ⟨TqX, fun x => ⟨[(2, .x false [.p 2 0]), (6, .x false [.s 10 (x.fs.map frCh ++ [frN (bnd a.links.length) x.f])]), (8, .x false [.w 500 0 x.i]), (21, .x false [.s 16 (a.links.map linkCh)]), (22, iA .i64 a.links.length), (23, iA .i64 x.i)],
 [(2, .box 34 (armCh a)), (500, .row 68 1 (shN 115300000 ((placeV x.fs a.links).take x.i)))]⟩, TqI a qs, fun x => a.links.length - x.i, fun _ => 0⟩
structure BoxV where
 x1 : Rat
 y1 : Rat
 x2 : Rat
 y2 : Rat
def boxStep (b : BoxV) (v : Rat × Rat) : BoxV := ⟨minR b.x1 v.1, minR b.y1 v.2, maxR b.x2 v.1, maxR b.y2 v.2⟩
def bxN (n : Nat) (b : BoxV) : List Ch := [.r b.x1 n, .r b.y1 n, .r b.x2 n, .r b.y2 n]
theorem part_len (f : FrV) (l : List (Rat × Rat)) (i : Nat) (h : i ≤ l.length) : (partV f l i).length = l.length := by
 simp [partV]; omega
theorem part_get (f : FrV) {l : List (Rat × Rat)} {x i : Nat} {p : Rat × Rat} (hx : x ≤ l.length) (h : l[i]? = some p) : (partV f l x)[i]? = some (if i < x then vecN 115300000 (plV f p) else zV) := by
 have hi := (Zf.1 h).1
 unfold partV
 by_cases hk : i < x
 ·rw [List.getElem?_append_left (by simp; omega), if_pos hk, Zn, List.getElem?_take, if_pos hk, h]; rfl
 ·rw [List.getElem?_append_right (by simp; omega), if_neg hk, List.getElem?_replicate, if_pos (by simp; omega)]
theorem part_set (f : FrV) {l : List (Rat × Rat)} {x n m : Nat} {p : Rat × Rat} (h : l[x]? = some p) (hn : n ≤ 115300000) (hm : m ≤ 115300000) : RowLE ((partV f l x).set x [.r (plV f p).1 n, .r (plV f p).2 m]) (partV f l (x + 1)) := by
 have hx := (Zf.1 h).1
 refine ⟨by rw [List.length_set, part_len f l x (by omega), part_len f l (x + 1) (by omega)], fun i c d hc hd => ?_⟩
 have hil : i < l.length := by
  have := (Zf.1 hd).1
  rw [part_len f l (x + 1) (by omega)] at this; exact this
 obtain ⟨q, hq⟩ : ∃ q, l[i]? = some q := ⟨_, Zg hil⟩
 rw [part_get f (by omega) hq] at hd
 by_cases e : i = x
 ·subst e
  rw [h] at hq; cases hq
  rw [if_pos (by omega)] at hd
  cases hd
  rw [List.getElem?_set_self (by rw [part_len f l i (by omega)]; exact hil)] at hc
  cases hc
  exact ⟨.r hn (.r hm .nil), rfl⟩
 ·rw [List.getElem?_set_ne (fun h => e h.symm), part_get f (by omega) hq] at hc
  by_cases k : i < x
  ·rw [if_pos (by omega)] at hc hd
   cases hc; cases hd
   exact ⟨.r (Nat.le_refl _) (.r (Nat.le_refl _) .nil), rfl⟩
  ·rw [if_neg (by omega)] at hc hd
   cases hc; cases hd
   exact ⟨.v (.v (.v (.v (.v (.v .nil))))), rfl⟩
theorem part_end (f : FrV) (l : List (Rat × Rat)) : partV f l l.length = (l.map (plV f)).map (vecN 115300000) := by
 unfold partV
 rw [List.take_length, Nat.sub_self, List.replicate_zero, List.append_nil, List.map_map]; rfl
theorem fr_ld2 {fs : List FrV} {i : Nat} {f : FrV} (z : List (List Ch)) (h : fs[i]? = some f) : ldE (fs.map frCh ++ z) i 0 10 = some [.r f.x 12800000, .r f.y 12800000, .v (.bool f.h), .r f.t 12800000] := by
 have hi := (Zf.1 h).1
 simp only [ldE, List.getElem?_append_left (show i < (fs.map frCh).length by simpa using hi), Zn, h]; rfl
theorem sh_ld {n : Nat} {ps : List (List (Rat × Rat))} {i : Nat} {s : List (Rat × Rat)} (h : ps[i]? = some s) : ldE (shN n ps) i 0 1 = some [.s 6 (s.map (vecN n))] := by
 simp only [ldE, shN, Zn, h]; rfl
theorem place_len {fs : List FrV} {ls : List LinkV} (h : fs.length = ls.length) : (placeV fs ls).length = ls.length := by simp [placeV, h]
theorem place_get {fs : List FrV} {ls : List LinkV} {i : Nat} {f : FrV} {L : LinkV} (hf : fs[i]? = some f) (hL : ls[i]? = some L) : (placeV fs ls)[i]? = some (L.shape.map (plV f)) := by
 simp [placeV, List.getElem?_zipWith, hf, hL]
theorem place_mem {fs : List FrV} {ls : List LinkV} {s : List (Rat × Rat)} (h : s ∈ placeV fs ls) : ∃ f L, L ∈ ls ∧ s = L.shape.map (plV f) := by
 obtain ⟨i, hi⟩ := List.getElem?_of_mem h
 simp only [placeV, List.getElem?_zipWith] at hi
 cases hf : fs[i]? with
 | none => rw [hf] at hi; cases hi
 | some f =>
  cases hL : ls[i]? with
  | none => rw [hf, hL] at hi; cases hi
  | some L => rw [hf, hL] at hi; cases hi; exact ⟨f, L, List.mem_of_getElem? hL, rfl⟩
theorem gD_of {α : Type} {l : List α} {i : Nat} {d a : α} (h : l[i]? = some a) : l.getD i d = a := by
 rw [List.getD_eq_getElem?_getD, h]; rfl
def L120h : List (Nat × Ctr) := L117
def T120h : Tabs := mkT L120h M79 X4
theorem L120hok : CtrsOK Tryz.prog tabG debT L120h := L117ok
theorem T120hok : TabsOK Tryz.prog tabG debT T120h := mkTok L120hok M79ok X4ok
def ot_fList : OT := fun _ => ([], [])
def goal_fList (x : Rat) (i : Nat) (y : Rat) (j : Nat) (h : Bool) (t : Rat) (k : Nat) (n : Nat) (l : List (Rat × Rat)) (K : AV → Prop) : Prop := goalL T120h ot_fList (inv_list ⟨x, y, h, t⟩ i j k n l) Tryz.f144 [.x true [.r x i, .r y j, .v (.bool h), .r t k], sVv n l] K
theorem goal_fList_vc (x : Rat) (i : Nat) (y : Rat) (j : Nat) (h : Bool) (t : Rat) (k : Nat) (n : Nat) (l : List (Rat × Rat)) (K : AV → Prop) : goal_fList x i y j h t k n l K = ((0≤Za (Zb (vecN n) l).length∧Za (Zb (vecN n) l).length≤Za (Zb (vecN n) l).length∧80*Za (Zb (vecN n) l).length≤281474976710656∧Za (Zb (vecN n) l).length≤9223372036854775807)∧(∃(x_1:Nat),(x_1≤l.length∧OfNat.ofNat 0=0)∧0=0∧0=0∧(Za (Zb (vecN n) l).length).toNat=l.length∧6=6∧Zb (vecN n) l=Zb (vecN n) l∧Za (Zb (vecN n) l).length=Za l.length∧0=Za x_1∧31=31∧x=(FrV.mk x y h t).x∧i≤i∧y=(FrV.mk x y h t).y∧j≤j∧h=(FrV.mk x y h t).h∧t=(FrV.mk x y h t).t∧k≤k∧27=27∧6=6∧(Zo (Za (Zb (vecN n) l).length).toNat [Zl (Zd false),Zl (Zc (Ze (Zm []))),Zl (Zc (Ze (Zm []))),Zl (Zd false),Zl (Zc (Ze (Zm []))),Zl (Zc (Ze (Zm [])))]=partV (FrV.mk x y h t) l x_1∨RowLE (Zo (Za (Zb (vecN n) l).length).toNat [Zl (Zd false),Zl (Zc (Ze (Zm []))),Zl (Zc (Ze (Zm []))),Zl (Zd false),Zl (Zc (Ze (Zm []))),Zl (Zc (Ze (Zm [])))]) (partV (FrV.mk x y h t) l x_1))∧True)∧∀(x_1:Nat),x_1≤l.length→OfNat.ofNat 0=0→bif decide (Za x_1<Za l.length) then (0≤Za x_1∧Za x_1<Za (Zb (vecN n) l).length)∧∃(q:Rat),∃(n_1:Nat),∃(q_1:Rat),∃(n_2:Nat),ldE (Zb (vecN n) l) (Za x_1).toNat 0 6=some [Zi q n_1,Zi q_1 n_2]∧i+j+k+n_1+n_2≤400000000∧∀(n_3 m:Nat),n_3≤i+n_1+n_2+8*k+1100→m≤j+n_1+n_2+8*k+1100→(0≤Za x_1∧Za x_1<Za l.length)∧0+(Za x_1).toNat<(partV (FrV.mk x y h t) l x_1).length∧∃(x':Nat),(x'≤l.length∧OfNat.ofNat 0=0∧l.length-x'<l.length-x_1)∧0=0∧0=0∧l.length=l.length∧6=6∧Zb (vecN n) l=Zb (vecN n) l∧Za l.length=Za l.length∧IntKind.i64.wrap (Za x_1+1)=Za x'∧31=31∧(FrV.mk x y h t).x=(FrV.mk x y h t).x∧i≤i∧(FrV.mk x y h t).y=(FrV.mk x y h t).y∧j≤j∧(FrV.mk x y h t).h=(FrV.mk x y h t).h∧(FrV.mk x y h t).t=(FrV.mk x y h t).t∧k≤k∧27=27∧6=6∧((partV (FrV.mk x y h t) l x_1).set (0+(Za x_1).toNat) [Zi (putX (FrV.mk (FrV.mk x y h t).x (FrV.mk x y h t).y (FrV.mk x y h t).h (FrV.mk x y h t).t) q q_1) n_3,Zi (putY (FrV.mk (FrV.mk x y h t).x (FrV.mk x y h t).y (FrV.mk x y h t).h (FrV.mk x y h t).t) q q_1) m]=partV (FrV.mk x y h t) l x'∨RowLE ((partV (FrV.mk x y h t) l x_1).set (0+(Za x_1).toNat) [Zi (putX (FrV.mk (FrV.mk x y h t).x (FrV.mk x y h t).y (FrV.mk x y h t).h (FrV.mk x y h t).t) q q_1) n_3,Zi (putY (FrV.mk (FrV.mk x y h t).x (FrV.mk x y h t).y (FrV.mk x y h t).h (FrV.mk x y h t).t) q q_1) m]) (partV (FrV.mk x y h t) l x'))∧True else K (AV.x false [Ch.s 6 (Zk l.length (List.drop 0 (partV (FrV.mk x y h t) l x_1)))])) := by kernel_rfl
theorem g_fList (x : Rat) (i : Nat) (y : Rat) (j : Nat) (h : Bool) (t : Rat) (k : Nat) (n : Nat) (l : List (Rat × Rat)) (hc : (i ≤ 12800000 ∧ j ≤ 12800000 ∧ k ≤ 12800000) ∧ (n ≤ 63 ∧ 1 ≤ l.length ∧ l.length ≤ 100)) (K : AV → Prop) (hK : K (sVv 115300000 (l.map (plV ⟨x, y, h, t⟩)))) : Holds (goal_fList x i y j h t k n l K) := by
 refine ⟨?_⟩
 rw [goal_fList_vc]
 try simp only [Zj, true_and, and_true, Nat.zero_add, Nat.le_refl, true_implies]
 obtain ⟨⟨hi, hj, hk⟩, hn, hl1, hl2⟩ := hc
 simp only [List.length_map, Int.toNat_natCast]
 refine ⟨by omega, ⟨0, by omega, trivial, trivial, rfl, .inl rfl⟩, fun w hw => bif_mk (fun hp => ?_) (fun hp => ?_)⟩
 ·have hp : w < l.length := by have := of_decide_eq_true hp; omega
  obtain ⟨p, hpp⟩ : ∃ p, l[w]? = some p := ⟨_, Zg hp⟩
  exact ⟨by omega, _, _, _, _, vec_ld (by simpa using hpp), by omega, fun n3 m h3 hm => ⟨by omega, by rw [part_len _ _ _ hw]; omega, w + 1, ⟨by omega, by omega⟩, by rw [w64 (by omega)]; simp, .inr (part_set _ hpp (by omega) (by omega))⟩⟩
 ·have hp : w = l.length := by have := of_decide_eq_false hp; omega
  subst hp
  rw [part_end, List.drop_zero, Zh (by simp)]
  exact hK
def c_fList : Ctr := fun as0 => match as0 with
 | [.x true [.r x i, .r y j, .v (.bool h), .r t k], .x false [.s 6 xs]] => some fun K => ∃ (n : Nat) (l : List (Rat × Rat)), xs = l.map (vecN n) ∧ ((i ≤ 12800000 ∧ j ≤ 12800000 ∧ k ≤ 12800000) ∧ (n ≤ 63 ∧ 1 ≤ l.length ∧ l.length ≤ 100)) ∧ (K (sVv 115300000 (l.map (plV ⟨x, y, h, t⟩))))
 | _ => none
theorem ok_fList : CtrOK Tryz.prog tabG debT 144 c_fList := by
 refine ⟨enters Tryz.func144 (by kernel_rfl), fun l T hT K hK => ?_⟩
 unfold c_fList at hT
 split at hT
 ·cases hT
  obtain ⟨n, l, rfl, hc, hK⟩ := hK
  exact spec_ofL T120hok mixed Tryz.func144 (by kernel_rfl) (by kernel_rfl) (by rfl) (g_fList _ _ _ _ _ _ _ _ _ hc K hK)
 ·cases hT
def L121 : List (Nat × Ctr) := (144, c_fList) :: L120h
def T121 : Tabs := mkT L121 M79 X4
theorem L121ok : CtrsOK Tryz.prog tabG debT L121 := .cons ok_fList L120hok
theorem T121ok : TabsOK Tryz.prog tabG debT T121 := mkTok L121ok M79ok X4ok
def ot_hPlace : OT := fun id => bif id.beq 8 then ([0, 1, 2, 3, 4, 5, 6, 7, 8, 9, 10], [[], [], [], [1, 2], [3, 1, 2], [], [5], [4, 3, 1, 2, 6, 5], [7, 4, 3, 1, 2, 6, 5], [0, 8, 7, 4, 3, 1, 2, 6, 5], [9, 0, 8, 7, 4, 3, 1, 2, 6, 5]]) else ([], [])
def goal_hPlace (a : ArmV) (b : Nat) (qs : List Rat) (K : AV → Prop) : Prop := goalL T121 ot_hPlace (inv_place a qs) Tryz.f86 [armA a, sR b qs] K
theorem goal_hPlace_vc (a : ArmV) (b : Nat) (qs : List Rat) (K : AV → Prop) : goal_hPlace a b qs K = (∃(a_1:ArmV),∃(b_1:Nat),∃(qs_1:List Rat),[Zl (Zc a.name),Zi a.x 63,Zi a.y 63,Zl (Zd a.half),Zi a.t 63,Ch.s 16 (Zb linkCh a.links)]=[Zl (Zc a_1.name),Zi a_1.x 63,Zi a_1.y 63,Zl (Zd a_1.half),Zi a_1.t 63,Ch.s 16 (Zb linkCh a_1.links)]∧lR b qs=lR b_1 qs_1∧(GoodArm a_1∧b_1≤400∧qs_1.length=a_1.links.length)∧∀(fs:List FrV) (f:FrV),fs++[f]=framesV (baseV a_1) a_1.links qs_1→fs.length=a_1.links.length→(∃(x:TqX),(TqI a qs x∧OfNat.ofNat 0=0)∧0=0∧10=10∧Zb frCh fs++[[Zi f.x (bnd a_1.links.length),Zi f.y (bnd a_1.links.length),Zl (Zd f.h),Zi f.t (bnd a_1.links.length)]]=Zb frCh x.fs++[[Zi x.f.x (bnd a.links.length),Zi x.f.y (bnd a.links.length),Zl (Zd x.f.h),Zi x.f.t (bnd a.links.length)]]∧Value.slice none 0 0=Value.slice none 0 0∧0=0∧x.i=0∧16=16∧Zb linkCh a.links=Zb linkCh a.links∧Za (Zb linkCh a.links).length=Za a.links.length∧0=Za x.i∧34=34∧a.name=a.name∧a.x=a.x∧63≤63∧a.y=a.y∧63≤63∧a.half=a.half∧a.t=a.t∧63≤63∧16=16∧Zb linkCh a.links=Zb linkCh a.links∧shN 115300000 (Zk x.i (placeV x.fs a.links))=[]∧True)∧∀(x:TqX),TqI a qs x→OfNat.ofNat 0=0→bif decide (Za x.i<Za a.links.length) then (0≤Za x.i∧Za x.i<Za (Zb linkCh a.links).length)∧∃(q:Rat),∃(n:Nat),∃(q_1:Rat),∃(n_1:Nat),∃(q_2:Rat),∃(n_2:Nat),∃(q_3:Rat),∃(n_3:Nat),∃(q_4:Rat),∃(n_4:Nat),∃(ys:List (List Ch)),ldE (Zb linkCh a.links) (Za x.i).toNat 0 16=some [Zi q n,Zi q_1 n_1,Zi q_2 n_2,Zi q_3 n_3,Zi q_4 n_4,Ch.s 6 ys]∧(0≤Za x.i∧Za x.i<Za (Zb frCh x.fs++[[Zi x.f.x (bnd a.links.length),Zi x.f.y (bnd a.links.length),Zl (Zd x.f.h),Zi x.f.t (bnd a.links.length)]]).length)∧∃(q:Rat),∃(n:Nat),∃(q_5:Rat),∃(n_5:Nat),∃(b:Bool),∃(q_6:Rat),∃(n_6:Nat),ldE (Zb frCh x.fs++[[Zi x.f.x (bnd a.links.length),Zi x.f.y (bnd a.links.length),Zl (Zd x.f.h),Zi x.f.t (bnd a.links.length)]]) (Za x.i).toNat 0 10=some [Zi q n,Zi q_5 n_5,Zl (Zd b),Zi q_6 n_6]∧∃(n_7:Nat),∃(l:List (Rat × Rat)),ys=Zb (vecN n_7) l∧((n≤12800000∧n_5≤12800000∧n_6≤12800000)∧n_7≤63∧1≤l.length∧l.length≤100)∧((x.i+1)*24≤140737488355328∧x.i+1≤9223372036854775807)∧∃(x':TqX),(TqI a qs x'∧OfNat.ofNat 0=0∧a.links.length-x'.i<a.links.length-x.i)∧0=0∧10=10∧Zb frCh x.fs++[[Zi x.f.x (bnd a.links.length),Zi x.f.y (bnd a.links.length),Zl (Zd x.f.h),Zi x.f.t (bnd a.links.length)]]=Zb frCh x'.fs++[[Zi x'.f.x (bnd a.links.length),Zi x'.f.y (bnd a.links.length),Zl (Zd x'.f.h),Zi x'.f.t (bnd a.links.length)]]∧0=0∧x.i+1=x'.i∧16=16∧Zb linkCh a.links=Zb linkCh a.links∧Za a.links.length=Za a.links.length∧IntKind.i64.wrap (Za x.i+1)=Za x'.i∧34=34∧a.name=a.name∧a.x=a.x∧63≤63∧a.y=a.y∧63≤63∧a.half=a.half∧a.t=a.t∧63≤63∧16=16∧Zb linkCh a.links=Zb linkCh a.links∧68=68∧1=1∧(Zk x.i (shN 115300000 (Zk x.i (placeV x.fs a.links)))++[[Ch.s 6 (Zb (vecN 115300000) (Zb (plV (FrV.mk q q_5 b q_6)) l))]]=shN 115300000 (Zk x'.i (placeV x'.fs a.links))∨RowLE (Zk x.i (shN 115300000 (Zk x.i (placeV x.fs a.links)))++[[Ch.s 6 (Zb (vecN 115300000) (Zb (plV (FrV.mk q q_5 b q_6)) l))]]) (shN 115300000 (Zk x'.i (placeV x'.fs a.links))))∧True else K (AV.t [(false,[Ch.s 1 (Zk x.i (List.drop 0 (shN 115300000 (Zk x.i (placeV x.fs a.links)))))]),(false,[Zl (Value.int IntKind.i64 0)])])) := by kernel_rfl
theorem g_hPlace (a : ArmV) (b : Nat) (qs : List Rat) (hc : (GoodArm a) ∧ (b ≤ 400 ∧ qs.length = a.links.length)) (K : AV → Prop) (hK : ∀ (fs : List FrV) (f : FrV), fs ++ [f] = framesV (baseV a) a.links qs → fs.length = a.links.length → K (.t [(false, [.s 1 (shN 115300000 (placeV fs a.links))]), (false, [.v (.int .i64 0)])])) : Holds (goal_hPlace a b qs K) := by
 refine ⟨?_⟩
 rw [goal_hPlace_vc]
 try simp only [Zj, true_and, and_true, Nat.le_refl, true_implies]
 obtain ⟨hg, hb, hq⟩ := hc
 have hn := hg.n
 refine ⟨a, b, qs, rfl, rfl, ⟨hg, hb, hq⟩, fun fs f hf hl => ?_⟩
 simp only [List.length_map]
 refine ⟨⟨⟨fs, f, 0⟩, ⟨hf, hl, by simp⟩, rfl, rfl, trivial, rfl, rfl⟩, fun x hx => bif_mk (fun hp => ?_) (fun hp => ?_)⟩
 ·have hp : x.i < a.links.length := by have := of_decide_eq_true hp; omega
  have hxl := hx.len
  obtain ⟨L, hL⟩ : ∃ L, a.links[x.i]? = some L := ⟨_, Zg hp⟩
  obtain ⟨g, hgx⟩ : ∃ g, x.fs[x.i]? = some g := ⟨_, Zg (by omega)⟩
  have hpo := (hg.links L (List.mem_of_getElem? hL)).poly
  have h1 := hpo.lo
  have h2 := hpo.hi
  have ht := place_get hgx hL
  have hpl := place_len hxl
  refine ⟨by omega, _, _, _, _, _, _, _, _, _, _, _, link_ld (by simpa using hL), by simp; omega, _, _, _, _, _, _, _, fr_ld2 _ (by simpa using hgx), 63, L.shape, rfl, ⟨by omega, by omega, by omega, by omega⟩, by omega, ⟨x.fs, x.f, x.i + 1⟩, ⟨⟨hx.eq, hxl, hp⟩, by simp only; omega⟩, rfl, rfl, by rw [w64 (by omega)]; simp, .inl ?_⟩
  rw [Zh (by simp [shN]; omega), List.take_add_one, ht]
  unfold shN
  rw [List.map_append]
  rfl
 ·have hp : x.i = a.links.length := by have := of_decide_eq_false hp; have := hx.le; omega
  have hpl := place_len hx.len
  have := hK x.fs x.f hx.eq hx.len
  rw [List.drop_zero, Zh (by simp [shN]; omega), Zh (by omega)]
  exact this
def c_hPlace : Ctr := fun as0 => match as0 with
 | [.x true xs, .x false [.s 3 ys]] => some fun K => ∃ (a : ArmV) (b : Nat) (qs : List Rat), xs = armCh a ∧ ys = lR b qs ∧ ((GoodArm a) ∧ (b ≤ 400 ∧ qs.length = a.links.length)) ∧ (∀ (fs : List FrV) (f : FrV), fs ++ [f] = framesV (baseV a) a.links qs → fs.length = a.links.length → K (.t [(false, [.s 1 (shN 115300000 (placeV fs a.links))]), (false, [.v (.int .i64 0)])]))
 | _ => none
theorem ok_hPlace : CtrOK Tryz.prog tabG debT 86 c_hPlace := by
 refine ⟨enters Tryz.func86 (by kernel_rfl), fun l T hT K hK => ?_⟩
 unfold c_hPlace at hT
 split at hT
 ·cases hT
  obtain ⟨a, b, qs, rfl, rfl, hc, hK⟩ := hK
  exact spec_ofL T121ok mixed Tryz.func86 (by kernel_rfl) (by kernel_rfl) (by rfl) (g_hPlace _ _ _ hc K hK)
 ·cases hT
def L122 : List (Nat × Ctr) := (86, c_hPlace) :: L121
def T122 : Tabs := mkT L122 M79 X4
theorem L122ok : CtrsOK Tryz.prog tabG debT L122 := .cons ok_hPlace L121ok
theorem T122ok : TabsOK Tryz.prog tabG debT T122 := mkTok L122ok M79ok X4ok
def ot_pConvex : OT := fun _ => ([], [])
def goal_pConvex (n : Nat) (l : List (Rat × Rat)) (K : AV → Prop) : Prop := goalL T122 ot_pConvex noL Tryz.f204 [sVv n l] K
theorem goal_pConvex_vc (n : Nat) (l : List (Rat × Rat)) (K : AV → Prop) : goal_pConvex n l K = (∃(n_1:Nat),∃(l_1:List (Rat × Rat)),Zb (vecN n) l=Zb (vecN n_1) l_1∧(n_1≤500000000∧PolyOK l_1∧(8:Int)≤64)∧K (AV.x false [Zl (Value.int IntKind.i64 0)])) := by kernel_rfl
theorem g_pConvex (n : Nat) (l : List (Rat × Rat)) (hc : (n ≤ 500000000) ∧ (PolyOK l)) (K : AV → Prop) (hK : K (iA .i64 0)) : Holds (goal_pConvex n l K) := by
 refine ⟨?_⟩
 rw [goal_pConvex_vc]
 try simp only [Zj, true_and, and_true, Nat.zero_add, Nat.le_refl, true_implies, true_or, or_true]
 exact ⟨n, l, rfl, ⟨hc.1, hc.2, by omega⟩, hK⟩
def c_pConvex : Ctr := fun as0 => match as0 with
 | [.x false [.s 6 xs]] => some fun K => ∃ (n : Nat) (l : List (Rat × Rat)), xs = l.map (vecN n) ∧ ((n ≤ 500000000) ∧ (PolyOK l)) ∧ (K (iA .i64 0))
 | _ => none
theorem ok_pConvex : CtrOK Tryz.prog tabG debT 204 c_pConvex := by
 refine ⟨enters Tryz.func204 (by kernel_rfl), fun l T hT K hK => ?_⟩
 unfold c_pConvex at hT
 split at hT
 ·cases hT
  obtain ⟨n, l, rfl, hc, hK⟩ := hK
  exact spec_ofL T122ok mixed Tryz.func204 (by kernel_rfl) (by kernel_rfl) (by rfl) (g_pConvex _ _ hc K hK)
 ·cases hT
def L123 : List (Nat × Ctr) := (204, c_pConvex) :: L122
def T123 : Tabs := mkT L123 M79 X4
theorem L123ok : CtrsOK Tryz.prog tabG debT L123 := .cons ok_pConvex L122ok
theorem T123ok : TabsOK Tryz.prog tabG debT T123 := mkTok L123ok M79ok X4ok
def ot_rMakeH : OT := fun _ => ([], [])
def goal_rMakeH (n : Int) (d : Int) (K : AV → Prop) : Prop := goalL T123 ot_rMakeH noL Tryz.f118 [iA .i64 n, iA .i64 d] K
theorem goal_rMakeH_vc (n : Int) (d : Int) (K : AV → Prop) : goal_rMakeH n d K = ((-9223372036854775808≤n∧n<9223372036854775808)∧(-9223372036854775808≤d∧d<9223372036854775808)∧128≤4294967296∧((↑d:Rat)≠OfNat.ofNat 0→K (AV.t [(true,[Zi ((↑n:Rat)/(↑d:Rat)) 128]),(false,[Zl (Value.int IntKind.i64 0)])]))∧((↑d:Rat)=OfNat.ofNat 0→K (AV.t [(true,[Zl (Zd false),Zl (Zc (Ze (Zm []))),Zl (Zc (Ze (Zm [])))]),(false,[Zl (Value.int IntKind.i64 12)])]))) := by kernel_rfl
theorem g_rMakeH (n : Int) (d : Int) (hc : (-9223372036854775808 ≤ n ∧ n < 9223372036854775808) ∧ (0 < d ∧ d < 9223372036854775808)) (K : AV → Prop) (hK : K (.t [(true, [.r ((n : Rat) / (d : Rat)) 128]), (false, [.v (.int .i64 0)])])) : Holds (goal_rMakeH n d K) := by
 refine ⟨?_⟩
 rw [goal_rMakeH_vc]
 try simp only [Zj, true_and, and_true, Nat.zero_add, Nat.le_refl, true_implies, true_or, or_true]
 exact ⟨by omega, by omega, by omega, fun _ => hK, fun h => absurd (Rat.intCast_eq_zero_iff.1 h) (by omega)⟩
def c_rMakeH : Ctr := fun as0 => match as0 with
 | [.x false [.v (.int .i64 n)], .x false [.v (.int .i64 d)]] => some fun K => ((-9223372036854775808 ≤ n ∧ n < 9223372036854775808) ∧ (0 < d ∧ d < 9223372036854775808)) ∧ (K (.t [(true, [.r ((n : Rat) / (d : Rat)) 128]), (false, [.v (.int .i64 0)])]))
 | _ => none
theorem ok_rMakeH : CtrOK Tryz.prog tabG debT 118 c_rMakeH := by
 refine ⟨enters Tryz.func118 (by kernel_rfl), fun l T hT K hK => ?_⟩
 unfold c_rMakeH at hT
 split at hT
 ·cases hT
  obtain ⟨hc, hK⟩ := hK
  exact spec_ofL T123ok mixed Tryz.func118 (by kernel_rfl) (by kernel_rfl) (by rfl) (g_rMakeH _ _ hc K hK)
 ·cases hT
def L124 : List (Nat × Ctr) := (118, c_rMakeH) :: L123
def L125 : List (Nat × Ctr) := L124
def L126 : List (Nat × Ctr) := L125
def T126 : Tabs := mkT L126 M79 X4
end Go.Proofs
