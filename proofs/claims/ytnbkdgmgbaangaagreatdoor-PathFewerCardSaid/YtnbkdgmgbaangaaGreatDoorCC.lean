/- gantmake.poly, Poly; walls, clears. -/
import Derived.Test.YtnbkdgmgbaangaaGreatDoorCA
namespace Go.Proofs
open Go Go.Eng
def QUZ (n:Nat)(ps:List (Rat×Rat)):Blk:= .row 27 6 (ps.map (QY n))
def QJ5:List (Nat×Ctr):=QUY
theorem QHh:CtrsOK Tryz.prog QH QG QJ5:=QY8
def gP0 (w h:Int):List (Rat×Rat):=[at4 (-w) (-h),at4 w (-h),at4 w h,at4 (-w) h]
def gP1 (w h r:Int):List (Rat×Rat):=[at4 (-w) (-h),at4 w (-h),at4 (r-w) h]
def gP2 (w h:Int):List (Rat×Rat):=[at4 (-w-1) (-h-1),at4 w (-h-1),at4 (w+1) (-h),at4 (w+1) h,at4 (-w-1) h]
def gP3 (w h:Int):List (Rat×Rat):=[at4 (-w) 0,at4 0 (-h),at4 w 0,at4 0 h]
theorem QP9:([1,2,3,4,5,6]:List Int).all (fun w=>([1,2,3,4,5,6]:List Int).all fun h=>Ul (gP0 w h)&&Ul (gP2 w h)&&Ul (gP3 w h)&&(List.range (2*w+1).toNat).all fun(r:Nat)=>Ul (gP1 w h (r:Int)))=true:=by decide+kernel
theorem QUa {w h:Int}(hw:1<=w/\w<=6)(hh:1<=h/\h<=6):QZ (gP0 w h)/\QZ (gP2 w h)/\QZ (gP3 w h)/\ ∀r:Int,0<=r->r<2*w+1->QZ (gP1 w h r):=by
 have m: ∀{x:Int},1<=x/\x<=6->x∈([1,2,3,4,5,6]:List Int):=fun {x} hx=>by
  have:x=1∨x=2∨x=3∨x=4∨x=5∨x=6:=by omega
  simpa using this
 have k:=List.all_eq_true.1 (List.all_eq_true.1 QP9 w (m hw)) h (m hh);simp only[Bool.and_eq_true]at k;refine⟨WU k.1.1.1,WU k.1.1.2,WU k.1.2,fun r h0 h1=> ?_⟩;have:=List.all_eq_true.1 k.2 r.toNat (List.mem_range.2 (by omega));rw[show((r.toNat:Nat):Int)=r by omega]at this;exact WU this
def QY9:XM:=fun as0 H d=>match as0 with
 | [.x false [.p k o]]=>match o with
  | 0=>match H k with
   | some (.box t [.s 1 zs])=>match H d with
    | none=>bif t.beq 38 then
     some fun K=> ∃l,zs=ints l/\l.length<=9223372036854775807/\ ∀(ps:List (Rat×Rat)) (l':List Int),QZ ps->l'.length<=l.length->
      K (.x false [.w d 0 ps.length]) (XU [(1000,k),(500,d)] (QT [(1000,stB l'),(500,QUZ 63 ps)]) H)
     else none
    | some _=>none
   | _=>none
  | _+1=>none
 | _=>none
def QiE:List (Nat×XM):=(175,QY9)::M79
def mvP (v p:Rat×Rat):Rat×Rat:=(p.1+v.1,p.2+v.2)
theorem QZA {l:List (Rat×Rat)}(v:Rat×Rat)(h:QZ l):QZ (l.map (mvP v)):=by
 refine⟨by rw[List.length_map];exact h.lo,by rw[List.length_map];exact h.hi,fun i k a b c h1 h2 ha hb hc=> ?_⟩;rw[List.length_map]at h2 hb hc;rw[List.getElem?_map]at ha hb hc;obtain⟨a',ha',rfl⟩:=Option.map_eq_some_iff.1 ha;obtain⟨b',hb',rfl⟩:=Option.map_eq_some_iff.1 hb;obtain⟨c',hc',rfl⟩:=Option.map_eq_some_iff.1 hc;have:=h.left i k a' b' c' h1 h2 ha' hb' hc';unfold lft at this⊢;unfold mvP;simp only;grind
def QZB:Ctr:=fun as0=>match as0 with
 | [.x false [.s 1 xs]]=>some fun K=> ∃(l:List Int),xs=ints l/\((l.length<=9223372036854775807))/\(∀ps,QZ ps->K (sVv 63 ps))
 | _=>none
def QhK:List (Nat×Ctr):=(111,QZB)::QJ5
def QUb:Ctr:=fun as0=>match as0 with
 | [.x false [.s 1 xs]]=>some fun K=> ∃(l:List Int),xs=ints l/\((l.length<=9223372036854775807))/\(∀ws:List (List (Rat×Rat)),ws.length<=3->(∀w∈ws,QZ w)->K (slA 127 ws))
 | _=>none
def QhL:List (Nat×Ctr):=(53,QUb)::QhK
noncomputable def QiO:QU:=mkT QhL QiE X4
end Go.Proofs
