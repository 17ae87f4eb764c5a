/- gantmake.poly, Poly; walls, clears. -/
import Derived.Test.YtfhfenokfkenoaaGreatDoorCA
namespace Go.Proofs
open Go Go.Eng
def QQq (n:Nat)(ps:List (Rat×Rat)):Blk:= .row 27 6 (ps.map (QT n))
def QGo:LC:=QQp
theorem QEj:QG QGo:=QUo
def gP0 (w h:Int):List (Rat×Rat):=[at4 (-w) (-h),at4 w (-h),at4 w h,at4 (-w) h]
def gP1 (w h r:Int):List (Rat×Rat):=[at4 (-w) (-h),at4 w (-h),at4 (r-w) h]
def gP2 (w h:Int):List (Rat×Rat):=[at4 (-w-1) (-h-1),at4 w (-h-1),at4 (w+1) (-h),at4 (w+1) h,at4 (-w-1) h]
def gP3 (w h:Int):List (Rat×Rat):=[at4 (-w) 0,at4 0 (-h),at4 w 0,at4 0 h]
theorem QMn:([1,2,3,4,5,6]:List Int).all (fun w=>([1,2,3,4,5,6]:List Int).all fun h=>Uv (gP0 w h)&&Uv (gP2 w h)&&Uv (gP3 w h)&&(List.range (2*w+1).toNat).all fun(r:Nat)=>Uv (gP1 w h (r:Int)))=true:=by decide+kernel
theorem QQr {w h:Int}(hw:1<=w/\w<=6)(hh:1<=h/\h<=6):QX (gP0 w h)/\QX (gP2 w h)/\QX (gP3 w h)/\ ∀r:Int,0<=r->r<2*w+1->QX (gP1 w h r):=by
 have m: ∀{x:Int},1<=x/\x<=6->x∈([1,2,3,4,5,6]:List Int):=fun {x} hx=>by
  have:x=1∨x=2∨x=3∨x=4∨x=5∨x=6:=by omega
  simpa using this
 have k:=List.all_eq_true.1 (List.all_eq_true.1 QMn w (m hw)) h (m hh);simp only[Bool.and_eq_true]at k;refine⟨Wi k.1.1.1,Wi k.1.1.2,Wi k.1.2,fun r h0 h1=> ?_⟩;have:=List.all_eq_true.1 k.2 r.toNat (List.mem_range.2 (by omega));rw[show((r.toNat:Nat):Int)=r by omega]at this;exact Wi this
def QUp:XJ:=fun as0 H d=>match as0 with
 | [.x false [.p k o]]=>match o with
  | 0=>match H k with
   | some (.box t [.s 1 zs])=>match H d with
    | none=>bif t.beq 38 then
     some fun K=> ∃l,zs=ints l/\l.length<=9223372036854775807/\ ∀(ps:List (Rat×Rat)) (l':List Int),QX ps->l'.length<=l.length->
      K (.x false [.w d 0 ps.length]) (XZ [(1000,k),(500,d)] (QN [(1000,stB l'),(500,QQq 63 ps)]) H)
     else none
    | some _=>none
   | _=>none
  | _+1=>none
 | _=>none
def Qbn:List (Nat×XJ):=(171,QUp)::M79
def mvP (v p:Rat×Rat):Rat×Rat:=(p.1+v.1,p.2+v.2)
theorem QUq {l:List (Rat×Rat)}(v:Rat×Rat)(h:QX l):QX (l.map (mvP v)):=by
 refine⟨by rw[List.length_map];exact h.lo,by rw[List.length_map];exact h.hi,fun i k a b c h1 h2 ha hb hc=> ?_⟩;rw[List.length_map]at h2 hb hc;rw[List.getElem?_map]at ha hb hc;obtain⟨a',ha',rfl⟩:=Option.map_eq_some_iff.1 ha;obtain⟨b',hb',rfl⟩:=Option.map_eq_some_iff.1 hb;obtain⟨c',hc',rfl⟩:=Option.map_eq_some_iff.1 hc;have:=h.left i k a' b' c' h1 h2 ha' hb' hc';unfold lft at this⊢;unfold mvP;simp only;grind
def QUr:Ctr
 | [.x false [.s 1 xs]]=>some fun K=> ∃(l:List Int),xs=ints l/\((l.length<=9223372036854775807))/\(∀ps,QX ps->K (sVv 63 ps))
 | _=>none
def Qa6:LC:=(107,QUr)::QGo
def QQs:Ctr
 | [.x false [.s 1 xs]]=>some fun K=> ∃(l:List Int),xs=ints l/\((l.length<=9223372036854775807))/\(∀ws:List (List (Rat×Rat)),ws.length<=3->(∀w∈ws,QX w)->K (slA 127 ws))
 | _=>none
def Qa7:LC:=(48,QQs)::Qa6
noncomputable def Qbx:QZ:=mkT Qa7 Qbn X4
end Go.Proofs
