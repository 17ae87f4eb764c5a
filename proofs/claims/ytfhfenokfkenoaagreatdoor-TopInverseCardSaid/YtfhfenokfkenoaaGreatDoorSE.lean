/- Placed shapes: List, Place, Convex, Area, Around. -/
import Derived.Test.YtfhfenokfkenoaaGreatDoorFA
open Int renaming ofNat → Za
open List renaming map → Zb, getElem?_eq_some_iff → Ze, getElem?_eq_getElem → Zf, take_of_length_le → Zg, take → Zj, getElem?_map → Zl, replicate → Zm
open Go.Value renaming bool → Zc, string → Zd
open ByteArray renaming mk → Zh
open Go.Eng.Ch renaming r → Zi, v → Zk
namespace Go.Proofs
open Go Go.Eng
def zV:List Ch:=Jd++Jd
def WQ (f:FrV)(l:List (Rat×Rat))(i:Nat):List (List Ch):=((l.take i).map fun p=>Q6 115300000 (plV f p))++Zm (l.length-i) zV
def QPc (f:FrV)(i j k n:Nat)(l:List (Rat×Rat)):LI:=fun _=> .inv ⟨Nat,fun x=>⟨[(2,.x false [.p 2 0]),(5,.x false [.w 500 0 l.length]),(11,sVv n l),(12,iA .i64 l.length),(13,iA .i64 x)],
 [(2,.box 31 [.r f.x i,.r f.y j,.v (.bool f.h),.r f.t k]),(500,.row 27 6 (WQ f l x))]⟩,fun x=>x<=l.length,fun x=>l.length-x,fun _=>0⟩
def Qo (fs:List FrV)(ls:List QT):List (List (Rat×Rat)):=List.zipWith (fun f L=>L.shape.map (plV f)) fs ls
def shN (n:Nat)(l:List (List (Rat×Rat))):List (List Ch):=l.map fun s=>[Ch.s 6 (s.map (Q6 n))]
def QMp (a:ArmV)(qs:List Rat):LI:=fun _=> .inv ⟨TqX,fun x=>⟨[(2,.x false [.p 2 0]),(6,.x false [.s 10 (x.fs.map Jx++[frN (bnd a.links.length) x.f])]),(8,.x false [.w 500 0 x.i]),(21,.x false [.s 16 (a.links.map QC)]),(22,iA .i64 a.links.length),(23,iA .i64 x.i)],
 [(2,.box 34 (Xi a)),(500,.row 61 1 (shN 115300000 ((Qo x.fs a.links).take x.i)))]⟩,TqI a qs,fun x=>a.links.length-x.i,fun _=>0⟩
theorem Vy (f:FrV)(l:List (Rat×Rat))(i:Nat)(h:i<=l.length):(WQ f l i).length=l.length:=by
 simp[WQ];omega
theorem QGo (f:FrV){l:List (Rat×Rat)}{x i:Nat}{p:Rat×Rat}(hx:x<=l.length)(h:l[i]? =some p):(WQ f l x)[i]? =some (if i<x then Q6 115300000 (plV f p)else zV):=by
 have hi:=(Ze.1 h).1;unfold WQ;by_cases hk:i<x
 ·rw[List.getElem?_append_left (by simp;omega),if_pos hk,Zl,List.getElem?_take,if_pos hk,h];rfl
 ·rw[List.getElem?_append_right (by simp;omega),if_neg hk,List.getElem?_replicate,if_pos (by simp;omega)]
theorem QPd (f:FrV){l:List (Rat×Rat)}{x n m:Nat}{p:Rat×Rat}(h:l[x]? =some p)(hn:n<=115300000)(hm:m<=115300000):QE ((WQ f l x).set x [.r (plV f p).1 n,.r (plV f p).2 m]) (WQ f l (x+1)):=by
 have hx:=(Ze.1 h).1;refine⟨by rw[List.length_set,Vy f l x (by omega),Vy f l (x+1) (by omega)],fun i c d hc hd=> ?_⟩;have hil:i<l.length:=by
  have:=(Ze.1 hd).1;rw[Vy f l (x+1) (by omega)]at this;exact this
 obtain⟨q,hq⟩: ∃q,l[i]? =some q:=⟨_,Zf hil⟩
 rw[QGo f (by omega) hq]at hd;by_cases e:i=x
 ·subst e;rw[h]at hq;cases hq
  rw[if_pos (by omega)]at hd;cases hd
  rw[List.getElem?_set_self (by rw[Vy f l i (by omega)];exact hil)]at hc;cases hc
  exact⟨.r hn (.r hm .nil),rfl⟩
 ·rw[List.getElem?_set_ne (fun h=>e h.symm),QGo f (by omega) hq]at hc;by_cases k:i<x
  ·rw[if_pos (by omega)]at hc hd;cases hc;cases hd
   exact⟨.r (Nat.le_refl _) (.r (Nat.le_refl _) .nil),rfl⟩
  ·rw[if_neg (by omega)]at hc hd;cases hc;cases hd
   exact⟨.v (.v (.v (.v (.v (.v .nil))))),rfl⟩
theorem QPe (f:FrV)(l:List (Rat×Rat)):WQ f l l.length=(l.map (plV f)).map (Q6 115300000):=by
 unfold WQ;rw[List.take_length,Nat.sub_self,List.replicate_zero,List.append_nil,List.map_map];rfl
theorem QYU {fs:List FrV}{i:Nat}{f:FrV}(z:List (List Ch))(h:fs[i]? =some f):ldE (fs.map Jx++z) i 0 10=some [.r f.x 12800000,.r f.y 12800000,.v (.bool f.h),.r f.t 12800000]:=by
 have hi:=(Ze.1 h).1;simp only[ldE,List.getElem?_append_left (show i<(fs.map Jx).length by simpa using hi),Zl,h];rfl
theorem Qbf {n:Nat}{ps:List (List (Rat×Rat))}{i:Nat}{s:List (Rat×Rat)}(h:ps[i]? =some s):ldE (shN n ps) i 0 1=some [.s 6 (s.map (Q6 n))]:=by
 simp only[ldE,shN,Zl,h];rfl
theorem UI {fs:List FrV}{ls:List QT}(h:fs.length=ls.length):(Qo fs ls).length=ls.length:=by simp[Qo,h]
theorem QDL {fs:List FrV}{ls:List QT}{i:Nat}{f:FrV}{L:QT}(hf:fs[i]? =some f)(hL:ls[i]? =some L):(Qo fs ls)[i]? =some (L.shape.map (plV f)):=by
 simp[Qo,List.getElem?_zipWith,hf,hL]
theorem QBr {α:Type}{l:List α}{i:Nat}{d a:α}(h:l[i]? =some a):l.getD i d=a:=by
 rw[List.getD_eq_getElem?_getD,h];rfl
def QPf:LC:=QUG
theorem QKj:QG QPf:=QYT
set_option maxHeartbeats 1000000 in
theorem QUH (x:Rat)(i:Nat)(y:Rat)(j:Nat)(h:Bool)(t:Rat)(k:Nat)(n:Nat)(l:List (Rat×Rat))(hc:(i<=12800000/\j<=12800000/\k<=12800000)/\(n<=63/\1<=l.length/\l.length<=100))(K:AV->Prop)(hK:K (sVv 115300000 (l.map (plV ⟨x,y,h,t⟩)))):QK (QN (mkT QPf M79 X4) (oF Tryz.f110) (QPc ⟨x,y,h,t⟩ i j k n l) Tryz.f110 [.x true [.r x i,.r y j,.v (.bool h),.r t k],sVv n l] K):=by
 refine HV (((0<=Za (Zb (Q6 n) l).length/\Za (Zb (Q6 n) l).length<=Za (Zb (Q6 n) l).length/\80*Za (Zb (Q6 n) l).length<=281474976710656/\Za (Zb (Q6 n) l).length<=9223372036854775807)/\(∃(x_1:Nat),(x_1<=l.length/\OfNat.ofNat 0=0)/\0=0/\0=0/\(Za (Zb (Q6 n) l).length).toNat=l.length/\6=6/\Zb (Q6 n) l=Zb (Q6 n) l/\Za (Zb (Q6 n) l).length=Za l.length/\0=Za x_1/\31=31/\x=(FrV.mk x y h t).x/\i<=i/\y=(FrV.mk x y h t).y/\j<=j/\h=(FrV.mk x y h t).h/\t=(FrV.mk x y h t).t/\k<=k/\27=27/\6=6/\(Zm (Za (Zb (Q6 n) l).length).toNat [Zk (Zc false),Zk (Zd (Zh (Array.mk []))),Zk (Zd (Zh (Array.mk []))),Zk (Zc false),Zk (Zd (Zh (Array.mk []))),Zk (Zd (Zh (Array.mk [])))]=WQ (FrV.mk x y h t) l x_1∨QE (Zm (Za (Zb (Q6 n) l).length).toNat [Zk (Zc false),Zk (Zd (Zh (Array.mk []))),Zk (Zd (Zh (Array.mk []))),Zk (Zc false),Zk (Zd (Zh (Array.mk []))),Zk (Zd (Zh (Array.mk [])))]) (WQ (FrV.mk x y h t) l x_1))/\True)/\∀(x_1:Nat),x_1<=l.length->OfNat.ofNat 0=0->bif decide (Za x_1<Za l.length)then(0<=Za x_1/\Za x_1<Za (Zb (Q6 n) l).length)/\∃(q:Rat),∃(n_1:Nat),∃(q_1:Rat),∃(n_2:Nat),ldE (Zb (Q6 n) l) (Za x_1).toNat 0 6=some [Zi q n_1,Zi q_1 n_2]/\i+j+k+n_1+n_2<=400000000/\∀(n_3 m:Nat),n_3<=i+n_1+n_2+8*k+1100->m<=j+n_1+n_2+8*k+1100->(0<=Za x_1/\Za x_1<Za l.length)/\0+(Za x_1).toNat<(WQ (FrV.mk x y h t) l x_1).length/\∃(x':Nat),(x'<=l.length/\OfNat.ofNat 0=0/\l.length-x'<l.length-x_1)/\0=0/\0=0/\l.length=l.length/\6=6/\Zb (Q6 n) l=Zb (Q6 n) l/\Za l.length=Za l.length/\IntKind.i64.wrap (Za x_1+1)=Za x'/\31=31/\(FrV.mk x y h t).x=(FrV.mk x y h t).x/\i<=i/\(FrV.mk x y h t).y=(FrV.mk x y h t).y/\j<=j/\(FrV.mk x y h t).h=(FrV.mk x y h t).h/\(FrV.mk x y h t).t=(FrV.mk x y h t).t/\k<=k/\27=27/\6=6/\((WQ (FrV.mk x y h t) l x_1).set (0+(Za x_1).toNat) [Zi (VM (FrV.mk (FrV.mk x y h t).x (FrV.mk x y h t).y (FrV.mk x y h t).h (FrV.mk x y h t).t) q q_1) n_3,Zi (VN (FrV.mk (FrV.mk x y h t).x (FrV.mk x y h t).y (FrV.mk x y h t).h (FrV.mk x y h t).t) q q_1) m]=WQ (FrV.mk x y h t) l x'∨QE ((WQ (FrV.mk x y h t) l x_1).set (0+(Za x_1).toNat) [Zi (VM (FrV.mk (FrV.mk x y h t).x (FrV.mk x y h t).y (FrV.mk x y h t).h (FrV.mk x y h t).t) q q_1) n_3,Zi (VN (FrV.mk (FrV.mk x y h t).x (FrV.mk x y h t).y (FrV.mk x y h t).h (FrV.mk x y h t).t) q q_1) m]) (WQ (FrV.mk x y h t) l x'))/\True else K (AV.x false [Ch.s 6 (Zj l.length (List.drop 0 (WQ (FrV.mk x y h t) l x_1)))]))) ?_
 try simp only[Int.ofNat_eq_natCast,R0,R1,Nat.zero_add,Nat.le_refl,R4]
 obtain⟨⟨hi,hj,hk⟩,hn,hl1,hl2⟩:=hc;simp only[List.length_map,Int.toNat_natCast];refine⟨by omega,⟨0,by omega,trivial,trivial,rfl,.inl rfl⟩,fun w hw=>QF (fun hp=> ?_) (fun hp=> ?_)⟩
 ·have hp:w<l.length:=by have:=R5 hp;omega
  obtain⟨p,hpp⟩: ∃p,l[w]? =some p:=⟨_,Zf hp⟩
  exact⟨by omega,_,_,_,_,Vv (by simpa using hpp),by omega,fun n3 m h3 hm=>⟨by omega,by rw[Vy _ _ _ hw];omega,w+1,⟨by omega,by omega⟩,by rw[w64 (by omega)];simp,.inr (QPd _ hpp (by omega) (by omega))⟩⟩
 ·have hp:w=l.length:=by have:=R6 hp;omega
  subst hp;rw[QPe,List.drop_zero,Zg (by simp)];exact hK
def QEp:Ctr
 | [.x true [.r x i,.r y j,.v (.bool h),.r t k],.x false [.s 6 xs]]=>some fun K=> ∃(n:Nat) (l:List (Rat×Rat)),xs=l.map (Q6 n)/\((i<=12800000/\j<=12800000/\k<=12800000)/\(n<=63/\1<=l.length/\l.length<=100))/\(K (sVv 115300000 (l.map (plV ⟨x,y,h,t⟩))))
 | _=>none
theorem QPg:QI 110 QEp:=by
 refine okL Tryz.func110 fun l T hT K hK=> ?_
 unfold QEp at hT;split at hT<;>cases hT
 obtain⟨n,l,rfl,hc,hK⟩:=hK;exact spL (QP QKj XN Qg) QM Tryz.func110 (QUH _ _ _ _ _ _ _ _ _ hc K hK)
def QYV:LC:=(110,QEp)::QPf
theorem QYW:QG QYV:= .cons QPg QKj
set_option maxHeartbeats 1000000 in
theorem QPh (a:ArmV)(b:Nat)(qs:List Rat)(hc:(QX a)/\(b<=400/\qs.length=a.links.length))(K:AV->Prop)(hK: ∀(fs:List FrV) (f:FrV),fs++[f]=XD (Xs a) a.links qs->fs.length=a.links.length->K (.t [(false,[.s 1 (shN 115300000 (Qo fs a.links))]),(false,[.v (.int .i64 0)])])):QK (QN (mkT QYV M79 X4) (oF Tryz.f53) (QMp a qs) Tryz.f53 [WN a,sR b qs] K):=by
 refine HV ((∃(a_1:ArmV),∃(b_1:Nat),∃(qs_1:List Rat),[Zk (Zd a.name),Zi a.x 63,Zi a.y 63,Zk (Zc a.half),Zi a.t 63,Ch.s 16 (Zb QC a.links)]=[Zk (Zd a_1.name),Zi a_1.x 63,Zi a_1.y 63,Zk (Zc a_1.half),Zi a_1.t 63,Ch.s 16 (Zb QC a_1.links)]/\lR b qs=lR b_1 qs_1/\(QX a_1/\b_1<=400/\qs_1.length=a_1.links.length)/\∀(fs:List FrV) (f:FrV),fs++[f]=XD (Xs a_1) a_1.links qs_1->fs.length=a_1.links.length->(∃(x:TqX),(TqI a qs x/\OfNat.ofNat 0=0)/\0=0/\10=10/\Zb Jx fs++[[Zi f.x (bnd a_1.links.length),Zi f.y (bnd a_1.links.length),Zk (Zc f.h),Zi f.t (bnd a_1.links.length)]]=Zb Jx x.fs++[[Zi x.f.x (bnd a.links.length),Zi x.f.y (bnd a.links.length),Zk (Zc x.f.h),Zi x.f.t (bnd a.links.length)]]/\Value.slice none 0 0=Value.slice none 0 0/\0=0/\x.i=0/\16=16/\Zb QC a.links=Zb QC a.links/\Za (Zb QC a.links).length=Za a.links.length/\0=Za x.i/\34=34/\a.name=a.name/\a.x=a.x/\63<=63/\a.y=a.y/\63<=63/\a.half=a.half/\a.t=a.t/\63<=63/\16=16/\Zb QC a.links=Zb QC a.links/\shN 115300000 (Zj x.i (Qo x.fs a.links))=[]/\True)/\∀(x:TqX),TqI a qs x->OfNat.ofNat 0=0->bif decide (Za x.i<Za a.links.length)then(0<=Za x.i/\Za x.i<Za (Zb QC a.links).length)/\∃(q:Rat),∃(n:Nat),∃(q_1:Rat),∃(n_1:Nat),∃(q_2:Rat),∃(n_2:Nat),∃(q_3:Rat),∃(n_3:Nat),∃(q_4:Rat),∃(n_4:Nat),∃(ys:List (List Ch)),ldE (Zb QC a.links) (Za x.i).toNat 0 16=some [Zi q n,Zi q_1 n_1,Zi q_2 n_2,Zi q_3 n_3,Zi q_4 n_4,Ch.s 6 ys]/\(0<=Za x.i/\Za x.i<Za (Zb Jx x.fs++[[Zi x.f.x (bnd a.links.length),Zi x.f.y (bnd a.links.length),Zk (Zc x.f.h),Zi x.f.t (bnd a.links.length)]]).length)/\∃(q:Rat),∃(n:Nat),∃(q_5:Rat),∃(n_5:Nat),∃(b:Bool),∃(q_6:Rat),∃(n_6:Nat),ldE (Zb Jx x.fs++[[Zi x.f.x (bnd a.links.length),Zi x.f.y (bnd a.links.length),Zk (Zc x.f.h),Zi x.f.t (bnd a.links.length)]]) (Za x.i).toNat 0 10=some [Zi q n,Zi q_5 n_5,Zk (Zc b),Zi q_6 n_6]/\∃(n_7:Nat),∃(l:List (Rat×Rat)),ys=Zb (Q6 n_7) l/\((n<=12800000/\n_5<=12800000/\n_6<=12800000)/\n_7<=63/\1<=l.length/\l.length<=100)/\((x.i+1)*24<=140737488355328/\x.i+1<=9223372036854775807)/\∃(x':TqX),(TqI a qs x'/\OfNat.ofNat 0=0/\a.links.length-x'.i<a.links.length-x.i)/\0=0/\10=10/\Zb Jx x.fs++[[Zi x.f.x (bnd a.links.length),Zi x.f.y (bnd a.links.length),Zk (Zc x.f.h),Zi x.f.t (bnd a.links.length)]]=Zb Jx x'.fs++[[Zi x'.f.x (bnd a.links.length),Zi x'.f.y (bnd a.links.length),Zk (Zc x'.f.h),Zi x'.f.t (bnd a.links.length)]]/\0=0/\x.i+1=x'.i/\16=16/\Zb QC a.links=Zb QC a.links/\Za a.links.length=Za a.links.length/\IntKind.i64.wrap (Za x.i+1)=Za x'.i/\34=34/\a.name=a.name/\a.x=a.x/\63<=63/\a.y=a.y/\63<=63/\a.half=a.half/\a.t=a.t/\63<=63/\16=16/\Zb QC a.links=Zb QC a.links/\61=61/\1=1/\(Zj x.i (shN 115300000 (Zj x.i (Qo x.fs a.links)))++[[Ch.s 6 (Zb (Q6 115300000) (Zb (plV (FrV.mk q q_5 b q_6)) l))]]=shN 115300000 (Zj x'.i (Qo x'.fs a.links))∨QE (Zj x.i (shN 115300000 (Zj x.i (Qo x.fs a.links)))++[[Ch.s 6 (Zb (Q6 115300000) (Zb (plV (FrV.mk q q_5 b q_6)) l))]]) (shN 115300000 (Zj x'.i (Qo x'.fs a.links))))/\True else K (AV.t [(false,[Ch.s 1 (Zj x.i (List.drop 0 (shN 115300000 (Zj x.i (Qo x.fs a.links)))))]),(false,[Zk (Value.int IntKind.i64 0)])]))) ?_
 try simp only[Int.ofNat_eq_natCast,R0,R1,Nat.le_refl,R4]
 obtain⟨hg,hb,hq⟩:=hc;have hn:=hg.n;refine⟨a,b,qs,rfl,rfl,⟨hg,hb,hq⟩,fun fs f hf hl=> ?_⟩;simp only[List.length_map];refine⟨⟨⟨fs,f,0⟩,⟨hf,hl,by simp⟩,rfl,rfl,trivial,rfl,rfl⟩,fun x hx=>QF (fun hp=> ?_) (fun hp=> ?_)⟩
 ·have hp:x.i<a.links.length:=by have:=R5 hp;omega
  have hxl:=hx.len;obtain⟨L,hL⟩: ∃L,a.links[x.i]? =some L:=⟨_,Zf hp⟩
  obtain⟨g,hgx⟩: ∃g,x.fs[x.i]? =some g:=⟨_,Zf (by omega)⟩
  have hpo:=(hg.links L (List.mem_of_getElem? hL)).poly;have h1:=hpo.lo;have h2:=hpo.hi;have ht:=QDL hgx hL;have hpl:=UI hxl;refine⟨by omega,_,_,_,_,_,_,_,_,_,_,_,Js (by simpa using hL),by simp;omega,_,_,_,_,_,_,_,QYU _ (by simpa using hgx),63,L.shape,rfl,⟨by omega,by omega,by omega,by omega⟩,by omega,⟨x.fs,x.f,x.i+1⟩,⟨⟨hx.eq,hxl,hp⟩,by simp only;omega⟩,rfl,rfl,by rw[w64 (by omega)];simp,.inl ?_⟩;rw[Zg (by simp[shN];omega),List.take_add_one,ht];unfold shN;rw[List.map_append];rfl
 ·have hp:x.i=a.links.length:=by have:=R6 hp;have:=hx.le;omega
  have hpl:=UI hx.len;have:=hK x.fs x.f hx.eq hx.len;rw[List.drop_zero,Zg (by simp[shN];omega),Zg (by omega)];exact this
def Vz:Ctr
 | [.x true xs,.x false [.s 3 ys]]=>some fun K=> ∃(a:ArmV) (b:Nat) (qs:List Rat),xs=Xi a/\ys=lR b qs/\((QX a)/\(b<=400/\qs.length=a.links.length))/\(∀(fs:List FrV) (f:FrV),fs++[f]=XD (Xs a) a.links qs->fs.length=a.links.length->K (.t [(false,[.s 1 (shN 115300000 (Qo fs a.links))]),(false,[.v (.int .i64 0)])]))
 | _=>none
theorem QDM:QI 53 Vz:=by
 refine okL Tryz.func53 fun l T hT K hK=> ?_
 unfold Vz at hT;split at hT<;>cases hT
 obtain⟨a,b,qs,rfl,rfl,hc,hK⟩:=hK;exact spL (QP QYW XN Qg) QM Tryz.func53 (QPh _ _ _ hc K hK)
def Qcp:LC:=(53,Vz)::QYV
def Qcq:LC:=Qcp
def QPi:Ctr
 | [.x false [.v (.int .i64 n)],.x false [.v (.int .i64 d)]]=>some fun K=>((-9223372036854775808<=n/\n<9223372036854775808)/\(0<d/\d<9223372036854775808))/\(K (.t [(true,[.r ((n:Rat)/(d:Rat)) 128]),(false,[.v (.int .i64 0)])]))
 | _=>none
def Qcr:LC:=(146,QPi)::Qcq
def Qcs:LC:=Qcr
def Qct:LC:=Qcs
noncomputable def QdR:QZ:=mkT Qct M79 X4
end Go.Proofs
