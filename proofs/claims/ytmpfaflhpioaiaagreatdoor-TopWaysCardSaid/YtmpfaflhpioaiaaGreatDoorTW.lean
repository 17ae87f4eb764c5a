/- TopWays. -/
import Derived.Test.YtmpfaflhpioaiaaGreatDoorPH6
import Derived.Test.YtmpfaflhpioaiaaGreatDoorRV
open _root_ renaming List → A, Rat → B, Int → C, Nat → E
open Bool renaming false → D, true → I
open Option renaming some → F, none → J
open List renaming length → G, mem_of_getElem? → L, map → M, take → Q, length_map → Zk, getElem?_eq_getElem → Zh, drop → Zl, take_of_length_le → Zj, map_append → Zr, drop_zero → Zt, getElem?_eq_some_iff → Zn, getElem?_of_mem → Zo, getElem?_map → Zq, getD_eq_getElem?_getD → Zp
open Int renaming ofNat → H
open Go.Eng.Ch renaming r → P, v → Zm, s → Zu
open Go.IntKind renaming i64 → R
open Go.Value renaming bool → Zg, string → Zf, slice → Zs
set_option maxHeartbeats 1000000
set_option maxRecDepth 100000
namespace Go.Proofs
open Go Go.Eng
def rD:LC:=(16,bV)::(21,fL)::Tr
theorem QiO:QF rD:= .cons lh (.cons QWU U2)
def SO(a:A (A Ch)):=H a.length
def SK(a:Sr):=a.ws.length
def SM(a:Sr):=shN 127 a.ws
def SP(a b:A C):=ints a=ints b
def SU(a:A C):=G a<=9223372036854775807
def SR(a:Sr):=a.ps.length
def SV(a:C):=R.wrap (a+1)
def SX(a b c:Sr):=M (QS 127) (M (mvP a.v) (Q b.j c.ps))
def Sb(a:C):=R.wrap (a-16)
def SZ(a:Sr):=M (QS 63) a.ps
def Sd:=Zs J 0 0
def Sc(a:C):A Ch:=[Zm (Value.int R a)]
def Sg(a:A C->A C)(b:A C->C->A C->Prop):=∃(z:A C),SP (a z) z/\((1:C)<=60/\(60:C)<9223372036854775808)/\SU z/\∀(y:C)(x:A C),0<=y/\y<60->G x<=G z->b z y x
def Sf:E:=OfNat.ofNat 0
def Si(a:A C->A C)(b:A C->C->A C->Prop):=∃(z:A C),SP (a z) z/\((1:C)<=33/\(33:C)<9223372036854775808)/\SU z/\∀(y:C)(x:A C),0<=y/\y<33->G x<=G z->((-9223372036854775808<Sb y/\Sb y<9223372036854775808)/\(0:C)<4/\(4:C)<9223372036854775808)/\b z y x
theorem QYx (l:A C)(hc:(G l<=9223372036854775807))(K:AV->Prop)(hK: ∀ws:A (A (B×B)),G ws<=3->(∀w∈ws,QY w)->K (slA 127 ws)):QM (QN (mkT rD cF X4) (oF Tryz.f6) (QRU l) Tryz.f6 [.x D [.s 1 (ints l)]] K):=by
 refine HV (∃(g:A C),SP l g/\((1:C)<=3/\(3:C)<9223372036854775808)/\SU g/\∀(v:C)(u:A C),0<=v/\v<3->G u<=G g->(∃(x:Sr),(Th l x/\Sf=0)/\0=0/\Sd=Sd/\0=0/\SK x=0/\v=H x.n/\0=H (SK x)/\70=70/\1=1/\SP u x.l/\SM x=[]/\True)/\∀(x:Sr),Th l x->Sf=0->bif decide (H (SK x)<H x.n)then Si (fun S=>x.l) (fun S r c=>Si (fun T=>c) (fun T Y c=>Sg (fun U=>c) (fun U Z c=>Sg (fun V=>c) (fun V At c=>Sg (fun X=>c) (fun X Lm c=>∃(m:A C),[Sc Z,Sc At,Sc Lm]=ints m/\SU m/\∀(o:A (B×B)),QY o->(∃(a:Sr),(((Th l a/\SK a<a.n)/\QY a.ps/\a.j<=SR a)/\a.n-SK a=x.n-SK x)/\0=0/\0=0/\SK x=SK a/\Sd=Sd/\0=0/\a.j=0/\0=0/\H x.n=H a.n/\H (SK x)=H (SK a)/\6=6/\M (QS 63) o=SZ a/\SO (M (QS 63) o)=H (SR a)/\0=H a.j/\27=27/\mkRat (Sb r) 4=a.v.1/\63<=63/\mkRat (Sb Y) 4=a.v.2/\63<=63/\70=70/\1=1/\SP c a.l/\59=59/\1=1/\(SM x=SM a\/QC (SM x) (SM a))/\SX a a a=[]/\True)/\∀(a:Sr),(Th l a/\SK a<a.n)/\QY a.ps/\a.j<=SR a->a.n-SK a=x.n-SK x->bif decide (H a.j<H (SR a))then(0<=H a.j/\H a.j<SO (SZ a))/\∃(q:B)(n:E)(i:B)(d:E),ldE (SZ a) (H a.j).toNat 0 6=F [P q n,P i d]/\(n+63<=4294967290/\d+63<=4294967290)/\((a.j+1)*80<=140737488355328/\a.j+1<=9223372036854775807)/\∃(b:Sr),(((Th l b/\SK b<b.n)/\QY b.ps/\b.j<=SR b)/\b.n-SK b=x.n-SK x/\SR b-b.j<SR a-a.j)/\0=0/\0=0/\SK a=SK b/\0=0/\a.j+1=b.j/\0=0/\H a.n=H b.n/\H (SK a)=H (SK b)/\6=6/\SZ a=SZ b/\H (SR a)=H (SR b)/\SV (H a.j)=H b.j/\27=27/\a.v.1=b.v.1/\63<=63/\a.v.2=b.v.2/\63<=63/\70=70/\1=1/\SP a.l b.l/\59=59/\1=1/\(SM a=SM b\/QC (SM a) (SM b))/\27=27/\6=6/\(Q a.j (SX a a a)++[[P (q+a.v.1) (n+63+1),P (i+a.v.2) (d+63+1)]]=SX b b b\/QC (Q a.j (SX a a a)++[[P (q+a.v.1) (n+63+1),P (i+a.v.2) (d+63+1)]]) (SX b b b))/\True else((SK a+1)*24<=140737488355328/\SK a+1<=9223372036854775807)/\∃(b:Sr),(Th l b/\Sf=0/\b.n-SK b<x.n-SK x)/\0=0/\0=0/\SK a+1=SK b/\H a.n=H b.n/\SV (H (SK a))=H (SK b)/\70=70/\1=1/\SP a.l b.l/\59=59/\1=1/\(Q (SK a) (SM a)++[[Zu 6 (Q a.j (Zl 0 (SX a a a)))]]=SM b\/QC (Q (SK a) (SM a)++[[Zu 6 (Q a.j (Zl 0 (SX a a a)))]]) (SM b))/\True)))))else K (AV.x D [Zu 1 (Q (SK x) (Zl 0 (SM x)))])) ?_
 delta SO SK SM SP SU SR SV SX Sb SZ Sd Sc Sg Sf Si
 try simp only[C.ofNat_eq_natCast,R0,R1,E.le_refl,R4]
 have s: ∀n (l:A (A (B×B))),(shN n l).length=G l:=fun n l=>by simp[shN]
 refine⟨l,rfl,o3,hc,fun r l1 hr h1=>⟨⟨⟨[],l1,r.toNat,[],(0,0),0⟩,⟨by simp only[A.length_nil];omega,o6,h1⟩,rfl,o5,rfl,rfl,rfl⟩,fun x k=>QE (fun j=> ?_) (fun j=> ?_)⟩⟩
 ·have j:x.ws.length<x.n:=(j7 j)
  have hn:=k.n;have jd:=k.l;refine⟨x.l,rfl,o3,o3,fun r2 l2 jb h2=>⟨by rw[w64 (n:=r2-16) o3];omega,l2,rfl,o3,o3,fun r3 l3 jc h3=>⟨by rw[w64 (n:=r3-16) o3];omega,l3,rfl,o3,o3,fun a1 l4 be h4=>⟨l4,rfl,o3,o3,fun a2 l5 hZ h5=>⟨l5,rfl,o3,o3,fun a3 l6 ja h6=>⟨[a1,a2,a3],rfl,o6,fun o t=>⟨⟨⟨x.ws,l6,x.n,o,(mkRat (R.wrap (r2-16)) 4,mkRat (R.wrap (r3-16)) 4),0⟩,⟨⟨⟨⟨hn,k.ok,o5⟩,j⟩,t,o6⟩,rfl⟩,rfl,rfl,rfl,rfl,rfl,by rw[Zk],rfl,rfl,rfl,rfl,.inl rfl,o6⟩,fun y ⟨⟨h,z⟩,f,je⟩ L=> ?_⟩⟩⟩⟩⟩⟩⟩
  have yn:=h.n;have y1:=f.hi;refine QE (fun e=> ?_) (fun e=> ?_)
  ·have e:y.j<G y.ps:=(j7 e)
   obtain⟨p,hpp⟩: ∃p,y.ps[y.j]? =F p:=⟨_,Zh e⟩
   refine⟨by rw[Zk];omega,_,_,_,_,WX ((j9 hpp)),o3,⟨o3,o3⟩,⟨y.ws,y.l,y.n,y.ps,y.v,y.j+1⟩,⟨⟨⟨⟨h.n,h.ok,h.l⟩,z⟩,f,e⟩,L,o5⟩,rfl,rfl,rfl,rfl,rfl,rfl,by rw[w64 o3];simp,rfl,rfl,rfl,.inl rfl,.inl ?_⟩;simp only;rw[Zj o9,A.take_add_one,hpp,Zr,Zr];rfl
  ·have e:y.j=G y.ps:=(j8 e)
   refine⟨⟨o3,o3⟩,⟨y.ws++[y.ps.map (mvP y.v)],y.l,y.n,y.ps,y.v,0⟩,⟨⟨by simp only[A.length_append,A.length_singleton];omega,fun w hw=> ?_,h.l⟩,by simp only[A.length_append,A.length_singleton];omega⟩,o6,rfl,by rw[w64 o3];simp,rfl,.inl ?_⟩
   ·rcases A.mem_append.1 hw with hw | hw
    ·exact h.ok w hw
    ·rw[A.mem_singleton.1 hw];exact Qbk _ f
   ·have e1:Q y.j y.ps=y.ps:=Zj o3;simp only;rw[e1,Zt,Zj (l:=M (QS 127) _) (by simp[e]),Zj (by rw[s];exact E.le_refl _)];unfold shN;rw[Zr];rfl
 ·have j:x.ws.length=x.n:=by have:=R6 j;have:=k.n;omega
  have hn:=k.n;rw[Zt,Zj (by rw[s];exact E.le_refl _)];exact hK x.ws o3 k.ok
def Gn:Ctr
 | [.x D [.s 1 x]]=>F fun K=> ∃(l:A C),x=ints l/\((G l<=9223372036854775807))/\(∀a:A (A (B×B)),G a<=3->(∀w∈a,QY w)->K (slA 127 a))
 | _=>J
theorem QSF:QH 6 Gn:=by
 refine okL Tryz.func6 fun l T a K h=> ?_
 unfold Gn at a;split at a<;>cases a
 obtain⟨l,rfl,b,h⟩:=h;exact spL (QP QiO xC Qb) QK Tryz.func6 (QYx _ b K h)
def Qkl:LC:=(6,Gn)::rD
noncomputable def QlV:Qd:=mkT Qkl cF X4
structure BdS (n:E)(x:B):Prop where
  bd:Bd n x
def iW:Ctr
 | [.x I x,.x D [.s 3 y],.x D [.s 1 z]]=>F fun K=> ∃(a:ArmV) (b:E) (c:A B) (d:A (A (B×B))),x=Qp a/\y=lR b c/\z=shN 127 d/\(QJ a/\(∀q∈c,BdS 400 q)/\c.length=G a.za/\(∀w∈d,QY w)/\d.length<=20)/\
   ∀(e:A FrV) (f:FrV),e++[f]=XH (Xs a) a.za c->G e=G a.za->K (.t [(D,[.v (.bool (freeB (X6 e a.za) d))]),(D,[.v (.int .i64 0)])])
 | _=>J
def qV:Ctr
 | [.x I c,.x D [.s 3 y],.x D [.s 3 z],.x D [.s 1 u],.x D [.v (.int .i64 s)]]=>F fun K=> ∃(a:ArmV) (p q:A B) (m:E) (b:A (A (B×B))),c=Qp a/\y=lR 63 p/\z=lR 63 q/\u=shN m b/\mA a b s p q m/\(∀o w,FdY a b s p q o->FdW a s p q o w->(∀q∈w,∀x∈q,BdS 63 x)->K (.t [(D,[.s 1 (wN 63 w)]),(D,[.v (.int .i64 0)])]))/\(FdN a b s p q->K (.t [(D,[.v (.slice J 0 0)]),(D,[.v (.int .i64 4)])]))
 | _=>J
variable{ρ:Env}{vs:A Value}{O:E->Prop}{W:World}
theorem QdI{sz:E}{X Y:A (A Ch)}(a:X.length=G Y)(g: ∀(i:E) (x y:A Ch),X[i]? =F x->Y[i]? =F y-> ∀f,CC W O (fun _=>J) x f->CC W O (fun _=>J) y f)(h:CC W O ρ [.s sz X] vs):CC W O ρ [.s sz Y] vs:=by
 cases h with
 | s0 h=>rw[A.length_eq_zero_iff.1 a.symm];exact .s0 h
 | s00 h=>rw[A.length_eq_zero_iff.1 a.symm];exact .s00 h
 | s j k d h=>
  have c: ∀(i:E) (y:A Ch),Y[i]? =F y-> ∃x,X[i]? =F x:=fun i y e=>⟨_,Zh (by have:=(Zn.1 e).1;omega)⟩
  rename_i f v;rw[a]at d⊢;refine .s (f:=f) ⟨j.lt,j.free,fun i y e=> ?_⟩ (fun i y e=> ?_) d h
  ·obtain⟨x,b⟩:=c i y e;exact j.cell i x b
  ·obtain⟨x,b⟩:=c i y e;exact g i x y b e _ (k i x b)
theorem uJ{sz:E}{X:A (A Ch)}(h:CC W O ρ [.s sz X] vs){i:E}{x:A Ch}(a:X[i]? =F x): ∃f,CC W O (fun _=>J) x f:=by
 cases h with
 | s0 h=>cases a
 | s00 h=>cases a
 | s d b c h=>exact⟨_,b i x a⟩
theorem QiP{n:E}{q:A B}(h:CC W O ρ [.s 3 (lR n q)] vs): ∀x∈q,Bd n x:=fun x d=>by
 obtain⟨i,c⟩:=Zo d;obtain⟨f,b⟩:=uJ h (i:=i) (x:=[.r x n]) (by simp[lR,c]);cases b with
 | r a _=>exact a
variable{N:E}
theorem QSG{n:E}{q:A B}(e: ∀x∈q,Bd N x)(h:CC W O ρ [.s 3 (lR n q)] vs):CC W O ρ [.s 3 (lR N q)] vs:=by
 refine QdI (by rw[Qw,Qw]) (fun i x y a c g f=> ?_) h;simp only[lR,Zq]at a c;cases b:q[i]? with
 | none=>rw[b]at a;cases a
 | some r=>
  rw[b]at a c;cases a;cases c
  cases f with
  | r _ d=>exact .r (e r (L b)) d
theorem QNb:QH 12 iW:=by
 refine⟨ok_cWalls.enter,fun l T h K d=> ?_⟩;unfold iW at h;split at h
 ·cases h
  obtain⟨a,b,q,e,rfl,rfl,rfl,⟨k,i,m,n⟩,d⟩:=d;refine Eng.Spec.args (ok_cWalls.sound [.x I (Qp a),.x D [.s 3 (lR 400 q)],.x D [.s 1 (shN 127 e)]] _ rfl K ⟨a,400,q,127,e,rfl,rfl,rfl,⟨k,⟨E.le_refl _,m⟩,o3,n⟩,d⟩) fun w O v j=> ?_
  cases j with
  | cons f c=>cases c with
   | cons c g=>
    obtain⟨vs,p,r⟩:=c;exact .cons f (.cons ⟨vs,QSG (fun x o=>(i x o).bd) p,r⟩ g)
 ·cases h
theorem QSH:QH 7 qV:=by
 refine⟨ok_pFind.enter,fun l T b K u=> ?_⟩;unfold qV at b;split at b
 ·rename_i L M Q G s;cases b
  obtain⟨a,p,q,m,d,rfl,rfl,rfl,rfl,z,r,t⟩:=u;refine Spec.res (ok_pFind.sound [.x I (Qp a),.x D [.s 3 (lR 63 p)],.x D [.s 3 (lR 63 q)],.x D [.s 1 (shN m d)],.x D [.v (.int .i64 s)]] _ rfl (fun g=>(∃o w,FdY a d s p q o/\FdW a s p q o w/\g= .t [(D,[.s 1 (wN 63 w)]),(D,[.v (.int .i64 0)])])\/(FdN a d s p q/\g= .t [(D,[.v (.slice J 0 0)]),(D,[.v (.int .i64 4)])])) ⟨a,p,q,m,d,rfl,rfl,rfl,rfl,z,fun o w j n=> .inl ⟨o,w,j,n,rfl⟩,fun k=> .inr ⟨k,rfl⟩⟩) fun w O g v e h=> ?_
  rcases e with⟨o,y,j,n,rfl⟩ | ⟨k,rfl⟩
  ·refine⟨_,r o y j n (fun q C x E=> ?_),h⟩;obtain⟨vs,c,_⟩:=h;cases c with
   | cons c _=>
    obtain⟨vs,c,_⟩:=c;obtain⟨i,B⟩:=Zo C;obtain⟨f,A⟩:=uJ c (i:=i) (x:=wEl 63 q) (by simp[wN,B]);exact⟨QiP A x E⟩
  ·exact⟨_,t k,h⟩
 ·cases b
theorem uQ {n:C}(h: -4096<n/\n<4096):Bd 12 (n:B):=⟨by
 have:(n:B).num=n:=B.num_intCast n;rw[this];omega,by
 have:(n:B).den=1:=B.den_intCast n
 rw[this];decide⟩
theorem QYz {s:B}(f:Bd 60 s): ∀{p q:A B},(∀x∈p,Bd 63 x)->(∀x∈q,Bd 63 x)-> ∀x∈mix s p q,Bd 400 x
 | [],_,_,_=>fun x h=>by simp[mix]at h
 | _::_,[],_,_=>fun x h=>by simp[mix]at h
 | a::p,b::q,c,d=>fun x h=>by
  have h:x∈(a+s*(b-a))::mix s p q:=h;rcases A.mem_cons.1 h with rfl | h
  ·have e:=c a o6;have g:=d b o6;exact(zL e (QXq f (Qhx g e))).mono o3
  ·exact QYz f (fun x h=>c x (by simp[h])) (fun x h=>d x (by simp[h])) x h
theorem Qkm {ks:A XF}{m:E}(hk:YG ks m N)(d:ks≠[])(b: ∀k∈ks,∀x∈k.q,Bd 63 x){t:C}(_ht:0<=t/\t<=2001): ∀x∈(atR ks t).1,Bd 400 x:=by
 have o: ∀{q:A B},(∀x∈q,Bd 63 x)-> ∀x∈q,Bd 400 x:=fun h x c=>(h x c).mono o3;rcases QIn hk d t with⟨z,f,_,a,_⟩ | ⟨i,x,y,c,g,n,p,a,_⟩ | ⟨z,f,_,a,_⟩
 ·rw[a];exact o (b z (L f))
 ·rw[a];have r:=hk.tick x (L c);have s:=hk.tick y (L g);refine QYz ?_ (b x (L c)) (b y (L g))
  have j:(t:B)-(x.tick:B)=((t-x.tick:C):B):=(B.intCast_sub _ _).symm;have l:(y.tick:B)-(x.tick:B)=((y.tick-x.tick:C):B):=(B.intCast_sub _ _).symm;unfold WQ;rw[j,l];refine(xa (uQ o3) (uQ o3) fun e=> ?_).mono o3;have:=B.intCast_eq_zero_iff.1 e;omega
 ·rw[a];exact o (b z (L f))
theorem QSI {x y:XF}{t:C}(h:x.tick<y.tick)(h1:x.tick<=t):WQ x y t=TW (t-x.tick).toNat (y.tick-x.tick).toNat:=by
 have e:(t:B)-(x.tick:B)=((t-x.tick:C):B):=(B.intCast_sub _ _).symm;have a:(y.tick:B)-(x.tick:B)=((y.tick-x.tick:C):B):=(B.intCast_sub _ _).symm;unfold WQ TW;rw[e,a,C.toNat_of_nonneg o3,C.toNat_of_nonneg o3]
theorem QdJ {go:A B->A B->Bool}{w:A (A B)}(h:0<G w){x:A B}(e:x∈UZ go w):x∈w:=by
 obtain⟨j,b⟩:=Zo e;rw[QJv]at b;obtain⟨a,d,rfl⟩:=Option.map_eq_some_iff.1 b;have c:=QWb h (iP go w w.length 0 h o3) d;unfold atW;rw[Zp,Zh c];exact A.getElem_mem c
theorem bS {w:A (A B)}{i:E}{x:A B}(h:w[i]? =F x):atW w i=x:=by
 unfold atW;rw[Zp,h];rfl
theorem QdK {a:ArmV}{ws:A (A (B×B))}(v:QJ a)(K: ∀w∈ws,w≠[]){ks:A XF}(hk:YG ks a.za.length N)(k:1<=G ks){c:A (A B)}(Q:ks.map (·.q)=c)(U:Z1 (goV a ws 2) c=I)(t:C){q:A FrV}{f:FrV}(h1:q++[f]=XH (Xs a) a.za (atR ks t).1)(s:q.length=G a.za):freeB (X6 q a.za) ws=I:=by
  have l:ks≠[]:=fun e=>by rw[e]at k;simp at k
  have Z:c.length=G ks:=by rw[<-Q,Zk]
  have d: ∀{i:E} {x:XF},ks[i]? =F x->c[i]? =F x.q:=fun {i x} h=>by rw[<-Q,Zq,h];rfl
  have r: ∀i,i<G c->goV a ws 2 (atW c (i-1)) (atW c i)=I:=fun i S=>A.all_eq_true.1 U i (A.mem_range.2 S);rcases QIn hk l t with⟨z,b,_,e,_⟩ | ⟨i,x,y,M,o,T,h4,e,_⟩ | ⟨z,b,_,e,_⟩
  · have g:=r 0 o3;rw[E.zero_sub,bS (d b)]at g;have p:=hk.len z (L b);refine Hm (f:=f) v p p (n:=2) (m:=1) (x:=0) o3 o3 o3 ?_ s K g
    rw[h1,e];congr 1;unfold YA;rw[(j5:TW 0 1=0)];exact(QIl rfl).symm
  · have S:=(Zn.1 o).1;have g:=r (i+1) o3;rw[E.add_sub_cancel,bS (d M),bS (d o)]at g;have X:=hk.len x (L M);have Y:=hk.len y (L o);have j:=hk.inc i x y M o;refine Hm (f:=f) v X Y (n:=2) (m:=(y.tick-x.tick).toNat) (x:=(t-x.tick).toNat) o3 o3 o3 ?_ s K g
    rw[h1,e];congr 1;unfold YA XV;rw[QSI j T];rfl
  · have hl:=(Zn.1 b).1;have g:=r (G ks-1) o3;have p:=hk.len z (L b);rw[bS (d b)]at g;obtain⟨u,hu⟩: ∃u,ks[G ks-1-1]? =F u:=⟨_,Zh o3⟩
    rw[bS (d hu)]at g;have V:=hk.len u (L hu);refine Hm (f:=f) v V p (n:=2) (m:=1) (x:=1) o3 o3 o3 ?_ s K g
    rw[h1,e];congr 1;unfold YA;rw[(j5:TW 1 1=1)];exact(QNm o3).symm
def Qkn:LC:=(4,cY)::(6,Gn)::(7,qV)::(9,fI)::(10,GW)::(11,US)::(12,iW)::QeO
theorem QiQ:QF Qkn:= .cons QYw (.cons QSF (.cons QSH (.cons QOp (.cons nA (.cons QFF (.cons QNb Qbx))))))
def SN(a:ArmV):=M QA a.za
def SW(a b c d e:ArmV)(f:A (A Ch)):A Ch:=[Zm (Zf a.name),P b.x 63,P c.y 63,Zm (Zg d.half),P e.t 63,Zu 16 f]
def SQ(a:ArmV):=a.za.length
def Se(a b c d:ArmV):=bif D then if 2>SO (SN a)then 2 else SO (SN b)else if 2<SO (SN c)then 2 else SO (SN d)
def SS(a:ArmV)(b:E)(c:A (A B)):=M Qe (Xj a (b+65) 0 c)
def SY(a b c d e f g h i j:ArmV)(k:A Ch):=SW a b c d e (Q ((Se f g h i).toNat-0) (Zl 0 (SN j)))=k
def Sa(a:E->QV->B->ArmV)(b:E->QV->B->A B):=∀(z:E)(y:QV)(x:B),(a z y x).za[z]? =F y->(b z y x)[z]? =F x->y.lo<=x/\x<=y.hi
theorem QiR (l m k w:A C)(n:C)(hl:l.length<=9223372036854775807)(hm:m.length<=9223372036854775807)(hk:k.length<=9223372036854775807)(hw:w.length<=9223372036854775807)(K:AV->Prop)(hK:K (.x D [.v (.bool I)])):QM (QN (mkT Qkn M99 X4) (oF Tryz.f3) noL Tryz.f3 [.x D [.s 1 (ints l)],.x D [.s 1 (ints m)],.x D [.s 1 (ints k)],.x D [.s 1 (ints w)],iA .i64 n] K):=by
 refine HV (True/\∃(jr:A C),SP l jr/\SU jr/\∀(a:ArmV),Made a/\1<=SQ a->((0:C)<=0/\0<=Se a a a a/\Se a a a a<=SO (SN a))/\∃(l:A C),SP w l/\SU l/\∀(ws:A (A (B×B))),G ws<=3->(∀(v:A (B×B)),v∈ws->QY v)->∃(At:ArmV)(l:A C),SY a a a a a a a a a a (SW At At At At At (SN At))/\SP m l/\(QJ At/\SU l)/\∀(qs:A B),Sa (fun i o q=>At) (fun i o q=>qs)->G qs=SQ At->∃(Lm:ArmV)(l:A C),SY a a a a a a a a a a (SW Lm Lm Lm Lm Lm (SN Lm))/\SP k l/\(QJ Lm/\SU l)/\∀(je:A B),Sa (fun i o q=>Lm) (fun i o q=>je)->G je=SQ Lm->∃(S:ArmV)(p q:A B)(m:E)(Y:A (A (B×B))),SY a a a a a a a a a a (SW S S S S S (SN S))/\lR 63 qs=lR 63 p/\lR 63 je=lR 63 q/\shN 127 ws=shN m Y/\(QJ S/\((1:C)<=2/\(2:C)<=12)/\(Sa (fun i o q=>S) (fun i o q=>p)/\p.length=SQ S)/\(Sa (fun i o jb=>S) (fun i o jb=>q)/\q.length=SQ S)/\m<=400000000/\(∀(u:A (B×B)),u∈Y->QY u)/\Y.length<=20)/\(∀(jf:A (A C))(w:A (A B)),FdY S Y 2 p q jf->FdW S 2 p q jf w->(∀(z:A B),z∈w->∀(y:B),y∈z->BdS 63 y)->∃(V:ArmV)(jj:E)(jk:A (A B))(m:E)(be:A (A (B×B)))(k:E),SY a a a a a a a a a a (SW V V V V V (SN V))/\wN 63 w=wN jj jk/\shN 127 ws=shN m be/\2=H k/\(QJ V/\(Km jk (SQ V)/\3*jj+130<=400)/\m<=400000000/\((∀(t:A (B×B)),t∈be->QY t)/\be.length<=20)/\1<=k/\k<=50)/\∃(T:ArmV)(Z:E)(w:A (A B)),SY a a a a a a a a a a (SW T T T T T (SN T))/\wN jj (bY (goV V be k) jk)=wN Z w/\(QJ T/\(Km w (SQ T)/\Z<=1000)/\((∀(r:A B),r∈w->Sa (fun i o jb=>T) (fun i o jb=>r))/\∀(i:E)(p q:A B),w[i]? =F p->w[i+1]? =F q->∀(i:E)(o:QV)(jt jb:B),T.za[i]? =F o->p[i]? =F jt->q[i]? =F jb->Xr (jb-jt)<=o.sp*OfNat.ofNat 100)/\(0:C)<=0/\0+100*H w.length<=2000)/\∃(X:ArmV)(ks:A XF),SY a a a a a a a a a a (SW X X X X X (SN X))/\SS T Z w=M Qe ks/\cV X ks/\bif SO (SS T Z w) ==0 then K (AV.x D [Zm (Zg D)])else(0<=R.wrap (SO (SS T Z w)-1)/\R.wrap (SO (SS T Z w)-1)<SO (SS T Z w))/\∃(d:C),ldE (SS T Z w) (R.wrap (SO (SS T Z w)-1)).toNat 0 1=F (Sc d)/\(0<SV d/\SV d<9223372036854775808)/\∃(ks:A XF)(m N:E),SS T Z w=M Qe ks/\(YG ks m N/\(N<=10000/\m<=100000/\1<=G ks/\ks.length<=100000)/\ -4611686018427387904<=n%SV d/\n%SV d<4611686018427387904)/\∃(U:ArmV)(b:E)(qs:A B)(hZ:A (A (B×B))),SY a a a a a a a a a a (SW U U U U U (SN U))/\lR (atR ks (n%SV d)).2 (atR ks (n%SV d)).1=lR b qs/\shN 127 ws=shN 127 hZ/\(QJ U/\(∀(j:B),j∈qs->BdS 400 j)/\qs.length=SQ U/\(∀(h:A (B×B)),h∈hZ->QY h)/\hZ.length<=20)/\∀(fs:A FrV)(f:FrV),fs++[f]=XH (Xs U) U.za qs->G fs=SQ U->K (AV.x D [Zm (Zg (freeB (X6 fs U.za) hZ))]))/\((pT S Y 2 p=I->mJ S Y 2 q=I->∀(g:E),¬Dst (EdS S Y 2) (Q8 S 2 q) g (Q8 S 2 p))->K (AV.x D [Zm (Zg I)]))) ?_
 delta SN SO SP SW SU SQ Se SV SS SY Sa Sc
 simp only[C.ofNat_eq_natCast,R0];have wl: ∀n (w:A (A B)),(wN n w).length=G w:=fun n w=>by simp[wN]
 refine⟨l,rfl,hl,fun a ha=> ?_⟩;have jC:(bif D then if(2:C)>((a.za.map QA).length:C)then 2 else((a.za.map QA).length:C)else if(2:C)<((a.za.map QA).length:C)then 2 else((a.za.map QA).length:C))=((min 2 a.za.length:E):C):=by
  rw[Zk,R8];split<;>omega
 rw[jC];have jB:Q (((min 2 a.za.length:E):C).toNat-0) (Zl 0 (a.za.map QA))=(a.za.take (min 2 a.za.length)).map QA:=by
  rw[C.toNat_natCast,E.sub_zero,Zt,A.map_take]
 rw[jB];have ja:=ha.1;have jG:1<=G a.za:=ha.2;have mb:MadeA ⟨a.name,a.x,a.y,a.half,a.t,a.za.take (min 2 a.za.length)⟩:=⟨⟨ja.name,ja.x,ja.y,ja.half,ja.t,o9,fun o hL=>ja.za o (A.mem_of_mem_take hL)⟩,o9⟩;have n2:(a.za.take (min 2 a.za.length)).length<=2:=o9
 refine⟨by rw[Zk];omega,w,rfl,hw,fun ws jL wo=> ?_⟩;generalize a.za.take (min 2 a.za.length)=ls at*;generalize hb:(⟨a.name,a.x,a.y,a.half,a.t,ls⟩:ArmV)=b at mb;have jy:b.za=ls:=by rw[<-hb]
 have jz:[Zm (Zf a.name),P a.x 63,P a.y 63,Zm (Zg a.half),P a.t 63,Zu 16 (M QA ls)]=Qp b:=by rw[<-hb];rfl
 rw[jz];have hg:=MadeA.good mb;have hn:=hg.n;have hs:(1:C)<=2/\(2:C)<=12:=o3
 refine⟨b,m,rfl,rfl,⟨hg,hm⟩,fun p hp jh=>⟨b,k,rfl,rfl,⟨hg,hk⟩,fun q hq ji=>⟨b,p,q,127,ws,rfl,rfl,rfl,rfl,⟨hg,hs,⟨hp,jh⟩,⟨hq,ji⟩,o3,wo,o3⟩,fun jf w1 h1 h2 jw=> ?_,fun _=>hK⟩⟩⟩;have jD:=fa hg hs.1 hq ji;have jK:=h1.len;have hd:=VL hs.1 jD h1.dst;have jJ:=QXi (a:=b) (s:=2) ⟨hn.1,by rw[jy];exact n2⟩ o3;have ew:=h2.e;have jF:w1.length=G jf+2:=by rw[ew];simp
 have jc: ∀x∈w1,G x=G b.za/\Fit b x:=fun x hx=>by
  rw[ew,A.cons_append,A.mem_cons,A.mem_append,A.mem_map]at hx;rcases hx with rfl | ⟨y,hy,rfl⟩ | hx
  ·exact⟨jh,hp⟩
  ·exact⟨by simp[XQ,(h1.zn.ok y hy).1],Qb5 hg hs.1 (h1.zn.ok y hy).2⟩
  ·have:x=q:=(j9 hx)
   subst this;exact⟨ji,hq⟩
 have hf:Z1 (goV b ws 2) w1=I:=by rw[ew];exact QXh hg wo jh h1
 have jA:=QRZ o3 hf;obtain⟨c1,c2⟩:=QWc (go:=goV b ws 2) (w:=w1) o3;have cm: ∀x∈UZ (goV b ws 2) w1,x∈w1:=fun x hx=>QdJ o3 hx;have ec:bY (goV b ws 2) w1=UZ (goV b ws 2) w1:=QOn o3;refine⟨b,63,w1,127,ws,2,rfl,rfl,rfl,rfl,⟨hg,⟨⟨⟨o3,o3⟩,fun x hx=>(jc x hx).1,⟨hn.1,hn.2⟩⟩,o3⟩,o3,⟨wo,o3⟩,o3,o3⟩,?_⟩;rw[ec];generalize jH:UZ (goV b ws 2) w1=c at*;have jq:Km c b.za.length:=⟨o3,fun x hx=>(jc x (cm x hx)).1,hn⟩;have jm: ∀(i:E) (p q:A B),c[i]? =F p->c[i+1]? =F q->Vq b p q:=fun i p q hp hq=>QRg mb.1 (jc p (cm p (L hp))).2 (jc q (cm q (L hq))).2
 have jg: ∀x∈c,Fit b x:=fun x hx=>(jc x (cm x hx)).2;obtain⟨g1,g2,g3,g4⟩:=iL (a:=b) (N:=128) (w:=c) (f:=0);obtain⟨jd,jE⟩:=Qbz hg jq jm jg (f:=0) o3 (N:=128) o3;have jn:(Xj b 128 0 c).map (·.q)=c:=by
  apply A.ext_getElem?
  intro i;rw[Zq];by_cases hi:i<c.length
  ·obtain⟨q,hq⟩: ∃q,c[i]? =F q:=⟨_,Zh hi⟩
   obtain⟨t,ht⟩:=g2 i q hq;rw[ht,hq];rfl
  ·rw[A.getElem?_eq_none o3,A.getElem?_eq_none o3];rfl
 refine⟨b,63,c,rfl,rfl,⟨hg,⟨jq,o3⟩,⟨jg,jm⟩,o3,o3⟩,?_⟩;show ∃X ks,_/\M Qe (Xj b 128 0 c)=_/\_
 generalize jI:Xj b 128 0 c=ks at*;refine⟨b,ks,rfl,rfl,jE,QE (fun h=>by simp at h;rw[h]at g1;simp at g1;omega) (fun _=> ?_)⟩;rw[Zk];have e1:R.wrap ((G ks:C)-1)=((G ks-1:E):C):=by rw[w64 o3];omega
 rw[e1,C.toNat_natCast];obtain⟨z,hz⟩: ∃z,ks[G ks-1]? =F z:=⟨_,Zh o3⟩
 have tz:=jd.tick z (L hz);refine⟨o3,z.tick,Ut hz,?_⟩;rw[w64 (n:=z.tick+1) o3];have m1:=C.emod_nonneg n (o3:z.tick+1≠0);have m2:=C.emod_lt_of_pos n (o3:0<z.tick+1);generalize n % (z.tick+1)=t at m1 m2|-;have jl:ks≠[]:=fun e=>by rw[e]at hz;simp at hz
 have jx: ∀k∈ks,∀x∈k.q,Bd 63 x:=fun k hk x hx=>by
  have:k.q∈c:=by rw[<-jn];exact A.mem_map.2 ⟨k,hk,rfl⟩
  exact(jw k.q (cm _ this) x hx).bd
 have ju:=Qkm jd jl jx (t:=t) o3;have jv:=(QTC (t:=t) jd jl).2;refine⟨o3,ks,G b.za,128,rfl,⟨jd,o3,o3,o3⟩,b,_,_,ws,rfl,rfl,rfl,⟨hg,fun x hx=>⟨ju x hx⟩,jv,wo,o3⟩,fun fs f h1 h2=> ?_⟩;rw[QdK hg (fun w hw e=>by have:=(wo w hw).lo;rw[e]at this;simp at this) jd o3 jn jA t h1 h2];exact hK
theorem QSJ (l m k w:A C)(n:C)(h:l.length<=9223372036854775807)(a:m.length<=9223372036854775807)(hk:k.length<=9223372036854775807)(b:w.length<=9223372036854775807):Eng.Spec Tryz.prog Tl TH 3 [.x D [.s 1 (ints l)],.x D [.s 1 (ints m)],.x D [.s 1 (ints k)],.x D [.s 1 (ints w)],iA .i64 n] (fun av=>av= .x D [.v (.bool I)]):=
 Qk (QP QiQ TZ Qb) QK Tryz.func3 o4 o4 j6 (QiR l m k w n h a hk b _ rfl)
end Go.Proofs
