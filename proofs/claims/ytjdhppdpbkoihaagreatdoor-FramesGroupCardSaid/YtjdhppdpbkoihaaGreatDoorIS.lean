/- sturm: plain, chained, changes, zero, count, middle, halve, ready, Count, Fine. -/
import Derived.Test.YtjdhppdpbkoihaaGreatDoorIA
open Int renaming ofNat → Za, ofNat_eq_natCast → Zc
open Go.IntKind renaming i64 → Zb
open List renaming take → Zd, getElem?_eq_getElem → Ze, map → Zf, drop → Zg, take_of_length_le → Zi, mem_of_getElem? → Zj, getD_eq_getElem?_getD → Zk
open Nat renaming le_refl → Zh, le_trans → Zl, ble_eq_true_of_le → Zm
open Go.Eng.Ch renaming r → Zn, s → Zo
namespace Go.Proofs
open Go Go.Eng
def chE (p:List Rat):List Ch:=[.s 3 (lR 100000 p)]
def chN (c:List (List Rat)):List (List Ch):=c.map chE
def sC (c:List (List Rat)):AV:= .x false [.s 1 (chN c)]
theorem GW (c:List (List Rat)):(chN c).length=c.length:=by simp[chN]
theorem QDf {c:List (List Rat)}{i:Nat}{p:List Rat}(h:c[i]? =some p):ldE (chN c) i 0 1=some [.s 3 (lR 100000 p)]:=by
 simp only[ldE,chN,List.getElem?_map,h];rfl
theorem QFl {c:List (List Rat)}{p:List Rat}:Zd c.length (chN c)++[[Zo 3 (lR 100000 p)]]=chN (c++[p]):=by
 rw[Zi (by rw[GW];exact Zh _)];simp[chN,chE]
theorem QOb {c:List (List Rat)}:Zd c.length (Zg 0 (chN c))=chN c:=by
 rw[List.drop_zero,Zi (by rw[GW];exact Zh _)]
theorem QUh (q:Rat):Y1 q=1∨Y1 q=0∨Y1 q= -1:=by
 unfold Y1;split
 ·exact .inr (.inl rfl)
 ·split
  ·exact .inr (.inr rfl)
  ·exact .inl rfl
theorem QLS {p q:List Rat}{R:List Rat×List Rat}(h:Xn p q=some R):1<=q.length:=by
 cases q with
 | nil=>
  exfalso;unfold Xn at h;rw[show FU=99999+1 from rfl,VK]at h;rw[show Nat.ble ([]:List Rat).length (QI p).length=true from Zm (Nat.zero_le _)]at h;simp only[R7]at h;obtain⟨c,hc,_⟩:=bind_some h;unfold G0 at hc;rw[show((KS ([]:List Rat)).num==0)=true from rfl]at hc;cases hc
 | cons x l=>simp
theorem QLT {q:List Rat}: ∀{n:Nat} {b r:List Rat} {R:List Rat×List Rat},VK q n b r=some R->R.1.length=b.length/\R.2.length<=r.length:=by
 intro n;induction n with
 | zero=>intro b r R h;cases h
 | succ n ih=>
  intro b r R h;rw[VK]at h;cases hb:Nat.ble q.length r.length with
  | false=>rw[hb]at h;cases h;exact⟨rfl,Zh _⟩
  | true=>
   rw[hb]at h;obtain⟨c,_,h⟩:=bind_some h;obtain⟨r1,h1,h⟩:=bind_some h;obtain⟨k1,k2⟩:=ih h;rw[List.length_set]at k1;exact⟨k1,Zl k2 (Zl (Jv _) (Nat.le_of_eq (QLI h1)))⟩
theorem Ko {p q:List Rat}{R:List Rat×List Rat}(h:Xn p q=some R):R.1.length<=p.length/\R.2.length<=p.length:=by
 have h1:=QLS h;obtain⟨k1,k2⟩:=QLT h;rw[List.length_replicate]at k1;have:=Jv p;omega
theorem QOc {d:Rat}: ∀{l acc r:List Rat},scF d l acc=some r->r.length=acc.length+l.length:=by
 intro l;induction l with
 | nil=>intro acc r h;cases h;simp
 | cons x l ih=>
  intro acc r h;rw[scF]at h;obtain⟨u,_,h⟩:=bind_some h;rw[ih h];simp;omega
theorem QB9 {p r:List Rat}(h:Xy p=some r):r.length=p.length:=by
 have:=QOc h;simpa using this
theorem QLU: ∀{l acc r:List Rat} {i:Nat},VJ l i acc=some r->r.length=acc.length+l.length:=by
 intro l;induction l with
 | nil=>intro acc r i h;cases h;simp
 | cons x l ih=>
  intro acc r i h;rw[VJ]at h;obtain⟨u,_,h⟩:=bind_some h;rw[ih h];simp;omega
theorem QFm {p d:List Rat}(h:QDb p=some d): ∃all,VJ (p.drop 1) 1 []=some all/\d=QI all/\d.length<=p.length:=by
 unfold QDb at h;cases hd:VJ (p.drop 1) 1 []with
 | none=>rw[hd]at h;cases h
 | some all=>
  rw[hd]at h;cases h
  refine⟨all,rfl,rfl,?_⟩;have:=QLU hd;have:=Jv all;simp at*;omega
theorem QSQ: ∀{n:Nat} {c R:List (List Rat)} {q:List Rat},chF n c q=some R->1<=c.length->(∀p∈c,p.length<=1000)->q.length<=1000->(1<=R.length/\R.length<=c.length+n)/\ ∀p∈R,p.length<=1000:=by
 intro n;induction n with
 | zero=>intro c R q h;cases h
 | succ n ih=>
  intro c R q h h1 h2 h3;rw[chF]at h;cases hb:Nat.ble 1 q.length with
  | false=>rw[hb]at h;cases h;exact⟨⟨h1,by omega⟩,h2⟩
  | true=>
   rw[hb]at h;obtain⟨s,hs,h⟩:=bind_some h;obtain⟨r,hr,h⟩:=bind_some h;obtain⟨x,hx⟩: ∃x,c[c.length-1]? =some x:=⟨_,Ze (by omega)⟩
   have hxl:=h2 x (Zj hx);rw[Zk,hx]at hr;have hd:=(Ko hr).2;have hsl:=QB9 hs
   obtain⟨⟨k1,k2⟩,k3⟩:=ih h (by simp) (fun p hp=>by
    rcases List.mem_append.1 hp with hp | hp
    ·exact h2 p hp
    ·simp at hp;subst hp;omega) (by simp at hd⊢;omega)
   refine⟨⟨k1,?_⟩,k3⟩;simp at k2;omega
theorem QFn {p:List Rat}{R:List (List Rat)}(h:JO p=some R)(hl:p.length<=1000):(1<=R.length/\R.length<=200000)/\ ∀p∈R,p.length<=1000:=by
 unfold JO at h;obtain⟨d,hd,h⟩:=bind_some h;obtain⟨_,_,_,h2⟩:=QFm hd;obtain⟨⟨k1,k2⟩,k3⟩:=QSQ h (by simp) (fun q hq=>by simp at hq;subst hq;exact hl) (by omega);unfold FU at k2;simp at k2;exact⟨⟨k1,by omega⟩,k3⟩
theorem QDg {p:List Rat}{R:List (List Rat)}(h:Ju p=some R):(1<=(QI p).length/\(QI p).length<=13)/\ ∃d g r s,(QDb (QI p)=some d/\Us FU (QI p) d=some g)/\Xn (QI p) g=some r/\Xy (QI r.1)=some s/\s.length<=13/\JO s=some R:=by
 unfold Ju at h;cases h1:Nat.beq (QI p).length 0 with
 | true=>rw[h1]at h;cases h
 | false=>
  rw[h1]at h;cases h2:Nat.ble (QI p).length 13 with
  | false=>rw[h2]at h;cases h
  | true=>
   rw[h2]at h;obtain⟨s,hs,h⟩:=bind_some h;unfold QLD at hs;obtain⟨d,hd,hs⟩:=bind_some hs;obtain⟨g,hg,hs⟩:=bind_some hs;obtain⟨r,hr,hs⟩:=bind_some hs;have e1:=QB9 hs;have e2:=Jv r.1;have e3:=(Ko hr).1;have e4:=Nat.le_of_ble_eq_true h2;refine⟨⟨?_,e4⟩,d,g,r,s,⟨hd,hg⟩,hr,hs,by omega,h⟩;cases hz:(QI p).length with
   | zero=>rw[hz]at h1;cases h1
   | succ n=>omega
theorem QLV {p:List Rat}{R:List (List Rat)}(h:Ju p=some R):(1<=R.length/\R.length<=200000)/\ ∀p∈R,p.length<=1000:=by
 obtain⟨_,d,g,r,s,_,_,_,h1,h2⟩:=QDg h;exact QFn h2 (by omega)
theorem QUi {c:List (List Rat)}(h:1<=c.length): ∃p,c[0]? =some p/\c.getD 0 []=p:=by
 obtain⟨x,hx⟩: ∃x,c[0]? =some x:=⟨_,Ze (by omega)⟩
 exact⟨x,hx,by rw[Zk,hx];rfl⟩
structure QOd where
 n:Nat
 a:List Rat
 b:List Rat
def QOe (p g:List Rat):LI:=fun _=> .inv ⟨QOd,fun e=>⟨[(0,sR 100000 p),(3,sR 100000 e.a),(4,sR 100000 e.b)],[]⟩,fun e=>(e.a.length<=1000/\e.b.length<=1000)/\Us e.n e.a e.b=some g,fun e=>e.n,fun _=>0⟩
def QDh (p:List Rat)(_d:List Rat)(g:List Rat)(_r:List Rat×List Rat)(_s:List Rat)(K:AV->Prop):Prop:=QU QPv (oF Tryz.f99) (QOe p g) Tryz.f99 [sR 100000 p] K
theorem QDi (p:List Rat)(d:List Rat)(g:List Rat)(r:List Rat×List Rat)(s:List Rat)(K:AV->Prop):QDh p d g r s K=(∃(p_1:List Rat)(all:List Rat),lR 100000 p=lR 100000 p_1/\(p_1.length<=1000/\VJ (Zg 1 p_1) 1 []=some all)/\(∃(x:QOd),(((x.a.length<=1000/\x.b.length<=1000)/\Us x.n x.a x.b=some g)/\OfNat.ofNat 0=0)/\3=3/\lR 100000 p=lR 100000 p/\3=3/\lR 100000 p=lR 100000 x.a/\3=3/\lR 100000 (QI all)=lR 100000 x.b/\True)/\∀(x:QOd),(x.a.length<=1000/\x.b.length<=1000)/\Us x.n x.a x.b=some g->OfNat.ofNat 0=0->bif decide (Za (lR 100000 x.b).length>0)then ∃(p_2:List Rat)(q:List Rat)(R:List Rat×List Rat),lR 100000 x.a=lR 100000 p_2/\lR 100000 x.b=lR 100000 q/\((p_2.length<=1000/\1<=q.length/\q.length<=1000)/\Xn p_2 q=some R)/\∃(p_3:List Rat)(all:List Rat),lR 100000 x.b=lR 100000 p_3/\(p_3.length<=1000/\Xy p_3=some all)/\∃(x':QOd),(((x'.a.length<=1000/\x'.b.length<=1000)/\Us x'.n x'.a x'.b=some g)/\OfNat.ofNat 0=0/\x'.n<x.n)/\3=3/\lR 100000 p=lR 100000 p/\3=3/\lR 100000 all=lR 100000 x'.a/\3=3/\lR 100000 R.snd=lR 100000 x'.b/\True else ∃(p_2:List Rat)(q:List Rat)(R:List Rat×List Rat),lR 100000 p=lR 100000 p_2/\lR 100000 x.a=lR 100000 q/\((p_2.length<=1000/\1<=q.length/\q.length<=1000)/\Xn p_2 q=some R)/\∃(p:List Rat),lR 100000 R.fst=lR 100000 p/\p.length<=1000/\∃(p_3:List Rat)(all:List Rat),Zd (QI p).length (Zg 0 (Zf (fun(q:Rat)=>[Zn q 100000]) (QI p)))=lR 100000 p_3/\(p_3.length<=1000/\Xy p_3=some all)/\K (AV.x false [Zo 3 (lR 100000 all)])):=by kernel_rfl
theorem QUj (p:List Rat)(d:List Rat)(g:List Rat)(r:List Rat×List Rat)(s:List Rat)(hc:(p.length<=1000)/\((QDb p=some d/\Us FU p d=some g)/\Xn p g=some r/\Xy (QI r.1)=some s))(K:AV->Prop)(hK:K (sR 100000 s)):QN (QDh p d g r s K):=by
 refine⟨?_⟩;rw[QDi];try simp only[Zc,R0,R1,R4]
 obtain⟨hl,⟨hd,hg⟩,hr,hs⟩:=hc;obtain⟨all,h1,rfl,h2⟩:=QFm hd;refine⟨p,all,rfl,⟨hl,h1⟩,⟨⟨FU,p,QI all⟩,⟨⟨hl,by simp only;omega⟩,hg⟩,rfl,rfl⟩,fun x ⟨⟨a1,a2⟩,a3⟩=>QG (fun hp=> ?_) (fun hp=> ?_)⟩
 ·have hp:1<=x.b.length:=by have:=R5 hp;rw[Xc]at this;omega
  cases hn:x.n with
  | zero=>rw[hn]at a3;cases a3
  | succ n=>
   rw[hn,Us,Zm hp]at a3;simp only[R7]at a3;obtain⟨R,hR,a3⟩:=bind_some a3;obtain⟨s2,hs2,a3⟩:=bind_some a3;exact⟨x.a,x.b,R,rfl,rfl,⟨⟨a1,hp,a2⟩,hR⟩,x.b,s2,rfl,⟨a2,hs2⟩,⟨n,s2,R.2⟩,⟨⟨⟨by simp only;rw[QB9 hs2];exact a2,Zl (Ko hR).2 a1⟩,a3⟩,by simp only;omega⟩,rfl,rfl⟩
 ·have hp:x.b.length=0:=by have:=R6 hp;rw[Xc]at this;omega
  cases hn:x.n with
  | zero=>rw[hn]at a3;cases a3
  | succ n=>
   rw[hn,Us,hp]at a3;have a3:some x.a=some g:=a3;have a3:=Option.some.inj a3;rw[a3];rw[a3]at a1;exact⟨p,g,r,rfl,rfl,⟨⟨hl,QLS hr,a1⟩,hr⟩,r.1,rfl,Zl (Ko hr).1 hl,QI r.1,s,Wh rfl,⟨Zl (Jv _) (Zl (Ko hr).1 hl),hs⟩,hK⟩
def QLW:Ctr
 | [.x false [.s 3 xs]]=>some fun K=> ∃(p:List Rat) (d:List Rat) (g:List Rat) (r:List Rat×List Rat) (s:List Rat),xs=lR 100000 p/\((p.length<=1000)/\((QDb p=some d/\Us FU p d=some g)/\Xn p g=some r/\Xy (QI r.1)=some s))/\(K (sR 100000 s))
 | _=>none
theorem QSR:QH 99 QLW:=by
 refine okL Tryz.func99 fun l T hT K hK=> ?_
 unfold QLW at hT;split at hT<;>cases hT
 obtain⟨p,d,g,r,s,rfl,hc,hK⟩:=hK;exact spL QOa QO Tryz.func99 (QUj _ _ _ _ _ hc K hK)
def QLX:LC:=(99,QLW)::QLR
theorem QGh:QC QLX:= .cons QSR QGg
structure ChX where
 n:Nat
 i:Nat
 c:List (List Rat)
 q:List Rat
 r:List Rat
def QUk (c:List (List Rat)):Blk:= .row 56 1 (chN c)
def QOf (R:List (List Rat)):LI:=fun id=>
 bif id.beq 3 then .invf [501] ⟨ChX,fun e=>⟨[(3,.x false [.w 500 0 e.c.length]),(4,sR 100000 e.q)],[(500,QUk e.c)]⟩,fun e=>((1<=e.c.length/\e.c.length+e.n<=FU+2)/\e.q.length<=1000/\ ∀p∈e.c,p.length<=1000)/\chF e.n e.c e.q=some R,fun e=>e.n,fun _=>0⟩
 else .inv ⟨ChX,fun e=>⟨[(3,.x false [.w 500 0 e.c.length]),(4,.x false [.w 501 0 e.i]),(39,sR 100000 e.r),(40,iA .i64 e.r.length),(41,iA .i64 e.i)],[(500,QUk e.c),(501,Jr 100000 ((e.r.map fun x=> -x).take e.i))]⟩,
  fun e=>(((1<=e.c.length/\e.c.length+e.n<=FU+2)/\e.r.length<=1000/\ ∀p∈e.c,p.length<=1000)/\e.i<=e.r.length)/\chF e.n e.c (e.r.map fun x=> -x)=some R,fun e=>e.r.length-e.i,fun e=>e.n+1⟩
set_option maxHeartbeats 1000000 in
theorem QUl (p:List Rat)(R:List (List Rat))(hc:(p.length<=1000)/\(JO p=some R))(K:AV->Prop)(hK:K (sC R)):QN (QU (mkT QLX Wr X4) (oF Tryz.f98) (QOf R) Tryz.f98 [sR 100000 p] K):=by
 refine HV ((∃(p_1:List Rat),∃(all:List Rat),lR 100000 p=lR 100000 p_1/\(p_1.length<=1000/\VJ (Zg 1 p_1) 1 []=some all)/\(∃(x:ChX),((((1<=x.c.length/\x.c.length+x.n<=100002)/\x.q.length<=1000/\∀(p:List Rat),p∈x.c->p.length<=1000)/\chF x.n x.c x.q=some R)/\OfNat.ofNat 0=0)/\0=0/\1=x.c.length/\3=3/\lR 100000 (QI all)=lR 100000 x.q/\56=56/\1=1/\([[Zo 3 (lR 100000 p)]]=chN x.c∨QE [[Zo 3 (lR 100000 p)]] (chN x.c))/\True)/\∀(x:ChX),((1<=x.c.length/\x.c.length+x.n<=100002)/\x.q.length<=1000/\∀(p:List Rat),p∈x.c->p.length<=1000)/\chF x.n x.c x.q=some R->OfNat.ofNat 0=0->bif decide (Za (lR 100000 x.q).length>0)then ∃(p:List Rat),∃(all:List Rat),lR 100000 x.q=lR 100000 p/\(p.length<=1000/\Xy p=some all)/\((x.c.length+1)*24<=140737488355328/\x.c.length+1<=9223372036854775807)/\(0<=Zb.wrap (Za (x.c.length+1)-2)/\Zb.wrap (Za (x.c.length+1)-2)<Za (x.c.length+1))/\∃(ys:List (List Ch)),ldE (Zd x.c.length (chN x.c)++[[Zo 3 (lR 100000 all)]]) (0+(Zb.wrap (Za (x.c.length+1)-2)).toNat) 0 1=some [Zo 3 ys]/\(0<=Zb.wrap (Za (x.c.length+1)-1)/\Zb.wrap (Za (x.c.length+1)-1)<Za (x.c.length+1))/\∃(ys_1:List (List Ch)),ldE (Zd x.c.length (chN x.c)++[[Zo 3 (lR 100000 all)]]) (0+(Zb.wrap (Za (x.c.length+1)-1)).toNat) 0 1=some [Zo 3 ys_1]/\∃(p:List Rat),∃(q:List Rat),∃(R_1:List Rat×List Rat),ys=lR 100000 p/\ys_1=lR 100000 q/\((p.length<=1000/\1<=q.length/\q.length<=1000)/\Xn p q=some R_1)/\((0:Int)=0/\(0:Int)=0/\(0:Int)=0)/\(∃(x_1:ChX),(((((1<=x_1.c.length/\x_1.c.length+x_1.n<=100002)/\x_1.r.length<=1000/\∀(p:List Rat),p∈x_1.c->p.length<=1000)/\x_1.i<=x_1.r.length)/\chF x_1.n x_1.c (Zf (fun(x:Rat)=> -x) x_1.r)=some R)/\x_1.n+1=x.n)/\0=0/\x.c.length+1=x_1.c.length/\0=0/\0=x_1.i/\3=3/\lR 100000 R_1.snd=lR 100000 x_1.r/\Za (lR 100000 R_1.snd).length=Za x_1.r.length/\0=Za x_1.i/\56=56/\1=1/\(Zd x.c.length (chN x.c)++[[Zo 3 (lR 100000 all)]]=chN x_1.c∨QE (Zd x.c.length (chN x.c)++[[Zo 3 (lR 100000 all)]]) (chN x_1.c))/\26=26/\3=3/\([]=Zf (fun(q:Rat)=>[Zn q 100000]) (Zd x_1.i (Zf (fun(x:Rat)=> -x) x_1.r))∨QE [] (Zf (fun(q:Rat)=>[Zn q 100000]) (Zd x_1.i (Zf (fun(x:Rat)=> -x) x_1.r))))/\True)/\∀(x_1:ChX),(((1<=x_1.c.length/\x_1.c.length+x_1.n<=100002)/\x_1.r.length<=1000/\∀(p:List Rat),p∈x_1.c->p.length<=1000)/\x_1.i<=x_1.r.length)/\chF x_1.n x_1.c (Zf (fun(x:Rat)=> -x) x_1.r)=some R->x_1.n+1=x.n->bif decide (Za x_1.i<Za x_1.r.length)then(0<=Za x_1.i/\Za x_1.i<Za (lR 100000 x_1.r).length)/\∃(q:Rat),∃(n:Nat),ldE (lR 100000 x_1.r) (Za x_1.i).toNat 0 3=some [Zn q n]/\n<=100000/\((x_1.i+1)*40<=140737488355328/\x_1.i+1<=9223372036854775807)/\∃(x':ChX),(((((1<=x'.c.length/\x'.c.length+x'.n<=100002)/\x'.r.length<=1000/\∀(p:List Rat),p∈x'.c->p.length<=1000)/\x'.i<=x'.r.length)/\chF x'.n x'.c (Zf (fun(x:Rat)=> -x) x'.r)=some R)/\x'.n+1=x.n/\x'.r.length-x'.i<x_1.r.length-x_1.i)/\0=0/\x_1.c.length=x'.c.length/\0=0/\x_1.i+1=x'.i/\3=3/\lR 100000 x_1.r=lR 100000 x'.r/\Za x_1.r.length=Za x'.r.length/\Zb.wrap (Za x_1.i+1)=Za x'.i/\56=56/\1=1/\(chN x_1.c=chN x'.c∨QE (chN x_1.c) (chN x'.c))/\26=26/\3=3/\(Zd x_1.i (Zf (fun(q:Rat)=>[Zn q 100000]) (Zd x_1.i (Zf (fun(x:Rat)=> -x) x_1.r)))++[[Zn (-q) 100000]]=Zf (fun(q:Rat)=>[Zn q 100000]) (Zd x'.i (Zf (fun(x:Rat)=> -x) x'.r))∨QE (Zd x_1.i (Zf (fun(q:Rat)=>[Zn q 100000]) (Zd x_1.i (Zf (fun(x:Rat)=> -x) x_1.r)))++[[Zn (-q) 100000]]) (Zf (fun(q:Rat)=>[Zn q 100000]) (Zd x'.i (Zf (fun(x:Rat)=> -x) x'.r))))/\True else ∃(x':ChX),((((1<=x'.c.length/\x'.c.length+x'.n<=100002)/\x'.q.length<=1000/\∀(p:List Rat),p∈x'.c->p.length<=1000)/\chF x'.n x'.c x'.q=some R)/\OfNat.ofNat 0=0/\x'.n<x.n)/\0=0/\x_1.c.length=x'.c.length/\3=3/\Zd x_1.i (Zg 0 (Zf (fun(q:Rat)=>[Zn q 100000]) (Zd x_1.i (Zf (fun(x:Rat)=> -x) x_1.r))))=lR 100000 x'.q/\56=56/\1=1/\(chN x_1.c=chN x'.c∨QE (chN x_1.c) (chN x'.c))/\True else K (AV.x false [Zo 1 (Zd x.c.length (Zg 0 (chN x.c)))]))) ?_
 try simp only[Zc,R0,R1,Nat.zero_add,R4]
 obtain⟨hl,hR⟩:=hc;unfold JO at hR;obtain⟨d,hd,hR⟩:=bind_some hR;obtain⟨all,h1,rfl,h2⟩:=QFm hd;refine⟨p,all,rfl,⟨hl,h1⟩,⟨⟨FU,0,[p],QI all,[]⟩,⟨⟨⟨by simp,by simp only[List.length_singleton,FU];omega⟩,by simp only;omega,fun q hq=>by simp at hq;subst hq;exact hl⟩,hR⟩,rfl,rfl,.inl rfl⟩,fun x ⟨⟨⟨a1,a2⟩,a3,a4⟩,av⟩=>QG (fun hp=> ?_) (fun hp=> ?_)⟩
 ·have hp:1<=x.q.length:=by have:=R5 hp;rw[Xc]at this;omega
  cases hn:x.n with
  | zero=>rw[hn]at av;cases av
  | succ n=>
   rw[hn,chF,Zm hp]at av;simp only[R7]at av;obtain⟨s,hs,av⟩:=bind_some av;obtain⟨r,hr,av⟩:=bind_some av;obtain⟨l,hl'⟩: ∃l,x.c[x.c.length-1]? =some l:=⟨_,Ze (by omega)⟩
   rw[Zk,hl']at hr;have ew1:Zb.wrap (((x.c.length+1:Nat):Int)-2)=((x.c.length-1:Nat):Int):=by rw[w64 (by omega)];omega
   have ew2:Zb.wrap (((x.c.length+1:Nat):Int)-1)=((x.c.length:Nat):Int):=by rw[w64 (by omega)];omega
   have el:=a4 l (Zj hl');have es:=QB9 hs;have er:=(Ko hr).2;have er:r.2.length<=1000:=Zl er el;rw[ew1,ew2];simp only[Int.toNat_natCast];refine⟨x.q,s,rfl,⟨a3,hs⟩,⟨by omega,by omega⟩,⟨by omega,by omega⟩,lR 100000 l,?_,⟨by omega,by omega⟩,lR 100000 s,?_,l,s,r,rfl,rfl,⟨⟨el,by omega,by omega⟩,hr⟩,⟨⟨n,0,x.c++[s],[],r.2⟩,⟨⟨⟨⟨⟨by simp,by simp;omega⟩,er,fun q hq=> ?_⟩,Nat.zero_le _⟩,av⟩,by simp only⟩,by simp,rfl,rfl,by rw[Xc],rfl,.inl QFl,.inl (by simp)⟩,fun y ⟨⟨⟨⟨b1,b2⟩,b3,b4⟩,b5⟩,bv⟩ hyn=>QG (fun hj=> ?_) (fun hj=> ?_)⟩
   ·rw[QFl];exact QDf (by rw[List.getElem?_append_left (by omega)];exact hl')
   ·rw[QFl];exact QDf (by rw[List.getElem?_append_right (Zh _),Nat.sub_self];rfl)
   ·rcases List.mem_append.1 hq with hq | hq
    ·exact a4 q hq
    ·simp at hq;subst hq;omega
   ·have hj:y.i<y.r.length:=by have:=R5 hj;omega
    obtain⟨q,hq⟩: ∃q,y.r[y.i]? =some q:=⟨_,Ze (by omega)⟩
    refine⟨by rw[Xc];omega,q,100000,YC hq,by omega,⟨by omega,by omega⟩,⟨y.n,y.i+1,y.c,[],y.r⟩,⟨⟨⟨⟨⟨b1,b2⟩,b3,b4⟩,by simp only;omega⟩,bv⟩,hyn,by simp only;omega⟩,rfl,rfl,rfl,rfl,by rw[w64 (by omega)];simp,.inl rfl,.inl ?_⟩;rw[Zi (by simp;omega),List.take_add_one,List.getElem?_map,hq,List.map_append];rfl
   ·have hj:y.i=y.r.length:=by have:=R6 hj;omega
    have e:Zd y.i (Zf (fun x=> -x) y.r)=Zf (fun x=> -x) y.r:=Zi (by simp;omega);refine⟨⟨y.n,0,y.c,y.r.map fun x=> -x,[]⟩,⟨⟨⟨⟨b1,b2⟩,by simp only[List.length_map];exact b3,b4⟩,bv⟩,by simp only;omega⟩,rfl,?_,.inl rfl⟩;rw[e];exact Wh (by simp;omega)
 ·have hp:x.q.length=0:=by have:=R6 hp;rw[Xc]at this;omega
  cases hn:x.n with
  | zero=>rw[hn]at av;cases av
  | succ n=>
   rw[hn,chF,hp]at av;have av:some x.c=some R:=av;have av:=Option.some.inj av;rw[QOb,av];exact hK
def QLY:Ctr
 | [.x false [.s 3 xs]]=>some fun K=> ∃(p:List Rat) (R:List (List Rat)),xs=lR 100000 p/\((p.length<=1000)/\(JO p=some R))/\(K (sC R))
 | _=>none
theorem QSS:QH 98 QLY:=by
 refine okL Tryz.func98 fun l T hT K hK=> ?_
 unfold QLY at hT;split at hT<;>cases hT
 obtain⟨p,R,rfl,hc,hK⟩:=hK;exact spL (QW QGh YK Q0) QO Tryz.func98 (QUl _ _ hc K hK)
def QLZ:LC:=(98,QLY)::QLX
theorem QGi:QC QLZ:= .cons QSS QGh
structure CgX where
 i:Nat
 k:Int
 l:Int
def QLa (c:List (List Rat))(x:Rat)(n:Nat)(R:Int):LI:=fun id=>
 bif id.beq 3 then .inv ⟨CgX,fun e=>⟨[(0,sC c),(3,.x false [.p 3 0]),(5,iA .i64 e.k),(6,iA .i64 e.l),(10,sC c),(11,iA .i64 c.length),(12,iA .i64 e.i)],[(3,.box 26 [.r x n])]⟩,fun e=>(e.i<=c.length/\(0<=e.k/\e.k<=e.i)/\ -1<=e.l/\e.l<=1)/\Ut x (c.drop e.i) e.k e.l=some R,fun e=>c.length-e.i,fun _=>0⟩
 else bif id.beq 8 then .cut ⟨CgX×Int,fun e=>⟨[(0,sC c),(3,.x false [.p 3 0]),(5,iA .i64 e.1.k),(6,iA .i64 e.1.l),(9,iA .i64 e.2),(10,sC c),(11,iA .i64 c.length),(12,iA .i64 e.1.i)],[(3,.box 26 [.r x n])]⟩,fun e=>(e.1.i<c.length/\(0<=e.1.k/\e.1.k<=e.1.i+1)/\(-1<=e.1.l/\e.1.l<=1)/\ -1<=e.2/\e.2<=1)/\Ut x (c.drop (e.1.i+1)) e.1.k (bif e.2==0 then e.1.l else e.2)=some R,fun _=>0,fun e=>c.length-e.1.i⟩
 else .no
abbrev QLb (c:List (List Rat))(x:Rat)(n:Nat)(R:Int)(K:AV->Prop):Prop:=(((c.length<=200000/\n<=100000)/\ ∀p∈c,p.length<=1000)/\(KT c x=some R))/\((0<=R/\R<=c.length)->K (iA .i64 R))
set_option maxHeartbeats 1000000 in
theorem QST (c:List (List Rat))(x:Rat)(n:Nat)(R:Int)(K:AV->Prop)(hK:QLb c x n R K):QN (QU (mkT QLZ Wr X4) (oF Tryz.f131) (QLa c x n R) Tryz.f131 [sC c,rA x n] K):=by
  obtain⟨hc,hK⟩:=hK;refine HV (((∃(x_1:CgX),(((x_1.i<=c.length/\(0<=x_1.k/\x_1.k<=Za x_1.i)/\ -1<=x_1.l/\x_1.l<=1)/\Ut x (Zg x_1.i c) x_1.k x_1.l=some R)/\OfNat.ofNat 0=0)/\1=1/\chN c=chN c/\0=0/\0=x_1.k/\0=x_1.l/\1=1/\chN c=chN c/\Za (chN c).length=Za c.length/\0=Za x_1.i/\26=26/\x=x/\n<=n/\True)/\∀(x_1:CgX),(x_1.i<=c.length/\(0<=x_1.k/\x_1.k<=Za x_1.i)/\ -1<=x_1.l/\x_1.l<=1)/\Ut x (Zg x_1.i c) x_1.k x_1.l=some R->OfNat.ofNat 0=0->bif decide (Za x_1.i<Za c.length)then(0<=Za x_1.i/\Za x_1.i<Za (chN c).length)/\∃(ys:List (List Ch)),ldE (chN c) (Za x_1.i).toNat 0 1=some [Zo 3 ys]/\∃(p:List Rat),∃(r:Rat),ys=lR 100000 p/\((p.length<=1000/\n<=100000)/\QAh p x=some r)/\100000<=4294967296/\(bif decide (Zb.wrap (Y1 r*x_1.l)<0)then ∃(x_2:CgX×Int),(((x_2.fst.i<c.length/\(0<=x_2.fst.k/\x_2.fst.k<=Za x_2.fst.i+1)/\(-1<=x_2.fst.l/\x_2.fst.l<=1)/\ -1<=x_2.snd/\x_2.snd<=1)/\Ut x (Zg (x_2.fst.i+1) c) x_2.fst.k (bif x_2.snd==0 then x_2.fst.l else x_2.snd)=some R)/\c.length-x_2.fst.i=c.length-x_1.i)/\1=1/\chN c=chN c/\0=0/\Zb.wrap (x_1.k+1)=x_2.fst.k/\x_1.l=x_2.fst.l/\Y1 r=x_2.snd/\1=1/\chN c=chN c/\Za c.length=Za c.length/\Za x_1.i=Za x_2.fst.i/\26=26/\x=x/\n<=n/\True else ∃(x_2:CgX×Int),(((x_2.fst.i<c.length/\(0<=x_2.fst.k/\x_2.fst.k<=Za x_2.fst.i+1)/\(-1<=x_2.fst.l/\x_2.fst.l<=1)/\ -1<=x_2.snd/\x_2.snd<=1)/\Ut x (Zg (x_2.fst.i+1) c) x_2.fst.k (bif x_2.snd==0 then x_2.fst.l else x_2.snd)=some R)/\c.length-x_2.fst.i=c.length-x_1.i)/\1=1/\chN c=chN c/\0=0/\x_1.k=x_2.fst.k/\x_1.l=x_2.fst.l/\Y1 r=x_2.snd/\1=1/\chN c=chN c/\Za c.length=Za c.length/\Za x_1.i=Za x_2.fst.i/\26=26/\x=x/\n<=n/\True)/\∀(x_2:CgX×Int),(x_2.fst.i<c.length/\(0<=x_2.fst.k/\x_2.fst.k<=Za x_2.fst.i+1)/\(-1<=x_2.fst.l/\x_2.fst.l<=1)/\ -1<=x_2.snd/\x_2.snd<=1)/\Ut x (Zg (x_2.fst.i+1) c) x_2.fst.k (bif x_2.snd==0 then x_2.fst.l else x_2.snd)=some R->c.length-x_2.fst.i=c.length-x_1.i->bif x_2.snd !=0 then ∃(x':CgX),(((x'.i<=c.length/\(0<=x'.k/\x'.k<=Za x'.i)/\ -1<=x'.l/\x'.l<=1)/\Ut x (Zg x'.i c) x'.k x'.l=some R)/\OfNat.ofNat 0=0/\c.length-x'.i<c.length-x_1.i)/\1=1/\chN c=chN c/\0=0/\x_2.fst.k=x'.k/\x_2.snd=x'.l/\1=1/\chN c=chN c/\Za c.length=Za c.length/\Zb.wrap (Za x_2.fst.i+1)=Za x'.i/\26=26/\x=x/\n<=n/\True else ∃(x':CgX),(((x'.i<=c.length/\(0<=x'.k/\x'.k<=Za x'.i)/\ -1<=x'.l/\x'.l<=1)/\Ut x (Zg x'.i c) x'.k x'.l=some R)/\OfNat.ofNat 0=0/\c.length-x'.i<c.length-x_1.i)/\1=1/\chN c=chN c/\0=0/\x_2.fst.k=x'.k/\x_2.fst.l=x'.l/\1=1/\chN c=chN c/\Za c.length=Za c.length/\Zb.wrap (Za x_2.fst.i+1)=Za x'.i/\26=26/\x=x/\n<=n/\True else K (AV.x false [Ch.v (Value.int Zb x_1.k)]))) ?_
  try simp only[Zc,R0,R1,Zh,R4]
  obtain⟨⟨⟨hl,hn⟩,hp⟩,hR⟩:=hc;simp only[GW,R0];refine⟨⟨⟨0,0,0⟩,⟨⟨Nat.zero_le _,⟨by decide,by decide⟩,by decide,by decide⟩,hR⟩,rfl,rfl,rfl⟩,fun e ⟨⟨h1,⟨h2,h3⟩,h4,h5⟩,hv⟩=>QG (fun hj=> ?_) (fun hj=> ?_)⟩
  · have hj:e.i<c.length:=by have:=R5 hj;omega
    obtain⟨q,hq⟩: ∃q,c[e.i]? =some q:=⟨_,Ze (by omega)⟩
    have ed:c.drop e.i=q::c.drop (e.i+1):=by
      rw[List.drop_eq_getElem_cons hj];congr 1;rw[Ze hj]at hq;exact Option.some.inj hq
    rw[ed,Ut]at hv;obtain⟨r,hr,hv⟩:=bind_some hv;have sb:=QUh r;have ew:Zb.wrap (Y1 r*e.l)=Y1 r*e.l:=by rcases sb with s | s | s<;>rw[s]<;>rw[w64 (by omega)]
    rw[Int.toNat_natCast];refine⟨by omega,_,QDf hq,q,r,rfl,⟨⟨hp q (Zj hq),hn⟩,hr⟩,by omega,⟨by rw[ew];refine QG (fun hb=> ?_) (fun hb=> ?_);exact(by rw[hb]at hv;exact⟨⟨⟨e.i,e.k+1,e.l⟩,Y1 r⟩,⟨⟨⟨hj,⟨by simp only;omega,by simp only;omega⟩,⟨h4,h5⟩,by simp only;omega,by simp only;omega⟩,hv⟩,rfl⟩,by rw[w64 (by omega)],rfl,rfl,rfl⟩);exact(by rw[hb]at hv;exact⟨⟨⟨e.i,e.k,e.l⟩,Y1 r⟩,⟨⟨⟨hj,⟨h2,by simp only;omega⟩,⟨h4,h5⟩,by simp only;omega,by simp only;omega⟩,hv⟩,rfl⟩,rfl,rfl,rfl,rfl⟩),fun y ⟨⟨y1,⟨y2,y3⟩,⟨y4,y5⟩,y6,y7⟩,yv⟩ yt=>QG (fun hb=> ?_) (fun hb=> ?_)⟩⟩
    · have e0:(y.2==0)=false:=by
        cases hz:y.2==0 with
        | false=>rfl
        | true=>simp at hz;rw[hz]at hb;cases hb
      rw[e0]at yv;exact⟨⟨y.1.i+1,y.1.k,y.2⟩,⟨⟨⟨by simp only;omega,⟨y2,by simp only;omega⟩,y6,y7⟩,yv⟩,by simp only;omega⟩,rfl,rfl,by rw[w64 (by omega)];simp⟩
    · have e0:(y.2==0)=true:=by
        cases hz:y.2==0 with
        | true=>rfl
        | false => have : (y.2 != 0) = true := by simp only [bne, hz]; rfl
                   rw[this]at hb;cases hb
      rw[e0]at yv;exact⟨⟨y.1.i+1,y.1.k,y.1.l⟩,⟨⟨⟨by simp only;omega,⟨y2,by simp only;omega⟩,y4,y5⟩,yv⟩,by simp only;omega⟩,rfl,rfl,by rw[w64 (by omega)];simp⟩
  · have hj:c.length<=e.i:=by have:=R6 hj;omega
    rw[List.drop_eq_nil_of_le hj]at hv;cases hv
    exact hK ⟨h2,by omega⟩
def QFo:Ctr
 | [.x false [.s 1 xs],.x true [.r x n]]=>some fun K=> ∃(c:List (List Rat)) (R:Int),xs=chN c/\QLb c x n R K
 | _=>none
theorem QOg:QH 131 QFo:=by
 refine okL Tryz.func131 fun l T hT K hK=> ?_
 unfold QFo at hT;split at hT<;>cases hT
 obtain⟨c,R,rfl,hK⟩:=hK;exact spL (QW QGi YK Q0) QO Tryz.func131 (QST _ _ _ _ K hK)
def QLc:LC:=(131,QFo)::QLZ
theorem QGj:QC QLc:= .cons QOg QGi
def GX (c:List (List Rat))(x:Rat)(n:Nat)(_R:Bool)(K:AV->Prop):Prop:=QU (mkT QLc Wr X4) (oF Tryz.f102) noL Tryz.f102 [sC c,rA x n] K
theorem G4 (c:List (List Rat))(x:Rat)(n:Nat)(R:Bool)(K:AV->Prop):GX c x n R K=(((0:Int)<=0/\0<Za (chN c).length)/\∃(ys:List (List Ch)),ldE (chN c) 0 0 1=some [Zo 3 ys]/\∃(p:List Rat)(r:Rat),ys=lR 100000 p/\((p.length<=1000/\n<=100000)/\QAh p x=some r)/\100000<=4294967296/\K (AV.x false [Ch.v (Value.bool (Y1 r==0))])):=by kernel_rfl
theorem QOh (c:List (List Rat))(x:Rat)(n:Nat)(R:Bool)(hc:((1<=c.length/\n<=100000)/\ ∀p∈c,p.length<=1000)/\(JY c x=some R))(K:AV->Prop)(hK:K (.x false [.v (.bool R)])):QN (GX c x n R K):=by
 refine⟨?_⟩;rw[G4];try simp only[Zc]
 obtain⟨⟨⟨h1,hn⟩,hp⟩,hz⟩:=hc;obtain⟨q,hq,hg⟩:=QUi h1;unfold JY at hz;rw[hg]at hz;obtain⟨e,he,hz⟩:=bind_some hz;cases hz
 exact⟨by rw[GW];omega,_,QDf hq,q,e,rfl,⟨⟨hp q (Zj hq),hn⟩,he⟩,by omega,hK⟩
def QCA:Ctr
 | [.x false [.s 1 xs],.x true [.r x n]]=>some fun K=> ∃(c:List (List Rat)) (R:Bool),xs=chN c/\(((1<=c.length/\n<=100000)/\ ∀p∈c,p.length<=1000)/\(JY c x=some R))/\(K (.x false [.v (.bool R)]))
 | _=>none
theorem QLd:QH 102 QCA:=by
 refine okL Tryz.func102 fun l T hT K hK=> ?_
 unfold QCA at hT;split at hT<;>cases hT
 obtain⟨c,R,rfl,hc,hK⟩:=hK;exact spL (QW QGj YK Q0) QO Tryz.func102 (QOh _ _ _ _ hc K hK)
def QLe:LC:=(102,QCA)::QLc
theorem QGk:QC QLe:= .cons QLd QGj
def QAi (c:List (List Rat))(s:Sp)(_R:Int)(K:AV->Prop):Prop:=QU (mkT QLe Wr X4) (oF Tryz.f100) noL Tryz.f100 [sC c,.x true [.r s.lo 100000,.r s.hi 100000]] K
theorem QCB (c:List (List Rat))(s:Sp)(R:Int)(K:AV->Prop):QAi c s R K=(∃(c_1:List (List Rat))(R:Int),chN c=chN c_1/\(((c_1.length<=200000/\100000<=100000)/\∀(p:List Rat),p∈c_1->p.length<=1000)/\KT c_1 s.lo=some R)/\(0<=R/\R<=Za c_1.length->∃(c_2:List (List Rat))(R_1:Int),chN c=chN c_2/\(((c_2.length<=200000/\100000<=100000)/\∀(p:List Rat),p∈c_2->p.length<=1000)/\KT c_2 s.hi=some R_1)/\(0<=R_1/\R_1<=Za c_2.length->∃(c_3:List (List Rat))(R_2:Bool),chN c=chN c_3/\(((1<=c_3.length/\100000<=100000)/\∀(p:List Rat),p∈c_3->p.length<=1000)/\JY c_3 s.lo=some R_2)/\bif R_2 then K (AV.x false [Ch.v (Value.int Zb (Zb.wrap (Zb.wrap (R-R_1)+1)))])else K (AV.x false [Ch.v (Value.int Zb (Zb.wrap (R-R_1)))])))):=by kernel_rfl
theorem QSU (c:List (List Rat))(s:Sp)(R:Int)(hc:((1<=c.length/\c.length<=200000)/\ ∀p∈c,p.length<=1000)/\(Jt c s=some R))(K:AV->Prop)(hK:K (iA .i64 R)):QN (QAi c s R K):=by
 refine⟨?_⟩;rw[QCB];try simp only[Zc,R1,Zh]
 obtain⟨⟨⟨h1,h2⟩,hp⟩,hz⟩:=hc;unfold Jt at hz;obtain⟨A,hA,hz⟩:=bind_some hz;obtain⟨B,hB,hz⟩:=bind_some hz;obtain⟨z,hzz,hz⟩:=bind_some hz;cases hz
 refine⟨c,A,rfl,⟨⟨h2,hp⟩,hA⟩,fun hA2=>⟨c,B,rfl,⟨⟨h2,hp⟩,hB⟩,fun hB2=>⟨c,z,rfl,⟨⟨h1,hp⟩,hzz⟩,?_⟩⟩⟩;rw[w64 (by omega: -9223372036854775808<=A-B/\A-B<9223372036854775808),w64 (by omega)];cases z with
 | true=>exact hK
 | false=>exact hK
def QFp:Ctr
 | [.x false [.s 1 xs],.x true ys]=>some fun K=> ∃(c:List (List Rat)) (s:Sp) (R:Int),xs=chN c/\ys=[.r s.lo 100000,.r s.hi 100000]/\(((1<=c.length/\c.length<=200000)/\ ∀p∈c,p.length<=1000)/\(Jt c s=some R))/\(K (iA .i64 R))
 | _=>none
theorem QOi:QH 100 QFp:=by
 refine okL Tryz.func100 fun l T hT K hK=> ?_
 unfold QFp at hT;split at hT<;>cases hT
 obtain⟨c,s,R,rfl,rfl,hc,hK⟩:=hK;exact spL (QW QGk YK Q0) QO Tryz.func100 (QSU _ _ _ hc K hK)
def QLf:LC:=(100,QFp)::QLe
theorem QGl:QC QLf:= .cons QOi QGk
abbrev QGm (x:Int)(y:Int)(K:AV->Prop):Prop:=(((-9223372036854775808<=x/\x<9223372036854775808)/\ -9223372036854775808<=y/\y<9223372036854775808)/\((y:Rat)≠0))/\(K (.t [(true,[.r ((x:Rat)/(y:Rat)) 100000]),(false,[.v (.int .i64 0)])]))
theorem QOj (x:Int)(y:Int)(K:AV->Prop)(hK:QGm x y K):QN (QU (mkT QLf Wr X4) (oF Tryz.f51) noL Tryz.f51 [iA .i64 x,iA .i64 y] K):=by
 obtain⟨hc,hK⟩:=hK;refine HV (((-9223372036854775808<=x/\x<9223372036854775808)/\(-9223372036854775808<=y/\y<9223372036854775808)/\200000<=4294967296/\∃(r:Rat),G0 ↑x ↑y=some r/\K (AV.t [(true,[Zn r 100000]),(false,[Ch.v (Value.int Zb 0)])]))) ?_
 try simp only[Zc,R0,R1,Nat.zero_add,Zh,R4,R2,R3]
 obtain⟨⟨hx,hy⟩,h0⟩:=hc;have p64:(2:Nat)^64=18446744073709551616:=by decide
 have bx:Bd 64 (x:Rat):=QLF (by omega) (by decide);have b2:Bd 64 (y:Rat):=QLF (by omega) (by decide);exact⟨hx,hy,by omega,_,QOT bx b2 h0 (by omega),hK⟩
def QCC:Ctr
 | [.x false [.v (.int .i64 x)],.x false [.v (.int .i64 y)]]=>some fun K=>QGm x y K
 | _=>none
theorem QLg:QH 51 QCC:=by
 refine okL Tryz.func51 fun l T hT K hK=> ?_
 unfold QCC at hT;split at hT<;>cases hT
 exact spL (QW QGl YK Q0) QO Tryz.func51 (QOj _ _ K hK)
def QLh:LC:=(51,QCC)::QLf
theorem QGn:QC QLh:= .cons QLg QGl
theorem QSV (s:Sp)(_hc:True)(K:AV->Prop)(hK: ∃R,Uu s=some R/\K (rA R 100000)):QN (QU (mkT QLh Wr X4) (oF Tryz.f101) noL Tryz.f101 [.x true [.r s.lo 100000,.r s.hi 100000]] K):=by
 refine HV ((((((-9223372036854775808:Int)<=1/\(1:Int)<9223372036854775808)/\(-9223372036854775808:Int)<=2/\(2:Int)<9223372036854775808)/\(↑(2:Int):Rat)≠OfNat.ofNat 0)/\200001<=4294967296/\∃(r:Rat),Gz s.lo s.hi=some r/\200000<=4294967296/\∃(r_1:Rat),Ur ((↑(1:Int):Rat)/(↑(2:Int):Rat)) r=some r_1/\K (AV.x true [Zn r_1 100000]))) ?_
 try simp only[Zc,R0,R1,Nat.zero_add,Zh,R4,R2,R3]
 obtain⟨R,hR,hK⟩:=hK;unfold Uu at hR;obtain⟨m,hm,hR⟩:=bind_some hR;exact⟨⟨⟨by omega,by omega⟩,by decide+kernel⟩,by omega,m,hm,by omega,R,hR,hK⟩
def QFq:Ctr
 | [.x true ys]=>some fun K=> ∃(s:Sp),ys=[.r s.lo 100000,.r s.hi 100000]/\(True)/\(∃R,Uu s=some R/\K (rA R 100000))
 | _=>none
theorem QOk:QH 101 QFq:=by
 refine okL Tryz.func101 fun l T hT K hK=> ?_
 unfold QFq at hT;split at hT<;>cases hT
 obtain⟨s,rfl,hc,hK⟩:=hK;exact spL (QW QGn YK Q0) QO Tryz.func101 (QSV _ hc K hK)
def QLi:LC:=(101,QFq)::QLh
theorem QGo:QC QLi:= .cons QOk QGn
def Uj (c:List (List Rat))(s:Sp)(_R:Sp)(K:AV->Prop):Prop:=QU (mkT QLi Wr X4) (oF Tryz.f60) noL Tryz.f60 [sC c,.x true [.r s.lo 100000,.r s.hi 100000]] K
theorem GY (c:List (List Rat))(s:Sp)(R:Sp)(K:AV->Prop):Uj c s R K=(∃(s_1:Sp),[Zn s.lo 100000,Zn s.hi 100000]=[Zn s_1.lo 100000,Zn s_1.hi 100000]/\True/\∃(R:Rat),Uu s_1=some R/\∃(c_1:List (List Rat))(R_1:Bool),chN c=chN c_1/\(((1<=c_1.length/\100000<=100000)/\∀(p:List Rat),p∈c_1->p.length<=1000)/\JY c_1 R=some R_1)/\bif R_1 then 100000<=2000000000/\K (AV.x true [Zn R 100000,Zn R 100000])else ∃(c_2:List (List Rat))(s_2:Sp)(R_2:Int),chN c=chN c_2/\[Zn s.lo 100000,Zn R 100000]=[Zn s_2.lo 100000,Zn s_2.hi 100000]/\(((1<=c_2.length/\c_2.length<=200000)/\∀(p:List Rat),p∈c_2->p.length<=1000)/\Jt c_2 s_2=some R_2)/\bif R_2==1 then K (AV.x true [Zn s.lo 100000,Zn R 100000])else K (AV.x true [Zn R 100000,Zn s.hi 100000])):=by kernel_rfl
theorem QLj (c:List (List Rat))(s:Sp)(R:Sp)(hc:((1<=c.length/\c.length<=200000)/\ ∀p∈c,p.length<=1000)/\(VL c s=some R))(K:AV->Prop)(hK:K (.x true [.r R.lo 100000,.r R.hi 100000])):QN (Uj c s R K):=by
 refine⟨?_⟩;rw[GY];try simp only[R0,R1,Zh]
 obtain⟨⟨⟨h1,h2⟩,hp⟩,hz⟩:=hc;unfold VL at hz;obtain⟨m,hm,hz⟩:=bind_some hz;obtain⟨z,hzz,hz⟩:=bind_some hz;refine⟨s,rfl,m,hm,c,z,rfl,⟨⟨h1,hp⟩,hzz⟩,QG (fun hb=> ?_) (fun hb=> ?_)⟩
 ·rw[hb]at hz;cases hz
  exact⟨by omega,hK⟩
 ·rw[hb]at hz;obtain⟨n,hn,hz⟩:=bind_some hz;refine⟨c,⟨s.lo,m⟩,n,rfl,rfl,⟨⟨⟨h1,h2⟩,hp⟩,hn⟩,QG (fun hb=> ?_) (fun hb=> ?_)⟩
  ·rw[hb]at hz;cases hz
   exact hK
  ·rw[hb]at hz;cases hz
   exact hK
def GZ:Ctr
 | [.x false [.s 1 xs],.x true ys]=>some fun K=> ∃(c:List (List Rat)) (s:Sp) (R:Sp),xs=chN c/\ys=[.r s.lo 100000,.r s.hi 100000]/\(((1<=c.length/\c.length<=200000)/\ ∀p∈c,p.length<=1000)/\(VL c s=some R))/\(K (.x true [.r R.lo 100000,.r R.hi 100000]))
 | _=>none
theorem QIR:QH 60 GZ:=by
 refine okL Tryz.func60 fun l T hT K hK=> ?_
 unfold GZ at hT;split at hT<;>cases hT
 obtain⟨c,s,R,rfl,rfl,hc,hK⟩:=hK;exact spL (QW QGo YK Q0) QO Tryz.func60 (QLj _ _ _ hc K hK)
def QLk:LC:=(60,GZ)::QLi
theorem QGp:QC QLk:= .cons QIR QGo
def Uk (p:List Rat)(_R:List (List Rat))(K:AV->Prop):Prop:=QU (mkT QLk Wr X4) (oF Tryz.f57) noL Tryz.f57 [sR 100000 p] K
theorem Ga (p:List Rat)(R:List (List Rat))(K:AV->Prop):Uk p R K=(∃(p_1:List Rat),lR 100000 p=lR 100000 p_1/\p_1.length<=1000/\bif Za (QI p_1).length==0 then K (AV.t [(false,[Ch.v (Value.slice none 0 0)]),(false,[Ch.v (Value.int Zb 12)])])else bif decide (Za (QI p_1).length>13)then K (AV.t [(false,[Ch.v (Value.slice none 0 0)]),(false,[Ch.v (Value.int Zb 2)])])else ∃(p:List Rat)(d:List Rat)(g:List Rat)(r:List Rat×List Rat)(s:List Rat),Zd (QI p_1).length (Zg 0 (Zf (fun(q:Rat)=>[Zn q 100000]) (QI p_1)))=lR 100000 p/\(p.length<=1000/\(QDb p=some d/\Us 100000 p d=some g)/\Xn p g=some r/\Xy (QI r.fst)=some s)/\∃(p:List Rat)(R:List (List Rat)),lR 100000 s=lR 100000 p/\(p.length<=1000/\JO p=some R)/\K (AV.t [(false,[Zo 1 (chN R)]),(false,[Ch.v (Value.int Zb 0)])])):=by kernel_rfl
theorem QLl (p:List Rat)(R:List (List Rat))(hc:(p.length<=1000)/\(Ju p=some R))(K:AV->Prop)(hK:K (.t [(false,[.s 1 (chN R)]),(false,[.v (.int .i64 0)])])):QN (Uk p R K):=by
 refine⟨?_⟩;rw[Ga];try simp only[Zc]
 obtain⟨hl,hR⟩:=hc;obtain⟨⟨h1,h2⟩,d,g,r,s,hd,hr,hs,h3,hch⟩:=QDg hR;refine⟨p,rfl,hl,QG (fun hb=> ?_) (fun hb=>QG (fun hb=> ?_) (fun hb=> ?_))⟩
 ·simp at hb;rw[hb]at h1;simp at h1
 ·have:=R5 hb;omega
 ·exact⟨QI p,d,g,r,s,Wh rfl,⟨by omega,hd,hr,hs⟩,s,R,rfl,⟨by omega,hch⟩,hK⟩
def Gb:Ctr
 | [.x false [.s 3 xs]]=>some fun K=> ∃(p:List Rat) (R:List (List Rat)),xs=lR 100000 p/\((p.length<=1000)/\(Ju p=some R))/\(K (.t [(false,[.s 1 (chN R)]),(false,[.v (.int .i64 0)])]))
 | _=>none
theorem QIS:QH 57 Gb:=by
 refine okL Tryz.func57 fun l T hT K hK=> ?_
 unfold Gb at hT;split at hT<;>cases hT
 obtain⟨p,R,rfl,hc,hK⟩:=hK;exact spL (QW QGp YK Q0) QO Tryz.func57 (QLl _ _ hc K hK)
def QPw:LC:=(57,Gb)::QLk
theorem QOl:QC QPw:= .cons QIS QGp
def QPx:LC:=QPw
theorem QOm:QC QPx:=QOl
def QAj:LC:=QPx
noncomputable def QVK:QY:=mkT QAj Wr X4
theorem QCD:QC QAj:=QOm
end Go.Proofs
