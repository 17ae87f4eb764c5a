/- sturm: plain, chained, changes, zero, count, middle, halve, ready, Count, Fine. -/
import Derived.Test.YtfhfenokfkenoaaGreatDoorIA
open Int renaming ofNat → Za, ofNat_eq_natCast → Zd
open Go.IntKind renaming i64 → Zb
open ByteArray renaming mk → Zc
open Array renaming mk → Ze
open List renaming take → Zf, getElem?_eq_getElem → Zh, map → Zi, drop → Zk, take_of_length_le → Zo, mem_of_getElem? → Zp, getD_eq_getElem?_getD → Zq
open Nat renaming le_refl → Zg, zero_add → Zj, le_trans → Zr, ble_eq_true_of_le → Zs
open Go.Value renaming int → Zl, string → Zn, bool → Zu
open Go.Eng.Ch renaming r → Zm, v → Zt, s → Zv
namespace Go.Proofs
open Go Go.Eng
def chE (p:List Rat):List Ch:=[.s 3 (lR 100000 p)]
def chN (c:List (List Rat)):List (List Ch):=c.map chE
def sC (c:List (List Rat)):AV:= .x false [.s 1 (chN c)]
theorem QC0 (c:List (List Rat)):(chN c).length=c.length:=by simp[chN]
theorem QJp {c:List (List Rat)}{i:Nat}{p:List Rat}(h:c[i]? =some p):ldE (chN c) i 0 1=some [.s 3 (lR 100000 p)]:=by
 simp only[ldE,chN,List.getElem?_map,h];rfl
theorem QMg {c:List (List Rat)}{p:List Rat}:Zf c.length (chN c)++[[Zv 3 (lR 100000 p)]]=chN (c++[p]):=by
 rw[Zo (by rw[QC0];exact Zg _)];simp[chN,chE]
theorem QYS {c:List (List Rat)}:Zf c.length (Zk 0 (chN c))=chN c:=by
 rw[List.drop_zero,Zo (by rw[QC0];exact Zg _)]
theorem Qgi (q:Rat):Qa q=1∨Qa q=0∨Qa q= -1:=by
 unfold Qa;split
 ·exact .inr (.inl rfl)
 ·split
  ·exact .inr (.inr rfl)
  ·exact .inl rfl
theorem QYT {w:Rat}(h:0<w):Qa w=1:=by
 have h0:w.num≠0:=fun e=>by rw[Rat.num_eq_zero.1 e]at h;exact absurd h (by decide)
 have h1:=Rat.num_nonneg.2 (Rat.le_of_lt h);unfold Qa;rw[if_neg h0,if_neg (by omega)]
theorem QTo {p q:List Rat}{R:List Rat×List Rat}(h:Xe p q=some R):1<=q.length:=by
 cases q with
 | nil=>
  exfalso;unfold Xe at h;rw[show FU=99999+1 from rfl,KH]at h;rw[show Nat.ble ([]:List Rat).length (QM p).length=true from Zs (Nat.zero_le _)]at h;simp only[R7]at h;obtain⟨c,hc,_⟩:=bind_some h;unfold QD5 at hc;rw[show((Qo ([]:List Rat)).num==0)=true from rfl]at hc;cases hc
 | cons x l=>simp
theorem QTp {q:List Rat}: ∀{n:Nat} {b r:List Rat} {R:List Rat×List Rat},KH q n b r=some R->R.1.length=b.length/\R.2.length<=r.length:=by
 intro n;induction n with
 | zero=>intro b r R h;cases h
 | succ n ih=>
  intro b r R h;rw[KH]at h;cases hb:Nat.ble q.length r.length with
  | false=>rw[hb]at h;cases h;exact⟨rfl,Zg _⟩
  | true=>
   rw[hb]at h;obtain⟨c,_,h⟩:=bind_some h;obtain⟨r1,h1,h⟩:=bind_some h;obtain⟨k1,k2⟩:=ih h;rw[List.length_set]at k1;exact⟨k1,Zr k2 (Zr (Wv _) (Nat.le_of_eq (QTe h1)))⟩
theorem V6 {p q:List Rat}{R:List Rat×List Rat}(h:Xe p q=some R):R.1.length<=p.length/\R.2.length<=p.length:=by
 have h1:=QTo h;obtain⟨k1,k2⟩:=QTp h;rw[List.length_replicate]at k1;have:=Wv p;omega
theorem QYU {d:Rat}: ∀{l acc r:List Rat},scF d l acc=some r->r.length=acc.length+l.length:=by
 intro l;induction l with
 | nil=>intro acc r h;cases h;simp
 | cons x l ih=>
  intro acc r h;rw[scF]at h;obtain⟨u,_,h⟩:=bind_some h;rw[ih h];simp;omega
theorem QHb {p r:List Rat}(h:YV p=some r):r.length=p.length:=by
 have:=QYU h;simpa using this
theorem QTq: ∀{l acc r:List Rat} {i:Nat},KY l i acc=some r->r.length=acc.length+l.length:=by
 intro l;induction l with
 | nil=>intro acc r i h;cases h;simp
 | cons x l ih=>
  intro acc r i h;rw[KY]at h;obtain⟨u,_,h⟩:=bind_some h;rw[ih h];simp;omega
theorem QMh {p d:List Rat}(h:GW p=some d): ∃all,KY (p.drop 1) 1 []=some all/\d=QM all/\d.length<=p.length:=by
 unfold GW at h;cases hd:KY (p.drop 1) 1 []with
 | none=>rw[hd]at h;cases h
 | some all=>
  rw[hd]at h;cases h
  refine⟨all,rfl,rfl,?_⟩;have:=QTq hd;have:=Wv all;simp at*;omega
theorem Qdo: ∀{n:Nat} {c R:List (List Rat)} {q:List Rat},chF n c q=some R->1<=c.length->(∀p∈c,p.length<=1000)->q.length<=1000->(1<=R.length/\R.length<=c.length+n)/\ ∀p∈R,p.length<=1000:=by
 intro n;induction n with
 | zero=>intro c R q h;cases h
 | succ n ih=>
  intro c R q h h1 h2 h3;rw[chF]at h;cases hb:Nat.ble 1 q.length with
  | false=>rw[hb]at h;cases h;exact⟨⟨h1,by omega⟩,h2⟩
  | true=>
   rw[hb]at h;obtain⟨s,hs,h⟩:=bind_some h;obtain⟨r,hr,h⟩:=bind_some h;obtain⟨x,hx⟩: ∃x,c[c.length-1]? =some x:=⟨_,Zh (by omega)⟩
   have hxl:=h2 x (Zp hx);rw[Zq,hx]at hr;have hd:=(V6 hr).2;have hsl:=QHb hs
   obtain⟨⟨k1,k2⟩,k3⟩:=ih h (by simp) (fun p hp=>by
    rcases List.mem_append.1 hp with hp | hp
    ·exact h2 p hp
    ·simp at hp;subst hp;omega) (by simp at hd⊢;omega)
   refine⟨⟨k1,?_⟩,k3⟩;simp at k2;omega
theorem QMi {p:List Rat}{R:List (List Rat)}(h:Xc p=some R)(hl:p.length<=1000):(1<=R.length/\R.length<=200000)/\ ∀p∈R,p.length<=1000:=by
 unfold Xc at h;obtain⟨d,hd,h⟩:=bind_some h;obtain⟨_,_,_,h2⟩:=QMh hd;obtain⟨⟨k1,k2⟩,k3⟩:=Qdo h (by simp) (fun q hq=>by simp at hq;subst hq;exact hl) (by omega);unfold FU at k2;simp at k2;exact⟨⟨k1,by omega⟩,k3⟩
theorem QJq {p:List Rat}{R:List (List Rat)}(h:XR p=some R):(1<=(QM p).length/\(QM p).length<=13)/\ ∃d g r s,(GW (QM p)=some d/\KZ FU (QM p) d=some g)/\Xe (QM p) g=some r/\YV (QM r.1)=some s/\s.length<=13/\Xc s=some R:=by
 unfold XR at h;cases h1:Nat.beq (QM p).length 0 with
 | true=>rw[h1]at h;cases h
 | false=>
  rw[h1]at h;cases h2:Nat.ble (QM p).length 13 with
  | false=>rw[h2]at h;cases h
  | true=>
   rw[h2]at h;obtain⟨s,hs,h⟩:=bind_some h;unfold Ws at hs;obtain⟨d,hd,hs⟩:=bind_some hs;obtain⟨g,hg,hs⟩:=bind_some hs;obtain⟨r,hr,hs⟩:=bind_some hs;have e1:=QHb hs;have e2:=Wv r.1;have e3:=(V6 hr).1;have e4:=Nat.le_of_ble_eq_true h2;refine⟨⟨?_,e4⟩,d,g,r,s,⟨hd,hg⟩,hr,hs,by omega,h⟩;cases hz:(QM p).length with
   | zero=>rw[hz]at h1;cases h1
   | succ n=>omega
theorem QC1 {p:List Rat}{R:List (List Rat)}(h:XR p=some R):(1<=R.length/\R.length<=200000)/\ ∀p∈R,p.length<=1000:=by
 obtain⟨_,d,g,r,s,_,_,_,h1,h2⟩:=QJq h;exact QMi h2 (by omega)
theorem Qgj {c:List (List Rat)}(h:1<=c.length): ∃p,c[0]? =some p/\c.getD 0 []=p:=by
 obtain⟨x,hx⟩: ∃x,c[0]? =some x:=⟨_,Zh (by omega)⟩
 exact⟨x,hx,by rw[Zq,hx];rfl⟩
structure QYV where
 n:Nat
 a:List Rat
 b:List Rat
def QYW (p g:List Rat):LI:=fun _=> .inv ⟨QYV,fun e=>⟨[(0,sR 100000 p),(3,sR 100000 e.a),(4,sR 100000 e.b)],[]⟩,fun e=>(e.a.length<=1000/\e.b.length<=1000)/\KZ e.n e.a e.b=some g,fun e=>e.n,fun _=>0⟩
def Qdp:OT:=fun _=>([],[])
def QJr (p:List Rat)(d:List Rat)(g:List Rat)(r:List Rat×List Rat)(s:List Rat)(K:AV->Prop):Prop:=QS QaR Qdp (QYW p g) Tryz.f227 [sR 100000 p] K
theorem QJs (p:List Rat)(d:List Rat)(g:List Rat)(r:List Rat×List Rat)(s:List Rat)(K:AV->Prop):QJr p d g r s K=(∃(p_1:List Rat)(all:List Rat),lR 100000 p=lR 100000 p_1/\(p_1.length<=1000/\KY (Zk 1 p_1) 1 []=some all)/\(∃(x:QYV),(((x.a.length<=1000/\x.b.length<=1000)/\KZ x.n x.a x.b=some g)/\OfNat.ofNat 0=0)/\3=3/\lR 100000 p=lR 100000 p/\3=3/\lR 100000 p=lR 100000 x.a/\3=3/\lR 100000 (QM all)=lR 100000 x.b/\True)/\∀(x:QYV),(x.a.length<=1000/\x.b.length<=1000)/\KZ x.n x.a x.b=some g->OfNat.ofNat 0=0->bif decide (Za (lR 100000 x.b).length>0)then ∃(p_2:List Rat)(q:List Rat)(R:List Rat×List Rat),lR 100000 x.a=lR 100000 p_2/\lR 100000 x.b=lR 100000 q/\((p_2.length<=1000/\1<=q.length/\q.length<=1000)/\Xe p_2 q=some R)/\∃(p_3:List Rat)(all:List Rat),lR 100000 x.b=lR 100000 p_3/\(p_3.length<=1000/\YV p_3=some all)/\∃(x':QYV),(((x'.a.length<=1000/\x'.b.length<=1000)/\KZ x'.n x'.a x'.b=some g)/\OfNat.ofNat 0=0/\x'.n<x.n)/\3=3/\lR 100000 p=lR 100000 p/\3=3/\lR 100000 all=lR 100000 x'.a/\3=3/\lR 100000 R.snd=lR 100000 x'.b/\True else ∃(p_2:List Rat)(q:List Rat)(R:List Rat×List Rat),lR 100000 p=lR 100000 p_2/\lR 100000 x.a=lR 100000 q/\((p_2.length<=1000/\1<=q.length/\q.length<=1000)/\Xe p_2 q=some R)/\∃(p:List Rat),lR 100000 R.fst=lR 100000 p/\p.length<=1000/\∃(p_3:List Rat)(all:List Rat),Zf (QM p).length (Zk 0 (Zi (fun(q:Rat)=>[Zm q 100000]) (QM p)))=lR 100000 p_3/\(p_3.length<=1000/\YV p_3=some all)/\K (AV.x false [Zv 3 (lR 100000 all)])):=by kernel_rfl
theorem Qgk (p:List Rat)(d:List Rat)(g:List Rat)(r:List Rat×List Rat)(s:List Rat)(hc:(p.length<=1000)/\((GW p=some d/\KZ FU p d=some g)/\Xe p g=some r/\YV (QM r.1)=some s))(K:AV->Prop)(hK:K (sR 100000 s)):QO (QJr p d g r s K):=by
 refine⟨?_⟩;rw[QJs];try simp only[Zd,R0,R1,Zj,Zg,R4,R2,R3]
 obtain⟨hl,⟨hd,hg⟩,hr,hs⟩:=hc;obtain⟨all,h1,rfl,h2⟩:=QMh hd;refine⟨p,all,rfl,⟨hl,h1⟩,⟨⟨FU,p,QM all⟩,⟨⟨hl,by simp only;omega⟩,hg⟩,rfl,rfl⟩,fun x ⟨⟨a1,a2⟩,a3⟩=>QG (fun hp=> ?_) (fun hp=> ?_)⟩
 ·have hp:1<=x.b.length:=by have:=R5 hp;rw[Xw]at this;omega
  cases hn:x.n with
  | zero=>rw[hn]at a3;cases a3
  | succ n=>
   rw[hn,KZ,Zs hp]at a3;simp only[R7]at a3;obtain⟨R,hR,a3⟩:=bind_some a3;obtain⟨s2,hs2,a3⟩:=bind_some a3;exact⟨x.a,x.b,R,rfl,rfl,⟨⟨a1,hp,a2⟩,hR⟩,x.b,s2,rfl,⟨a2,hs2⟩,⟨n,s2,R.2⟩,⟨⟨⟨by simp only;rw[QHb hs2];exact a2,Zr (V6 hR).2 a1⟩,a3⟩,by simp only;omega⟩,rfl,rfl⟩
 ·have hp:x.b.length=0:=by have:=R6 hp;rw[Xw]at this;omega
  cases hn:x.n with
  | zero=>rw[hn]at a3;cases a3
  | succ n=>
   rw[hn,KZ,hp]at a3;have a3:some x.a=some g:=a3;have a3:=Option.some.inj a3;rw[a3];rw[a3]at a1;exact⟨p,g,r,rfl,rfl,⟨⟨hl,QTo hr,a1⟩,hr⟩,r.1,rfl,Zr (V6 hr).1 hl,QM r.1,s,K1 rfl,⟨Zr (Wv _) (Zr (V6 hr).1 hl),hs⟩,hK⟩
def QTr:Ctr
 | [.x false [.s 3 xs]]=>some fun K=> ∃(p:List Rat) (d:List Rat) (g:List Rat) (r:List Rat×List Rat) (s:List Rat),xs=lR 100000 p/\((p.length<=1000)/\((GW p=some d/\KZ FU p d=some g)/\Xe p g=some r/\YV (QM r.1)=some s))/\(K (sR 100000 s))
 | _=>none
theorem Qdq:QI 227 QTr:=by
 refine⟨QK Tryz.func227 (by kernel_rfl),fun l T hT K hK=> ?_⟩;unfold QTr at hT;split at hT
 ·cases hT
  obtain⟨p,d,g,r,s,rfl,hc,hK⟩:=hK;exact QF QYR QP Tryz.func227 (by kernel_rfl) (by kernel_rfl) (by rfl) (Qgk _ _ _ _ _ hc K hK)
 ·cases hT
def QTs:List (Nat×Ctr):=(227,QTr)::QTn
noncomputable def QaS:QR:=mkT QTs WQ X4
theorem QNh:QH QTs:= .cons Qdq QNg
theorem QYX:QJ QaS:=QU QNh Xk Ql
structure ChX where
 n:Nat
 i:Nat
 c:List (List Rat)
 q:List Rat
 r:List Rat
def Qgl (c:List (List Rat)):Blk:= .row 41 1 (chN c)
def QYY (R:List (List Rat)):LI:=fun id=>
 bif id.beq 3 then .invf [501] ⟨ChX,fun e=>⟨[(3,.x false [.w 500 0 e.c.length]),(4,sR 100000 e.q)],[(500,Qgl e.c)]⟩,fun e=>((1<=e.c.length/\e.c.length+e.n<=FU+2)/\e.q.length<=1000/\ ∀p∈e.c,p.length<=1000)/\chF e.n e.c e.q=some R,fun e=>e.n,fun _=>0⟩
 else .inv ⟨ChX,fun e=>⟨[(3,.x false [.w 500 0 e.c.length]),(4,.x false [.w 501 0 e.i]),(39,sR 100000 e.r),(40,iA .i64 e.r.length),(41,iA .i64 e.i)],[(500,Qgl e.c),(501,WY 100000 ((e.r.map fun x=> -x).take e.i))]⟩,
  fun e=>(((1<=e.c.length/\e.c.length+e.n<=FU+2)/\e.r.length<=1000/\ ∀p∈e.c,p.length<=1000)/\e.i<=e.r.length)/\chF e.n e.c (e.r.map fun x=> -x)=some R,fun e=>e.r.length-e.i,fun e=>e.n+1⟩
def Qdr:OT:=fun id=>bif id.beq 5 then([0,1,2,3,4,5,6,7,8,9,10,11,12,13,14,15,16,17],[[],[],[1],[2,1],[0,3,2,1],[4,0,3,2,1],[],[],[7],[8,7],[6,9,8,7],[10,6,9,8,7],[5,4,0,3,2,1,11,10,6,9,8,7],[12,5,4,0,3,2,1,11,10,6,9,8,7],[13,12,5,4,0,3,2,1,11,10,6,9,8,7],[13,12,5,4,0,3,2,1,11,10,6,9,8,7],[14,13,12,5,4,0,3,2,1,11,10,6,9,8,7],[15,13,12,5,4,0,3,2,1,11,10,6,9,8,7,16,14]])else([],[])
def QJt (p:List Rat)(R:List (List Rat))(K:AV->Prop):Prop:=QS QaS Qdr (QYY R) Tryz.f226 [sR 100000 p] K
theorem QJu (p:List Rat)(R:List (List Rat))(K:AV->Prop):QJt p R K=(∃(p_1:List Rat)(all:List Rat),lR 100000 p=lR 100000 p_1/\(p_1.length<=1000/\KY (Zk 1 p_1) 1 []=some all)/\(∃(x:ChX),((((1<=x.c.length/\x.c.length+x.n<=100002)/\x.q.length<=1000/\∀(p:List Rat),p∈x.c->p.length<=1000)/\chF x.n x.c x.q=some R)/\OfNat.ofNat 0=0)/\0=0/\1=x.c.length/\3=3/\lR 100000 (QM all)=lR 100000 x.q/\41=41/\1=1/\([[Zv 3 (lR 100000 p)]]=chN x.c∨QC [[Zv 3 (lR 100000 p)]] (chN x.c))/\True)/\∀(x:ChX),((1<=x.c.length/\x.c.length+x.n<=100002)/\x.q.length<=1000/\∀(p:List Rat),p∈x.c->p.length<=1000)/\chF x.n x.c x.q=some R->OfNat.ofNat 0=0->bif decide (Za (lR 100000 x.q).length>0)then ∃(p:List Rat)(all:List Rat),lR 100000 x.q=lR 100000 p/\(p.length<=1000/\YV p=some all)/\((x.c.length+1)*24<=140737488355328/\x.c.length+1<=9223372036854775807)/\(0<=Zb.wrap (Za (x.c.length+1)-2)/\Zb.wrap (Za (x.c.length+1)-2)<Za (x.c.length+1))/\∃(ys:List (List Ch)),ldE (Zf x.c.length (chN x.c)++[[Zv 3 (lR 100000 all)]]) (0+(Zb.wrap (Za (x.c.length+1)-2)).toNat) 0 1=some [Zv 3 ys]/\(0<=Zb.wrap (Za (x.c.length+1)-1)/\Zb.wrap (Za (x.c.length+1)-1)<Za (x.c.length+1))/\∃(ys_1:List (List Ch)),ldE (Zf x.c.length (chN x.c)++[[Zv 3 (lR 100000 all)]]) (0+(Zb.wrap (Za (x.c.length+1)-1)).toNat) 0 1=some [Zv 3 ys_1]/\∃(p:List Rat)(q:List Rat)(R_1:List Rat×List Rat),ys=lR 100000 p/\ys_1=lR 100000 q/\((p.length<=1000/\1<=q.length/\q.length<=1000)/\Xe p q=some R_1)/\((0:Int)=0/\(0:Int)=0/\(0:Int)=0)/\(∃(x_1:ChX),(((((1<=x_1.c.length/\x_1.c.length+x_1.n<=100002)/\x_1.r.length<=1000/\∀(p:List Rat),p∈x_1.c->p.length<=1000)/\x_1.i<=x_1.r.length)/\chF x_1.n x_1.c (Zi (fun(x:Rat)=> -x) x_1.r)=some R)/\x_1.n+1=x.n)/\0=0/\x.c.length+1=x_1.c.length/\0=0/\0=x_1.i/\3=3/\lR 100000 R_1.snd=lR 100000 x_1.r/\Za (lR 100000 R_1.snd).length=Za x_1.r.length/\0=Za x_1.i/\41=41/\1=1/\(Zf x.c.length (chN x.c)++[[Zv 3 (lR 100000 all)]]=chN x_1.c∨QC (Zf x.c.length (chN x.c)++[[Zv 3 (lR 100000 all)]]) (chN x_1.c))/\25=25/\3=3/\([]=Zi (fun(q:Rat)=>[Zm q 100000]) (Zf x_1.i (Zi (fun(x:Rat)=> -x) x_1.r))∨QC [] (Zi (fun(q:Rat)=>[Zm q 100000]) (Zf x_1.i (Zi (fun(x:Rat)=> -x) x_1.r))))/\True)/\∀(x_1:ChX),(((1<=x_1.c.length/\x_1.c.length+x_1.n<=100002)/\x_1.r.length<=1000/\∀(p:List Rat),p∈x_1.c->p.length<=1000)/\x_1.i<=x_1.r.length)/\chF x_1.n x_1.c (Zi (fun(x:Rat)=> -x) x_1.r)=some R->x_1.n+1=x.n->bif decide (Za x_1.i<Za x_1.r.length)then(0<=Za x_1.i/\Za x_1.i<Za (lR 100000 x_1.r).length)/\∃(q:Rat)(n:Nat),ldE (lR 100000 x_1.r) (Za x_1.i).toNat 0 3=some [Zm q n]/\n<=100000/\((x_1.i+1)*40<=140737488355328/\x_1.i+1<=9223372036854775807)/\∃(x':ChX),(((((1<=x'.c.length/\x'.c.length+x'.n<=100002)/\x'.r.length<=1000/\∀(p:List Rat),p∈x'.c->p.length<=1000)/\x'.i<=x'.r.length)/\chF x'.n x'.c (Zi (fun(x:Rat)=> -x) x'.r)=some R)/\x'.n+1=x.n/\x'.r.length-x'.i<x_1.r.length-x_1.i)/\0=0/\x_1.c.length=x'.c.length/\0=0/\x_1.i+1=x'.i/\3=3/\lR 100000 x_1.r=lR 100000 x'.r/\Za x_1.r.length=Za x'.r.length/\Zb.wrap (Za x_1.i+1)=Za x'.i/\41=41/\1=1/\(chN x_1.c=chN x'.c∨QC (chN x_1.c) (chN x'.c))/\25=25/\3=3/\(Zf x_1.i (Zi (fun(q:Rat)=>[Zm q 100000]) (Zf x_1.i (Zi (fun(x:Rat)=> -x) x_1.r)))++[[Zm (-q) 100000]]=Zi (fun(q:Rat)=>[Zm q 100000]) (Zf x'.i (Zi (fun(x:Rat)=> -x) x'.r))∨QC (Zf x_1.i (Zi (fun(q:Rat)=>[Zm q 100000]) (Zf x_1.i (Zi (fun(x:Rat)=> -x) x_1.r)))++[[Zm (-q) 100000]]) (Zi (fun(q:Rat)=>[Zm q 100000]) (Zf x'.i (Zi (fun(x:Rat)=> -x) x'.r))))/\True else ∃(x':ChX),((((1<=x'.c.length/\x'.c.length+x'.n<=100002)/\x'.q.length<=1000/\∀(p:List Rat),p∈x'.c->p.length<=1000)/\chF x'.n x'.c x'.q=some R)/\OfNat.ofNat 0=0/\x'.n<x.n)/\0=0/\x_1.c.length=x'.c.length/\3=3/\Zf x_1.i (Zk 0 (Zi (fun(q:Rat)=>[Zm q 100000]) (Zf x_1.i (Zi (fun(x:Rat)=> -x) x_1.r))))=lR 100000 x'.q/\41=41/\1=1/\(chN x_1.c=chN x'.c∨QC (chN x_1.c) (chN x'.c))/\True else K (AV.x false [Zv 1 (Zf x.c.length (Zk 0 (chN x.c)))])):=by kernel_rfl
theorem Qgm (p:List Rat)(R:List (List Rat))(hc:(p.length<=1000)/\(Xc p=some R))(K:AV->Prop)(hK:K (sC R)):QO (QJt p R K):=by
 refine⟨?_⟩;rw[QJu];try simp only[Zd,R0,R1,Zj,Zg,R4,R2,R3]
 obtain⟨hl,hR⟩:=hc;unfold Xc at hR;obtain⟨d,hd,hR⟩:=bind_some hR;obtain⟨all,h1,rfl,h2⟩:=QMh hd;refine⟨p,all,rfl,⟨hl,h1⟩,⟨⟨FU,0,[p],QM all,[]⟩,⟨⟨⟨by simp,by simp only[List.length_singleton,FU];omega⟩,by simp only;omega,fun q hq=>by simp at hq;subst hq;exact hl⟩,hR⟩,rfl,rfl,.inl rfl⟩,fun x ⟨⟨⟨a1,a2⟩,a3,a4⟩,av⟩=>QG (fun hp=> ?_) (fun hp=> ?_)⟩
 ·have hp:1<=x.q.length:=by have:=R5 hp;rw[Xw]at this;omega
  cases hn:x.n with
  | zero=>rw[hn]at av;cases av
  | succ n=>
   rw[hn,chF,Zs hp]at av;simp only[R7]at av;obtain⟨s,hs,av⟩:=bind_some av;obtain⟨r,hr,av⟩:=bind_some av;obtain⟨l,hl'⟩: ∃l,x.c[x.c.length-1]? =some l:=⟨_,Zh (by omega)⟩
   rw[Zq,hl']at hr;have ew1:Zb.wrap (((x.c.length+1:Nat):Int)-2)=((x.c.length-1:Nat):Int):=by rw[w64 (by omega)];omega
   have ew2:Zb.wrap (((x.c.length+1:Nat):Int)-1)=((x.c.length:Nat):Int):=by rw[w64 (by omega)];omega
   have el:=a4 l (Zp hl');have es:=QHb hs;have er:=(V6 hr).2;have er:r.2.length<=1000:=Zr er el;rw[ew1,ew2];simp only[Int.toNat_natCast];refine⟨x.q,s,rfl,⟨a3,hs⟩,⟨by omega,by omega⟩,⟨by omega,by omega⟩,lR 100000 l,?_,⟨by omega,by omega⟩,lR 100000 s,?_,l,s,r,rfl,rfl,⟨⟨el,by omega,by omega⟩,hr⟩,⟨⟨n,0,x.c++[s],[],r.2⟩,⟨⟨⟨⟨⟨by simp,by simp;omega⟩,er,fun q hq=> ?_⟩,Nat.zero_le _⟩,av⟩,by simp only⟩,by simp,rfl,rfl,by rw[Xw],rfl,.inl QMg,.inl (by simp)⟩,fun y ⟨⟨⟨⟨b1,b2⟩,b3,b4⟩,b5⟩,bv⟩ hyn=>QG (fun hj=> ?_) (fun hj=> ?_)⟩
   ·rw[QMg];exact QJp (by rw[List.getElem?_append_left (by omega)];exact hl')
   ·rw[QMg];exact QJp (by rw[List.getElem?_append_right (Zg _),Nat.sub_self];rfl)
   ·rcases List.mem_append.1 hq with hq | hq
    ·exact a4 q hq
    ·simp at hq;subst hq;omega
   ·have hj:y.i<y.r.length:=by have:=R5 hj;omega
    obtain⟨q,hq⟩: ∃q,y.r[y.i]? =some q:=⟨_,Zh (by omega)⟩
    refine⟨by rw[Xw];omega,q,100000,JB hq,by omega,⟨by omega,by omega⟩,⟨y.n,y.i+1,y.c,[],y.r⟩,⟨⟨⟨⟨⟨b1,b2⟩,b3,b4⟩,by simp only;omega⟩,bv⟩,hyn,by simp only;omega⟩,rfl,rfl,rfl,rfl,by rw[w64 (by omega)];simp,.inl rfl,.inl ?_⟩;rw[Zo (by simp;omega),List.take_add_one,List.getElem?_map,hq,List.map_append];rfl
   ·have hj:y.i=y.r.length:=by have:=R6 hj;omega
    have e:Zf y.i (Zi (fun x=> -x) y.r)=Zi (fun x=> -x) y.r:=Zo (by simp;omega);refine⟨⟨y.n,0,y.c,y.r.map fun x=> -x,[]⟩,⟨⟨⟨⟨b1,b2⟩,by simp only[List.length_map];exact b3,b4⟩,bv⟩,by simp only;omega⟩,rfl,?_,.inl rfl⟩;rw[e];exact K1 (by simp;omega)
 ·have hp:x.q.length=0:=by have:=R6 hp;rw[Xw]at this;omega
  cases hn:x.n with
  | zero=>rw[hn]at av;cases av
  | succ n=>
   rw[hn,chF,hp]at av;have av:some x.c=some R:=av;have av:=Option.some.inj av;rw[QYS,av];exact hK
def QTt:Ctr
 | [.x false [.s 3 xs]]=>some fun K=> ∃(p:List Rat) (R:List (List Rat)),xs=lR 100000 p/\((p.length<=1000)/\(Xc p=some R))/\(K (sC R))
 | _=>none
theorem Qds:QI 226 QTt:=by
 refine⟨QK Tryz.func226 (by kernel_rfl),fun l T hT K hK=> ?_⟩;unfold QTt at hT;split at hT
 ·cases hT
  obtain⟨p,R,rfl,hc,hK⟩:=hK;exact QF QYX QP Tryz.func226 (by kernel_rfl) (by kernel_rfl) (by rfl) (Qgm _ _ hc K hK)
 ·cases hT
def QTu:List (Nat×Ctr):=(226,QTt)::QTs
noncomputable def QaT:QR:=mkT QTu WQ X4
theorem QNi:QH QTu:= .cons Qds QNh
theorem QYZ:QJ QaT:=QU QNi Xk Ql
structure CgX where
 i:Nat
 k:Int
 l:Int
def QTv (c:List (List Rat))(x:Rat)(n:Nat)(R:Int):LI:=fun id=>
 bif id.beq 3 then .inv ⟨CgX,fun e=>⟨[(0,sC c),(3,.x false [.p 3 0]),(5,iA .i64 e.k),(6,iA .i64 e.l),(10,sC c),(11,iA .i64 c.length),(12,iA .i64 e.i)],[(3,.box 25 [.r x n])]⟩,fun e=>(e.i<=c.length/\(0<=e.k/\e.k<=e.i)/\ -1<=e.l/\e.l<=1)/\Ka x (c.drop e.i) e.k e.l=some R,fun e=>c.length-e.i,fun _=>0⟩
 else bif id.beq 8 then .cut ⟨CgX×Int,fun e=>⟨[(0,sC c),(3,.x false [.p 3 0]),(5,iA .i64 e.1.k),(6,iA .i64 e.1.l),(9,iA .i64 e.2),(10,sC c),(11,iA .i64 c.length),(12,iA .i64 e.1.i)],[(3,.box 25 [.r x n])]⟩,fun e=>(e.1.i<c.length/\(0<=e.1.k/\e.1.k<=e.1.i+1)/\(-1<=e.1.l/\e.1.l<=1)/\ -1<=e.2/\e.2<=1)/\Ka x (c.drop (e.1.i+1)) e.1.k (bif e.2==0 then e.1.l else e.2)=some R,fun _=>0,fun e=>c.length-e.1.i⟩
 else .no
def QYa:OT:=fun _=>([],[])
def QFY (c:List (List Rat))(x:Rat)(n:Nat)(R:Int)(K:AV->Prop):Prop:=QS QaT QYa (QTv c x n R) Tryz.f228 [sC c,rA x n] K
theorem QHc (c:List (List Rat))(x:Rat)(n:Nat)(R:Int)(K:AV->Prop):QFY c x n R K=((∃(x_1:CgX),(((x_1.i<=c.length/\(0<=x_1.k/\x_1.k<=Za x_1.i)/\ -1<=x_1.l/\x_1.l<=1)/\Ka x (Zk x_1.i c) x_1.k x_1.l=some R)/\OfNat.ofNat 0=0)/\1=1/\chN c=chN c/\0=0/\0=x_1.k/\0=x_1.l/\1=1/\chN c=chN c/\Za (chN c).length=Za c.length/\0=Za x_1.i/\25=25/\x=x/\n<=n/\True)/\∀(x_1:CgX),(x_1.i<=c.length/\(0<=x_1.k/\x_1.k<=Za x_1.i)/\ -1<=x_1.l/\x_1.l<=1)/\Ka x (Zk x_1.i c) x_1.k x_1.l=some R->OfNat.ofNat 0=0->bif decide (Za x_1.i<Za c.length)then(0<=Za x_1.i/\Za x_1.i<Za (chN c).length)/\∃(ys:List (List Ch)),ldE (chN c) (Za x_1.i).toNat 0 1=some [Zv 3 ys]/\∃(p:List Rat)(r:Rat),ys=lR 100000 p/\((p.length<=1000/\n<=100000)/\Xo p x=some r)/\100000<=4294967296/\(bif decide (Zb.wrap (Qa r*x_1.l)<0)then ∃(x_2:CgX×Int),(((x_2.fst.i<c.length/\(0<=x_2.fst.k/\x_2.fst.k<=Za x_2.fst.i+1)/\(-1<=x_2.fst.l/\x_2.fst.l<=1)/\ -1<=x_2.snd/\x_2.snd<=1)/\Ka x (Zk (x_2.fst.i+1) c) x_2.fst.k (bif x_2.snd==0 then x_2.fst.l else x_2.snd)=some R)/\c.length-x_2.fst.i=c.length-x_1.i)/\1=1/\chN c=chN c/\0=0/\Zb.wrap (x_1.k+1)=x_2.fst.k/\x_1.l=x_2.fst.l/\Qa r=x_2.snd/\1=1/\chN c=chN c/\Za c.length=Za c.length/\Za x_1.i=Za x_2.fst.i/\25=25/\x=x/\n<=n/\True else ∃(x_2:CgX×Int),(((x_2.fst.i<c.length/\(0<=x_2.fst.k/\x_2.fst.k<=Za x_2.fst.i+1)/\(-1<=x_2.fst.l/\x_2.fst.l<=1)/\ -1<=x_2.snd/\x_2.snd<=1)/\Ka x (Zk (x_2.fst.i+1) c) x_2.fst.k (bif x_2.snd==0 then x_2.fst.l else x_2.snd)=some R)/\c.length-x_2.fst.i=c.length-x_1.i)/\1=1/\chN c=chN c/\0=0/\x_1.k=x_2.fst.k/\x_1.l=x_2.fst.l/\Qa r=x_2.snd/\1=1/\chN c=chN c/\Za c.length=Za c.length/\Za x_1.i=Za x_2.fst.i/\25=25/\x=x/\n<=n/\True)/\∀(x_2:CgX×Int),(x_2.fst.i<c.length/\(0<=x_2.fst.k/\x_2.fst.k<=Za x_2.fst.i+1)/\(-1<=x_2.fst.l/\x_2.fst.l<=1)/\ -1<=x_2.snd/\x_2.snd<=1)/\Ka x (Zk (x_2.fst.i+1) c) x_2.fst.k (bif x_2.snd==0 then x_2.fst.l else x_2.snd)=some R->c.length-x_2.fst.i=c.length-x_1.i->bif x_2.snd !=0 then ∃(x':CgX),(((x'.i<=c.length/\(0<=x'.k/\x'.k<=Za x'.i)/\ -1<=x'.l/\x'.l<=1)/\Ka x (Zk x'.i c) x'.k x'.l=some R)/\OfNat.ofNat 0=0/\c.length-x'.i<c.length-x_1.i)/\1=1/\chN c=chN c/\0=0/\x_2.fst.k=x'.k/\x_2.snd=x'.l/\1=1/\chN c=chN c/\Za c.length=Za c.length/\Zb.wrap (Za x_2.fst.i+1)=Za x'.i/\25=25/\x=x/\n<=n/\True else ∃(x':CgX),(((x'.i<=c.length/\(0<=x'.k/\x'.k<=Za x'.i)/\ -1<=x'.l/\x'.l<=1)/\Ka x (Zk x'.i c) x'.k x'.l=some R)/\OfNat.ofNat 0=0/\c.length-x'.i<c.length-x_1.i)/\1=1/\chN c=chN c/\0=0/\x_2.fst.k=x'.k/\x_2.fst.l=x'.l/\1=1/\chN c=chN c/\Za c.length=Za c.length/\Zb.wrap (Za x_2.fst.i+1)=Za x'.i/\25=25/\x=x/\n<=n/\True else K (AV.x false [Zt (Zl Zb x_1.k)])):=by kernel_rfl
theorem Qdt (c:List (List Rat))(x:Rat)(n:Nat)(R:Int)(hc:((c.length<=200000/\n<=100000)/\ ∀p∈c,p.length<=1000)/\(Xd c x=some R))(K:AV->Prop)(hK:(0<=R/\R<=c.length)->K (iA .i64 R)):QO (QFY c x n R K):=by
  refine⟨?_⟩;rw[QHc];try simp only[Zd,R0,R1,Zj,Zg,R4,R2,R3]
  obtain⟨⟨⟨hl,hn⟩,hp⟩,hR⟩:=hc;simp only[QC0,R0];refine⟨⟨⟨0,0,0⟩,⟨⟨Nat.zero_le _,⟨by decide,by decide⟩,by decide,by decide⟩,hR⟩,rfl,rfl,rfl⟩,fun e ⟨⟨h1,⟨h2,h3⟩,h4,h5⟩,hv⟩=>QG (fun hj=> ?_) (fun hj=> ?_)⟩
  · have hj:e.i<c.length:=by have:=R5 hj;omega
    obtain⟨q,hq⟩: ∃q,c[e.i]? =some q:=⟨_,Zh (by omega)⟩
    have ed:c.drop e.i=q::c.drop (e.i+1):=by
      rw[List.drop_eq_getElem_cons hj];congr 1;rw[Zh hj]at hq;exact Option.some.inj hq
    rw[ed,Ka]at hv;obtain⟨r,hr,hv⟩:=bind_some hv;have sb:=Qgi r;have ew:Zb.wrap (Qa r*e.l)=Qa r*e.l:=by rcases sb with s | s | s<;>rw[s]<;>rw[w64 (by omega)]
    rw[Int.toNat_natCast];refine⟨by omega,_,QJp hq,q,r,rfl,⟨⟨hp q (Zp hq),hn⟩,hr⟩,by omega,⟨by rw[ew];refine QG (fun hb=> ?_) (fun hb=> ?_);exact(by rw[hb]at hv;exact⟨⟨⟨e.i,e.k+1,e.l⟩,Qa r⟩,⟨⟨⟨hj,⟨by simp only;omega,by simp only;omega⟩,⟨h4,h5⟩,by simp only;omega,by simp only;omega⟩,hv⟩,rfl⟩,by rw[w64 (by omega)],rfl,rfl,rfl⟩);exact(by rw[hb]at hv;exact⟨⟨⟨e.i,e.k,e.l⟩,Qa r⟩,⟨⟨⟨hj,⟨h2,by simp only;omega⟩,⟨h4,h5⟩,by simp only;omega,by simp only;omega⟩,hv⟩,rfl⟩,rfl,rfl,rfl,rfl⟩),fun y ⟨⟨y1,⟨y2,y3⟩,⟨y4,y5⟩,y6,y7⟩,yv⟩ yt=>QG (fun hb=> ?_) (fun hb=> ?_)⟩⟩
    · have e0:(y.2==0)=false:=by
        cases hz:y.2==0 with
        | false=>rfl
        | true=>simp at hz;rw[hz]at hb;cases hb
      rw[e0]at yv;exact⟨⟨y.1.i+1,y.1.k,y.2⟩,⟨⟨⟨by simp only;omega,⟨y2,by simp only;omega⟩,y6,y7⟩,yv⟩,by simp only;omega⟩,rfl,rfl,by rw[w64 (by omega)];simp⟩
    · have e0:(y.2==0)=true:=by
        cases hz:y.2==0 with
        | true=>rfl
        | false => have : (y.2 != 0) = true := by simp only [bne, hz]; rfl
                   rw[this]at hb;cases hb
      rw[e0]at yv;exact⟨⟨y.1.i+1,y.1.k,y.1.l⟩,⟨⟨⟨by simp only;omega,⟨y2,by simp only;omega⟩,y4,y5⟩,yv⟩,by simp only;omega⟩,rfl,rfl,by rw[w64 (by omega)];simp⟩
  · have hj:c.length<=e.i:=by have:=R6 hj;omega
    rw[List.drop_eq_nil_of_le hj]at hv;cases hv
    exact hK ⟨h2,by omega⟩
def QMj:Ctr
 | [.x false [.s 1 xs],.x true [.r x n]]=>some fun K=> ∃(c:List (List Rat)) (R:Int),xs=chN c/\(((c.length<=200000/\n<=100000)/\ ∀p∈c,p.length<=1000)/\(Xd c x=some R))/\((0<=R/\R<=c.length)->K (iA .i64 R))
 | _=>none
theorem QYb:QI 228 QMj:=by
 refine⟨QK Tryz.func228 (by kernel_rfl),fun l T hT K hK=> ?_⟩;unfold QMj at hT;split at hT
 ·cases hT
  obtain⟨c,R,rfl,hc,hK⟩:=hK;exact QF QYZ QP Tryz.func228 (by kernel_rfl) (by kernel_rfl) (by rfl) (Qdt _ _ _ _ hc K hK)
 ·cases hT
def QTw:List (Nat×Ctr):=(228,QMj)::QTu
noncomputable def QaU:QR:=mkT QTw WQ X4
theorem QNj:QH QTw:= .cons QYb QNi
theorem QYc:QJ QaU:=QU QNj Xk Ql
def QTx:OT:=fun id=>bif id.beq 1 then([0,1,2,3,4,5,6,7],[[],[0],[1,0],[],[2,1,0,3],[4,2,1,0,3],[5,4,2,1,0,3],[6,5,4,2,1,0,3]])else([],[])
def QC2 (c:List (List Rat))(x:Rat)(n:Nat)(R:Bool)(K:AV->Prop):Prop:=QS QaU QTx noL Tryz.f229 [sC c,rA x n] K
theorem QD8 (c:List (List Rat))(x:Rat)(n:Nat)(R:Bool)(K:AV->Prop):QC2 c x n R K=(((0:Int)<=0/\0<Za (chN c).length)/\∃(ys:List (List Ch)),ldE (chN c) 0 0 1=some [Zv 3 ys]/\∃(p:List Rat)(r:Rat),ys=lR 100000 p/\((p.length<=1000/\n<=100000)/\Xo p x=some r)/\100000<=4294967296/\K (AV.x false [Zt (Zu (Qa r==0))])):=by kernel_rfl
theorem QYd (c:List (List Rat))(x:Rat)(n:Nat)(R:Bool)(hc:((1<=c.length/\n<=100000)/\ ∀p∈c,p.length<=1000)/\(YN c x=some R))(K:AV->Prop)(hK:K (.x false [.v (.bool R)])):QO (QC2 c x n R K):=by
 refine⟨?_⟩;rw[QD8];try simp only[Zd,R0,R1,Zj,Zg,R4,R2,R3]
 obtain⟨⟨⟨h1,hn⟩,hp⟩,hz⟩:=hc;obtain⟨q,hq,hg⟩:=Qgj h1;unfold YN at hz;rw[hg]at hz;obtain⟨e,he,hz⟩:=bind_some hz;cases hz
 exact⟨by rw[QC0];omega,_,QJp hq,q,e,rfl,⟨⟨hp q (Zp hq),hn⟩,he⟩,by omega,hK⟩
def QHd:Ctr
 | [.x false [.s 1 xs],.x true [.r x n]]=>some fun K=> ∃(c:List (List Rat)) (R:Bool),xs=chN c/\(((1<=c.length/\n<=100000)/\ ∀p∈c,p.length<=1000)/\(YN c x=some R))/\(K (.x false [.v (.bool R)]))
 | _=>none
theorem QTy:QI 229 QHd:=by
 refine⟨QK Tryz.func229 (by kernel_rfl),fun l T hT K hK=> ?_⟩;unfold QHd at hT;split at hT
 ·cases hT
  obtain⟨c,R,rfl,hc,hK⟩:=hK;exact QF QYc QP Tryz.func229 (by kernel_rfl) (by kernel_rfl) (by rfl) (QYd _ _ _ _ hc K hK)
 ·cases hT
def QTz:List (Nat×Ctr):=(229,QHd)::QTw
noncomputable def QaV:QR:=mkT QTz WQ X4
theorem QNk:QH QTz:= .cons QTy QNj
theorem QYe:QJ QaV:=QU QNk Xk Ql
def QYf:OT:=fun id=>bif id.beq 1 then([0,1,2,4,5,6,3,7,8,9],[[],[],[1],[0,2,1],[],[],[5],[4,6,5,3,0,2,1],[3,0,2,1,7,4,6,5],[8,3,0,2,1,7,4,6,5]])else([],[])
def QFZ (c:List (List Rat))(s:Sp)(R:Int)(K:AV->Prop):Prop:=QS QaV QYf noL Tryz.f192 [sC c,.x true [.r s.lo 100000,.r s.hi 100000]] K
theorem QHe (c:List (List Rat))(s:Sp)(R:Int)(K:AV->Prop):QFZ c s R K=(∃(c_1:List (List Rat))(R:Int),chN c=chN c_1/\(((c_1.length<=200000/\100000<=100000)/\∀(p:List Rat),p∈c_1->p.length<=1000)/\Xd c_1 s.lo=some R)/\(0<=R/\R<=Za c_1.length->∃(c_2:List (List Rat))(R_1:Int),chN c=chN c_2/\(((c_2.length<=200000/\100000<=100000)/\∀(p:List Rat),p∈c_2->p.length<=1000)/\Xd c_2 s.hi=some R_1)/\(0<=R_1/\R_1<=Za c_2.length->∃(c_3:List (List Rat))(R_2:Bool),chN c=chN c_3/\(((1<=c_3.length/\100000<=100000)/\∀(p:List Rat),p∈c_3->p.length<=1000)/\YN c_3 s.lo=some R_2)/\bif R_2 then K (AV.x false [Zt (Zl Zb (Zb.wrap (Zb.wrap (R-R_1)+1)))])else K (AV.x false [Zt (Zl Zb (Zb.wrap (R-R_1)))])))):=by kernel_rfl
theorem Qdu (c:List (List Rat))(s:Sp)(R:Int)(hc:((1<=c.length/\c.length<=200000)/\ ∀p∈c,p.length<=1000)/\(X9 c s=some R))(K:AV->Prop)(hK:K (iA .i64 R)):QO (QFZ c s R K):=by
 refine⟨?_⟩;rw[QHe];try simp only[Zd,R0,R1,Zj,Zg,R4,R2,R3]
 obtain⟨⟨⟨h1,h2⟩,hp⟩,hz⟩:=hc;unfold X9 at hz;obtain⟨A,hA,hz⟩:=bind_some hz;obtain⟨B,hB,hz⟩:=bind_some hz;obtain⟨z,hzz,hz⟩:=bind_some hz;cases hz
 refine⟨c,A,rfl,⟨⟨h2,hp⟩,hA⟩,fun hA2=>⟨c,B,rfl,⟨⟨h2,hp⟩,hB⟩,fun hB2=>⟨c,z,rfl,⟨⟨h1,hp⟩,hzz⟩,?_⟩⟩⟩;rw[w64 (by omega: -9223372036854775808<=A-B/\A-B<9223372036854775808),w64 (by omega)];cases z with
 | true=>exact hK
 | false=>exact hK
def QMk:Ctr
 | [.x false [.s 1 xs],.x true ys]=>some fun K=> ∃(c:List (List Rat)) (s:Sp) (R:Int),xs=chN c/\ys=[.r s.lo 100000,.r s.hi 100000]/\(((1<=c.length/\c.length<=200000)/\ ∀p∈c,p.length<=1000)/\(X9 c s=some R))/\(K (iA .i64 R))
 | _=>none
theorem QYg:QI 192 QMk:=by
 refine⟨QK Tryz.func192 (by kernel_rfl),fun l T hT K hK=> ?_⟩;unfold QMk at hT;split at hT
 ·cases hT
  obtain⟨c,s,R,rfl,rfl,hc,hK⟩:=hK;exact QF QYe QP Tryz.func192 (by kernel_rfl) (by kernel_rfl) (by rfl) (Qdu _ _ _ hc K hK)
 ·cases hT
def QT0:List (Nat×Ctr):=(192,QMk)::QTz
noncomputable def QaW:QR:=mkT QT0 WQ X4
theorem QNl:QH QT0:= .cons QYg QNk
theorem QYh:QJ QaW:=QU QNl Xk Ql
def QT1:OT:=fun _=>([],[])
def QC3 (x:Int)(y:Int)(K:AV->Prop):Prop:=QS QaW QT1 noL Tryz.f146 [iA .i64 x,iA .i64 y] K
theorem QD9 (x:Int)(y:Int)(K:AV->Prop):QC3 x y K=((-9223372036854775808<=x/\x<9223372036854775808)/\(-9223372036854775808<=y/\y<9223372036854775808)/\200000<=4294967296/\∃(r:Rat),QD5 ↑x ↑y=some r/\K (AV.t [(true,[Zm r 100000]),(false,[Zt (Zl Zb 0)])])):=by kernel_rfl
theorem QYi (x:Int)(y:Int)(hc:((-9223372036854775808<=x/\x<9223372036854775808)/\ -9223372036854775808<=y/\y<9223372036854775808)/\((y:Rat)≠0))(K:AV->Prop)(hK:K (.t [(true,[.r ((x:Rat)/(y:Rat)) 100000]),(false,[.v (.int .i64 0)])])):QO (QC3 x y K):=by
 refine⟨?_⟩;rw[QD9];try simp only[Zd,R0,R1,Zj,Zg,R4,R2,R3]
 obtain⟨⟨hx,hy⟩,h0⟩:=hc;have p64:(2:Nat)^64=18446744073709551616:=by decide
 have bx:Bd 64 (x:Rat):=QTb (by omega) (by decide);have b2:Bd 64 (y:Rat):=QTb (by omega) (by decide);exact⟨hx,hy,by omega,_,HT bx b2 h0 (by omega),hK⟩
def QHf:Ctr
 | [.x false [.v (.int .i64 x)],.x false [.v (.int .i64 y)]]=>some fun K=>(((-9223372036854775808<=x/\x<9223372036854775808)/\ -9223372036854775808<=y/\y<9223372036854775808)/\((y:Rat)≠0))/\(K (.t [(true,[.r ((x:Rat)/(y:Rat)) 100000]),(false,[.v (.int .i64 0)])]))
 | _=>none
theorem QT2:QI 146 QHf:=by
 refine⟨QK Tryz.func146 (by kernel_rfl),fun l T hT K hK=> ?_⟩;unfold QHf at hT;split at hT
 ·cases hT
  obtain⟨hc,hK⟩:=hK;exact QF QYh QP Tryz.func146 (by kernel_rfl) (by kernel_rfl) (by rfl) (QYi _ _ hc K hK)
 ·cases hT
def QT3:List (Nat×Ctr):=(146,QHf)::QT0
noncomputable def QaX:QR:=mkT QT3 WQ X4
theorem QNm:QH QT3:= .cons QT2 QNl
theorem QYj:QJ QaX:=QU QNm Xk Ql
def QYk:OT:=fun id=>bif id.beq 2 then([0,1,2,3,4,5,6,7],[[],[],[1],[],[3],[2,1,4,3],[0,5,2,1,4,3],[6,0,5,2,1,4,3]])else([],[])
def QFa (s:Sp)(K:AV->Prop):Prop:=QS QaX QYk noL Tryz.f230 [.x true [.r s.lo 100000,.r s.hi 100000]] K
theorem QHg (s:Sp)(K:AV->Prop):QFa s K=(((((-9223372036854775808:Int)<=1/\(1:Int)<9223372036854775808)/\(-9223372036854775808:Int)<=2/\(2:Int)<9223372036854775808)/\(↑(2:Int):Rat)≠OfNat.ofNat 0)/\200001<=4294967296/\∃(r:Rat),Wx s.lo s.hi=some r/\200000<=4294967296/\∃(r_1:Rat),YB ((↑(1:Int):Rat)/(↑(2:Int):Rat)) r=some r_1/\K (AV.x true [Zm r_1 100000])):=by kernel_rfl
theorem Qdv (s:Sp)(hc:True)(K:AV->Prop)(hK: ∃R,Vm s=some R/\K (rA R 100000)):QO (QFa s K):=by
 refine⟨?_⟩;rw[QHg];try simp only[Zd,R0,R1,Zj,Zg,R4,R2,R3]
 obtain⟨R,hR,hK⟩:=hK;unfold Vm at hR;obtain⟨m,hm,hR⟩:=bind_some hR;exact⟨⟨⟨by omega,by omega⟩,by decide+kernel⟩,by omega,m,hm,by omega,R,hR,hK⟩
def QMl:Ctr
 | [.x true ys]=>some fun K=> ∃(s:Sp),ys=[.r s.lo 100000,.r s.hi 100000]/\(True)/\(∃R,Vm s=some R/\K (rA R 100000))
 | _=>none
theorem QYl:QI 230 QMl:=by
 refine⟨QK Tryz.func230 (by kernel_rfl),fun l T hT K hK=> ?_⟩;unfold QMl at hT;split at hT
 ·cases hT
  obtain⟨s,rfl,hc,hK⟩:=hK;exact QF QYj QP Tryz.func230 (by kernel_rfl) (by kernel_rfl) (by rfl) (Qdv _ hc K hK)
 ·cases hT
def QT4:List (Nat×Ctr):=(230,QMl)::QT3
noncomputable def QaY:QR:=mkT QT4 WQ X4
theorem QNn:QH QT4:= .cons QYl QNm
theorem QYm:QJ QaY:=QU QNn Xk Ql
def QPv:OT:=fun _=>([],[])
def QAJ (c:List (List Rat))(s:Sp)(R:Sp)(K:AV->Prop):Prop:=QS QaY QPv noL Tryz.f193 [sC c,.x true [.r s.lo 100000,.r s.hi 100000]] K
theorem QC4 (c:List (List Rat))(s:Sp)(R:Sp)(K:AV->Prop):QAJ c s R K=(∃(s_1:Sp),[Zm s.lo 100000,Zm s.hi 100000]=[Zm s_1.lo 100000,Zm s_1.hi 100000]/\True/\∃(R:Rat),Vm s_1=some R/\∃(c_1:List (List Rat))(R_1:Bool),chN c=chN c_1/\(((1<=c_1.length/\100000<=100000)/\∀(p:List Rat),p∈c_1->p.length<=1000)/\YN c_1 R=some R_1)/\bif R_1 then 100000<=2000000000/\K (AV.x true [Zm R 100000,Zm R 100000])else ∃(c_2:List (List Rat))(s_2:Sp)(R_2:Int),chN c=chN c_2/\[Zm s.lo 100000,Zm R 100000]=[Zm s_2.lo 100000,Zm s_2.hi 100000]/\(((1<=c_2.length/\c_2.length<=200000)/\∀(p:List Rat),p∈c_2->p.length<=1000)/\X9 c_2 s_2=some R_2)/\bif R_2==1 then K (AV.x true [Zm s.lo 100000,Zm R 100000])else K (AV.x true [Zm R 100000,Zm s.hi 100000])):=by kernel_rfl
theorem QT5 (c:List (List Rat))(s:Sp)(R:Sp)(hc:((1<=c.length/\c.length<=200000)/\ ∀p∈c,p.length<=1000)/\(J3 c s=some R))(K:AV->Prop)(hK:K (.x true [.r R.lo 100000,.r R.hi 100000])):QO (QAJ c s R K):=by
 refine⟨?_⟩;rw[QC4];try simp only[Zd,R0,R1,Zj,Zg,R4,R2,R3]
 obtain⟨⟨⟨h1,h2⟩,hp⟩,hz⟩:=hc;unfold J3 at hz;obtain⟨m,hm,hz⟩:=bind_some hz;obtain⟨z,hzz,hz⟩:=bind_some hz;refine⟨s,rfl,m,hm,c,z,rfl,⟨⟨h1,hp⟩,hzz⟩,QG (fun hb=> ?_) (fun hb=> ?_)⟩
 ·rw[hb]at hz;cases hz
  exact⟨by omega,hK⟩
 ·rw[hb]at hz;obtain⟨n,hn,hz⟩:=bind_some hz;refine⟨c,⟨s.lo,m⟩,n,rfl,rfl,⟨⟨⟨h1,h2⟩,hp⟩,hn⟩,QG (fun hb=> ?_) (fun hb=> ?_)⟩
  ·rw[hb]at hz;cases hz
   exact hK
  ·rw[hb]at hz;cases hz
   exact hK
def QC5:Ctr
 | [.x false [.s 1 xs],.x true ys]=>some fun K=> ∃(c:List (List Rat)) (s:Sp) (R:Sp),xs=chN c/\ys=[.r s.lo 100000,.r s.hi 100000]/\(((1<=c.length/\c.length<=200000)/\ ∀p∈c,p.length<=1000)/\(J3 c s=some R))/\(K (.x true [.r R.lo 100000,.r R.hi 100000]))
 | _=>none
theorem QPw:QI 193 QC5:=by
 refine⟨QK Tryz.func193 (by kernel_rfl),fun l T hT K hK=> ?_⟩;unfold QC5 at hT;split at hT
 ·cases hT
  obtain⟨c,s,R,rfl,rfl,hc,hK⟩:=hK;exact QF QYm QP Tryz.func193 (by kernel_rfl) (by kernel_rfl) (by rfl) (QT5 _ _ _ hc K hK)
 ·cases hT
def QT6:List (Nat×Ctr):=(193,QC5)::QT4
noncomputable def QaZ:QR:=mkT QT6 WQ X4
theorem QNo:QH QT6:= .cons QPw QNn
theorem QYn:QJ QaZ:=QU QNo Xk Ql
def QPx:OT:=fun _=>([],[])
def QAK (p:List Rat)(R:List (List Rat))(K:AV->Prop):Prop:=QS QaZ QPx noL Tryz.f191 [sR 100000 p] K
theorem QC6 (p:List Rat)(R:List (List Rat))(K:AV->Prop):QAK p R K=(∃(p_1:List Rat),lR 100000 p=lR 100000 p_1/\p_1.length<=1000/\bif Za (QM p_1).length==0 then K (AV.t [(false,[Zt (Value.slice none 0 0)]),(false,[Zt (Zl Zb 12)])])else bif decide (Za (QM p_1).length>13)then K (AV.t [(false,[Zt (Value.slice none 0 0)]),(false,[Zt (Zl Zb 2)])])else ∃(p:List Rat)(d:List Rat)(g:List Rat)(r:List Rat×List Rat)(s:List Rat),Zf (QM p_1).length (Zk 0 (Zi (fun(q:Rat)=>[Zm q 100000]) (QM p_1)))=lR 100000 p/\(p.length<=1000/\(GW p=some d/\KZ 100000 p d=some g)/\Xe p g=some r/\YV (QM r.fst)=some s)/\∃(p:List Rat)(R:List (List Rat)),lR 100000 s=lR 100000 p/\(p.length<=1000/\Xc p=some R)/\K (AV.t [(false,[Zv 1 (chN R)]),(false,[Zt (Zl Zb 0)])])):=by kernel_rfl
theorem QT7 (p:List Rat)(R:List (List Rat))(hc:(p.length<=1000)/\(XR p=some R))(K:AV->Prop)(hK:K (.t [(false,[.s 1 (chN R)]),(false,[.v (.int .i64 0)])])):QO (QAK p R K):=by
 refine⟨?_⟩;rw[QC6];try simp only[Zd,R0,R1,Zj,Zg,R4,R2,R3]
 obtain⟨hl,hR⟩:=hc;obtain⟨⟨h1,h2⟩,d,g,r,s,hd,hr,hs,h3,hch⟩:=QJq hR;refine⟨p,rfl,hl,QG (fun hb=> ?_) (fun hb=>QG (fun hb=> ?_) (fun hb=> ?_))⟩
 ·simp at hb;rw[hb]at h1;simp at h1
 ·have:=R5 hb;omega
 ·exact⟨QM p,d,g,r,s,K1 rfl,⟨by omega,hd,hr,hs⟩,s,R,rfl,⟨by omega,hch⟩,hK⟩
def QC7:Ctr
 | [.x false [.s 3 xs]]=>some fun K=> ∃(p:List Rat) (R:List (List Rat)),xs=lR 100000 p/\((p.length<=1000)/\(XR p=some R))/\(K (.t [(false,[.s 1 (chN R)]),(false,[.v (.int .i64 0)])]))
 | _=>none
theorem QPy:QI 191 QC7:=by
 refine⟨QK Tryz.func191 (by kernel_rfl),fun l T hT K hK=> ?_⟩;unfold QC7 at hT;split at hT
 ·cases hT
  obtain⟨p,R,rfl,hc,hK⟩:=hK;exact QF QYn QP Tryz.func191 (by kernel_rfl) (by kernel_rfl) (by rfl) (QT7 _ _ hc K hK)
 ·cases hT
def QT8:List (Nat×Ctr):=(191,QC7)::QT6
noncomputable def Qaa:QR:=mkT QT8 WQ X4
theorem QNp:QH QT8:= .cons QPy QNo
theorem QYo:QJ Qaa:=QU QNp Xk Ql
def QPz:OT:=fun _=>([],[])
def QAL (p:List Rat)(s:Sp)(R:Int)(K:AV->Prop):Prop:=QS Qaa QPz noL Tryz.f189 [sR 100000 p,.x true [.r s.lo 100000,.r s.hi 100000]] K
theorem QC8 (p:List Rat)(s:Sp)(R:Int)(K:AV->Prop):QAL p s R K=(∃(p_1:List Rat)(R:List (List Rat)),lR 100000 p=lR 100000 p_1/\(p_1.length<=1000/\XR p_1=some R)/\(400000<=4294967290/\s.lo<=s.hi/\s.lo<=s.hi)/\∃(c:List (List Rat))(s_1:Sp)(R_1:Int),chN R=chN c/\[Zm (Qm s.lo s.lo) 100000,Zm (Qz s.hi s.hi) 100000]=[Zm s_1.lo 100000,Zm s_1.hi 100000]/\(((1<=c.length/\c.length<=200000)/\∀(p:List Rat),p∈c->p.length<=1000)/\X9 c s_1=some R_1)/\K (AV.t [(false,[Zt (Zl Zb R_1)]),(false,[Zt (Zl Zb 0)])])):=by kernel_rfl
theorem QT9 (p:List Rat)(s:Sp)(R:Int)(hc:(p.length<=1000/\s.lo<=s.hi)/\(J5 p s=some R))(K:AV->Prop)(hK:K (.t [(false,[.v (.int .i64 R)]),(false,[.v (.int .i64 0)])])):QO (QAL p s R K):=by
 refine⟨?_⟩;rw[QC8];try simp only[Zd,R0,R1,Zj,Zg,R4,R2,R3]
 obtain⟨⟨hl,ho⟩,hR⟩:=hc;unfold J5 at hR;obtain⟨c,hc,hR⟩:=bind_some hR;have hk:=QC1 hc;rw[X8,show Qz s.hi s.hi=s.hi by unfold Qz;split<;>rfl];exact⟨p,c,rfl,⟨hl,hc⟩,⟨by omega,ho,ho⟩,c,s,R,rfl,rfl,⟨hk,hR⟩,hK⟩
def QC9:Ctr
 | [.x false [.s 3 xs],.x true ys]=>some fun K=> ∃(p:List Rat) (s:Sp) (R:Int),xs=lR 100000 p/\ys=[.r s.lo 100000,.r s.hi 100000]/\((p.length<=1000/\s.lo<=s.hi)/\(J5 p s=some R))/\(K (.t [(false,[.v (.int .i64 R)]),(false,[.v (.int .i64 0)])]))
 | _=>none
theorem QP0:QI 189 QC9:=by
 refine⟨QK Tryz.func189 (by kernel_rfl),fun l T hT K hK=> ?_⟩;unfold QC9 at hT;split at hT
 ·cases hT
  obtain⟨p,s,R,rfl,rfl,hc,hK⟩:=hK;exact QF QYo QP Tryz.func189 (by kernel_rfl) (by kernel_rfl) (by rfl) (QT9 _ _ _ hc K hK)
 ·cases hT
def QUA:List (Nat×Ctr):=(189,QC9)::QT8
noncomputable def Qab:QR:=mkT QUA WQ X4
theorem QNq:QH QUA:= .cons QP0 QNp
theorem QYp:QJ Qab:=QU QNq Xk Ql
def QP1 (c:List (List Rat))(w:Rat)(R:Sp):LI:=fun _=> .inv ⟨Nat×Sp,fun e=>⟨[(4,.x false [.p 4 0]),(5,.x false [.p 5 0]),(6,.x false [.p 6 0]),(8,sC c)],[(4,.box 86 [.r e.2.lo 100000,.r e.2.hi 100000]),(5,.box 25 [.r w 100000]),(6,.box 86 (Jw++Jw))]⟩,fun e=>Kb c w e.1 e.2=some R,fun e=>e.1,fun _=>0⟩
def QUB:OT:=fun id=>bif id.beq 9 then([0,1,2,3,5,4,6,7],[[],[0],[],[2],[1,0,3,2],[],[4,1,0,3,2,5],[6,4,1,0,3,2,5]])else([],[])
def QDA (p:List Rat)(c:List (List Rat))(s:Sp)(w:Rat)(R:Sp)(K:AV->Prop):Prop:=QS Qab QUB (QP1 c w R) Tryz.f147 [sR 100000 p,.x true [.r s.lo 100000,.r s.hi 100000],rA w 100000] K
theorem QEA (p:List Rat)(c:List (List Rat))(s:Sp)(w:Rat)(R:Sp)(K:AV->Prop):QDA p c s w R K=(∃(p_1:List Rat)(R_1:List (List Rat)),lR 100000 p=lR 100000 p_1/\(p_1.length<=1000/\XR p_1=some R_1)/\100000<=4294967296/\bif decide (Qa w<=0)then K (AV.t [(true,[Zt (Zu false),Zt (Zn (Zc (Ze []))),Zt (Zn (Zc (Ze []))),Zt (Zu false),Zt (Zn (Zc (Ze []))),Zt (Zn (Zc (Ze [])))]),(false,[Zt (Zl Zb 1)])])else(400000<=4294967290/\s.lo<=s.hi/\s.lo<=s.hi)/\∃(c_1:List (List Rat))(s_1:Sp)(R_2:Int),chN R_1=chN c_1/\[Zm (Qm s.lo s.lo) 100000,Zm (Qz s.hi s.hi) 100000]=[Zm s_1.lo 100000,Zm s_1.hi 100000]/\(((1<=c_1.length/\c_1.length<=200000)/\∀(p:List Rat),p∈c_1->p.length<=1000)/\X9 c_1 s_1=some R_2)/\bif R_2 !=1 then K (AV.t [(true,[Zt (Zu false),Zt (Zn (Zc (Ze []))),Zt (Zn (Zc (Ze []))),Zt (Zu false),Zt (Zn (Zc (Ze []))),Zt (Zn (Zc (Ze [])))]),(false,[Zt (Zl Zb 4)])])else(∃(x:Nat×Sp),(Kb c w x.fst x.snd=some R/\OfNat.ofNat 0=0)/\0=0/\0=0/\0=0/\1=1/\chN R_1=chN c/\86=86/\Qm s.lo s.lo=x.snd.lo/\100000<=100000/\Qz s.hi s.hi=x.snd.hi/\100000<=100000/\25=25/\w=w/\100000<=100000/\86=86/\false=false/\Zc (Ze [])=Zc (Ze [])/\Zc (Ze [])=Zc (Ze [])/\false=false/\Zc (Ze [])=Zc (Ze [])/\Zc (Ze [])=Zc (Ze [])/\True)/\∀(x:Nat×Sp),Kb c w x.fst x.snd=some R->OfNat.ofNat 0=0->200001<=4294967296/\∃(r:Rat),Wy x.snd.hi x.snd.lo=some r/\200000<=4294967296/\bif decide (JX r w>0)then ∃(c_2:List (List Rat))(s:Sp)(R_3:Sp),chN c=chN c_2/\[Zm x.snd.lo 100000,Zm x.snd.hi 100000]=[Zm s.lo 100000,Zm s.hi 100000]/\(((1<=c_2.length/\c_2.length<=200000)/\∀(p:List Rat),p∈c_2->p.length<=1000)/\J3 c_2 s=some R_3)/\∃(x':Nat×Sp),(Kb c w x'.fst x'.snd=some R/\OfNat.ofNat 0=0/\x'.fst<x.fst)/\0=0/\0=0/\0=0/\1=1/\chN c=chN c/\86=86/\R_3.lo=x'.snd.lo/\100000<=100000/\R_3.hi=x'.snd.hi/\100000<=100000/\25=25/\w=w/\100000<=100000/\86=86/\false=false/\Zc (Ze [])=Zc (Ze [])/\Zc (Ze [])=Zc (Ze [])/\false=false/\Zc (Ze [])=Zc (Ze [])/\Zc (Ze [])=Zc (Ze [])/\True else K (AV.t [(true,[Zm x.snd.lo 100000,Zm x.snd.hi 100000]),(false,[Zt (Zl Zb 0)])])):=by kernel_rfl
theorem QYq (p:List Rat)(c:List (List Rat))(s:Sp)(w:Rat)(R:Sp)(hc:((p.length<=1000/\s.lo<=s.hi)/\XR p=some c)/\(0<w/\QAF p s w=some R))(K:AV->Prop)(hK:K (.t [(true,[.r R.lo 100000,.r R.hi 100000]),(false,[.v (.int .i64 0)])])):QO (QDA p c s w R K):=by
  refine⟨?_⟩;rw[QEA];try simp only[Zd,R0,R1,Zj,Zg,R4,R2,R3]
  obtain⟨⟨⟨hl,ho⟩,hc⟩,hw,hR⟩:=hc;unfold QAF at hR;rw[hc]at hR;obtain⟨c',hc',hR⟩:=bind_some hR;cases hc'
  obtain⟨n,hn,hR⟩:=bind_some hR;have hk:=QC1 hc;rw[X8,show Qz s.hi s.hi=s.hi by unfold Qz;split<;>rfl];refine⟨p,c,rfl,⟨hl,hc⟩,by omega,QG (fun hb=> ?_) (fun _=>⟨⟨by omega,ho,ho⟩,c,s,n,rfl,rfl,⟨hk,hn⟩,QG (fun hb=> ?_) (fun hb=>⟨⟨(FU,s),?_,rfl,rfl,rfl⟩,fun x hx=>⟨by omega,?_⟩⟩)⟩)⟩
  · have:=R5 hb;rw[QYT hw]at this;omega
  · have e:(n==1)=false:=by
      cases h:n==1 with
      | false=>rfl
      | true=>simp at h;subst h;cases hb
    rw[e]at hR;cases hR
  · have e:(n==1)=true:=by
      cases h:n==1 with
      | true=>rfl
      | false => have : (n != 1) = true := by simp only [bne, h]; rfl
                 rw[this]at hb;cases hb
    rw[e]at hR;exact hR
  · obtain⟨k,t⟩:=x;cases k with
    | zero=>cases hx
    | succ k=>
      have hx:Kb c w (k+1) t=some R:=hx;rw[Kb]at hx;obtain⟨d,hd,hx⟩:=bind_some hx;refine⟨d,hd,by omega,QG (fun hb=> ?_) (fun hb=> ?_)⟩
      · have hb:w<d:=by
          have:=R5 hb;exact Rat.not_le.1 fun e=>by have:=(JS d w).2 e;omega
        rw[decide_eq_true hb]at hx;obtain⟨t',ht,hx⟩:=bind_some hx;exact⟨c,t,t',rfl,rfl,⟨hk,ht⟩,(k,t'),⟨hx,Nat.lt_succ_self k⟩,rfl,rfl⟩
      · have hb: ¬w<d:=by
          have:=R6 hb;exact Rat.not_lt.2 ((JS d w).1 (by omega))
        rw[decide_eq_false hb]at hx;cases hx
        exact hK
def QHh:Ctr
 | [.x false [.s 3 xs],.x true ys,.x true zs]=>some fun K=> ∃(p:List Rat) (c:List (List Rat)) (s:Sp) (w:Rat) (R:Sp),xs=lR 100000 p/\ys=[.r s.lo 100000,.r s.hi 100000]/\zs=[.r w 100000]/\(((p.length<=1000/\s.lo<=s.hi)/\XR p=some c)/\(0<w/\QAF p s w=some R))/\(K (.t [(true,[.r R.lo 100000,.r R.hi 100000]),(false,[.v (.int .i64 0)])]))
 | _=>none
theorem QUC:QI 147 QHh:=by
 refine⟨QK Tryz.func147 (by kernel_rfl),fun l T hT K hK=> ?_⟩;unfold QHh at hT;split at hT
 ·cases hT
  obtain⟨p,c,s,w,R,rfl,rfl,rfl,hc,hK⟩:=hK;exact QF QYp QP Tryz.func147 (by kernel_rfl) (by kernel_rfl) (by rfl) (QYq _ _ _ _ _ hc K hK)
 ·cases hT
def QFb:List (Nat×Ctr):=(147,QHh)::QUA
noncomputable def Qac:QR:=mkT QFb WQ X4
theorem QAv:QH QFb:= .cons QUC QNq
theorem QYr:QJ Qac:=QU QAv Xk Ql
end Go.Proofs
