/- sturm: plain, chained, changes, zero, count, middle, halve, ready, Count, Fine. -/
import Derived.Test.YtjdhppdpbkoihaaGreatDoorIA
open Int renaming ofNat → Za, ofNat_eq_natCast → Zd
open Go.IntKind renaming i64 → Zb
open ByteArray renaming mk → Zc
open Array renaming mk → Ze
open List renaming take → Zf, getElem?_eq_getElem → Zg, map → Zh, drop → Zj, take_of_length_le → Zn, mem_of_getElem? → Zo, getD_eq_getElem?_getD → Zp
open Nat renaming le_refl → Zi, le_trans → Zq, ble_eq_true_of_le → Zr, zero_add → Zu
open Go.Value renaming int → Zk, string → Zm, bool → Zt
open Go.Eng.Ch renaming r → Zl, v → Zs, s → Zv
namespace Go.Proofs
open Go Go.Eng
def chE (p:List Rat):List Ch:=[.s 3 (lR 100000 p)]
def chN (c:List (List Rat)):List (List Ch):=c.map chE
def sC (c:List (List Rat)):AV:= .x false [.s 1 (chN c)]
theorem QBj (c:List (List Rat)):(chN c).length=c.length:=by simp[chN]
theorem QGS {c:List (List Rat)}{i:Nat}{p:List Rat}(h:c[i]? =some p):ldE (chN c) i 0 1=some [.s 3 (lR 100000 p)]:=by
 simp only[ldE,chN,List.getElem?_map,h];rfl
theorem QIz {c:List (List Rat)}{p:List Rat}:Zf c.length (chN c)++[[Zv 3 (lR 100000 p)]]=chN (c++[p]):=by
 rw[Zn (by rw[QBj];exact Zi _)];simp[chN,chE]
theorem QTH {c:List (List Rat)}:Zf c.length (Zj 0 (chN c))=chN c:=by
 rw[List.drop_zero,Zn (by rw[QBj];exact Zi _)]
theorem QZI (q:Rat):Qa q=1∨Qa q=0∨Qa q= -1:=by
 unfold Qa;split
 ·exact .inr (.inl rfl)
 ·split
  ·exact .inr (.inr rfl)
  ·exact .inl rfl
theorem QTI {w:Rat}(h:0<w):Qa w=1:=by
 have h0:w.num≠0:=fun e=>by rw[Rat.num_eq_zero.1 e]at h;exact absurd h (by decide)
 have h1:=Rat.num_nonneg.2 (Rat.le_of_lt h);unfold Qa;rw[if_neg h0,if_neg (by omega)]
theorem QPR {p q:List Rat}{R:List Rat×List Rat}(h:Xu p q=some R):1<=q.length:=by
 cases q with
 | nil=>
  exfalso;unfold Xu at h;rw[show FU=99999+1 from rfl,KM]at h;rw[show Nat.ble ([]:List Rat).length (QJ p).length=true from Zr (Nat.zero_le _)]at h;simp only[R7]at h;obtain⟨c,hc,_⟩:=bind_some h;unfold GK at hc;rw[show((Qp ([]:List Rat)).num==0)=true from rfl]at hc;cases hc
 | cons x l=>simp
theorem QPS {q:List Rat}: ∀{n:Nat} {b r:List Rat} {R:List Rat×List Rat},KM q n b r=some R->R.1.length=b.length/\R.2.length<=r.length:=by
 intro n;induction n with
 | zero=>intro b r R h;cases h
 | succ n ih=>
  intro b r R h;rw[KM]at h;cases hb:Nat.ble q.length r.length with
  | false=>rw[hb]at h;cases h;exact⟨rfl,Zi _⟩
  | true=>
   rw[hb]at h;obtain⟨c,_,h⟩:=bind_some h;obtain⟨r1,h1,h⟩:=bind_some h;obtain⟨k1,k2⟩:=ih h;rw[List.length_set]at k1;exact⟨k1,Zq k2 (Zq (Wu _) (Nat.le_of_eq (QPH h1)))⟩
theorem UE {p q:List Rat}{R:List Rat×List Rat}(h:Xu p q=some R):R.1.length<=p.length/\R.2.length<=p.length:=by
 have h1:=QPR h;obtain⟨k1,k2⟩:=QPS h;rw[List.length_replicate]at k1;have:=Wu p;omega
theorem QTJ {d:Rat}: ∀{l acc r:List Rat},scF d l acc=some r->r.length=acc.length+l.length:=by
 intro l;induction l with
 | nil=>intro acc r h;cases h;simp
 | cons x l ih=>
  intro acc r h;rw[scF]at h;obtain⟨u,_,h⟩:=bind_some h;rw[ih h];simp;omega
theorem QEc {p r:List Rat}(h:Y3 p=some r):r.length=p.length:=by
 have:=QTJ h;simpa using this
theorem QPT: ∀{l acc r:List Rat} {i:Nat},Kb l i acc=some r->r.length=acc.length+l.length:=by
 intro l;induction l with
 | nil=>intro acc r i h;cases h;simp
 | cons x l ih=>
  intro acc r i h;rw[Kb]at h;obtain⟨u,_,h⟩:=bind_some h;rw[ih h];simp;omega
theorem QI0 {p d:List Rat}(h:GL p=some d): ∃all,Kb (p.drop 1) 1 []=some all/\d=QJ all/\d.length<=p.length:=by
 unfold GL at h;cases hd:Kb (p.drop 1) 1 []with
 | none=>rw[hd]at h;cases h
 | some all=>
  rw[hd]at h;cases h
  refine⟨all,rfl,rfl,?_⟩;have:=QPT hd;have:=Wu all;simp at*;omega
theorem QXD: ∀{n:Nat} {c R:List (List Rat)} {q:List Rat},chF n c q=some R->1<=c.length->(∀p∈c,p.length<=1000)->q.length<=1000->(1<=R.length/\R.length<=c.length+n)/\ ∀p∈R,p.length<=1000:=by
 intro n;induction n with
 | zero=>intro c R q h;cases h
 | succ n ih=>
  intro c R q h h1 h2 h3;rw[chF]at h;cases hb:Nat.ble 1 q.length with
  | false=>rw[hb]at h;cases h;exact⟨⟨h1,by omega⟩,h2⟩
  | true=>
   rw[hb]at h;obtain⟨s,hs,h⟩:=bind_some h;obtain⟨r,hr,h⟩:=bind_some h;obtain⟨x,hx⟩: ∃x,c[c.length-1]? =some x:=⟨_,Zg (by omega)⟩
   have hxl:=h2 x (Zo hx);rw[Zp,hx]at hr;have hd:=(UE hr).2;have hsl:=QEc hs
   obtain⟨⟨k1,k2⟩,k3⟩:=ih h (by simp) (fun p hp=>by
    rcases List.mem_append.1 hp with hp | hp
    ·exact h2 p hp
    ·simp at hp;subst hp;omega) (by simp at hd⊢;omega)
   refine⟨⟨k1,?_⟩,k3⟩;simp at k2;omega
theorem QI1 {p:List Rat}{R:List (List Rat)}(h:Xm p=some R)(hl:p.length<=1000):(1<=R.length/\R.length<=200000)/\ ∀p∈R,p.length<=1000:=by
 unfold Xm at h;obtain⟨d,hd,h⟩:=bind_some h;obtain⟨_,_,_,h2⟩:=QI0 hd;obtain⟨⟨k1,k2⟩,k3⟩:=QXD h (by simp) (fun q hq=>by simp at hq;subst hq;exact hl) (by omega);unfold FU at k2;simp at k2;exact⟨⟨k1,by omega⟩,k3⟩
theorem QGT {p:List Rat}{R:List (List Rat)}(h:Xg p=some R):(1<=(QJ p).length/\(QJ p).length<=13)/\ ∃d g r s,(GL (QJ p)=some d/\Kc FU (QJ p) d=some g)/\Xu (QJ p) g=some r/\Y3 (QJ r.1)=some s/\s.length<=13/\Xm s=some R:=by
 unfold Xg at h;cases h1:Nat.beq (QJ p).length 0 with
 | true=>rw[h1]at h;cases h
 | false=>
  rw[h1]at h;cases h2:Nat.ble (QJ p).length 13 with
  | false=>rw[h2]at h;cases h
  | true=>
   rw[h2]at h;obtain⟨s,hs,h⟩:=bind_some h;unfold Ws at hs;obtain⟨d,hd,hs⟩:=bind_some hs;obtain⟨g,hg,hs⟩:=bind_some hs;obtain⟨r,hr,hs⟩:=bind_some hs;have e1:=QEc hs;have e2:=Wu r.1;have e3:=(UE hr).1;have e4:=Nat.le_of_ble_eq_true h2;refine⟨⟨?_,e4⟩,d,g,r,s,⟨hd,hg⟩,hr,hs,by omega,h⟩;cases hz:(QJ p).length with
   | zero=>rw[hz]at h1;cases h1
   | succ n=>omega
theorem QBk {p:List Rat}{R:List (List Rat)}(h:Xg p=some R):(1<=R.length/\R.length<=200000)/\ ∀p∈R,p.length<=1000:=by
 obtain⟨_,d,g,r,s,_,_,_,h1,h2⟩:=QGT h;exact QI1 h2 (by omega)
theorem QZJ {c:List (List Rat)}(h:1<=c.length): ∃p,c[0]? =some p/\c.getD 0 []=p:=by
 obtain⟨x,hx⟩: ∃x,c[0]? =some x:=⟨_,Zg (by omega)⟩
 exact⟨x,hx,by rw[Zp,hx];rfl⟩
structure QTK where
 n:Nat
 a:List Rat
 b:List Rat
def QTL (p g:List Rat):LI:=fun _=> .inv ⟨QTK,fun e=>⟨[(0,sR 100000 p),(3,sR 100000 e.a),(4,sR 100000 e.b)],[]⟩,fun e=>(e.a.length<=1000/\e.b.length<=1000)/\Kc e.n e.a e.b=some g,fun e=>e.n,fun _=>0⟩
def QGU (p:List Rat)(_d:List Rat)(g:List Rat)(_r:List Rat×List Rat)(_s:List Rat)(K:AV->Prop):Prop:=QU QU2 (oF Tryz.f99) (QTL p g) Tryz.f99 [sR 100000 p] K
theorem QGV (p:List Rat)(d:List Rat)(g:List Rat)(r:List Rat×List Rat)(s:List Rat)(K:AV->Prop):QGU p d g r s K=(∃(p_1:List Rat)(all:List Rat),lR 100000 p=lR 100000 p_1/\(p_1.length<=1000/\Kb (Zj 1 p_1) 1 []=some all)/\(∃(x:QTK),(((x.a.length<=1000/\x.b.length<=1000)/\Kc x.n x.a x.b=some g)/\OfNat.ofNat 0=0)/\3=3/\lR 100000 p=lR 100000 p/\3=3/\lR 100000 p=lR 100000 x.a/\3=3/\lR 100000 (QJ all)=lR 100000 x.b/\True)/\∀(x:QTK),(x.a.length<=1000/\x.b.length<=1000)/\Kc x.n x.a x.b=some g->OfNat.ofNat 0=0->bif decide (Za (lR 100000 x.b).length>0)then ∃(p_2:List Rat)(q:List Rat)(R:List Rat×List Rat),lR 100000 x.a=lR 100000 p_2/\lR 100000 x.b=lR 100000 q/\((p_2.length<=1000/\1<=q.length/\q.length<=1000)/\Xu p_2 q=some R)/\∃(p_3:List Rat)(all:List Rat),lR 100000 x.b=lR 100000 p_3/\(p_3.length<=1000/\Y3 p_3=some all)/\∃(x':QTK),(((x'.a.length<=1000/\x'.b.length<=1000)/\Kc x'.n x'.a x'.b=some g)/\OfNat.ofNat 0=0/\x'.n<x.n)/\3=3/\lR 100000 p=lR 100000 p/\3=3/\lR 100000 all=lR 100000 x'.a/\3=3/\lR 100000 R.snd=lR 100000 x'.b/\True else ∃(p_2:List Rat)(q:List Rat)(R:List Rat×List Rat),lR 100000 p=lR 100000 p_2/\lR 100000 x.a=lR 100000 q/\((p_2.length<=1000/\1<=q.length/\q.length<=1000)/\Xu p_2 q=some R)/\∃(p:List Rat),lR 100000 R.fst=lR 100000 p/\p.length<=1000/\∃(p_3:List Rat)(all:List Rat),Zf (QJ p).length (Zj 0 (Zh (fun(q:Rat)=>[Zl q 100000]) (QJ p)))=lR 100000 p_3/\(p_3.length<=1000/\Y3 p_3=some all)/\K (AV.x false [Zv 3 (lR 100000 all)])):=by kernel_rfl
theorem QZK (p:List Rat)(d:List Rat)(g:List Rat)(r:List Rat×List Rat)(s:List Rat)(hc:(p.length<=1000)/\((GL p=some d/\Kc FU p d=some g)/\Xu p g=some r/\Y3 (QJ r.1)=some s))(K:AV->Prop)(hK:K (sR 100000 s)):QM (QGU p d g r s K):=by
 refine⟨?_⟩;rw[QGV];try simp only[Zd,R0,R1,R4]
 obtain⟨hl,⟨hd,hg⟩,hr,hs⟩:=hc;obtain⟨all,h1,rfl,h2⟩:=QI0 hd;refine⟨p,all,rfl,⟨hl,h1⟩,⟨⟨FU,p,QJ all⟩,⟨⟨hl,by simp only;omega⟩,hg⟩,rfl,rfl⟩,fun x ⟨⟨a1,a2⟩,a3⟩=>QF (fun hp=> ?_) (fun hp=> ?_)⟩
 ·have hp:1<=x.b.length:=by have:=R5 hp;rw[X5]at this;omega
  cases hn:x.n with
  | zero=>rw[hn]at a3;cases a3
  | succ n=>
   rw[hn,Kc,Zr hp]at a3;simp only[R7]at a3;obtain⟨R,hR,a3⟩:=bind_some a3;obtain⟨s2,hs2,a3⟩:=bind_some a3;exact⟨x.a,x.b,R,rfl,rfl,⟨⟨a1,hp,a2⟩,hR⟩,x.b,s2,rfl,⟨a2,hs2⟩,⟨n,s2,R.2⟩,⟨⟨⟨by simp only;rw[QEc hs2];exact a2,Zq (UE hR).2 a1⟩,a3⟩,by simp only;omega⟩,rfl,rfl⟩
 ·have hp:x.b.length=0:=by have:=R6 hp;rw[X5]at this;omega
  cases hn:x.n with
  | zero=>rw[hn]at a3;cases a3
  | succ n=>
   rw[hn,Kc,hp]at a3;have a3:some x.a=some g:=a3;have a3:=Option.some.inj a3;rw[a3];rw[a3]at a1;exact⟨p,g,r,rfl,rfl,⟨⟨hl,QPR hr,a1⟩,hr⟩,r.1,rfl,Zq (UE hr).1 hl,QJ r.1,s,K7 rfl,⟨Zq (Wu _) (Zq (UE hr).1 hl),hs⟩,hK⟩
def QPU:Ctr
 | [.x false [.s 3 xs]]=>some fun K=> ∃(p:List Rat) (d:List Rat) (g:List Rat) (r:List Rat×List Rat) (s:List Rat),xs=lR 100000 p/\((p.length<=1000)/\((GL p=some d/\Kc FU p d=some g)/\Xu p g=some r/\Y3 (QJ r.1)=some s))/\(K (sR 100000 s))
 | _=>none
theorem QXE:QI 99 QPU:=by
 refine okL Tryz.func99 fun l T hT K hK=> ?_
 unfold QPU at hT;split at hT<;>cases hT
 obtain⟨p,d,g,r,s,rfl,hc,hK⟩:=hK;exact spL QTG QN Tryz.func99 (QZK _ _ _ _ _ hc K hK)
def QPV:LC:=(99,QPU)::QPQ
theorem QKD:QG QPV:= .cons QXE QKC
structure ChX where
 n:Nat
 i:Nat
 c:List (List Rat)
 q:List Rat
 r:List Rat
def QZL (c:List (List Rat)):Blk:= .row 56 1 (chN c)
def QTM (R:List (List Rat)):LI:=fun id=>
 bif id.beq 3 then .invf [501] ⟨ChX,fun e=>⟨[(3,.x false [.w 500 0 e.c.length]),(4,sR 100000 e.q)],[(500,QZL e.c)]⟩,fun e=>((1<=e.c.length/\e.c.length+e.n<=FU+2)/\e.q.length<=1000/\ ∀p∈e.c,p.length<=1000)/\chF e.n e.c e.q=some R,fun e=>e.n,fun _=>0⟩
 else .inv ⟨ChX,fun e=>⟨[(3,.x false [.w 500 0 e.c.length]),(4,.x false [.w 501 0 e.i]),(39,sR 100000 e.r),(40,iA .i64 e.r.length),(41,iA .i64 e.i)],[(500,QZL e.c),(501,JY 100000 ((e.r.map fun x=> -x).take e.i))]⟩,
  fun e=>(((1<=e.c.length/\e.c.length+e.n<=FU+2)/\e.r.length<=1000/\ ∀p∈e.c,p.length<=1000)/\e.i<=e.r.length)/\chF e.n e.c (e.r.map fun x=> -x)=some R,fun e=>e.r.length-e.i,fun e=>e.n+1⟩
set_option maxHeartbeats 1000000 in
theorem QZM (p:List Rat)(R:List (List Rat))(hc:(p.length<=1000)/\(Xm p=some R))(K:AV->Prop)(hK:K (sC R)):QM (QU (mkT QPV WO X4) (oF Tryz.f98) (QTM R) Tryz.f98 [sR 100000 p] K):=by
 refine HV ((∃(p_1:List Rat),∃(all:List Rat),lR 100000 p=lR 100000 p_1/\(p_1.length<=1000/\Kb (Zj 1 p_1) 1 []=some all)/\(∃(x:ChX),((((1<=x.c.length/\x.c.length+x.n<=100002)/\x.q.length<=1000/\∀(p:List Rat),p∈x.c->p.length<=1000)/\chF x.n x.c x.q=some R)/\OfNat.ofNat 0=0)/\0=0/\1=x.c.length/\3=3/\lR 100000 (QJ all)=lR 100000 x.q/\56=56/\1=1/\([[Zv 3 (lR 100000 p)]]=chN x.c∨QC [[Zv 3 (lR 100000 p)]] (chN x.c))/\True)/\∀(x:ChX),((1<=x.c.length/\x.c.length+x.n<=100002)/\x.q.length<=1000/\∀(p:List Rat),p∈x.c->p.length<=1000)/\chF x.n x.c x.q=some R->OfNat.ofNat 0=0->bif decide (Za (lR 100000 x.q).length>0)then ∃(p:List Rat),∃(all:List Rat),lR 100000 x.q=lR 100000 p/\(p.length<=1000/\Y3 p=some all)/\((x.c.length+1)*24<=140737488355328/\x.c.length+1<=9223372036854775807)/\(0<=Zb.wrap (Za (x.c.length+1)-2)/\Zb.wrap (Za (x.c.length+1)-2)<Za (x.c.length+1))/\∃(ys:List (List Ch)),ldE (Zf x.c.length (chN x.c)++[[Zv 3 (lR 100000 all)]]) (0+(Zb.wrap (Za (x.c.length+1)-2)).toNat) 0 1=some [Zv 3 ys]/\(0<=Zb.wrap (Za (x.c.length+1)-1)/\Zb.wrap (Za (x.c.length+1)-1)<Za (x.c.length+1))/\∃(ys_1:List (List Ch)),ldE (Zf x.c.length (chN x.c)++[[Zv 3 (lR 100000 all)]]) (0+(Zb.wrap (Za (x.c.length+1)-1)).toNat) 0 1=some [Zv 3 ys_1]/\∃(p:List Rat),∃(q:List Rat),∃(R_1:List Rat×List Rat),ys=lR 100000 p/\ys_1=lR 100000 q/\((p.length<=1000/\1<=q.length/\q.length<=1000)/\Xu p q=some R_1)/\((0:Int)=0/\(0:Int)=0/\(0:Int)=0)/\(∃(x_1:ChX),(((((1<=x_1.c.length/\x_1.c.length+x_1.n<=100002)/\x_1.r.length<=1000/\∀(p:List Rat),p∈x_1.c->p.length<=1000)/\x_1.i<=x_1.r.length)/\chF x_1.n x_1.c (Zh (fun(x:Rat)=> -x) x_1.r)=some R)/\x_1.n+1=x.n)/\0=0/\x.c.length+1=x_1.c.length/\0=0/\0=x_1.i/\3=3/\lR 100000 R_1.snd=lR 100000 x_1.r/\Za (lR 100000 R_1.snd).length=Za x_1.r.length/\0=Za x_1.i/\56=56/\1=1/\(Zf x.c.length (chN x.c)++[[Zv 3 (lR 100000 all)]]=chN x_1.c∨QC (Zf x.c.length (chN x.c)++[[Zv 3 (lR 100000 all)]]) (chN x_1.c))/\26=26/\3=3/\([]=Zh (fun(q:Rat)=>[Zl q 100000]) (Zf x_1.i (Zh (fun(x:Rat)=> -x) x_1.r))∨QC [] (Zh (fun(q:Rat)=>[Zl q 100000]) (Zf x_1.i (Zh (fun(x:Rat)=> -x) x_1.r))))/\True)/\∀(x_1:ChX),(((1<=x_1.c.length/\x_1.c.length+x_1.n<=100002)/\x_1.r.length<=1000/\∀(p:List Rat),p∈x_1.c->p.length<=1000)/\x_1.i<=x_1.r.length)/\chF x_1.n x_1.c (Zh (fun(x:Rat)=> -x) x_1.r)=some R->x_1.n+1=x.n->bif decide (Za x_1.i<Za x_1.r.length)then(0<=Za x_1.i/\Za x_1.i<Za (lR 100000 x_1.r).length)/\∃(q:Rat),∃(n:Nat),ldE (lR 100000 x_1.r) (Za x_1.i).toNat 0 3=some [Zl q n]/\n<=100000/\((x_1.i+1)*40<=140737488355328/\x_1.i+1<=9223372036854775807)/\∃(x':ChX),(((((1<=x'.c.length/\x'.c.length+x'.n<=100002)/\x'.r.length<=1000/\∀(p:List Rat),p∈x'.c->p.length<=1000)/\x'.i<=x'.r.length)/\chF x'.n x'.c (Zh (fun(x:Rat)=> -x) x'.r)=some R)/\x'.n+1=x.n/\x'.r.length-x'.i<x_1.r.length-x_1.i)/\0=0/\x_1.c.length=x'.c.length/\0=0/\x_1.i+1=x'.i/\3=3/\lR 100000 x_1.r=lR 100000 x'.r/\Za x_1.r.length=Za x'.r.length/\Zb.wrap (Za x_1.i+1)=Za x'.i/\56=56/\1=1/\(chN x_1.c=chN x'.c∨QC (chN x_1.c) (chN x'.c))/\26=26/\3=3/\(Zf x_1.i (Zh (fun(q:Rat)=>[Zl q 100000]) (Zf x_1.i (Zh (fun(x:Rat)=> -x) x_1.r)))++[[Zl (-q) 100000]]=Zh (fun(q:Rat)=>[Zl q 100000]) (Zf x'.i (Zh (fun(x:Rat)=> -x) x'.r))∨QC (Zf x_1.i (Zh (fun(q:Rat)=>[Zl q 100000]) (Zf x_1.i (Zh (fun(x:Rat)=> -x) x_1.r)))++[[Zl (-q) 100000]]) (Zh (fun(q:Rat)=>[Zl q 100000]) (Zf x'.i (Zh (fun(x:Rat)=> -x) x'.r))))/\True else ∃(x':ChX),((((1<=x'.c.length/\x'.c.length+x'.n<=100002)/\x'.q.length<=1000/\∀(p:List Rat),p∈x'.c->p.length<=1000)/\chF x'.n x'.c x'.q=some R)/\OfNat.ofNat 0=0/\x'.n<x.n)/\0=0/\x_1.c.length=x'.c.length/\3=3/\Zf x_1.i (Zj 0 (Zh (fun(q:Rat)=>[Zl q 100000]) (Zf x_1.i (Zh (fun(x:Rat)=> -x) x_1.r))))=lR 100000 x'.q/\56=56/\1=1/\(chN x_1.c=chN x'.c∨QC (chN x_1.c) (chN x'.c))/\True else K (AV.x false [Zv 1 (Zf x.c.length (Zj 0 (chN x.c)))]))) ?_
 try simp only[Zd,R0,R1,Zu,R4]
 obtain⟨hl,hR⟩:=hc;unfold Xm at hR;obtain⟨d,hd,hR⟩:=bind_some hR;obtain⟨all,h1,rfl,h2⟩:=QI0 hd;refine⟨p,all,rfl,⟨hl,h1⟩,⟨⟨FU,0,[p],QJ all,[]⟩,⟨⟨⟨by simp,by simp only[List.length_singleton,FU];omega⟩,by simp only;omega,fun q hq=>by simp at hq;subst hq;exact hl⟩,hR⟩,rfl,rfl,.inl rfl⟩,fun x ⟨⟨⟨a1,a2⟩,a3,a4⟩,av⟩=>QF (fun hp=> ?_) (fun hp=> ?_)⟩
 ·have hp:1<=x.q.length:=by have:=R5 hp;rw[X5]at this;omega
  cases hn:x.n with
  | zero=>rw[hn]at av;cases av
  | succ n=>
   rw[hn,chF,Zr hp]at av;simp only[R7]at av;obtain⟨s,hs,av⟩:=bind_some av;obtain⟨r,hr,av⟩:=bind_some av;obtain⟨l,hl'⟩: ∃l,x.c[x.c.length-1]? =some l:=⟨_,Zg (by omega)⟩
   rw[Zp,hl']at hr;have ew1:Zb.wrap (((x.c.length+1:Nat):Int)-2)=((x.c.length-1:Nat):Int):=by rw[w64 (by omega)];omega
   have ew2:Zb.wrap (((x.c.length+1:Nat):Int)-1)=((x.c.length:Nat):Int):=by rw[w64 (by omega)];omega
   have el:=a4 l (Zo hl');have es:=QEc hs;have er:=(UE hr).2;have er:r.2.length<=1000:=Zq er el;rw[ew1,ew2];simp only[Int.toNat_natCast];refine⟨x.q,s,rfl,⟨a3,hs⟩,⟨by omega,by omega⟩,⟨by omega,by omega⟩,lR 100000 l,?_,⟨by omega,by omega⟩,lR 100000 s,?_,l,s,r,rfl,rfl,⟨⟨el,by omega,by omega⟩,hr⟩,⟨⟨n,0,x.c++[s],[],r.2⟩,⟨⟨⟨⟨⟨by simp,by simp;omega⟩,er,fun q hq=> ?_⟩,Nat.zero_le _⟩,av⟩,by simp only⟩,by simp,rfl,rfl,by rw[X5],rfl,.inl QIz,.inl (by simp)⟩,fun y ⟨⟨⟨⟨b1,b2⟩,b3,b4⟩,b5⟩,bv⟩ hyn=>QF (fun hj=> ?_) (fun hj=> ?_)⟩
   ·rw[QIz];exact QGS (by rw[List.getElem?_append_left (by omega)];exact hl')
   ·rw[QIz];exact QGS (by rw[List.getElem?_append_right (Zi _),Nat.sub_self];rfl)
   ·rcases List.mem_append.1 hq with hq | hq
    ·exact a4 q hq
    ·simp at hq;subst hq;omega
   ·have hj:y.i<y.r.length:=by have:=R5 hj;omega
    obtain⟨q,hq⟩: ∃q,y.r[y.i]? =some q:=⟨_,Zg (by omega)⟩
    refine⟨by rw[X5];omega,q,100000,JJ hq,by omega,⟨by omega,by omega⟩,⟨y.n,y.i+1,y.c,[],y.r⟩,⟨⟨⟨⟨⟨b1,b2⟩,b3,b4⟩,by simp only;omega⟩,bv⟩,hyn,by simp only;omega⟩,rfl,rfl,rfl,rfl,by rw[w64 (by omega)];simp,.inl rfl,.inl ?_⟩;rw[Zn (by simp;omega),List.take_add_one,List.getElem?_map,hq,List.map_append];rfl
   ·have hj:y.i=y.r.length:=by have:=R6 hj;omega
    have e:Zf y.i (Zh (fun x=> -x) y.r)=Zh (fun x=> -x) y.r:=Zn (by simp;omega);refine⟨⟨y.n,0,y.c,y.r.map fun x=> -x,[]⟩,⟨⟨⟨⟨b1,b2⟩,by simp only[List.length_map];exact b3,b4⟩,bv⟩,by simp only;omega⟩,rfl,?_,.inl rfl⟩;rw[e];exact K7 (by simp;omega)
 ·have hp:x.q.length=0:=by have:=R6 hp;rw[X5]at this;omega
  cases hn:x.n with
  | zero=>rw[hn]at av;cases av
  | succ n=>
   rw[hn,chF,hp]at av;have av:some x.c=some R:=av;have av:=Option.some.inj av;rw[QTH,av];exact hK
def QPW:Ctr
 | [.x false [.s 3 xs]]=>some fun K=> ∃(p:List Rat) (R:List (List Rat)),xs=lR 100000 p/\((p.length<=1000)/\(Xm p=some R))/\(K (sC R))
 | _=>none
theorem QXF:QI 98 QPW:=by
 refine okL Tryz.func98 fun l T hT K hK=> ?_
 unfold QPW at hT;split at hT<;>cases hT
 obtain⟨p,R,rfl,hc,hK⟩:=hK;exact spL (QV QKD Xt Qo) QN Tryz.func98 (QZM _ _ hc K hK)
def QPX:LC:=(98,QPW)::QPV
theorem QKE:QG QPX:= .cons QXF QKD
structure CgX where
 i:Nat
 k:Int
 l:Int
def QPY (c:List (List Rat))(x:Rat)(n:Nat)(R:Int):LI:=fun id=>
 bif id.beq 3 then .inv ⟨CgX,fun e=>⟨[(0,sC c),(3,.x false [.p 3 0]),(5,iA .i64 e.k),(6,iA .i64 e.l),(10,sC c),(11,iA .i64 c.length),(12,iA .i64 e.i)],[(3,.box 26 [.r x n])]⟩,fun e=>(e.i<=c.length/\(0<=e.k/\e.k<=e.i)/\ -1<=e.l/\e.l<=1)/\Kd x (c.drop e.i) e.k e.l=some R,fun e=>c.length-e.i,fun _=>0⟩
 else bif id.beq 8 then .cut ⟨CgX×Int,fun e=>⟨[(0,sC c),(3,.x false [.p 3 0]),(5,iA .i64 e.1.k),(6,iA .i64 e.1.l),(9,iA .i64 e.2),(10,sC c),(11,iA .i64 c.length),(12,iA .i64 e.1.i)],[(3,.box 26 [.r x n])]⟩,fun e=>(e.1.i<c.length/\(0<=e.1.k/\e.1.k<=e.1.i+1)/\(-1<=e.1.l/\e.1.l<=1)/\ -1<=e.2/\e.2<=1)/\Kd x (c.drop (e.1.i+1)) e.1.k (bif e.2==0 then e.1.l else e.2)=some R,fun _=>0,fun e=>c.length-e.1.i⟩
 else .no
abbrev QPZ (c:List (List Rat))(x:Rat)(n:Nat)(R:Int)(K:AV->Prop):Prop:=(((c.length<=200000/\n<=100000)/\ ∀p∈c,p.length<=1000)/\(Xs c x=some R))/\((0<=R/\R<=c.length)->K (iA .i64 R))
set_option maxHeartbeats 1000000 in
theorem QXG (c:List (List Rat))(x:Rat)(n:Nat)(R:Int)(K:AV->Prop)(hK:QPZ c x n R K):QM (QU (mkT QPX WO X4) (oF Tryz.f131) (QPY c x n R) Tryz.f131 [sC c,rA x n] K):=by
  obtain⟨hc,hK⟩:=hK;refine HV (((∃(x_1:CgX),(((x_1.i<=c.length/\(0<=x_1.k/\x_1.k<=Za x_1.i)/\ -1<=x_1.l/\x_1.l<=1)/\Kd x (Zj x_1.i c) x_1.k x_1.l=some R)/\OfNat.ofNat 0=0)/\1=1/\chN c=chN c/\0=0/\0=x_1.k/\0=x_1.l/\1=1/\chN c=chN c/\Za (chN c).length=Za c.length/\0=Za x_1.i/\26=26/\x=x/\n<=n/\True)/\∀(x_1:CgX),(x_1.i<=c.length/\(0<=x_1.k/\x_1.k<=Za x_1.i)/\ -1<=x_1.l/\x_1.l<=1)/\Kd x (Zj x_1.i c) x_1.k x_1.l=some R->OfNat.ofNat 0=0->bif decide (Za x_1.i<Za c.length)then(0<=Za x_1.i/\Za x_1.i<Za (chN c).length)/\∃(ys:List (List Ch)),ldE (chN c) (Za x_1.i).toNat 0 1=some [Zv 3 ys]/\∃(p:List Rat),∃(r:Rat),ys=lR 100000 p/\((p.length<=1000/\n<=100000)/\X7 p x=some r)/\100000<=4294967296/\(bif decide (Zb.wrap (Qa r*x_1.l)<0)then ∃(x_2:CgX×Int),(((x_2.fst.i<c.length/\(0<=x_2.fst.k/\x_2.fst.k<=Za x_2.fst.i+1)/\(-1<=x_2.fst.l/\x_2.fst.l<=1)/\ -1<=x_2.snd/\x_2.snd<=1)/\Kd x (Zj (x_2.fst.i+1) c) x_2.fst.k (bif x_2.snd==0 then x_2.fst.l else x_2.snd)=some R)/\c.length-x_2.fst.i=c.length-x_1.i)/\1=1/\chN c=chN c/\0=0/\Zb.wrap (x_1.k+1)=x_2.fst.k/\x_1.l=x_2.fst.l/\Qa r=x_2.snd/\1=1/\chN c=chN c/\Za c.length=Za c.length/\Za x_1.i=Za x_2.fst.i/\26=26/\x=x/\n<=n/\True else ∃(x_2:CgX×Int),(((x_2.fst.i<c.length/\(0<=x_2.fst.k/\x_2.fst.k<=Za x_2.fst.i+1)/\(-1<=x_2.fst.l/\x_2.fst.l<=1)/\ -1<=x_2.snd/\x_2.snd<=1)/\Kd x (Zj (x_2.fst.i+1) c) x_2.fst.k (bif x_2.snd==0 then x_2.fst.l else x_2.snd)=some R)/\c.length-x_2.fst.i=c.length-x_1.i)/\1=1/\chN c=chN c/\0=0/\x_1.k=x_2.fst.k/\x_1.l=x_2.fst.l/\Qa r=x_2.snd/\1=1/\chN c=chN c/\Za c.length=Za c.length/\Za x_1.i=Za x_2.fst.i/\26=26/\x=x/\n<=n/\True)/\∀(x_2:CgX×Int),(x_2.fst.i<c.length/\(0<=x_2.fst.k/\x_2.fst.k<=Za x_2.fst.i+1)/\(-1<=x_2.fst.l/\x_2.fst.l<=1)/\ -1<=x_2.snd/\x_2.snd<=1)/\Kd x (Zj (x_2.fst.i+1) c) x_2.fst.k (bif x_2.snd==0 then x_2.fst.l else x_2.snd)=some R->c.length-x_2.fst.i=c.length-x_1.i->bif x_2.snd !=0 then ∃(x':CgX),(((x'.i<=c.length/\(0<=x'.k/\x'.k<=Za x'.i)/\ -1<=x'.l/\x'.l<=1)/\Kd x (Zj x'.i c) x'.k x'.l=some R)/\OfNat.ofNat 0=0/\c.length-x'.i<c.length-x_1.i)/\1=1/\chN c=chN c/\0=0/\x_2.fst.k=x'.k/\x_2.snd=x'.l/\1=1/\chN c=chN c/\Za c.length=Za c.length/\Zb.wrap (Za x_2.fst.i+1)=Za x'.i/\26=26/\x=x/\n<=n/\True else ∃(x':CgX),(((x'.i<=c.length/\(0<=x'.k/\x'.k<=Za x'.i)/\ -1<=x'.l/\x'.l<=1)/\Kd x (Zj x'.i c) x'.k x'.l=some R)/\OfNat.ofNat 0=0/\c.length-x'.i<c.length-x_1.i)/\1=1/\chN c=chN c/\0=0/\x_2.fst.k=x'.k/\x_2.fst.l=x'.l/\1=1/\chN c=chN c/\Za c.length=Za c.length/\Zb.wrap (Za x_2.fst.i+1)=Za x'.i/\26=26/\x=x/\n<=n/\True else K (AV.x false [Zs (Zk Zb x_1.k)]))) ?_
  try simp only[Zd,R0,R1,Zi,R4]
  obtain⟨⟨⟨hl,hn⟩,hp⟩,hR⟩:=hc;simp only[QBj,R0];refine⟨⟨⟨0,0,0⟩,⟨⟨Nat.zero_le _,⟨by decide,by decide⟩,by decide,by decide⟩,hR⟩,rfl,rfl,rfl⟩,fun e ⟨⟨h1,⟨h2,h3⟩,h4,h5⟩,hv⟩=>QF (fun hj=> ?_) (fun hj=> ?_)⟩
  · have hj:e.i<c.length:=by have:=R5 hj;omega
    obtain⟨q,hq⟩: ∃q,c[e.i]? =some q:=⟨_,Zg (by omega)⟩
    have ed:c.drop e.i=q::c.drop (e.i+1):=by
      rw[List.drop_eq_getElem_cons hj];congr 1;rw[Zg hj]at hq;exact Option.some.inj hq
    rw[ed,Kd]at hv;obtain⟨r,hr,hv⟩:=bind_some hv;have sb:=QZI r;have ew:Zb.wrap (Qa r*e.l)=Qa r*e.l:=by rcases sb with s | s | s<;>rw[s]<;>rw[w64 (by omega)]
    rw[Int.toNat_natCast];refine⟨by omega,_,QGS hq,q,r,rfl,⟨⟨hp q (Zo hq),hn⟩,hr⟩,by omega,⟨by rw[ew];refine QF (fun hb=> ?_) (fun hb=> ?_);exact(by rw[hb]at hv;exact⟨⟨⟨e.i,e.k+1,e.l⟩,Qa r⟩,⟨⟨⟨hj,⟨by simp only;omega,by simp only;omega⟩,⟨h4,h5⟩,by simp only;omega,by simp only;omega⟩,hv⟩,rfl⟩,by rw[w64 (by omega)],rfl,rfl,rfl⟩);exact(by rw[hb]at hv;exact⟨⟨⟨e.i,e.k,e.l⟩,Qa r⟩,⟨⟨⟨hj,⟨h2,by simp only;omega⟩,⟨h4,h5⟩,by simp only;omega,by simp only;omega⟩,hv⟩,rfl⟩,rfl,rfl,rfl,rfl⟩),fun y ⟨⟨y1,⟨y2,y3⟩,⟨y4,y5⟩,y6,y7⟩,yv⟩ yt=>QF (fun hb=> ?_) (fun hb=> ?_)⟩⟩
    · have e0:(y.2==0)=false:=by
        cases hz:y.2==0 with
        | false=>rfl
        | true=>simp at hz;rw[hz]at hb;cases hb
      rw[e0]at yv;exact⟨⟨y.1.i+1,y.1.k,y.2⟩,⟨⟨⟨by simp only;omega,⟨y2,by simp only;omega⟩,y6,y7⟩,yv⟩,by simp only;omega⟩,rfl,rfl,by rw[w64 (by omega)];simp⟩
    · have e0:(y.2==0)=true:=by
        cases hz:y.2==0 with
        | true=>rfl
        | false => have : (y.2 != 0) = true := by simp only [bne, hz]; rfl
                   rw[this]at hb;cases hb
      rw[e0]at yv;exact⟨⟨y.1.i+1,y.1.k,y.1.l⟩,⟨⟨⟨by simp only;omega,⟨y2,by simp only;omega⟩,y4,y5⟩,yv⟩,by simp only;omega⟩,rfl,rfl,by rw[w64 (by omega)];simp⟩
  · have hj:c.length<=e.i:=by have:=R6 hj;omega
    rw[List.drop_eq_nil_of_le hj]at hv;cases hv
    exact hK ⟨h2,by omega⟩
def QI2:Ctr
 | [.x false [.s 1 xs],.x true [.r x n]]=>some fun K=> ∃(c:List (List Rat)) (R:Int),xs=chN c/\QPZ c x n R K
 | _=>none
theorem QTN:QI 131 QI2:=by
 refine okL Tryz.func131 fun l T hT K hK=> ?_
 unfold QI2 at hT;split at hT<;>cases hT
 obtain⟨c,R,rfl,hK⟩:=hK;exact spL (QV QKE Xt Qo) QN Tryz.func131 (QXG _ _ _ _ K hK)
def QPa:LC:=(131,QI2)::QPX
theorem QKF:QG QPa:= .cons QTN QKE
def QBl (c:List (List Rat))(x:Rat)(n:Nat)(_R:Bool)(K:AV->Prop):Prop:=QU (mkT QPa WO X4) (oF Tryz.f102) noL Tryz.f102 [sC c,rA x n] K
theorem QCQ (c:List (List Rat))(x:Rat)(n:Nat)(R:Bool)(K:AV->Prop):QBl c x n R K=(((0:Int)<=0/\0<Za (chN c).length)/\∃(ys:List (List Ch)),ldE (chN c) 0 0 1=some [Zv 3 ys]/\∃(p:List Rat)(r:Rat),ys=lR 100000 p/\((p.length<=1000/\n<=100000)/\X7 p x=some r)/\100000<=4294967296/\K (AV.x false [Zs (Zt (Qa r==0))])):=by kernel_rfl
theorem QTO (c:List (List Rat))(x:Rat)(n:Nat)(R:Bool)(hc:((1<=c.length/\n<=100000)/\ ∀p∈c,p.length<=1000)/\(YQ c x=some R))(K:AV->Prop)(hK:K (.x false [.v (.bool R)])):QM (QBl c x n R K):=by
 refine⟨?_⟩;rw[QCQ];try simp only[Zd]
 obtain⟨⟨⟨h1,hn⟩,hp⟩,hz⟩:=hc;obtain⟨q,hq,hg⟩:=QZJ h1;unfold YQ at hz;rw[hg]at hz;obtain⟨e,he,hz⟩:=bind_some hz;cases hz
 exact⟨by rw[QBj];omega,_,QGS hq,q,e,rfl,⟨⟨hp q (Zo hq),hn⟩,he⟩,by omega,hK⟩
def QEd:Ctr
 | [.x false [.s 1 xs],.x true [.r x n]]=>some fun K=> ∃(c:List (List Rat)) (R:Bool),xs=chN c/\(((1<=c.length/\n<=100000)/\ ∀p∈c,p.length<=1000)/\(YQ c x=some R))/\(K (.x false [.v (.bool R)]))
 | _=>none
theorem QPb:QI 102 QEd:=by
 refine okL Tryz.func102 fun l T hT K hK=> ?_
 unfold QEd at hT;split at hT<;>cases hT
 obtain⟨c,R,rfl,hc,hK⟩:=hK;exact spL (QV QKF Xt Qo) QN Tryz.func102 (QTO _ _ _ _ hc K hK)
def QPc:LC:=(102,QEd)::QPa
theorem QKG:QG QPc:= .cons QPb QKF
def QC6 (c:List (List Rat))(s:Sp)(_R:Int)(K:AV->Prop):Prop:=QU (mkT QPc WO X4) (oF Tryz.f100) noL Tryz.f100 [sC c,.x true [.r s.lo 100000,.r s.hi 100000]] K
theorem QEe (c:List (List Rat))(s:Sp)(R:Int)(K:AV->Prop):QC6 c s R K=(∃(c_1:List (List Rat))(R:Int),chN c=chN c_1/\(((c_1.length<=200000/\100000<=100000)/\∀(p:List Rat),p∈c_1->p.length<=1000)/\Xs c_1 s.lo=some R)/\(0<=R/\R<=Za c_1.length->∃(c_2:List (List Rat))(R_1:Int),chN c=chN c_2/\(((c_2.length<=200000/\100000<=100000)/\∀(p:List Rat),p∈c_2->p.length<=1000)/\Xs c_2 s.hi=some R_1)/\(0<=R_1/\R_1<=Za c_2.length->∃(c_3:List (List Rat))(R_2:Bool),chN c=chN c_3/\(((1<=c_3.length/\100000<=100000)/\∀(p:List Rat),p∈c_3->p.length<=1000)/\YQ c_3 s.lo=some R_2)/\bif R_2 then K (AV.x false [Zs (Zk Zb (Zb.wrap (Zb.wrap (R-R_1)+1)))])else K (AV.x false [Zs (Zk Zb (Zb.wrap (R-R_1)))])))):=by kernel_rfl
theorem QXH (c:List (List Rat))(s:Sp)(R:Int)(hc:((1<=c.length/\c.length<=200000)/\ ∀p∈c,p.length<=1000)/\(YF c s=some R))(K:AV->Prop)(hK:K (iA .i64 R)):QM (QC6 c s R K):=by
 refine⟨?_⟩;rw[QEe];try simp only[Zd,R1,Zi]
 obtain⟨⟨⟨h1,h2⟩,hp⟩,hz⟩:=hc;unfold YF at hz;obtain⟨A,hA,hz⟩:=bind_some hz;obtain⟨B,hB,hz⟩:=bind_some hz;obtain⟨z,hzz,hz⟩:=bind_some hz;cases hz
 refine⟨c,A,rfl,⟨⟨h2,hp⟩,hA⟩,fun hA2=>⟨c,B,rfl,⟨⟨h2,hp⟩,hB⟩,fun hB2=>⟨c,z,rfl,⟨⟨h1,hp⟩,hzz⟩,?_⟩⟩⟩;rw[w64 (by omega: -9223372036854775808<=A-B/\A-B<9223372036854775808),w64 (by omega)];cases z with
 | true=>exact hK
 | false=>exact hK
def QI3:Ctr
 | [.x false [.s 1 xs],.x true ys]=>some fun K=> ∃(c:List (List Rat)) (s:Sp) (R:Int),xs=chN c/\ys=[.r s.lo 100000,.r s.hi 100000]/\(((1<=c.length/\c.length<=200000)/\ ∀p∈c,p.length<=1000)/\(YF c s=some R))/\(K (iA .i64 R))
 | _=>none
theorem QTP:QI 100 QI3:=by
 refine okL Tryz.func100 fun l T hT K hK=> ?_
 unfold QI3 at hT;split at hT<;>cases hT
 obtain⟨c,s,R,rfl,rfl,hc,hK⟩:=hK;exact spL (QV QKG Xt Qo) QN Tryz.func100 (QXH _ _ _ hc K hK)
def QPd:LC:=(100,QI3)::QPc
theorem QKH:QG QPd:= .cons QTP QKG
theorem QTQ (x:Int)(y:Int)(hc:((-9223372036854775808<=x/\x<9223372036854775808)/\ -9223372036854775808<=y/\y<9223372036854775808)/\((y:Rat)≠0))(K:AV->Prop)(hK:K (.t [(true,[.r ((x:Rat)/(y:Rat)) 100000]),(false,[.v (.int .i64 0)])])):QM (QU (mkT QPd WO X4) (oF Tryz.f51) noL Tryz.f51 [iA .i64 x,iA .i64 y] K):=by
 refine HV (((-9223372036854775808<=x/\x<9223372036854775808)/\(-9223372036854775808<=y/\y<9223372036854775808)/\200000<=4294967296/\∃(r:Rat),GK ↑x ↑y=some r/\K (AV.t [(true,[Zl r 100000]),(false,[Zs (Zk Zb 0)])]))) ?_
 try simp only[Zd,R0,R1,Zu,Zi,R4,R2,R3]
 obtain⟨⟨hx,hy⟩,h0⟩:=hc;have p64:(2:Nat)^64=18446744073709551616:=by decide
 have bx:Bd 64 (x:Rat):=QPE (by omega) (by decide);have b2:Bd 64 (y:Rat):=QPE (by omega) (by decide);exact⟨hx,hy,by omega,_,UC bx b2 h0 (by omega),hK⟩
def QAL:Ctr
 | [.x false [.v (.int .i64 x)],.x false [.v (.int .i64 y)]]=>some fun K=>(((-9223372036854775808<=x/\x<9223372036854775808)/\ -9223372036854775808<=y/\y<9223372036854775808)/\((y:Rat)≠0))/\(K (.t [(true,[.r ((x:Rat)/(y:Rat)) 100000]),(false,[.v (.int .i64 0)])]))
 | _=>none
theorem QGW:QI 51 QAL:=by
 refine okL Tryz.func51 fun l T hT K hK=> ?_
 unfold QAL at hT;split at hT<;>cases hT
 obtain⟨hc,hK⟩:=hK;exact spL (QV QKH Xt Qo) QN Tryz.func51 (QTQ _ _ hc K hK)
def QPe:LC:=(51,QAL)::QPd
theorem QKI:QG QPe:= .cons QGW QKH
theorem QXI (s:Sp)(_hc:True)(K:AV->Prop)(hK: ∃R,Vs s=some R/\K (rA R 100000)):QM (QU (mkT QPe WO X4) (oF Tryz.f101) noL Tryz.f101 [.x true [.r s.lo 100000,.r s.hi 100000]] K):=by
 refine HV ((((((-9223372036854775808:Int)<=1/\(1:Int)<9223372036854775808)/\(-9223372036854775808:Int)<=2/\(2:Int)<9223372036854775808)/\(↑(2:Int):Rat)≠OfNat.ofNat 0)/\200001<=4294967296/\∃(r:Rat),Wr s.lo s.hi=some r/\200000<=4294967296/\∃(r_1:Rat),YV ((↑(1:Int):Rat)/(↑(2:Int):Rat)) r=some r_1/\K (AV.x true [Zl r_1 100000]))) ?_
 try simp only[Zd,R0,R1,Zu,Zi,R4,R2,R3]
 obtain⟨R,hR,hK⟩:=hK;unfold Vs at hR;obtain⟨m,hm,hR⟩:=bind_some hR;exact⟨⟨⟨by omega,by omega⟩,by decide+kernel⟩,by omega,m,hm,by omega,R,hR,hK⟩
def QI4:Ctr
 | [.x true ys]=>some fun K=> ∃(s:Sp),ys=[.r s.lo 100000,.r s.hi 100000]/\(True)/\(∃R,Vs s=some R/\K (rA R 100000))
 | _=>none
theorem QTR:QI 101 QI4:=by
 refine okL Tryz.func101 fun l T hT K hK=> ?_
 unfold QI4 at hT;split at hT<;>cases hT
 obtain⟨s,rfl,hc,hK⟩:=hK;exact spL (QV QKI Xt Qo) QN Tryz.func101 (QXI _ hc K hK)
def QPf:LC:=(101,QI4)::QPe
theorem QKJ:QG QPf:= .cons QTR QKI
def Gq (c:List (List Rat))(s:Sp)(_R:Sp)(K:AV->Prop):Prop:=QU (mkT QPf WO X4) (oF Tryz.f60) noL Tryz.f60 [sC c,.x true [.r s.lo 100000,.r s.hi 100000]] K
theorem QBm (c:List (List Rat))(s:Sp)(R:Sp)(K:AV->Prop):Gq c s R K=(∃(s_1:Sp),[Zl s.lo 100000,Zl s.hi 100000]=[Zl s_1.lo 100000,Zl s_1.hi 100000]/\True/\∃(R:Rat),Vs s_1=some R/\∃(c_1:List (List Rat))(R_1:Bool),chN c=chN c_1/\(((1<=c_1.length/\100000<=100000)/\∀(p:List Rat),p∈c_1->p.length<=1000)/\YQ c_1 R=some R_1)/\bif R_1 then 100000<=2000000000/\K (AV.x true [Zl R 100000,Zl R 100000])else ∃(c_2:List (List Rat))(s_2:Sp)(R_2:Int),chN c=chN c_2/\[Zl s.lo 100000,Zl R 100000]=[Zl s_2.lo 100000,Zl s_2.hi 100000]/\(((1<=c_2.length/\c_2.length<=200000)/\∀(p:List Rat),p∈c_2->p.length<=1000)/\YF c_2 s_2=some R_2)/\bif R_2==1 then K (AV.x true [Zl s.lo 100000,Zl R 100000])else K (AV.x true [Zl R 100000,Zl s.hi 100000])):=by kernel_rfl
theorem QPg (c:List (List Rat))(s:Sp)(R:Sp)(hc:((1<=c.length/\c.length<=200000)/\ ∀p∈c,p.length<=1000)/\(J3 c s=some R))(K:AV->Prop)(hK:K (.x true [.r R.lo 100000,.r R.hi 100000])):QM (Gq c s R K):=by
 refine⟨?_⟩;rw[QBm];try simp only[R0,R1,Zi]
 obtain⟨⟨⟨h1,h2⟩,hp⟩,hz⟩:=hc;unfold J3 at hz;obtain⟨m,hm,hz⟩:=bind_some hz;obtain⟨z,hzz,hz⟩:=bind_some hz;refine⟨s,rfl,m,hm,c,z,rfl,⟨⟨h1,hp⟩,hzz⟩,QF (fun hb=> ?_) (fun hb=> ?_)⟩
 ·rw[hb]at hz;cases hz
  exact⟨by omega,hK⟩
 ·rw[hb]at hz;obtain⟨n,hn,hz⟩:=bind_some hz;refine⟨c,⟨s.lo,m⟩,n,rfl,rfl,⟨⟨⟨h1,h2⟩,hp⟩,hn⟩,QF (fun hb=> ?_) (fun hb=> ?_)⟩
  ·rw[hb]at hz;cases hz
   exact hK
  ·rw[hb]at hz;cases hz
   exact hK
def QBn:Ctr
 | [.x false [.s 1 xs],.x true ys]=>some fun K=> ∃(c:List (List Rat)) (s:Sp) (R:Sp),xs=chN c/\ys=[.r s.lo 100000,.r s.hi 100000]/\(((1<=c.length/\c.length<=200000)/\ ∀p∈c,p.length<=1000)/\(J3 c s=some R))/\(K (.x true [.r R.lo 100000,.r R.hi 100000]))
 | _=>none
theorem QMH:QI 60 QBn:=by
 refine okL Tryz.func60 fun l T hT K hK=> ?_
 unfold QBn at hT;split at hT<;>cases hT
 obtain⟨c,s,R,rfl,rfl,hc,hK⟩:=hK;exact spL (QV QKJ Xt Qo) QN Tryz.func60 (QPg _ _ _ hc K hK)
def QPh:LC:=(60,QBn)::QPf
theorem QKK:QG QPh:= .cons QMH QKJ
def Gr (p:List Rat)(_R:List (List Rat))(K:AV->Prop):Prop:=QU (mkT QPh WO X4) (oF Tryz.f57) noL Tryz.f57 [sR 100000 p] K
theorem QBo (p:List Rat)(R:List (List Rat))(K:AV->Prop):Gr p R K=(∃(p_1:List Rat),lR 100000 p=lR 100000 p_1/\p_1.length<=1000/\bif Za (QJ p_1).length==0 then K (AV.t [(false,[Zs (Value.slice none 0 0)]),(false,[Zs (Zk Zb 12)])])else bif decide (Za (QJ p_1).length>13)then K (AV.t [(false,[Zs (Value.slice none 0 0)]),(false,[Zs (Zk Zb 2)])])else ∃(p:List Rat)(d:List Rat)(g:List Rat)(r:List Rat×List Rat)(s:List Rat),Zf (QJ p_1).length (Zj 0 (Zh (fun(q:Rat)=>[Zl q 100000]) (QJ p_1)))=lR 100000 p/\(p.length<=1000/\(GL p=some d/\Kc 100000 p d=some g)/\Xu p g=some r/\Y3 (QJ r.fst)=some s)/\∃(p:List Rat)(R:List (List Rat)),lR 100000 s=lR 100000 p/\(p.length<=1000/\Xm p=some R)/\K (AV.t [(false,[Zv 1 (chN R)]),(false,[Zs (Zk Zb 0)])])):=by kernel_rfl
theorem QPi (p:List Rat)(R:List (List Rat))(hc:(p.length<=1000)/\(Xg p=some R))(K:AV->Prop)(hK:K (.t [(false,[.s 1 (chN R)]),(false,[.v (.int .i64 0)])])):QM (Gr p R K):=by
 refine⟨?_⟩;rw[QBo];try simp only[Zd]
 obtain⟨hl,hR⟩:=hc;obtain⟨⟨h1,h2⟩,d,g,r,s,hd,hr,hs,h3,hch⟩:=QGT hR;refine⟨p,rfl,hl,QF (fun hb=> ?_) (fun hb=>QF (fun hb=> ?_) (fun hb=> ?_))⟩
 ·simp at hb;rw[hb]at h1;simp at h1
 ·have:=R5 hb;omega
 ·exact⟨QJ p,d,g,r,s,K7 rfl,⟨by omega,hd,hr,hs⟩,s,R,rfl,⟨by omega,hch⟩,hK⟩
def QBp:Ctr
 | [.x false [.s 3 xs]]=>some fun K=> ∃(p:List Rat) (R:List (List Rat)),xs=lR 100000 p/\((p.length<=1000)/\(Xg p=some R))/\(K (.t [(false,[.s 1 (chN R)]),(false,[.v (.int .i64 0)])]))
 | _=>none
theorem QMI:QI 57 QBp:=by
 refine okL Tryz.func57 fun l T hT K hK=> ?_
 unfold QBp at hT;split at hT<;>cases hT
 obtain⟨p,R,rfl,hc,hK⟩:=hK;exact spL (QV QKK Xt Qo) QN Tryz.func57 (QPi _ _ hc K hK)
def QPj:LC:=(57,QBp)::QPh
theorem QKL:QG QPj:= .cons QMI QKK
def Gs (p:List Rat)(s:Sp)(_R:Int)(K:AV->Prop):Prop:=QU (mkT QPj WO X4) (oF Tryz.f118) noL Tryz.f118 [sR 100000 p,.x true [.r s.lo 100000,.r s.hi 100000]] K
theorem QBq (p:List Rat)(s:Sp)(R:Int)(K:AV->Prop):Gs p s R K=(∃(p_1:List Rat)(R:List (List Rat)),lR 100000 p=lR 100000 p_1/\(p_1.length<=1000/\Xg p_1=some R)/\(400000<=4294967290/\s.lo<=s.hi/\s.lo<=s.hi)/\∃(c:List (List Rat))(s_1:Sp)(R_1:Int),chN R=chN c/\[Zl (Q9 s.lo s.lo) 100000,Zl (XL s.hi s.hi) 100000]=[Zl s_1.lo 100000,Zl s_1.hi 100000]/\(((1<=c.length/\c.length<=200000)/\∀(p:List Rat),p∈c->p.length<=1000)/\YF c s_1=some R_1)/\K (AV.t [(false,[Zs (Zk Zb R_1)]),(false,[Zs (Zk Zb 0)])])):=by kernel_rfl
theorem QPk (p:List Rat)(s:Sp)(R:Int)(hc:(p.length<=1000/\s.lo<=s.hi)/\(J5 p s=some R))(K:AV->Prop)(hK:K (.t [(false,[.v (.int .i64 R)]),(false,[.v (.int .i64 0)])])):QM (Gs p s R K):=by
 refine⟨?_⟩;rw[QBq];try simp only[Zd,R0,R1,Zu,Zi,R4,R2,R3]
 obtain⟨⟨hl,ho⟩,hR⟩:=hc;unfold J5 at hR;obtain⟨c,hc,hR⟩:=bind_some hR;have hk:=QBk hc;rw[Jc,show XL s.hi s.hi=s.hi by unfold XL;split<;>rfl];exact⟨p,c,rfl,⟨hl,hc⟩,⟨by omega,ho,ho⟩,c,s,R,rfl,rfl,⟨hk,hR⟩,hK⟩
def QBr:Ctr
 | [.x false [.s 3 xs],.x true ys]=>some fun K=> ∃(p:List Rat) (s:Sp) (R:Int),xs=lR 100000 p/\ys=[.r s.lo 100000,.r s.hi 100000]/\((p.length<=1000/\s.lo<=s.hi)/\(J5 p s=some R))/\(K (.t [(false,[.v (.int .i64 R)]),(false,[.v (.int .i64 0)])]))
 | _=>none
theorem QMJ:QI 118 QBr:=by
 refine okL Tryz.func118 fun l T hT K hK=> ?_
 unfold QBr at hT;split at hT<;>cases hT
 obtain⟨p,s,R,rfl,rfl,hc,hK⟩:=hK;exact spL (QV QKL Xt Qo) QN Tryz.func118 (QPk _ _ _ hc K hK)
def QPl:LC:=(118,QBr)::QPj
theorem QKM:QG QPl:= .cons QMJ QKL
def QMK (c:List (List Rat))(w:Rat)(R:Sp):LI:=fun _=> .inv ⟨Nat×Sp,fun e=>⟨[(4,.x false [.p 4 0]),(5,.x false [.p 5 0]),(6,.x false [.p 6 0]),(8,sC c)],[(4,.box 64 [.r e.2.lo 100000,.r e.2.hi 100000]),(5,.box 26 [.r w 100000]),(6,.box 64 (Wq++Wq))]⟩,fun e=>Ke c w e.1 e.2=some R,fun e=>e.1,fun _=>0⟩
abbrev QKN (p:List Rat)(c:List (List Rat))(s:Sp)(w:Rat)(R:Sp)(K:AV->Prop):Prop:=(((p.length<=1000/\s.lo<=s.hi)/\Xg p=some c)/\(0<w/\Gl p s w=some R))/\(K (.t [(true,[.r R.lo 100000,.r R.hi 100000]),(false,[.v (.int .i64 0)])]))
set_option maxHeartbeats 1000000 in
theorem QTS (p:List Rat)(c:List (List Rat))(s:Sp)(w:Rat)(R:Sp)(K:AV->Prop)(hK:QKN p c s w R K):QM (QU (mkT QPl WO X4) (oF Tryz.f119) (QMK c w R) Tryz.f119 [sR 100000 p,.x true [.r s.lo 100000,.r s.hi 100000],rA w 100000] K):=by
  obtain⟨hc,hK⟩:=hK;refine HV ((∃(p_1:List Rat),∃(R_1:List (List Rat)),lR 100000 p=lR 100000 p_1/\(p_1.length<=1000/\Xg p_1=some R_1)/\100000<=4294967296/\bif decide (Qa w<=0)then K (AV.t [(true,[Zs (Zt false),Zs (Zm (Zc (Ze []))),Zs (Zm (Zc (Ze []))),Zs (Zt false),Zs (Zm (Zc (Ze []))),Zs (Zm (Zc (Ze [])))]),(false,[Zs (Zk Zb 1)])])else(400000<=4294967290/\s.lo<=s.hi/\s.lo<=s.hi)/\∃(c_1:List (List Rat)),∃(s_1:Sp),∃(R_2:Int),chN R_1=chN c_1/\[Zl (Q9 s.lo s.lo) 100000,Zl (XL s.hi s.hi) 100000]=[Zl s_1.lo 100000,Zl s_1.hi 100000]/\(((1<=c_1.length/\c_1.length<=200000)/\∀(p:List Rat),p∈c_1->p.length<=1000)/\YF c_1 s_1=some R_2)/\bif R_2 !=1 then K (AV.t [(true,[Zs (Zt false),Zs (Zm (Zc (Ze []))),Zs (Zm (Zc (Ze []))),Zs (Zt false),Zs (Zm (Zc (Ze []))),Zs (Zm (Zc (Ze [])))]),(false,[Zs (Zk Zb 4)])])else(∃(x:Nat×Sp),(Ke c w x.fst x.snd=some R/\OfNat.ofNat 0=0)/\0=0/\0=0/\0=0/\1=1/\chN R_1=chN c/\64=64/\Q9 s.lo s.lo=x.snd.lo/\100000<=100000/\XL s.hi s.hi=x.snd.hi/\100000<=100000/\26=26/\w=w/\100000<=100000/\64=64/\false=false/\Zc (Ze [])=Zc (Ze [])/\Zc (Ze [])=Zc (Ze [])/\false=false/\Zc (Ze [])=Zc (Ze [])/\Zc (Ze [])=Zc (Ze [])/\True)/\∀(x:Nat×Sp),Ke c w x.fst x.snd=some R->OfNat.ofNat 0=0->200001<=4294967296/\∃(r:Rat),W2 x.snd.hi x.snd.lo=some r/\200000<=4294967296/\bif decide (Xk r w>0)then ∃(c_2:List (List Rat)),∃(s:Sp),∃(R_3:Sp),chN c=chN c_2/\[Zl x.snd.lo 100000,Zl x.snd.hi 100000]=[Zl s.lo 100000,Zl s.hi 100000]/\(((1<=c_2.length/\c_2.length<=200000)/\∀(p:List Rat),p∈c_2->p.length<=1000)/\J3 c_2 s=some R_3)/\∃(x':Nat×Sp),(Ke c w x'.fst x'.snd=some R/\OfNat.ofNat 0=0/\x'.fst<x.fst)/\0=0/\0=0/\0=0/\1=1/\chN c=chN c/\64=64/\R_3.lo=x'.snd.lo/\100000<=100000/\R_3.hi=x'.snd.hi/\100000<=100000/\26=26/\w=w/\100000<=100000/\64=64/\false=false/\Zc (Ze [])=Zc (Ze [])/\Zc (Ze [])=Zc (Ze [])/\false=false/\Zc (Ze [])=Zc (Ze [])/\Zc (Ze [])=Zc (Ze [])/\True else K (AV.t [(true,[Zl x.snd.lo 100000,Zl x.snd.hi 100000]),(false,[Zs (Zk Zb 0)])]))) ?_
  try simp only[R0,R1,Zi,R4]
  obtain⟨⟨⟨hl,ho⟩,hc⟩,hw,hR⟩:=hc;unfold Gl at hR;rw[hc]at hR;obtain⟨c',hc',hR⟩:=bind_some hR;cases hc'
  obtain⟨n,hn,hR⟩:=bind_some hR;have hk:=QBk hc;rw[Jc,show XL s.hi s.hi=s.hi by unfold XL;split<;>rfl];refine⟨p,c,rfl,⟨hl,hc⟩,by omega,QF (fun hb=> ?_) (fun _=>⟨⟨by omega,ho,ho⟩,c,s,n,rfl,rfl,⟨hk,hn⟩,QF (fun hb=> ?_) (fun hb=>⟨⟨(FU,s),?_,rfl,rfl,rfl⟩,fun x hx=>⟨by omega,?_⟩⟩)⟩)⟩
  · have:=R5 hb;rw[QTI hw]at this;omega
  · have e:(n==1)=false:=by
      cases h:n==1 with
      | false=>rfl
      | true=>simp at h;subst h;cases hb
    rw[e]at hR;cases hR
  · have e:(n==1)=true:=by
      cases h:n==1 with
      | true=>rfl
      | false => have : (n != 1) = true := by simp only [bne, h]; rfl
                 rw[this]at hb;cases hb
    rw[e]at hR;exact hR
  · obtain⟨k,t⟩:=x;cases k with
    | zero=>cases hx
    | succ k=>
      have hx:Ke c w (k+1) t=some R:=hx;rw[Ke]at hx;obtain⟨d,hd,hx⟩:=bind_some hx;refine⟨d,hd,by omega,QF (fun hb=> ?_) (fun hb=> ?_)⟩
      · have hb:w<d:=by
          have:=R5 hb;exact Rat.not_le.1 fun e=>by have:=(J2 d w).2 e;omega
        rw[decide_eq_true hb]at hx;obtain⟨t',ht,hx⟩:=bind_some hx;exact⟨c,t,t',rfl,rfl,⟨hk,ht⟩,(k,t'),⟨hx,Nat.lt_succ_self k⟩,rfl,rfl⟩
      · have hb: ¬w<d:=by
          have:=R6 hb;exact Rat.not_lt.2 ((J2 d w).1 (by omega))
        rw[decide_eq_false hb]at hx;cases hx
        exact hK
def QEf:Ctr
 | [.x false [.s 3 xs],.x true ys,.x true zs]=>some fun K=> ∃(p:List Rat) (c:List (List Rat)) (s:Sp) (w:Rat) (R:Sp),xs=lR 100000 p/\ys=[.r s.lo 100000,.r s.hi 100000]/\zs=[.r w 100000]/\QKN p c s w R K
 | _=>none
theorem QPm:QI 119 QEf:=by
 refine okL Tryz.func119 fun l T hT K hK=> ?_
 unfold QEf at hT;split at hT<;>cases hT
 obtain⟨p,c,s,w,R,rfl,rfl,rfl,hK⟩:=hK;exact spL (QV QKM Xt Qo) QN Tryz.func119 (QTS _ _ _ _ _ K hK)
def QC7:LC:=(119,QEf)::QPl
noncomputable def QU3:Qc:=mkT QC7 WO X4
theorem QAM:QG QC7:= .cons QPm QKM
theorem QTT:XP QU3:=QV QAM Xt Qo
end Go.Proofs
