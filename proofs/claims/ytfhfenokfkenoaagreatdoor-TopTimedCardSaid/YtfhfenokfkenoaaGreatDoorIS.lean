/- sturm: plain, chained, changes, zero, count, middle, halve, ready, Count, Fine. -/
import Derived.Test.YtfhfenokfkenoaaGreatDoorIA
open Int renaming ofNat → Za, ofNat_eq_natCast → Zd
open Go.IntKind renaming i64 → Zb
open ByteArray renaming mk → Zc
open Array renaming mk → Ze
open List renaming take → Zf, getElem?_eq_getElem → Zg, map → Zh, drop → Zj, take_of_length_le → Zn, mem_of_getElem? → Zo, getD_eq_getElem?_getD → Zp
open Nat renaming le_refl → Zi, le_trans → Zq, ble_eq_true_of_le → Zr, zero_add → Zu
open Go.Value renaming int → Zk, string → Zm, bool → Zt
open Go.Eng.Ch renaming r → Zl, v → Zs, s → Zv
namespace Go.Proofs
open Go Go.Eng
def chE (p:List Rat):List Ch:=[.s 3 (lR 100000 p)]
def chN (c:List (List Rat)):List (List Ch):=c.map chE
def sC (c:List (List Rat)):AV:= .x false [.s 1 (chN c)]
theorem QAi (c:List (List Rat)):(chN c).length=c.length:=by simp[chN]
theorem QFN {c:List (List Rat)}{i:Nat}{p:List Rat}(h:c[i]? =some p):ldE (chN c) i 0 1=some [.s 3 (lR 100000 p)]:=by
 simp only[ldE,chN,List.getElem?_map,h];rfl
theorem QHi {c:List (List Rat)}{p:List Rat}:Zf c.length (chN c)++[[Zv 3 (lR 100000 p)]]=chN (c++[p]):=by
 rw[Zn (by rw[QAi];exact Zi _)];simp[chN,chE]
theorem QRx {c:List (List Rat)}:Zf c.length (Zj 0 (chN c))=chN c:=by
 rw[List.drop_zero,Zn (by rw[QAi];exact Zi _)]
theorem QXu (q:Rat):XE q=1∨XE q=0∨XE q= -1:=by
 unfold XE;split
 ·exact .inr (.inl rfl)
 ·split
  ·exact .inr (.inr rfl)
  ·exact .inl rfl
theorem QRy {w:Rat}(h:0<w):XE w=1:=by
 have h0:w.num≠0:=fun e=>by rw[Rat.num_eq_zero.1 e]at h;exact absurd h (by decide)
 have h1:=Rat.num_nonneg.2 (Rat.le_of_lt h);unfold XE;rw[if_neg h0,if_neg (by omega)]
theorem QOK {p q:List Rat}{R:List Rat×List Rat}(h:YA p q=some R):1<=q.length:=by
 cases q with
 | nil=>
  exfalso;unfold YA at h;rw[show FU=99999+1 from rfl,Vp]at h;rw[show Nat.ble ([]:List Rat).length (QM p).length=true from Zr (Nat.zero_le _)]at h;simp only[R7]at h;obtain⟨c,hc,_⟩:=bind_some h;unfold QBG at hc;rw[show((K5 ([]:List Rat)).num==0)=true from rfl]at hc;cases hc
 | cons x l=>simp
theorem QOL {q:List Rat}: ∀{n:Nat} {b r:List Rat} {R:List Rat×List Rat},Vp q n b r=some R->R.1.length=b.length/\R.2.length<=r.length:=by
 intro n;induction n with
 | zero=>intro b r R h;cases h
 | succ n ih=>
  intro b r R h;rw[Vp]at h;cases hb:Nat.ble q.length r.length with
  | false=>rw[hb]at h;cases h;exact⟨rfl,Zi _⟩
  | true=>
   rw[hb]at h;obtain⟨c,_,h⟩:=bind_some h;obtain⟨r1,h1,h⟩:=bind_some h;obtain⟨k1,k2⟩:=ih h;rw[List.length_set]at k1;exact⟨k1,Zq k2 (Zq (WG _) (Nat.le_of_eq (QOA h1)))⟩
theorem VM {p q:List Rat}{R:List Rat×List Rat}(h:YA p q=some R):R.1.length<=p.length/\R.2.length<=p.length:=by
 have h1:=QOK h;obtain⟨k1,k2⟩:=QOL h;rw[List.length_replicate]at k1;have:=WG p;omega
theorem QRz {d:Rat}: ∀{l acc r:List Rat},scF d l acc=some r->r.length=acc.length+l.length:=by
 intro l;induction l with
 | nil=>intro acc r h;cases h;simp
 | cons x l ih=>
  intro acc r h;rw[scF]at h;obtain⟨u,_,h⟩:=bind_some h;rw[ih h];simp;omega
theorem QDa {p r:List Rat}(h:YO p=some r):r.length=p.length:=by
 have:=QRz h;simpa using this
theorem QOM: ∀{l acc r:List Rat} {i:Nat},Vo l i acc=some r->r.length=acc.length+l.length:=by
 intro l;induction l with
 | nil=>intro acc r i h;cases h;simp
 | cons x l ih=>
  intro acc r i h;rw[Vo]at h;obtain⟨u,_,h⟩:=bind_some h;rw[ih h];simp;omega
theorem QHj {p d:List Rat}(h:QFJ p=some d): ∃all,Vo (p.drop 1) 1 []=some all/\d=QM all/\d.length<=p.length:=by
 unfold QFJ at h;cases hd:Vo (p.drop 1) 1 []with
 | none=>rw[hd]at h;cases h
 | some all=>
  rw[hd]at h;cases h
  refine⟨all,rfl,rfl,?_⟩;have:=QOM hd;have:=WG all;simp at*;omega
theorem QV0: ∀{n:Nat} {c R:List (List Rat)} {q:List Rat},chF n c q=some R->1<=c.length->(∀p∈c,p.length<=1000)->q.length<=1000->(1<=R.length/\R.length<=c.length+n)/\ ∀p∈R,p.length<=1000:=by
 intro n;induction n with
 | zero=>intro c R q h;cases h
 | succ n ih=>
  intro c R q h h1 h2 h3;rw[chF]at h;cases hb:Nat.ble 1 q.length with
  | false=>rw[hb]at h;cases h;exact⟨⟨h1,by omega⟩,h2⟩
  | true=>
   rw[hb]at h;obtain⟨s,hs,h⟩:=bind_some h;obtain⟨r,hr,h⟩:=bind_some h;obtain⟨x,hx⟩: ∃x,c[c.length-1]? =some x:=⟨_,Zg (by omega)⟩
   have hxl:=h2 x (Zo hx);rw[Zp,hx]at hr;have hd:=(VM hr).2;have hsl:=QDa hs
   obtain⟨⟨k1,k2⟩,k3⟩:=ih h (by simp) (fun p hp=>by
    rcases List.mem_append.1 hp with hp | hp
    ·exact h2 p hp
    ·simp at hp;subst hp;omega) (by simp at hd⊢;omega)
   refine⟨⟨k1,?_⟩,k3⟩;simp at k2;omega
theorem QHk {p:List Rat}{R:List (List Rat)}(h:Jh p=some R)(hl:p.length<=1000):(1<=R.length/\R.length<=200000)/\ ∀p∈R,p.length<=1000:=by
 unfold Jh at h;obtain⟨d,hd,h⟩:=bind_some h;obtain⟨_,_,_,h2⟩:=QHj hd;obtain⟨⟨k1,k2⟩,k3⟩:=QV0 h (by simp) (fun q hq=>by simp at hq;subst hq;exact hl) (by omega);unfold FU at k2;simp at k2;exact⟨⟨k1,by omega⟩,k3⟩
theorem QFO {p:List Rat}{R:List (List Rat)}(h:X6 p=some R):(1<=(QM p).length/\(QM p).length<=13)/\ ∃d g r s,(QFJ (QM p)=some d/\Hk FU (QM p) d=some g)/\YA (QM p) g=some r/\YO (QM r.1)=some s/\s.length<=13/\Jh s=some R:=by
 unfold X6 at h;cases h1:Nat.beq (QM p).length 0 with
 | true=>rw[h1]at h;cases h
 | false=>
  rw[h1]at h;cases h2:Nat.ble (QM p).length 13 with
  | false=>rw[h2]at h;cases h
  | true=>
   rw[h2]at h;obtain⟨s,hs,h⟩:=bind_some h;unfold QN5 at hs;obtain⟨d,hd,hs⟩:=bind_some hs;obtain⟨g,hg,hs⟩:=bind_some hs;obtain⟨r,hr,hs⟩:=bind_some hs;have e1:=QDa hs;have e2:=WG r.1;have e3:=(VM hr).1;have e4:=Nat.le_of_ble_eq_true h2;refine⟨⟨?_,e4⟩,d,g,r,s,⟨hd,hg⟩,hr,hs,by omega,h⟩;cases hz:(QM p).length with
   | zero=>rw[hz]at h1;cases h1
   | succ n=>omega
theorem QAj {p:List Rat}{R:List (List Rat)}(h:X6 p=some R):(1<=R.length/\R.length<=200000)/\ ∀p∈R,p.length<=1000:=by
 obtain⟨_,d,g,r,s,_,_,_,h1,h2⟩:=QFO h;exact QHk h2 (by omega)
theorem QXv {c:List (List Rat)}(h:1<=c.length): ∃p,c[0]? =some p/\c.getD 0 []=p:=by
 obtain⟨x,hx⟩: ∃x,c[0]? =some x:=⟨_,Zg (by omega)⟩
 exact⟨x,hx,by rw[Zp,hx];rfl⟩
structure QR0 where
 n:Nat
 a:List Rat
 b:List Rat
def QR1 (p g:List Rat):LI:=fun _=> .inv ⟨QR0,fun e=>⟨[(0,sR 100000 p),(3,sR 100000 e.a),(4,sR 100000 e.b)],[]⟩,fun e=>(e.a.length<=1000/\e.b.length<=1000)/\Hk e.n e.a e.b=some g,fun e=>e.n,fun _=>0⟩
def QFP (p:List Rat)(_d:List Rat)(g:List Rat)(_r:List Rat×List Rat)(_s:List Rat)(K:AV->Prop):Prop:=QT QTU (oF Tryz.f227) (QR1 p g) Tryz.f227 [sR 100000 p] K
theorem QFQ (p:List Rat)(d:List Rat)(g:List Rat)(r:List Rat×List Rat)(s:List Rat)(K:AV->Prop):QFP p d g r s K=(∃(p_1:List Rat)(all:List Rat),lR 100000 p=lR 100000 p_1/\(p_1.length<=1000/\Vo (Zj 1 p_1) 1 []=some all)/\(∃(x:QR0),(((x.a.length<=1000/\x.b.length<=1000)/\Hk x.n x.a x.b=some g)/\OfNat.ofNat 0=0)/\3=3/\lR 100000 p=lR 100000 p/\3=3/\lR 100000 p=lR 100000 x.a/\3=3/\lR 100000 (QM all)=lR 100000 x.b/\True)/\∀(x:QR0),(x.a.length<=1000/\x.b.length<=1000)/\Hk x.n x.a x.b=some g->OfNat.ofNat 0=0->bif decide (Za (lR 100000 x.b).length>0)then ∃(p_2:List Rat)(q:List Rat)(R:List Rat×List Rat),lR 100000 x.a=lR 100000 p_2/\lR 100000 x.b=lR 100000 q/\((p_2.length<=1000/\1<=q.length/\q.length<=1000)/\YA p_2 q=some R)/\∃(p_3:List Rat)(all:List Rat),lR 100000 x.b=lR 100000 p_3/\(p_3.length<=1000/\YO p_3=some all)/\∃(x':QR0),(((x'.a.length<=1000/\x'.b.length<=1000)/\Hk x'.n x'.a x'.b=some g)/\OfNat.ofNat 0=0/\x'.n<x.n)/\3=3/\lR 100000 p=lR 100000 p/\3=3/\lR 100000 all=lR 100000 x'.a/\3=3/\lR 100000 R.snd=lR 100000 x'.b/\True else ∃(p_2:List Rat)(q:List Rat)(R:List Rat×List Rat),lR 100000 p=lR 100000 p_2/\lR 100000 x.a=lR 100000 q/\((p_2.length<=1000/\1<=q.length/\q.length<=1000)/\YA p_2 q=some R)/\∃(p:List Rat),lR 100000 R.fst=lR 100000 p/\p.length<=1000/\∃(p_3:List Rat)(all:List Rat),Zf (QM p).length (Zj 0 (Zh (fun(q:Rat)=>[Zl q 100000]) (QM p)))=lR 100000 p_3/\(p_3.length<=1000/\YO p_3=some all)/\K (AV.x false [Zv 3 (lR 100000 all)])):=by kernel_rfl
theorem QXw (p:List Rat)(d:List Rat)(g:List Rat)(r:List Rat×List Rat)(s:List Rat)(hc:(p.length<=1000)/\((QFJ p=some d/\Hk FU p d=some g)/\YA p g=some r/\YO (QM r.1)=some s))(K:AV->Prop)(hK:K (sR 100000 s)):QK (QFP p d g r s K):=by
 refine⟨?_⟩;rw[QFQ];try simp only[Zd,R0,R1,R4]
 obtain⟨hl,⟨hd,hg⟩,hr,hs⟩:=hc;obtain⟨all,h1,rfl,h2⟩:=QHj hd;refine⟨p,all,rfl,⟨hl,h1⟩,⟨⟨FU,p,QM all⟩,⟨⟨hl,by simp only;omega⟩,hg⟩,rfl,rfl⟩,fun x ⟨⟨a1,a2⟩,a3⟩=>QC (fun hp=> ?_) (fun hp=> ?_)⟩
 ·have hp:1<=x.b.length:=by have:=R5 hp;rw[Qr]at this;omega
  cases hn:x.n with
  | zero=>rw[hn]at a3;cases a3
  | succ n=>
   rw[hn,Hk,Zr hp]at a3;simp only[R7]at a3;obtain⟨R,hR,a3⟩:=bind_some a3;obtain⟨s2,hs2,a3⟩:=bind_some a3;exact⟨x.a,x.b,R,rfl,rfl,⟨⟨a1,hp,a2⟩,hR⟩,x.b,s2,rfl,⟨a2,hs2⟩,⟨n,s2,R.2⟩,⟨⟨⟨by simp only;rw[QDa hs2];exact a2,Zq (VM hR).2 a1⟩,a3⟩,by simp only;omega⟩,rfl,rfl⟩
 ·have hp:x.b.length=0:=by have:=R6 hp;rw[Qr]at this;omega
  cases hn:x.n with
  | zero=>rw[hn]at a3;cases a3
  | succ n=>
   rw[hn,Hk,hp]at a3;have a3:some x.a=some g:=a3;have a3:=Option.some.inj a3;rw[a3];rw[a3]at a1;exact⟨p,g,r,rfl,rfl,⟨⟨hl,QOK hr,a1⟩,hr⟩,r.1,rfl,Zq (VM hr).1 hl,QM r.1,s,KI rfl,⟨Zq (WG _) (Zq (VM hr).1 hl),hs⟩,hK⟩
def QON:Ctr
 | [.x false [.s 3 xs]]=>some fun K=> ∃(p:List Rat) (d:List Rat) (g:List Rat) (r:List Rat×List Rat) (s:List Rat),xs=lR 100000 p/\((p.length<=1000)/\((QFJ p=some d/\Hk FU p d=some g)/\YA p g=some r/\YO (QM r.1)=some s))/\(K (sR 100000 s))
 | _=>none
theorem QV1:QJ 227 QON:=by
 refine okL Tryz.func227 fun l T hT K hK=> ?_
 unfold QON at hT;split at hT<;>cases hT
 obtain⟨p,d,g,r,s,rfl,hc,hK⟩:=hK;exact spL QRw QN Tryz.func227 (QXw _ _ _ _ _ hc K hK)
def QOO:LC:=(227,QON)::QOJ
theorem QIq:QG QOO:= .cons QV1 QIp
structure ChX where
 n:Nat
 i:Nat
 c:List (List Rat)
 q:List Rat
 r:List Rat
def QXx (c:List (List Rat)):Blk:= .row 41 1 (chN c)
def QR2 (R:List (List Rat)):LI:=fun id=>
 bif id.beq 3 then .invf [501] ⟨ChX,fun e=>⟨[(3,.x false [.w 500 0 e.c.length]),(4,sR 100000 e.q)],[(500,QXx e.c)]⟩,fun e=>((1<=e.c.length/\e.c.length+e.n<=FU+2)/\e.q.length<=1000/\ ∀p∈e.c,p.length<=1000)/\chF e.n e.c e.q=some R,fun e=>e.n,fun _=>0⟩
 else .inv ⟨ChX,fun e=>⟨[(3,.x false [.w 500 0 e.c.length]),(4,.x false [.w 501 0 e.i]),(39,sR 100000 e.r),(40,iA .i64 e.r.length),(41,iA .i64 e.i)],[(500,QXx e.c),(501,Xs 100000 ((e.r.map fun x=> -x).take e.i))]⟩,
  fun e=>(((1<=e.c.length/\e.c.length+e.n<=FU+2)/\e.r.length<=1000/\ ∀p∈e.c,p.length<=1000)/\e.i<=e.r.length)/\chF e.n e.c (e.r.map fun x=> -x)=some R,fun e=>e.r.length-e.i,fun e=>e.n+1⟩
set_option maxHeartbeats 1000000 in
theorem QXy (p:List Rat)(R:List (List Rat))(hc:(p.length<=1000)/\(Jh p=some R))(K:AV->Prop)(hK:K (sC R)):QK (QT (mkT QOO Jn X4) (oF Tryz.f226) (QR2 R) Tryz.f226 [sR 100000 p] K):=by
 refine HV ((∃(p_1:List Rat),∃(all:List Rat),lR 100000 p=lR 100000 p_1/\(p_1.length<=1000/\Vo (Zj 1 p_1) 1 []=some all)/\(∃(x:ChX),((((1<=x.c.length/\x.c.length+x.n<=100002)/\x.q.length<=1000/\∀(p:List Rat),p∈x.c->p.length<=1000)/\chF x.n x.c x.q=some R)/\OfNat.ofNat 0=0)/\0=0/\1=x.c.length/\3=3/\lR 100000 (QM all)=lR 100000 x.q/\41=41/\1=1/\([[Zv 3 (lR 100000 p)]]=chN x.c∨QE [[Zv 3 (lR 100000 p)]] (chN x.c))/\True)/\∀(x:ChX),((1<=x.c.length/\x.c.length+x.n<=100002)/\x.q.length<=1000/\∀(p:List Rat),p∈x.c->p.length<=1000)/\chF x.n x.c x.q=some R->OfNat.ofNat 0=0->bif decide (Za (lR 100000 x.q).length>0)then ∃(p:List Rat),∃(all:List Rat),lR 100000 x.q=lR 100000 p/\(p.length<=1000/\YO p=some all)/\((x.c.length+1)*24<=140737488355328/\x.c.length+1<=9223372036854775807)/\(0<=Zb.wrap (Za (x.c.length+1)-2)/\Zb.wrap (Za (x.c.length+1)-2)<Za (x.c.length+1))/\∃(ys:List (List Ch)),ldE (Zf x.c.length (chN x.c)++[[Zv 3 (lR 100000 all)]]) (0+(Zb.wrap (Za (x.c.length+1)-2)).toNat) 0 1=some [Zv 3 ys]/\(0<=Zb.wrap (Za (x.c.length+1)-1)/\Zb.wrap (Za (x.c.length+1)-1)<Za (x.c.length+1))/\∃(ys_1:List (List Ch)),ldE (Zf x.c.length (chN x.c)++[[Zv 3 (lR 100000 all)]]) (0+(Zb.wrap (Za (x.c.length+1)-1)).toNat) 0 1=some [Zv 3 ys_1]/\∃(p:List Rat),∃(q:List Rat),∃(R_1:List Rat×List Rat),ys=lR 100000 p/\ys_1=lR 100000 q/\((p.length<=1000/\1<=q.length/\q.length<=1000)/\YA p q=some R_1)/\((0:Int)=0/\(0:Int)=0/\(0:Int)=0)/\(∃(x_1:ChX),(((((1<=x_1.c.length/\x_1.c.length+x_1.n<=100002)/\x_1.r.length<=1000/\∀(p:List Rat),p∈x_1.c->p.length<=1000)/\x_1.i<=x_1.r.length)/\chF x_1.n x_1.c (Zh (fun(x:Rat)=> -x) x_1.r)=some R)/\x_1.n+1=x.n)/\0=0/\x.c.length+1=x_1.c.length/\0=0/\0=x_1.i/\3=3/\lR 100000 R_1.snd=lR 100000 x_1.r/\Za (lR 100000 R_1.snd).length=Za x_1.r.length/\0=Za x_1.i/\41=41/\1=1/\(Zf x.c.length (chN x.c)++[[Zv 3 (lR 100000 all)]]=chN x_1.c∨QE (Zf x.c.length (chN x.c)++[[Zv 3 (lR 100000 all)]]) (chN x_1.c))/\25=25/\3=3/\([]=Zh (fun(q:Rat)=>[Zl q 100000]) (Zf x_1.i (Zh (fun(x:Rat)=> -x) x_1.r))∨QE [] (Zh (fun(q:Rat)=>[Zl q 100000]) (Zf x_1.i (Zh (fun(x:Rat)=> -x) x_1.r))))/\True)/\∀(x_1:ChX),(((1<=x_1.c.length/\x_1.c.length+x_1.n<=100002)/\x_1.r.length<=1000/\∀(p:List Rat),p∈x_1.c->p.length<=1000)/\x_1.i<=x_1.r.length)/\chF x_1.n x_1.c (Zh (fun(x:Rat)=> -x) x_1.r)=some R->x_1.n+1=x.n->bif decide (Za x_1.i<Za x_1.r.length)then(0<=Za x_1.i/\Za x_1.i<Za (lR 100000 x_1.r).length)/\∃(q:Rat),∃(n:Nat),ldE (lR 100000 x_1.r) (Za x_1.i).toNat 0 3=some [Zl q n]/\n<=100000/\((x_1.i+1)*40<=140737488355328/\x_1.i+1<=9223372036854775807)/\∃(x':ChX),(((((1<=x'.c.length/\x'.c.length+x'.n<=100002)/\x'.r.length<=1000/\∀(p:List Rat),p∈x'.c->p.length<=1000)/\x'.i<=x'.r.length)/\chF x'.n x'.c (Zh (fun(x:Rat)=> -x) x'.r)=some R)/\x'.n+1=x.n/\x'.r.length-x'.i<x_1.r.length-x_1.i)/\0=0/\x_1.c.length=x'.c.length/\0=0/\x_1.i+1=x'.i/\3=3/\lR 100000 x_1.r=lR 100000 x'.r/\Za x_1.r.length=Za x'.r.length/\Zb.wrap (Za x_1.i+1)=Za x'.i/\41=41/\1=1/\(chN x_1.c=chN x'.c∨QE (chN x_1.c) (chN x'.c))/\25=25/\3=3/\(Zf x_1.i (Zh (fun(q:Rat)=>[Zl q 100000]) (Zf x_1.i (Zh (fun(x:Rat)=> -x) x_1.r)))++[[Zl (-q) 100000]]=Zh (fun(q:Rat)=>[Zl q 100000]) (Zf x'.i (Zh (fun(x:Rat)=> -x) x'.r))∨QE (Zf x_1.i (Zh (fun(q:Rat)=>[Zl q 100000]) (Zf x_1.i (Zh (fun(x:Rat)=> -x) x_1.r)))++[[Zl (-q) 100000]]) (Zh (fun(q:Rat)=>[Zl q 100000]) (Zf x'.i (Zh (fun(x:Rat)=> -x) x'.r))))/\True else ∃(x':ChX),((((1<=x'.c.length/\x'.c.length+x'.n<=100002)/\x'.q.length<=1000/\∀(p:List Rat),p∈x'.c->p.length<=1000)/\chF x'.n x'.c x'.q=some R)/\OfNat.ofNat 0=0/\x'.n<x.n)/\0=0/\x_1.c.length=x'.c.length/\3=3/\Zf x_1.i (Zj 0 (Zh (fun(q:Rat)=>[Zl q 100000]) (Zf x_1.i (Zh (fun(x:Rat)=> -x) x_1.r))))=lR 100000 x'.q/\41=41/\1=1/\(chN x_1.c=chN x'.c∨QE (chN x_1.c) (chN x'.c))/\True else K (AV.x false [Zv 1 (Zf x.c.length (Zj 0 (chN x.c)))]))) ?_
 try simp only[Zd,R0,R1,Zu,R4]
 obtain⟨hl,hR⟩:=hc;unfold Jh at hR;obtain⟨d,hd,hR⟩:=bind_some hR;obtain⟨all,h1,rfl,h2⟩:=QHj hd;refine⟨p,all,rfl,⟨hl,h1⟩,⟨⟨FU,0,[p],QM all,[]⟩,⟨⟨⟨by simp,by simp only[List.length_singleton,FU];omega⟩,by simp only;omega,fun q hq=>by simp at hq;subst hq;exact hl⟩,hR⟩,rfl,rfl,.inl rfl⟩,fun x ⟨⟨⟨a1,a2⟩,a3,a4⟩,av⟩=>QC (fun hp=> ?_) (fun hp=> ?_)⟩
 ·have hp:1<=x.q.length:=by have:=R5 hp;rw[Qr]at this;omega
  cases hn:x.n with
  | zero=>rw[hn]at av;cases av
  | succ n=>
   rw[hn,chF,Zr hp]at av;simp only[R7]at av;obtain⟨s,hs,av⟩:=bind_some av;obtain⟨r,hr,av⟩:=bind_some av;obtain⟨l,hl'⟩: ∃l,x.c[x.c.length-1]? =some l:=⟨_,Zg (by omega)⟩
   rw[Zp,hl']at hr;have ew1:Zb.wrap (((x.c.length+1:Nat):Int)-2)=((x.c.length-1:Nat):Int):=by rw[w64 (by omega)];omega
   have ew2:Zb.wrap (((x.c.length+1:Nat):Int)-1)=((x.c.length:Nat):Int):=by rw[w64 (by omega)];omega
   have el:=a4 l (Zo hl');have es:=QDa hs;have er:=(VM hr).2;have er:r.2.length<=1000:=Zq er el;rw[ew1,ew2];simp only[Int.toNat_natCast];refine⟨x.q,s,rfl,⟨a3,hs⟩,⟨by omega,by omega⟩,⟨by omega,by omega⟩,lR 100000 l,?_,⟨by omega,by omega⟩,lR 100000 s,?_,l,s,r,rfl,rfl,⟨⟨el,by omega,by omega⟩,hr⟩,⟨⟨n,0,x.c++[s],[],r.2⟩,⟨⟨⟨⟨⟨by simp,by simp;omega⟩,er,fun q hq=> ?_⟩,Nat.zero_le _⟩,av⟩,by simp only⟩,by simp,rfl,rfl,by rw[Qr],rfl,.inl QHi,.inl (by simp)⟩,fun y ⟨⟨⟨⟨b1,b2⟩,b3,b4⟩,b5⟩,bv⟩ hyn=>QC (fun hj=> ?_) (fun hj=> ?_)⟩
   ·rw[QHi];exact QFN (by rw[List.getElem?_append_left (by omega)];exact hl')
   ·rw[QHi];exact QFN (by rw[List.getElem?_append_right (Zi _),Nat.sub_self];rfl)
   ·rcases List.mem_append.1 hq with hq | hq
    ·exact a4 q hq
    ·simp at hq;subst hq;omega
   ·have hj:y.i<y.r.length:=by have:=R5 hj;omega
    obtain⟨q,hq⟩: ∃q,y.r[y.i]? =some q:=⟨_,Zg (by omega)⟩
    refine⟨by rw[Qr];omega,q,100000,XD hq,by omega,⟨by omega,by omega⟩,⟨y.n,y.i+1,y.c,[],y.r⟩,⟨⟨⟨⟨⟨b1,b2⟩,b3,b4⟩,by simp only;omega⟩,bv⟩,hyn,by simp only;omega⟩,rfl,rfl,rfl,rfl,by rw[w64 (by omega)];simp,.inl rfl,.inl ?_⟩;rw[Zn (by simp;omega),List.take_add_one,List.getElem?_map,hq,List.map_append];rfl
   ·have hj:y.i=y.r.length:=by have:=R6 hj;omega
    have e:Zf y.i (Zh (fun x=> -x) y.r)=Zh (fun x=> -x) y.r:=Zn (by simp;omega);refine⟨⟨y.n,0,y.c,y.r.map fun x=> -x,[]⟩,⟨⟨⟨⟨b1,b2⟩,by simp only[List.length_map];exact b3,b4⟩,bv⟩,by simp only;omega⟩,rfl,?_,.inl rfl⟩;rw[e];exact KI (by simp;omega)
 ·have hp:x.q.length=0:=by have:=R6 hp;rw[Qr]at this;omega
  cases hn:x.n with
  | zero=>rw[hn]at av;cases av
  | succ n=>
   rw[hn,chF,hp]at av;have av:some x.c=some R:=av;have av:=Option.some.inj av;rw[QRx,av];exact hK
def QOP:Ctr
 | [.x false [.s 3 xs]]=>some fun K=> ∃(p:List Rat) (R:List (List Rat)),xs=lR 100000 p/\((p.length<=1000)/\(Jh p=some R))/\(K (sC R))
 | _=>none
theorem QV2:QJ 226 QOP:=by
 refine okL Tryz.func226 fun l T hT K hK=> ?_
 unfold QOP at hT;split at hT<;>cases hT
 obtain⟨p,R,rfl,hc,hK⟩:=hK;exact spL (QV QIq XZ Qo) QN Tryz.func226 (QXy _ _ hc K hK)
def QOQ:LC:=(226,QOP)::QOO
theorem QIr:QG QOQ:= .cons QV2 QIq
structure CgX where
 i:Nat
 k:Int
 l:Int
def QOR (c:List (List Rat))(x:Rat)(n:Nat)(R:Int):LI:=fun id=>
 bif id.beq 3 then .inv ⟨CgX,fun e=>⟨[(0,sC c),(3,.x false [.p 3 0]),(5,iA .i64 e.k),(6,iA .i64 e.l),(10,sC c),(11,iA .i64 c.length),(12,iA .i64 e.i)],[(3,.box 25 [.r x n])]⟩,fun e=>(e.i<=c.length/\(0<=e.k/\e.k<=e.i)/\ -1<=e.l/\e.l<=1)/\Hm x (c.drop e.i) e.k e.l=some R,fun e=>c.length-e.i,fun _=>0⟩
 else bif id.beq 8 then .cut ⟨CgX×Int,fun e=>⟨[(0,sC c),(3,.x false [.p 3 0]),(5,iA .i64 e.1.k),(6,iA .i64 e.1.l),(9,iA .i64 e.2),(10,sC c),(11,iA .i64 c.length),(12,iA .i64 e.1.i)],[(3,.box 25 [.r x n])]⟩,fun e=>(e.1.i<c.length/\(0<=e.1.k/\e.1.k<=e.1.i+1)/\(-1<=e.1.l/\e.1.l<=1)/\ -1<=e.2/\e.2<=1)/\Hm x (c.drop (e.1.i+1)) e.1.k (bif e.2==0 then e.1.l else e.2)=some R,fun _=>0,fun e=>c.length-e.1.i⟩
 else .no
abbrev QOS (c:List (List Rat))(x:Rat)(n:Nat)(R:Int)(K:AV->Prop):Prop:=(((c.length<=200000/\n<=100000)/\ ∀p∈c,p.length<=1000)/\(K6 c x=some R))/\((0<=R/\R<=c.length)->K (iA .i64 R))
set_option maxHeartbeats 1000000 in
theorem QV3 (c:List (List Rat))(x:Rat)(n:Nat)(R:Int)(K:AV->Prop)(hK:QOS c x n R K):QK (QT (mkT QOQ Jn X4) (oF Tryz.f228) (QOR c x n R) Tryz.f228 [sC c,rA x n] K):=by
  obtain⟨hc,hK⟩:=hK;refine HV (((∃(x_1:CgX),(((x_1.i<=c.length/\(0<=x_1.k/\x_1.k<=Za x_1.i)/\ -1<=x_1.l/\x_1.l<=1)/\Hm x (Zj x_1.i c) x_1.k x_1.l=some R)/\OfNat.ofNat 0=0)/\1=1/\chN c=chN c/\0=0/\0=x_1.k/\0=x_1.l/\1=1/\chN c=chN c/\Za (chN c).length=Za c.length/\0=Za x_1.i/\25=25/\x=x/\n<=n/\True)/\∀(x_1:CgX),(x_1.i<=c.length/\(0<=x_1.k/\x_1.k<=Za x_1.i)/\ -1<=x_1.l/\x_1.l<=1)/\Hm x (Zj x_1.i c) x_1.k x_1.l=some R->OfNat.ofNat 0=0->bif decide (Za x_1.i<Za c.length)then(0<=Za x_1.i/\Za x_1.i<Za (chN c).length)/\∃(ys:List (List Ch)),ldE (chN c) (Za x_1.i).toNat 0 1=some [Zv 3 ys]/\∃(p:List Rat),∃(r:Rat),ys=lR 100000 p/\((p.length<=1000/\n<=100000)/\HX p x=some r)/\100000<=4294967296/\(bif decide (Zb.wrap (XE r*x_1.l)<0)then ∃(x_2:CgX×Int),(((x_2.fst.i<c.length/\(0<=x_2.fst.k/\x_2.fst.k<=Za x_2.fst.i+1)/\(-1<=x_2.fst.l/\x_2.fst.l<=1)/\ -1<=x_2.snd/\x_2.snd<=1)/\Hm x (Zj (x_2.fst.i+1) c) x_2.fst.k (bif x_2.snd==0 then x_2.fst.l else x_2.snd)=some R)/\c.length-x_2.fst.i=c.length-x_1.i)/\1=1/\chN c=chN c/\0=0/\Zb.wrap (x_1.k+1)=x_2.fst.k/\x_1.l=x_2.fst.l/\XE r=x_2.snd/\1=1/\chN c=chN c/\Za c.length=Za c.length/\Za x_1.i=Za x_2.fst.i/\25=25/\x=x/\n<=n/\True else ∃(x_2:CgX×Int),(((x_2.fst.i<c.length/\(0<=x_2.fst.k/\x_2.fst.k<=Za x_2.fst.i+1)/\(-1<=x_2.fst.l/\x_2.fst.l<=1)/\ -1<=x_2.snd/\x_2.snd<=1)/\Hm x (Zj (x_2.fst.i+1) c) x_2.fst.k (bif x_2.snd==0 then x_2.fst.l else x_2.snd)=some R)/\c.length-x_2.fst.i=c.length-x_1.i)/\1=1/\chN c=chN c/\0=0/\x_1.k=x_2.fst.k/\x_1.l=x_2.fst.l/\XE r=x_2.snd/\1=1/\chN c=chN c/\Za c.length=Za c.length/\Za x_1.i=Za x_2.fst.i/\25=25/\x=x/\n<=n/\True)/\∀(x_2:CgX×Int),(x_2.fst.i<c.length/\(0<=x_2.fst.k/\x_2.fst.k<=Za x_2.fst.i+1)/\(-1<=x_2.fst.l/\x_2.fst.l<=1)/\ -1<=x_2.snd/\x_2.snd<=1)/\Hm x (Zj (x_2.fst.i+1) c) x_2.fst.k (bif x_2.snd==0 then x_2.fst.l else x_2.snd)=some R->c.length-x_2.fst.i=c.length-x_1.i->bif x_2.snd !=0 then ∃(x':CgX),(((x'.i<=c.length/\(0<=x'.k/\x'.k<=Za x'.i)/\ -1<=x'.l/\x'.l<=1)/\Hm x (Zj x'.i c) x'.k x'.l=some R)/\OfNat.ofNat 0=0/\c.length-x'.i<c.length-x_1.i)/\1=1/\chN c=chN c/\0=0/\x_2.fst.k=x'.k/\x_2.snd=x'.l/\1=1/\chN c=chN c/\Za c.length=Za c.length/\Zb.wrap (Za x_2.fst.i+1)=Za x'.i/\25=25/\x=x/\n<=n/\True else ∃(x':CgX),(((x'.i<=c.length/\(0<=x'.k/\x'.k<=Za x'.i)/\ -1<=x'.l/\x'.l<=1)/\Hm x (Zj x'.i c) x'.k x'.l=some R)/\OfNat.ofNat 0=0/\c.length-x'.i<c.length-x_1.i)/\1=1/\chN c=chN c/\0=0/\x_2.fst.k=x'.k/\x_2.fst.l=x'.l/\1=1/\chN c=chN c/\Za c.length=Za c.length/\Zb.wrap (Za x_2.fst.i+1)=Za x'.i/\25=25/\x=x/\n<=n/\True else K (AV.x false [Zs (Zk Zb x_1.k)]))) ?_
  try simp only[Zd,R0,R1,Zi,R4]
  obtain⟨⟨⟨hl,hn⟩,hp⟩,hR⟩:=hc;simp only[QAi,R0];refine⟨⟨⟨0,0,0⟩,⟨⟨Nat.zero_le _,⟨by decide,by decide⟩,by decide,by decide⟩,hR⟩,rfl,rfl,rfl⟩,fun e ⟨⟨h1,⟨h2,h3⟩,h4,h5⟩,hv⟩=>QC (fun hj=> ?_) (fun hj=> ?_)⟩
  · have hj:e.i<c.length:=by have:=R5 hj;omega
    obtain⟨q,hq⟩: ∃q,c[e.i]? =some q:=⟨_,Zg (by omega)⟩
    have ed:c.drop e.i=q::c.drop (e.i+1):=by
      rw[List.drop_eq_getElem_cons hj];congr 1;rw[Zg hj]at hq;exact Option.some.inj hq
    rw[ed,Hm]at hv;obtain⟨r,hr,hv⟩:=bind_some hv;have sb:=QXu r;have ew:Zb.wrap (XE r*e.l)=XE r*e.l:=by rcases sb with s | s | s<;>rw[s]<;>rw[w64 (by omega)]
    rw[Int.toNat_natCast];refine⟨by omega,_,QFN hq,q,r,rfl,⟨⟨hp q (Zo hq),hn⟩,hr⟩,by omega,⟨by rw[ew];refine QC (fun hb=> ?_) (fun hb=> ?_);exact(by rw[hb]at hv;exact⟨⟨⟨e.i,e.k+1,e.l⟩,XE r⟩,⟨⟨⟨hj,⟨by simp only;omega,by simp only;omega⟩,⟨h4,h5⟩,by simp only;omega,by simp only;omega⟩,hv⟩,rfl⟩,by rw[w64 (by omega)],rfl,rfl,rfl⟩);exact(by rw[hb]at hv;exact⟨⟨⟨e.i,e.k,e.l⟩,XE r⟩,⟨⟨⟨hj,⟨h2,by simp only;omega⟩,⟨h4,h5⟩,by simp only;omega,by simp only;omega⟩,hv⟩,rfl⟩,rfl,rfl,rfl,rfl⟩),fun y ⟨⟨y1,⟨y2,y3⟩,⟨y4,y5⟩,y6,y7⟩,yv⟩ yt=>QC (fun hb=> ?_) (fun hb=> ?_)⟩⟩
    · have e0:(y.2==0)=false:=by
        cases hz:y.2==0 with
        | false=>rfl
        | true=>simp at hz;rw[hz]at hb;cases hb
      rw[e0]at yv;exact⟨⟨y.1.i+1,y.1.k,y.2⟩,⟨⟨⟨by simp only;omega,⟨y2,by simp only;omega⟩,y6,y7⟩,yv⟩,by simp only;omega⟩,rfl,rfl,by rw[w64 (by omega)];simp⟩
    · have e0:(y.2==0)=true:=by
        cases hz:y.2==0 with
        | true=>rfl
        | false => have : (y.2 != 0) = true := by simp only [bne, hz]; rfl
                   rw[this]at hb;cases hb
      rw[e0]at yv;exact⟨⟨y.1.i+1,y.1.k,y.1.l⟩,⟨⟨⟨by simp only;omega,⟨y2,by simp only;omega⟩,y4,y5⟩,yv⟩,by simp only;omega⟩,rfl,rfl,by rw[w64 (by omega)];simp⟩
  · have hj:c.length<=e.i:=by have:=R6 hj;omega
    rw[List.drop_eq_nil_of_le hj]at hv;cases hv
    exact hK ⟨h2,by omega⟩
def QHl:Ctr
 | [.x false [.s 1 xs],.x true [.r x n]]=>some fun K=> ∃(c:List (List Rat)) (R:Int),xs=chN c/\QOS c x n R K
 | _=>none
theorem QR3:QJ 228 QHl:=by
 refine okL Tryz.func228 fun l T hT K hK=> ?_
 unfold QHl at hT;split at hT<;>cases hT
 obtain⟨c,R,rfl,hK⟩:=hK;exact spL (QV QIr XZ Qo) QN Tryz.func228 (QV3 _ _ _ _ K hK)
def QOT:LC:=(228,QHl)::QOQ
theorem QIs:QG QOT:= .cons QR3 QIr
def QAk (c:List (List Rat))(x:Rat)(n:Nat)(_R:Bool)(K:AV->Prop):Prop:=QT (mkT QOT Jn X4) (oF Tryz.f229) noL Tryz.f229 [sC c,rA x n] K
theorem QBH (c:List (List Rat))(x:Rat)(n:Nat)(R:Bool)(K:AV->Prop):QAk c x n R K=(((0:Int)<=0/\0<Za (chN c).length)/\∃(ys:List (List Ch)),ldE (chN c) 0 0 1=some [Zv 3 ys]/\∃(p:List Rat)(r:Rat),ys=lR 100000 p/\((p.length<=1000/\n<=100000)/\HX p x=some r)/\100000<=4294967296/\K (AV.x false [Zs (Zt (XE r==0))])):=by kernel_rfl
theorem QR4 (c:List (List Rat))(x:Rat)(n:Nat)(R:Bool)(hc:((1<=c.length/\n<=100000)/\ ∀p∈c,p.length<=1000)/\(Jr c x=some R))(K:AV->Prop)(hK:K (.x false [.v (.bool R)])):QK (QAk c x n R K):=by
 refine⟨?_⟩;rw[QBH];try simp only[Zd]
 obtain⟨⟨⟨h1,hn⟩,hp⟩,hz⟩:=hc;obtain⟨q,hq,hg⟩:=QXv h1;unfold Jr at hz;rw[hg]at hz;obtain⟨e,he,hz⟩:=bind_some hz;cases hz
 exact⟨by rw[QAi];omega,_,QFN hq,q,e,rfl,⟨⟨hp q (Zo hq),hn⟩,he⟩,by omega,hK⟩
def QDb:Ctr
 | [.x false [.s 1 xs],.x true [.r x n]]=>some fun K=> ∃(c:List (List Rat)) (R:Bool),xs=chN c/\(((1<=c.length/\n<=100000)/\ ∀p∈c,p.length<=1000)/\(Jr c x=some R))/\(K (.x false [.v (.bool R)]))
 | _=>none
theorem QOU:QJ 229 QDb:=by
 refine okL Tryz.func229 fun l T hT K hK=> ?_
 unfold QDb at hT;split at hT<;>cases hT
 obtain⟨c,R,rfl,hc,hK⟩:=hK;exact spL (QV QIs XZ Qo) QN Tryz.func229 (QR4 _ _ _ _ hc K hK)
def QOV:LC:=(229,QDb)::QOT
theorem QIt:QG QOV:= .cons QOU QIs
def QB5 (c:List (List Rat))(s:Sp)(_R:Int)(K:AV->Prop):Prop:=QT (mkT QOV Jn X4) (oF Tryz.f192) noL Tryz.f192 [sC c,.x true [.r s.lo 100000,.r s.hi 100000]] K
theorem QDc (c:List (List Rat))(s:Sp)(R:Int)(K:AV->Prop):QB5 c s R K=(∃(c_1:List (List Rat))(R:Int),chN c=chN c_1/\(((c_1.length<=200000/\100000<=100000)/\∀(p:List Rat),p∈c_1->p.length<=1000)/\K6 c_1 s.lo=some R)/\(0<=R/\R<=Za c_1.length->∃(c_2:List (List Rat))(R_1:Int),chN c=chN c_2/\(((c_2.length<=200000/\100000<=100000)/\∀(p:List Rat),p∈c_2->p.length<=1000)/\K6 c_2 s.hi=some R_1)/\(0<=R_1/\R_1<=Za c_2.length->∃(c_3:List (List Rat))(R_2:Bool),chN c=chN c_3/\(((1<=c_3.length/\100000<=100000)/\∀(p:List Rat),p∈c_3->p.length<=1000)/\Jr c_3 s.lo=some R_2)/\bif R_2 then K (AV.x false [Zs (Zk Zb (Zb.wrap (Zb.wrap (R-R_1)+1)))])else K (AV.x false [Zs (Zk Zb (Zb.wrap (R-R_1)))])))):=by kernel_rfl
theorem QV4 (c:List (List Rat))(s:Sp)(R:Int)(hc:((1<=c.length/\c.length<=200000)/\ ∀p∈c,p.length<=1000)/\(Y8 c s=some R))(K:AV->Prop)(hK:K (iA .i64 R)):QK (QB5 c s R K):=by
 refine⟨?_⟩;rw[QDc];try simp only[Zd,R1,Zi]
 obtain⟨⟨⟨h1,h2⟩,hp⟩,hz⟩:=hc;unfold Y8 at hz;obtain⟨A,hA,hz⟩:=bind_some hz;obtain⟨B,hB,hz⟩:=bind_some hz;obtain⟨z,hzz,hz⟩:=bind_some hz;cases hz
 refine⟨c,A,rfl,⟨⟨h2,hp⟩,hA⟩,fun hA2=>⟨c,B,rfl,⟨⟨h2,hp⟩,hB⟩,fun hB2=>⟨c,z,rfl,⟨⟨h1,hp⟩,hzz⟩,?_⟩⟩⟩;rw[w64 (by omega: -9223372036854775808<=A-B/\A-B<9223372036854775808),w64 (by omega)];cases z with
 | true=>exact hK
 | false=>exact hK
def QHm:Ctr
 | [.x false [.s 1 xs],.x true ys]=>some fun K=> ∃(c:List (List Rat)) (s:Sp) (R:Int),xs=chN c/\ys=[.r s.lo 100000,.r s.hi 100000]/\(((1<=c.length/\c.length<=200000)/\ ∀p∈c,p.length<=1000)/\(Y8 c s=some R))/\(K (iA .i64 R))
 | _=>none
theorem QR5:QJ 192 QHm:=by
 refine okL Tryz.func192 fun l T hT K hK=> ?_
 unfold QHm at hT;split at hT<;>cases hT
 obtain⟨c,s,R,rfl,rfl,hc,hK⟩:=hK;exact spL (QV QIt XZ Qo) QN Tryz.func192 (QV4 _ _ _ hc K hK)
def QOW:LC:=(192,QHm)::QOV
theorem QIu:QG QOW:= .cons QR5 QIt
abbrev QIv (x:Int)(y:Int)(K:AV->Prop):Prop:=(((-9223372036854775808<=x/\x<9223372036854775808)/\ -9223372036854775808<=y/\y<9223372036854775808)/\((y:Rat)≠0))/\(K (.t [(true,[.r ((x:Rat)/(y:Rat)) 100000]),(false,[.v (.int .i64 0)])]))
theorem QR6 (x:Int)(y:Int)(K:AV->Prop)(hK:QIv x y K):QK (QT (mkT QOW Jn X4) (oF Tryz.f146) noL Tryz.f146 [iA .i64 x,iA .i64 y] K):=by
 obtain⟨hc,hK⟩:=hK;refine HV (((-9223372036854775808<=x/\x<9223372036854775808)/\(-9223372036854775808<=y/\y<9223372036854775808)/\200000<=4294967296/\∃(r:Rat),QBG ↑x ↑y=some r/\K (AV.t [(true,[Zl r 100000]),(false,[Zs (Zk Zb 0)])]))) ?_
 try simp only[Zd,R0,R1,Zu,Zi,R4,R2,R3]
 obtain⟨⟨hx,hy⟩,h0⟩:=hc;have p64:(2:Nat)^64=18446744073709551616:=by decide
 have bx:Bd 64 (x:Rat):=QN7 (by omega) (by decide);have b2:Bd 64 (y:Rat):=QN7 (by omega) (by decide);exact⟨hx,hy,by omega,_,QRp bx b2 h0 (by omega),hK⟩
def QDd:Ctr
 | [.x false [.v (.int .i64 x)],.x false [.v (.int .i64 y)]]=>some fun K=>QIv x y K
 | _=>none
theorem QOX:QJ 146 QDd:=by
 refine okL Tryz.func146 fun l T hT K hK=> ?_
 unfold QDd at hT;split at hT<;>cases hT
 exact spL (QV QIu XZ Qo) QN Tryz.func146 (QR6 _ _ K hK)
def QOY:LC:=(146,QDd)::QOW
theorem QIw:QG QOY:= .cons QOX QIu
theorem QV5 (s:Sp)(_hc:True)(K:AV->Prop)(hK: ∃R,UO s=some R/\K (rA R 100000)):QK (QT (mkT QOY Jn X4) (oF Tryz.f230) noL Tryz.f230 [.x true [.r s.lo 100000,.r s.hi 100000]] K):=by
 refine HV ((((((-9223372036854775808:Int)<=1/\(1:Int)<9223372036854775808)/\(-9223372036854775808:Int)<=2/\(2:Int)<9223372036854775808)/\(↑(2:Int):Rat)≠OfNat.ofNat 0)/\200001<=4294967296/\∃(r:Rat),Wn s.lo s.hi=some r/\200000<=4294967296/\∃(r_1:Rat),YM ((↑(1:Int):Rat)/(↑(2:Int):Rat)) r=some r_1/\K (AV.x true [Zl r_1 100000]))) ?_
 try simp only[Zd,R0,R1,Zu,Zi,R4,R2,R3]
 obtain⟨R,hR,hK⟩:=hK;unfold UO at hR;obtain⟨m,hm,hR⟩:=bind_some hR;exact⟨⟨⟨by omega,by omega⟩,by decide+kernel⟩,by omega,m,hm,by omega,R,hR,hK⟩
def QHn:Ctr
 | [.x true ys]=>some fun K=> ∃(s:Sp),ys=[.r s.lo 100000,.r s.hi 100000]/\(True)/\(∃R,UO s=some R/\K (rA R 100000))
 | _=>none
theorem QR7:QJ 230 QHn:=by
 refine okL Tryz.func230 fun l T hT K hK=> ?_
 unfold QHn at hT;split at hT<;>cases hT
 obtain⟨s,rfl,hc,hK⟩:=hK;exact spL (QV QIw XZ Qo) QN Tryz.func230 (QV5 _ hc K hK)
def QOZ:LC:=(230,QHn)::QOY
theorem QIx:QG QOZ:= .cons QR7 QIw
def HZ (c:List (List Rat))(s:Sp)(_R:Sp)(K:AV->Prop):Prop:=QT (mkT QOZ Jn X4) (oF Tryz.f193) noL Tryz.f193 [sC c,.x true [.r s.lo 100000,.r s.hi 100000]] K
theorem QAl (c:List (List Rat))(s:Sp)(R:Sp)(K:AV->Prop):HZ c s R K=(∃(s_1:Sp),[Zl s.lo 100000,Zl s.hi 100000]=[Zl s_1.lo 100000,Zl s_1.hi 100000]/\True/\∃(R:Rat),UO s_1=some R/\∃(c_1:List (List Rat))(R_1:Bool),chN c=chN c_1/\(((1<=c_1.length/\100000<=100000)/\∀(p:List Rat),p∈c_1->p.length<=1000)/\Jr c_1 R=some R_1)/\bif R_1 then 100000<=2000000000/\K (AV.x true [Zl R 100000,Zl R 100000])else ∃(c_2:List (List Rat))(s_2:Sp)(R_2:Int),chN c=chN c_2/\[Zl s.lo 100000,Zl R 100000]=[Zl s_2.lo 100000,Zl s_2.hi 100000]/\(((1<=c_2.length/\c_2.length<=200000)/\∀(p:List Rat),p∈c_2->p.length<=1000)/\Y8 c_2 s_2=some R_2)/\bif R_2==1 then K (AV.x true [Zl s.lo 100000,Zl R 100000])else K (AV.x true [Zl R 100000,Zl s.hi 100000])):=by kernel_rfl
theorem QOa (c:List (List Rat))(s:Sp)(R:Sp)(hc:((1<=c.length/\c.length<=200000)/\ ∀p∈c,p.length<=1000)/\(WD c s=some R))(K:AV->Prop)(hK:K (.x true [.r R.lo 100000,.r R.hi 100000])):QK (HZ c s R K):=by
 refine⟨?_⟩;rw[QAl];try simp only[R0,R1,Zi]
 obtain⟨⟨⟨h1,h2⟩,hp⟩,hz⟩:=hc;unfold WD at hz;obtain⟨m,hm,hz⟩:=bind_some hz;obtain⟨z,hzz,hz⟩:=bind_some hz;refine⟨s,rfl,m,hm,c,z,rfl,⟨⟨h1,hp⟩,hzz⟩,QC (fun hb=> ?_) (fun hb=> ?_)⟩
 ·rw[hb]at hz;cases hz
  exact⟨by omega,hK⟩
 ·rw[hb]at hz;obtain⟨n,hn,hz⟩:=bind_some hz;refine⟨c,⟨s.lo,m⟩,n,rfl,rfl,⟨⟨⟨h1,h2⟩,hp⟩,hn⟩,QC (fun hb=> ?_) (fun hb=> ?_)⟩
  ·rw[hb]at hz;cases hz
   exact hK
  ·rw[hb]at hz;cases hz
   exact hK
def QAm:Ctr
 | [.x false [.s 1 xs],.x true ys]=>some fun K=> ∃(c:List (List Rat)) (s:Sp) (R:Sp),xs=chN c/\ys=[.r s.lo 100000,.r s.hi 100000]/\(((1<=c.length/\c.length<=200000)/\ ∀p∈c,p.length<=1000)/\(WD c s=some R))/\(K (.x true [.r R.lo 100000,.r R.hi 100000]))
 | _=>none
theorem QKq:QJ 193 QAm:=by
 refine okL Tryz.func193 fun l T hT K hK=> ?_
 unfold QAm at hT;split at hT<;>cases hT
 obtain⟨c,s,R,rfl,rfl,hc,hK⟩:=hK;exact spL (QV QIx XZ Qo) QN Tryz.func193 (QOa _ _ _ hc K hK)
def QOb:LC:=(193,QAm)::QOZ
theorem QIy:QG QOb:= .cons QKq QIx
def Ha (p:List Rat)(_R:List (List Rat))(K:AV->Prop):Prop:=QT (mkT QOb Jn X4) (oF Tryz.f191) noL Tryz.f191 [sR 100000 p] K
theorem QAn (p:List Rat)(R:List (List Rat))(K:AV->Prop):Ha p R K=(∃(p_1:List Rat),lR 100000 p=lR 100000 p_1/\p_1.length<=1000/\bif Za (QM p_1).length==0 then K (AV.t [(false,[Zs (Value.slice none 0 0)]),(false,[Zs (Zk Zb 12)])])else bif decide (Za (QM p_1).length>13)then K (AV.t [(false,[Zs (Value.slice none 0 0)]),(false,[Zs (Zk Zb 2)])])else ∃(p:List Rat)(d:List Rat)(g:List Rat)(r:List Rat×List Rat)(s:List Rat),Zf (QM p_1).length (Zj 0 (Zh (fun(q:Rat)=>[Zl q 100000]) (QM p_1)))=lR 100000 p/\(p.length<=1000/\(QFJ p=some d/\Hk 100000 p d=some g)/\YA p g=some r/\YO (QM r.fst)=some s)/\∃(p:List Rat)(R:List (List Rat)),lR 100000 s=lR 100000 p/\(p.length<=1000/\Jh p=some R)/\K (AV.t [(false,[Zv 1 (chN R)]),(false,[Zs (Zk Zb 0)])])):=by kernel_rfl
theorem QOc (p:List Rat)(R:List (List Rat))(hc:(p.length<=1000)/\(X6 p=some R))(K:AV->Prop)(hK:K (.t [(false,[.s 1 (chN R)]),(false,[.v (.int .i64 0)])])):QK (Ha p R K):=by
 refine⟨?_⟩;rw[QAn];try simp only[Zd]
 obtain⟨hl,hR⟩:=hc;obtain⟨⟨h1,h2⟩,d,g,r,s,hd,hr,hs,h3,hch⟩:=QFO hR;refine⟨p,rfl,hl,QC (fun hb=> ?_) (fun hb=>QC (fun hb=> ?_) (fun hb=> ?_))⟩
 ·simp at hb;rw[hb]at h1;simp at h1
 ·have:=R5 hb;omega
 ·exact⟨QM p,d,g,r,s,KI rfl,⟨by omega,hd,hr,hs⟩,s,R,rfl,⟨by omega,hch⟩,hK⟩
def QAo:Ctr
 | [.x false [.s 3 xs]]=>some fun K=> ∃(p:List Rat) (R:List (List Rat)),xs=lR 100000 p/\((p.length<=1000)/\(X6 p=some R))/\(K (.t [(false,[.s 1 (chN R)]),(false,[.v (.int .i64 0)])]))
 | _=>none
theorem QKr:QJ 191 QAo:=by
 refine okL Tryz.func191 fun l T hT K hK=> ?_
 unfold QAo at hT;split at hT<;>cases hT
 obtain⟨p,R,rfl,hc,hK⟩:=hK;exact spL (QV QIy XZ Qo) QN Tryz.func191 (QOc _ _ hc K hK)
def QOd:LC:=(191,QAo)::QOb
theorem QIz:QG QOd:= .cons QKr QIy
def Hb (p:List Rat)(s:Sp)(_R:Int)(K:AV->Prop):Prop:=QT (mkT QOd Jn X4) (oF Tryz.f189) noL Tryz.f189 [sR 100000 p,.x true [.r s.lo 100000,.r s.hi 100000]] K
theorem QAp (p:List Rat)(s:Sp)(R:Int)(K:AV->Prop):Hb p s R K=(∃(p_1:List Rat)(R:List (List Rat)),lR 100000 p=lR 100000 p_1/\(p_1.length<=1000/\X6 p_1=some R)/\(400000<=4294967290/\s.lo<=s.hi/\s.lo<=s.hi)/\∃(c:List (List Rat))(s_1:Sp)(R_1:Int),chN R=chN c/\[Zl (Y7 s.lo s.lo) 100000,Zl (WI s.hi s.hi) 100000]=[Zl s_1.lo 100000,Zl s_1.hi 100000]/\(((1<=c.length/\c.length<=200000)/\∀(p:List Rat),p∈c->p.length<=1000)/\Y8 c s_1=some R_1)/\K (AV.t [(false,[Zs (Zk Zb R_1)]),(false,[Zs (Zk Zb 0)])])):=by kernel_rfl
theorem QOe (p:List Rat)(s:Sp)(R:Int)(hc:(p.length<=1000/\s.lo<=s.hi)/\(Vq p s=some R))(K:AV->Prop)(hK:K (.t [(false,[.v (.int .i64 R)]),(false,[.v (.int .i64 0)])])):QK (Hb p s R K):=by
 refine⟨?_⟩;rw[QAp];try simp only[Zd,R0,R1,Zu,Zi,R4,R2,R3]
 obtain⟨⟨hl,ho⟩,hR⟩:=hc;unfold Vq at hR;obtain⟨c,hc,hR⟩:=bind_some hR;have hk:=QAj hc;rw[JD,show WI s.hi s.hi=s.hi by unfold WI;split<;>rfl];exact⟨p,c,rfl,⟨hl,hc⟩,⟨by omega,ho,ho⟩,c,s,R,rfl,rfl,⟨hk,hR⟩,hK⟩
def QAq:Ctr
 | [.x false [.s 3 xs],.x true ys]=>some fun K=> ∃(p:List Rat) (s:Sp) (R:Int),xs=lR 100000 p/\ys=[.r s.lo 100000,.r s.hi 100000]/\((p.length<=1000/\s.lo<=s.hi)/\(Vq p s=some R))/\(K (.t [(false,[.v (.int .i64 R)]),(false,[.v (.int .i64 0)])]))
 | _=>none
theorem QKs:QJ 189 QAq:=by
 refine okL Tryz.func189 fun l T hT K hK=> ?_
 unfold QAq at hT;split at hT<;>cases hT
 obtain⟨p,s,R,rfl,rfl,hc,hK⟩:=hK;exact spL (QV QIz XZ Qo) QN Tryz.func189 (QOe _ _ _ hc K hK)
def QOf:LC:=(189,QAq)::QOd
theorem QI0:QG QOf:= .cons QKs QIz
def QKt (c:List (List Rat))(w:Rat)(R:Sp):LI:=fun _=> .inv ⟨Nat×Sp,fun e=>⟨[(4,.x false [.p 4 0]),(5,.x false [.p 5 0]),(6,.x false [.p 6 0]),(8,sC c)],[(4,.box 86 [.r e.2.lo 100000,.r e.2.hi 100000]),(5,.box 25 [.r w 100000]),(6,.box 86 (KP++KP))]⟩,fun e=>VZ c w e.1 e.2=some R,fun e=>e.1,fun _=>0⟩
abbrev QI1 (p:List Rat)(c:List (List Rat))(s:Sp)(w:Rat)(R:Sp)(K:AV->Prop):Prop:=(((p.length<=1000/\s.lo<=s.hi)/\X6 p=some c)/\(0<w/\QB2 p s w=some R))/\(K (.t [(true,[.r R.lo 100000,.r R.hi 100000]),(false,[.v (.int .i64 0)])]))
set_option maxHeartbeats 1000000 in
theorem QR8 (p:List Rat)(c:List (List Rat))(s:Sp)(w:Rat)(R:Sp)(K:AV->Prop)(hK:QI1 p c s w R K):QK (QT (mkT QOf Jn X4) (oF Tryz.f147) (QKt c w R) Tryz.f147 [sR 100000 p,.x true [.r s.lo 100000,.r s.hi 100000],rA w 100000] K):=by
  obtain⟨hc,hK⟩:=hK;refine HV ((∃(p_1:List Rat),∃(R_1:List (List Rat)),lR 100000 p=lR 100000 p_1/\(p_1.length<=1000/\X6 p_1=some R_1)/\100000<=4294967296/\bif decide (XE w<=0)then K (AV.t [(true,[Zs (Zt false),Zs (Zm (Zc (Ze []))),Zs (Zm (Zc (Ze []))),Zs (Zt false),Zs (Zm (Zc (Ze []))),Zs (Zm (Zc (Ze [])))]),(false,[Zs (Zk Zb 1)])])else(400000<=4294967290/\s.lo<=s.hi/\s.lo<=s.hi)/\∃(c_1:List (List Rat)),∃(s_1:Sp),∃(R_2:Int),chN R_1=chN c_1/\[Zl (Y7 s.lo s.lo) 100000,Zl (WI s.hi s.hi) 100000]=[Zl s_1.lo 100000,Zl s_1.hi 100000]/\(((1<=c_1.length/\c_1.length<=200000)/\∀(p:List Rat),p∈c_1->p.length<=1000)/\Y8 c_1 s_1=some R_2)/\bif R_2 !=1 then K (AV.t [(true,[Zs (Zt false),Zs (Zm (Zc (Ze []))),Zs (Zm (Zc (Ze []))),Zs (Zt false),Zs (Zm (Zc (Ze []))),Zs (Zm (Zc (Ze [])))]),(false,[Zs (Zk Zb 4)])])else(∃(x:Nat×Sp),(VZ c w x.fst x.snd=some R/\OfNat.ofNat 0=0)/\0=0/\0=0/\0=0/\1=1/\chN R_1=chN c/\86=86/\Y7 s.lo s.lo=x.snd.lo/\100000<=100000/\WI s.hi s.hi=x.snd.hi/\100000<=100000/\25=25/\w=w/\100000<=100000/\86=86/\false=false/\Zc (Ze [])=Zc (Ze [])/\Zc (Ze [])=Zc (Ze [])/\false=false/\Zc (Ze [])=Zc (Ze [])/\Zc (Ze [])=Zc (Ze [])/\True)/\∀(x:Nat×Sp),VZ c w x.fst x.snd=some R->OfNat.ofNat 0=0->200001<=4294967296/\∃(r:Rat),Wb x.snd.hi x.snd.lo=some r/\200000<=4294967296/\bif decide (YT r w>0)then ∃(c_2:List (List Rat)),∃(s:Sp),∃(R_3:Sp),chN c=chN c_2/\[Zl x.snd.lo 100000,Zl x.snd.hi 100000]=[Zl s.lo 100000,Zl s.hi 100000]/\(((1<=c_2.length/\c_2.length<=200000)/\∀(p:List Rat),p∈c_2->p.length<=1000)/\WD c_2 s=some R_3)/\∃(x':Nat×Sp),(VZ c w x'.fst x'.snd=some R/\OfNat.ofNat 0=0/\x'.fst<x.fst)/\0=0/\0=0/\0=0/\1=1/\chN c=chN c/\86=86/\R_3.lo=x'.snd.lo/\100000<=100000/\R_3.hi=x'.snd.hi/\100000<=100000/\25=25/\w=w/\100000<=100000/\86=86/\false=false/\Zc (Ze [])=Zc (Ze [])/\Zc (Ze [])=Zc (Ze [])/\false=false/\Zc (Ze [])=Zc (Ze [])/\Zc (Ze [])=Zc (Ze [])/\True else K (AV.t [(true,[Zl x.snd.lo 100000,Zl x.snd.hi 100000]),(false,[Zs (Zk Zb 0)])]))) ?_
  try simp only[R0,R1,Zi,R4]
  obtain⟨⟨⟨hl,ho⟩,hc⟩,hw,hR⟩:=hc;unfold QB2 at hR;rw[hc]at hR;obtain⟨c',hc',hR⟩:=bind_some hR;cases hc'
  obtain⟨n,hn,hR⟩:=bind_some hR;have hk:=QAj hc;rw[JD,show WI s.hi s.hi=s.hi by unfold WI;split<;>rfl];refine⟨p,c,rfl,⟨hl,hc⟩,by omega,QC (fun hb=> ?_) (fun _=>⟨⟨by omega,ho,ho⟩,c,s,n,rfl,rfl,⟨hk,hn⟩,QC (fun hb=> ?_) (fun hb=>⟨⟨(FU,s),?_,rfl,rfl,rfl⟩,fun x hx=>⟨by omega,?_⟩⟩)⟩)⟩
  · have:=R5 hb;rw[QRy hw]at this;omega
  · have e:(n==1)=false:=by
      cases h:n==1 with
      | false=>rfl
      | true=>simp at h;subst h;cases hb
    rw[e]at hR;cases hR
  · have e:(n==1)=true:=by
      cases h:n==1 with
      | true=>rfl
      | false => have : (n != 1) = true := by simp only [bne, h]; rfl
                 rw[this]at hb;cases hb
    rw[e]at hR;exact hR
  · obtain⟨k,t⟩:=x;cases k with
    | zero=>cases hx
    | succ k=>
      have hx:VZ c w (k+1) t=some R:=hx;rw[VZ]at hx;obtain⟨d,hd,hx⟩:=bind_some hx;refine⟨d,hd,by omega,QC (fun hb=> ?_) (fun hb=> ?_)⟩
      · have hb:w<d:=by
          have:=R5 hb;exact Rat.not_le.1 fun e=>by have:=(KB d w).2 e;omega
        rw[decide_eq_true hb]at hx;obtain⟨t',ht,hx⟩:=bind_some hx;exact⟨c,t,t',rfl,rfl,⟨hk,ht⟩,(k,t'),⟨hx,Nat.lt_succ_self k⟩,rfl,rfl⟩
      · have hb: ¬w<d:=by
          have:=R6 hb;exact Rat.not_lt.2 ((KB d w).1 (by omega))
        rw[decide_eq_false hb]at hx;cases hx
        exact hK
def QDe:Ctr
 | [.x false [.s 3 xs],.x true ys,.x true zs]=>some fun K=> ∃(p:List Rat) (c:List (List Rat)) (s:Sp) (w:Rat) (R:Sp),xs=lR 100000 p/\ys=[.r s.lo 100000,.r s.hi 100000]/\zs=[.r w 100000]/\QI1 p c s w R K
 | _=>none
theorem QOg:QJ 147 QDe:=by
 refine okL Tryz.func147 fun l T hT K hK=> ?_
 unfold QDe at hT;split at hT<;>cases hT
 obtain⟨p,c,s,w,R,rfl,rfl,rfl,hK⟩:=hK;exact spL (QV QI0 XZ Qo) QN Tryz.func147 (QR8 _ _ _ _ _ K hK)
def QB6:LC:=(147,QDe)::QOf
noncomputable def QTV:Qa:=mkT QB6 Jn X4
theorem H8:QG QB6:= .cons QOg QI0
theorem QR9:XH QTV:=QV H8 XZ Qo
end Go.Proofs
