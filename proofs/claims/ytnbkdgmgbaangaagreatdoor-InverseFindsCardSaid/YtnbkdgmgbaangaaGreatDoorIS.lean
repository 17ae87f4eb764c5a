/- sturm: plain, chained, changes, zero, count, middle, halve, ready, Count, Fine. -/
import Derived.Test.YtnbkdgmgbaangaaGreatDoorIA
open Int renaming ofNat → Za, ofNat_eq_natCast → Zd
open Go.IntKind renaming i64 → Zb
open ByteArray renaming mk → Zc
open Array renaming mk → Ze
open List renaming take → Zf, getElem?_eq_getElem → Zh, map → Zi, drop → Zk, take_of_length_le → Zo, mem_of_getElem? → Zp, getD_eq_getElem?_getD → Zq
open Nat renaming le_refl → Zg, zero_add → Zj, le_trans → Zr, ble_eq_true_of_le → Zs
open Go.Value renaming int → Zl, string → Zn, bool → Zu
open Go.Eng.Ch renaming r → Zm, v → Zt, s → Zv
namespace Go.Proofs
open Go Go.Eng
def chE (p:List Rat):List Ch:=[.s 3 (lR 100000 p)]
def chN (c:List (List Rat)):List (List Ch):=c.map chE
def sC (c:List (List Rat)):AV:= .x false [.s 1 (chN c)]
theorem QB1 (c:List (List Rat)):(chN c).length=c.length:=by simp[chN]
theorem QIU {c:List (List Rat)}{i:Nat}{p:List Rat}(h:c[i]? =some p):ldE (chN c) i 0 1=some [.s 3 (lR 100000 p)]:=by
 simp only[ldE,chN,List.getElem?_map,h];rfl
theorem QKy {c:List (List Rat)}{p:List Rat}:Zf c.length (chN c)++[[Zv 3 (lR 100000 p)]]=chN (c++[p]):=by
 rw[Zo (by rw[QB1];exact Zg _)];simp[chN,chE]
theorem QVT {c:List (List Rat)}:Zf c.length (Zk 0 (chN c))=chN c:=by
 rw[List.drop_zero,Zo (by rw[QB1];exact Zg _)]
theorem Qc7 (q:Rat):Qf q=1∨Qf q=0∨Qf q= -1:=by
 unfold Qf;split
 ·exact .inr (.inl rfl)
 ·split
  ·exact .inr (.inr rfl)
  ·exact .inl rfl
theorem QVU {w:Rat}(h:0<w):Qf w=1:=by
 have h0:w.num≠0:=fun e=>by rw[Rat.num_eq_zero.1 e]at h;exact absurd h (by decide)
 have h1:=Rat.num_nonneg.2 (Rat.le_of_lt h);unfold Qf;rw[if_neg h0,if_neg (by omega)]
theorem QRJ {p q:List Rat}{R:List Rat×List Rat}(h:Xd p q=some R):1<=q.length:=by
 cases q with
 | nil=>
  exfalso;unfold Xd at h;rw[show FU=99999+1 from rfl,Wx]at h;rw[show Nat.ble ([]:List Rat).length (QK p).length=true from Zs (Nat.zero_le _)]at h;simp only[R7]at h;obtain⟨c,hc,_⟩:=bind_some h;unfold QC7 at hc;rw[show((Ql ([]:List Rat)).num==0)=true from rfl]at hc;cases hc
 | cons x l=>simp
theorem QRK {q:List Rat}: ∀{n:Nat} {b r:List Rat} {R:List Rat×List Rat},Wx q n b r=some R->R.1.length=b.length/\R.2.length<=r.length:=by
 intro n;induction n with
 | zero=>intro b r R h;cases h
 | succ n ih=>
  intro b r R h;rw[Wx]at h;cases hb:Nat.ble q.length r.length with
  | false=>rw[hb]at h;cases h;exact⟨rfl,Zg _⟩
  | true=>
   rw[hb]at h;obtain⟨c,_,h⟩:=bind_some h;obtain⟨r1,h1,h⟩:=bind_some h;obtain⟨k1,k2⟩:=ih h;rw[List.length_set]at k1;exact⟨k1,Zr k2 (Zr (Wd _) (Nat.le_of_eq (QQ9 h1)))⟩
theorem Vm {p q:List Rat}{R:List Rat×List Rat}(h:Xd p q=some R):R.1.length<=p.length/\R.2.length<=p.length:=by
 have h1:=QRJ h;obtain⟨k1,k2⟩:=QRK h;rw[List.length_replicate]at k1;have:=Wd p;omega
theorem QVV {d:Rat}: ∀{l acc r:List Rat},scF d l acc=some r->r.length=acc.length+l.length:=by
 intro l;induction l with
 | nil=>intro acc r h;cases h;simp
 | cons x l ih=>
  intro acc r h;rw[scF]at h;obtain⟨u,_,h⟩:=bind_some h;rw[ih h];simp;omega
theorem QGL {p r:List Rat}(h:YR p=some r):r.length=p.length:=by
 have:=QVV h;simpa using this
theorem QRL: ∀{l acc r:List Rat} {i:Nat},KC l i acc=some r->r.length=acc.length+l.length:=by
 intro l;induction l with
 | nil=>intro acc r i h;cases h;simp
 | cons x l ih=>
  intro acc r i h;rw[KC]at h;obtain⟨u,_,h⟩:=bind_some h;rw[ih h];simp;omega
theorem QKz {p d:List Rat}(h:Hp p=some d): ∃all,KC (p.drop 1) 1 []=some all/\d=QK all/\d.length<=p.length:=by
 unfold Hp at h;cases hd:KC (p.drop 1) 1 []with
 | none=>rw[hd]at h;cases h
 | some all=>
  rw[hd]at h;cases h
  refine⟨all,rfl,rfl,?_⟩;have:=QRL hd;have:=Wd all;simp at*;omega
theorem QaD: ∀{n:Nat} {c R:List (List Rat)} {q:List Rat},chF n c q=some R->1<=c.length->(∀p∈c,p.length<=1000)->q.length<=1000->(1<=R.length/\R.length<=c.length+n)/\ ∀p∈R,p.length<=1000:=by
 intro n;induction n with
 | zero=>intro c R q h;cases h
 | succ n ih=>
  intro c R q h h1 h2 h3;rw[chF]at h;cases hb:Nat.ble 1 q.length with
  | false=>rw[hb]at h;cases h;exact⟨⟨h1,by omega⟩,h2⟩
  | true=>
   rw[hb]at h;obtain⟨s,hs,h⟩:=bind_some h;obtain⟨r,hr,h⟩:=bind_some h;obtain⟨x,hx⟩: ∃x,c[c.length-1]? =some x:=⟨_,Zh (by omega)⟩
   have hxl:=h2 x (Zp hx);rw[Zq,hx]at hr;have hd:=(Vm hr).2;have hsl:=QGL hs
   obtain⟨⟨k1,k2⟩,k3⟩:=ih h (by simp) (fun p hp=>by
    rcases List.mem_append.1 hp with hp | hp
    ·exact h2 p hp
    ·simp at hp;subst hp;omega) (by simp at hd⊢;omega)
   refine⟨⟨k1,?_⟩,k3⟩;simp at k2;omega
theorem QK0 {p:List Rat}{R:List (List Rat)}(h:XZ p=some R)(hl:p.length<=1000):(1<=R.length/\R.length<=200000)/\ ∀p∈R,p.length<=1000:=by
 unfold XZ at h;obtain⟨d,hd,h⟩:=bind_some h;obtain⟨_,_,_,h2⟩:=QKz hd;obtain⟨⟨k1,k2⟩,k3⟩:=QaD h (by simp) (fun q hq=>by simp at hq;subst hq;exact hl) (by omega);unfold FU at k2;simp at k2;exact⟨⟨k1,by omega⟩,k3⟩
theorem QIV {p:List Rat}{R:List (List Rat)}(h:XM p=some R):(1<=(QK p).length/\(QK p).length<=13)/\ ∃d g r s,(Hp (QK p)=some d/\KD FU (QK p) d=some g)/\Xd (QK p) g=some r/\YR (QK r.1)=some s/\s.length<=13/\XZ s=some R:=by
 unfold XM at h;cases h1:Nat.beq (QK p).length 0 with
 | true=>rw[h1]at h;cases h
 | false=>
  rw[h1]at h;cases h2:Nat.ble (QK p).length 13 with
  | false=>rw[h2]at h;cases h
  | true=>
   rw[h2]at h;obtain⟨s,hs,h⟩:=bind_some h;unfold WZ at hs;obtain⟨d,hd,hs⟩:=bind_some hs;obtain⟨g,hg,hs⟩:=bind_some hs;obtain⟨r,hr,hs⟩:=bind_some hs;have e1:=QGL hs;have e2:=Wd r.1;have e3:=(Vm hr).1;have e4:=Nat.le_of_ble_eq_true h2;refine⟨⟨?_,e4⟩,d,g,r,s,⟨hd,hg⟩,hr,hs,by omega,h⟩;cases hz:(QK p).length with
   | zero=>rw[hz]at h1;cases h1
   | succ n=>omega
theorem QB2 {p:List Rat}{R:List (List Rat)}(h:XM p=some R):(1<=R.length/\R.length<=200000)/\ ∀p∈R,p.length<=1000:=by
 obtain⟨_,d,g,r,s,_,_,_,h1,h2⟩:=QIV h;exact QK0 h2 (by omega)
theorem Qc8 {c:List (List Rat)}(h:1<=c.length): ∃p,c[0]? =some p/\c.getD 0 []=p:=by
 obtain⟨x,hx⟩: ∃x,c[0]? =some x:=⟨_,Zh (by omega)⟩
 exact⟨x,hx,by rw[Zq,hx];rfl⟩
structure QVW where
 n:Nat
 a:List Rat
 b:List Rat
def QVX (p g:List Rat):LI:=fun _=> .inv ⟨QVW,fun e=>⟨[(0,sR 100000 p),(3,sR 100000 e.a),(4,sR 100000 e.b)],[]⟩,fun e=>(e.a.length<=1000/\e.b.length<=1000)/\KD e.n e.a e.b=some g,fun e=>e.n,fun _=>0⟩
def QaE:OT:=fun _=>([],[])
def QIW (p:List Rat)(d:List Rat)(g:List Rat)(r:List Rat×List Rat)(s:List Rat)(K:AV->Prop):Prop:=QW QXV QaE (QVX p g) Tryz.f231 [sR 100000 p] K
theorem QIX (p:List Rat)(d:List Rat)(g:List Rat)(r:List Rat×List Rat)(s:List Rat)(K:AV->Prop):QIW p d g r s K=(∃(p_1:List Rat)(all:List Rat),lR 100000 p=lR 100000 p_1/\(p_1.length<=1000/\KC (Zk 1 p_1) 1 []=some all)/\(∃(x:QVW),(((x.a.length<=1000/\x.b.length<=1000)/\KD x.n x.a x.b=some g)/\OfNat.ofNat 0=0)/\3=3/\lR 100000 p=lR 100000 p/\3=3/\lR 100000 p=lR 100000 x.a/\3=3/\lR 100000 (QK all)=lR 100000 x.b/\True)/\∀(x:QVW),(x.a.length<=1000/\x.b.length<=1000)/\KD x.n x.a x.b=some g->OfNat.ofNat 0=0->bif decide (Za (lR 100000 x.b).length>0)then ∃(p_2:List Rat)(q:List Rat)(R:List Rat×List Rat),lR 100000 x.a=lR 100000 p_2/\lR 100000 x.b=lR 100000 q/\((p_2.length<=1000/\1<=q.length/\q.length<=1000)/\Xd p_2 q=some R)/\∃(p_3:List Rat)(all:List Rat),lR 100000 x.b=lR 100000 p_3/\(p_3.length<=1000/\YR p_3=some all)/\∃(x':QVW),(((x'.a.length<=1000/\x'.b.length<=1000)/\KD x'.n x'.a x'.b=some g)/\OfNat.ofNat 0=0/\x'.n<x.n)/\3=3/\lR 100000 p=lR 100000 p/\3=3/\lR 100000 all=lR 100000 x'.a/\3=3/\lR 100000 R.snd=lR 100000 x'.b/\True else ∃(p_2:List Rat)(q:List Rat)(R:List Rat×List Rat),lR 100000 p=lR 100000 p_2/\lR 100000 x.a=lR 100000 q/\((p_2.length<=1000/\1<=q.length/\q.length<=1000)/\Xd p_2 q=some R)/\∃(p:List Rat),lR 100000 R.fst=lR 100000 p/\p.length<=1000/\∃(p_3:List Rat)(all:List Rat),Zf (QK p).length (Zk 0 (Zi (fun(q:Rat)=>[Zm q 100000]) (QK p)))=lR 100000 p_3/\(p_3.length<=1000/\YR p_3=some all)/\K (AV.x false [Zv 3 (lR 100000 all)])):=by kernel_rfl
theorem Qc9 (p:List Rat)(d:List Rat)(g:List Rat)(r:List Rat×List Rat)(s:List Rat)(hc:(p.length<=1000)/\((Hp p=some d/\KD FU p d=some g)/\Xd p g=some r/\YR (QK r.1)=some s))(K:AV->Prop)(hK:K (sR 100000 s)):QR (QIW p d g r s K):=by
 refine⟨?_⟩;rw[QIX];try simp only[Zd,R0,R1,Zj,Zg,R4,R2,R3]
 obtain⟨hl,⟨hd,hg⟩,hr,hs⟩:=hc;obtain⟨all,h1,rfl,h2⟩:=QKz hd;refine⟨p,all,rfl,⟨hl,h1⟩,⟨⟨FU,p,QK all⟩,⟨⟨hl,by simp only;omega⟩,hg⟩,rfl,rfl⟩,fun x ⟨⟨a1,a2⟩,a3⟩=>QF (fun hp=> ?_) (fun hp=> ?_)⟩
 ·have hp:1<=x.b.length:=by have:=R5 hp;rw[Xs]at this;omega
  cases hn:x.n with
  | zero=>rw[hn]at a3;cases a3
  | succ n=>
   rw[hn,KD,Zs hp]at a3;simp only[R7]at a3;obtain⟨R,hR,a3⟩:=bind_some a3;obtain⟨s2,hs2,a3⟩:=bind_some a3;exact⟨x.a,x.b,R,rfl,rfl,⟨⟨a1,hp,a2⟩,hR⟩,x.b,s2,rfl,⟨a2,hs2⟩,⟨n,s2,R.2⟩,⟨⟨⟨by simp only;rw[QGL hs2];exact a2,Zr (Vm hR).2 a1⟩,a3⟩,by simp only;omega⟩,rfl,rfl⟩
 ·have hp:x.b.length=0:=by have:=R6 hp;rw[Xs]at this;omega
  cases hn:x.n with
  | zero=>rw[hn]at a3;cases a3
  | succ n=>
   rw[hn,KD,hp]at a3;have a3:some x.a=some g:=a3;have a3:=Option.some.inj a3;rw[a3];rw[a3]at a1;exact⟨p,g,r,rfl,rfl,⟨⟨hl,QRJ hr,a1⟩,hr⟩,r.1,rfl,Zr (Vm hr).1 hl,QK r.1,s,Kf rfl,⟨Zr (Wd _) (Zr (Vm hr).1 hl),hs⟩,hK⟩
def QRM:Ctr:=fun as0=>match as0 with
 | [.x false [.s 3 xs]]=>some fun K=> ∃(p:List Rat) (d:List Rat) (g:List Rat) (r:List Rat×List Rat) (s:List Rat),xs=lR 100000 p/\((p.length<=1000)/\((Hp p=some d/\KD FU p d=some g)/\Xd p g=some r/\YR (QK r.1)=some s))/\(K (sR 100000 s))
 | _=>none
theorem QaF:CtrOK Tryz.prog QH QG 231 QRM:=by
 refine⟨QJ Tryz.func231 (by kernel_rfl),fun l T hT K hK=> ?_⟩;unfold QRM at hT;split at hT
 ·cases hT
  obtain⟨p,d,g,r,s,rfl,hc,hK⟩:=hK;exact QI QVS QP Tryz.func231 (by kernel_rfl) (by kernel_rfl) (by rfl) (Qc9 _ _ _ _ _ hc K hK)
 ·cases hT
def QRN:List (Nat×Ctr):=(231,QRM)::QRI
noncomputable def QXW:QU:=mkT QRN J8 X4
theorem QL2:CtrsOK Tryz.prog QH QG QRN:= .cons QaF QL1
theorem QVY:QM Tryz.prog QH QG QXW:=QY QL2 Xl Qp
structure ChX where
 n:Nat
 i:Nat
 c:List (List Rat)
 q:List Rat
 r:List Rat
def QdA (c:List (List Rat)):Blk:= .row 41 1 (chN c)
def QVZ (R:List (List Rat)):LI:=fun id=>
 bif id.beq 3 then .invf [501] ⟨ChX,fun e=>⟨[(3,.x false [.w 500 0 e.c.length]),(4,sR 100000 e.q)],[(500,QdA e.c)]⟩,fun e=>((1<=e.c.length/\e.c.length+e.n<=FU+2)/\e.q.length<=1000/\ ∀p∈e.c,p.length<=1000)/\chF e.n e.c e.q=some R,fun e=>e.n,fun _=>0⟩
 else .inv ⟨ChX,fun e=>⟨[(3,.x false [.w 500 0 e.c.length]),(4,.x false [.w 501 0 e.i]),(39,sR 100000 e.r),(40,iA .i64 e.r.length),(41,iA .i64 e.i)],[(500,QdA e.c),(501,JL 100000 ((e.r.map fun x=> -x).take e.i))]⟩,
  fun e=>(((1<=e.c.length/\e.c.length+e.n<=FU+2)/\e.r.length<=1000/\ ∀p∈e.c,p.length<=1000)/\e.i<=e.r.length)/\chF e.n e.c (e.r.map fun x=> -x)=some R,fun e=>e.r.length-e.i,fun e=>e.n+1⟩
def QaG:OT:=fun id=>bif id.beq 5 then([0,1,2,3,4,5,6,7,8,9,10,11,12,13,14,15,16,17],[[],[],[1],[2,1],[0,3,2,1],[4,0,3,2,1],[],[],[7],[8,7],[6,9,8,7],[10,6,9,8,7],[5,4,0,3,2,1,11,10,6,9,8,7],[12,5,4,0,3,2,1,11,10,6,9,8,7],[13,12,5,4,0,3,2,1,11,10,6,9,8,7],[13,12,5,4,0,3,2,1,11,10,6,9,8,7],[14,13,12,5,4,0,3,2,1,11,10,6,9,8,7],[15,13,12,5,4,0,3,2,1,11,10,6,9,8,7,16,14]])else([],[])
def QIY (p:List Rat)(R:List (List Rat))(K:AV->Prop):Prop:=QW QXW QaG (QVZ R) Tryz.f230 [sR 100000 p] K
theorem QIZ (p:List Rat)(R:List (List Rat))(K:AV->Prop):QIY p R K=(∃(p_1:List Rat)(all:List Rat),lR 100000 p=lR 100000 p_1/\(p_1.length<=1000/\KC (Zk 1 p_1) 1 []=some all)/\(∃(x:ChX),((((1<=x.c.length/\x.c.length+x.n<=100002)/\x.q.length<=1000/\∀(p:List Rat),p∈x.c->p.length<=1000)/\chF x.n x.c x.q=some R)/\OfNat.ofNat 0=0)/\0=0/\1=x.c.length/\3=3/\lR 100000 (QK all)=lR 100000 x.q/\41=41/\1=1/\([[Zv 3 (lR 100000 p)]]=chN x.c∨QC [[Zv 3 (lR 100000 p)]] (chN x.c))/\True)/\∀(x:ChX),((1<=x.c.length/\x.c.length+x.n<=100002)/\x.q.length<=1000/\∀(p:List Rat),p∈x.c->p.length<=1000)/\chF x.n x.c x.q=some R->OfNat.ofNat 0=0->bif decide (Za (lR 100000 x.q).length>0)then ∃(p:List Rat)(all:List Rat),lR 100000 x.q=lR 100000 p/\(p.length<=1000/\YR p=some all)/\((x.c.length+1)*24<=140737488355328/\x.c.length+1<=9223372036854775807)/\(0<=Zb.wrap (Za (x.c.length+1)-2)/\Zb.wrap (Za (x.c.length+1)-2)<Za (x.c.length+1))/\∃(ys:List (List Ch)),ldE (Zf x.c.length (chN x.c)++[[Zv 3 (lR 100000 all)]]) (0+(Zb.wrap (Za (x.c.length+1)-2)).toNat) 0 1=some [Zv 3 ys]/\(0<=Zb.wrap (Za (x.c.length+1)-1)/\Zb.wrap (Za (x.c.length+1)-1)<Za (x.c.length+1))/\∃(ys_1:List (List Ch)),ldE (Zf x.c.length (chN x.c)++[[Zv 3 (lR 100000 all)]]) (0+(Zb.wrap (Za (x.c.length+1)-1)).toNat) 0 1=some [Zv 3 ys_1]/\∃(p:List Rat)(q:List Rat)(R_1:List Rat×List Rat),ys=lR 100000 p/\ys_1=lR 100000 q/\((p.length<=1000/\1<=q.length/\q.length<=1000)/\Xd p q=some R_1)/\((0:Int)=0/\(0:Int)=0/\(0:Int)=0)/\(∃(x_1:ChX),(((((1<=x_1.c.length/\x_1.c.length+x_1.n<=100002)/\x_1.r.length<=1000/\∀(p:List Rat),p∈x_1.c->p.length<=1000)/\x_1.i<=x_1.r.length)/\chF x_1.n x_1.c (Zi (fun(x:Rat)=> -x) x_1.r)=some R)/\x_1.n+1=x.n)/\0=0/\x.c.length+1=x_1.c.length/\0=0/\0=x_1.i/\3=3/\lR 100000 R_1.snd=lR 100000 x_1.r/\Za (lR 100000 R_1.snd).length=Za x_1.r.length/\0=Za x_1.i/\41=41/\1=1/\(Zf x.c.length (chN x.c)++[[Zv 3 (lR 100000 all)]]=chN x_1.c∨QC (Zf x.c.length (chN x.c)++[[Zv 3 (lR 100000 all)]]) (chN x_1.c))/\25=25/\3=3/\([]=Zi (fun(q:Rat)=>[Zm q 100000]) (Zf x_1.i (Zi (fun(x:Rat)=> -x) x_1.r))∨QC [] (Zi (fun(q:Rat)=>[Zm q 100000]) (Zf x_1.i (Zi (fun(x:Rat)=> -x) x_1.r))))/\True)/\∀(x_1:ChX),(((1<=x_1.c.length/\x_1.c.length+x_1.n<=100002)/\x_1.r.length<=1000/\∀(p:List Rat),p∈x_1.c->p.length<=1000)/\x_1.i<=x_1.r.length)/\chF x_1.n x_1.c (Zi (fun(x:Rat)=> -x) x_1.r)=some R->x_1.n+1=x.n->bif decide (Za x_1.i<Za x_1.r.length)then(0<=Za x_1.i/\Za x_1.i<Za (lR 100000 x_1.r).length)/\∃(q:Rat)(n:Nat),ldE (lR 100000 x_1.r) (Za x_1.i).toNat 0 3=some [Zm q n]/\n<=100000/\((x_1.i+1)*40<=140737488355328/\x_1.i+1<=9223372036854775807)/\∃(x':ChX),(((((1<=x'.c.length/\x'.c.length+x'.n<=100002)/\x'.r.length<=1000/\∀(p:List Rat),p∈x'.c->p.length<=1000)/\x'.i<=x'.r.length)/\chF x'.n x'.c (Zi (fun(x:Rat)=> -x) x'.r)=some R)/\x'.n+1=x.n/\x'.r.length-x'.i<x_1.r.length-x_1.i)/\0=0/\x_1.c.length=x'.c.length/\0=0/\x_1.i+1=x'.i/\3=3/\lR 100000 x_1.r=lR 100000 x'.r/\Za x_1.r.length=Za x'.r.length/\Zb.wrap (Za x_1.i+1)=Za x'.i/\41=41/\1=1/\(chN x_1.c=chN x'.c∨QC (chN x_1.c) (chN x'.c))/\25=25/\3=3/\(Zf x_1.i (Zi (fun(q:Rat)=>[Zm q 100000]) (Zf x_1.i (Zi (fun(x:Rat)=> -x) x_1.r)))++[[Zm (-q) 100000]]=Zi (fun(q:Rat)=>[Zm q 100000]) (Zf x'.i (Zi (fun(x:Rat)=> -x) x'.r))∨QC (Zf x_1.i (Zi (fun(q:Rat)=>[Zm q 100000]) (Zf x_1.i (Zi (fun(x:Rat)=> -x) x_1.r)))++[[Zm (-q) 100000]]) (Zi (fun(q:Rat)=>[Zm q 100000]) (Zf x'.i (Zi (fun(x:Rat)=> -x) x'.r))))/\True else ∃(x':ChX),((((1<=x'.c.length/\x'.c.length+x'.n<=100002)/\x'.q.length<=1000/\∀(p:List Rat),p∈x'.c->p.length<=1000)/\chF x'.n x'.c x'.q=some R)/\OfNat.ofNat 0=0/\x'.n<x.n)/\0=0/\x_1.c.length=x'.c.length/\3=3/\Zf x_1.i (Zk 0 (Zi (fun(q:Rat)=>[Zm q 100000]) (Zf x_1.i (Zi (fun(x:Rat)=> -x) x_1.r))))=lR 100000 x'.q/\41=41/\1=1/\(chN x_1.c=chN x'.c∨QC (chN x_1.c) (chN x'.c))/\True else K (AV.x false [Zv 1 (Zf x.c.length (Zk 0 (chN x.c)))])):=by kernel_rfl
theorem QdB (p:List Rat)(R:List (List Rat))(hc:(p.length<=1000)/\(XZ p=some R))(K:AV->Prop)(hK:K (sC R)):QR (QIY p R K):=by
 refine⟨?_⟩;rw[QIZ];try simp only[Zd,R0,R1,Zj,Zg,R4,R2,R3]
 obtain⟨hl,hR⟩:=hc;unfold XZ at hR;obtain⟨d,hd,hR⟩:=bind_some hR;obtain⟨all,h1,rfl,h2⟩:=QKz hd;refine⟨p,all,rfl,⟨hl,h1⟩,⟨⟨FU,0,[p],QK all,[]⟩,⟨⟨⟨by simp,by simp only[List.length_singleton,FU];omega⟩,by simp only;omega,fun q hq=>by simp at hq;subst hq;exact hl⟩,hR⟩,rfl,rfl,.inl rfl⟩,fun x ⟨⟨⟨a1,a2⟩,a3,a4⟩,av⟩=>QF (fun hp=> ?_) (fun hp=> ?_)⟩
 ·have hp:1<=x.q.length:=by have:=R5 hp;rw[Xs]at this;omega
  cases hn:x.n with
  | zero=>rw[hn]at av;cases av
  | succ n=>
   rw[hn,chF,Zs hp]at av;simp only[R7]at av;obtain⟨s,hs,av⟩:=bind_some av;obtain⟨r,hr,av⟩:=bind_some av;obtain⟨l,hl'⟩: ∃l,x.c[x.c.length-1]? =some l:=⟨_,Zh (by omega)⟩
   rw[Zq,hl']at hr;have ew1:Zb.wrap (((x.c.length+1:Nat):Int)-2)=((x.c.length-1:Nat):Int):=by rw[w64 (by omega)];omega
   have ew2:Zb.wrap (((x.c.length+1:Nat):Int)-1)=((x.c.length:Nat):Int):=by rw[w64 (by omega)];omega
   have el:=a4 l (Zp hl');have es:=QGL hs;have er:=(Vm hr).2;have er:r.2.length<=1000:=Zr er el;rw[ew1,ew2];simp only[Int.toNat_natCast];refine⟨x.q,s,rfl,⟨a3,hs⟩,⟨by omega,by omega⟩,⟨by omega,by omega⟩,lR 100000 l,?_,⟨by omega,by omega⟩,lR 100000 s,?_,l,s,r,rfl,rfl,⟨⟨el,by omega,by omega⟩,hr⟩,⟨⟨n,0,x.c++[s],[],r.2⟩,⟨⟨⟨⟨⟨by simp,by simp;omega⟩,er,fun q hq=> ?_⟩,Nat.zero_le _⟩,av⟩,by simp only⟩,by simp,rfl,rfl,by rw[Xs],rfl,.inl QKy,.inl (by simp)⟩,fun y ⟨⟨⟨⟨b1,b2⟩,b3,b4⟩,b5⟩,bv⟩ hyn=>QF (fun hj=> ?_) (fun hj=> ?_)⟩
   ·rw[QKy];exact QIU (by rw[List.getElem?_append_left (by omega)];exact hl')
   ·rw[QKy];exact QIU (by rw[List.getElem?_append_right (Zg _),Nat.sub_self];rfl)
   ·rcases List.mem_append.1 hq with hq | hq
    ·exact a4 q hq
    ·simp at hq;subst hq;omega
   ·have hj:y.i<y.r.length:=by have:=R5 hj;omega
    obtain⟨q,hq⟩: ∃q,y.r[y.i]? =some q:=⟨_,Zh (by omega)⟩
    refine⟨by rw[Xs];omega,q,100000,Y7 hq,by omega,⟨by omega,by omega⟩,⟨y.n,y.i+1,y.c,[],y.r⟩,⟨⟨⟨⟨⟨b1,b2⟩,b3,b4⟩,by simp only;omega⟩,bv⟩,hyn,by simp only;omega⟩,rfl,rfl,rfl,rfl,by rw[w64 (by omega)];simp,.inl rfl,.inl ?_⟩;rw[Zo (by simp;omega),List.take_add_one,List.getElem?_map,hq,List.map_append];rfl
   ·have hj:y.i=y.r.length:=by have:=R6 hj;omega
    have e:Zf y.i (Zi (fun x=> -x) y.r)=Zi (fun x=> -x) y.r:=Zo (by simp;omega);refine⟨⟨y.n,0,y.c,y.r.map fun x=> -x,[]⟩,⟨⟨⟨⟨b1,b2⟩,by simp only[List.length_map];exact b3,b4⟩,bv⟩,by simp only;omega⟩,rfl,?_,.inl rfl⟩;rw[e];exact Kf (by simp;omega)
 ·have hp:x.q.length=0:=by have:=R6 hp;rw[Xs]at this;omega
  cases hn:x.n with
  | zero=>rw[hn]at av;cases av
  | succ n=>
   rw[hn,chF,hp]at av;have av:some x.c=some R:=av;have av:=Option.some.inj av;rw[QVT,av];exact hK
def QRO:Ctr:=fun as0=>match as0 with
 | [.x false [.s 3 xs]]=>some fun K=> ∃(p:List Rat) (R:List (List Rat)),xs=lR 100000 p/\((p.length<=1000)/\(XZ p=some R))/\(K (sC R))
 | _=>none
theorem QaH:CtrOK Tryz.prog QH QG 230 QRO:=by
 refine⟨QJ Tryz.func230 (by kernel_rfl),fun l T hT K hK=> ?_⟩;unfold QRO at hT;split at hT
 ·cases hT
  obtain⟨p,R,rfl,hc,hK⟩:=hK;exact QI QVY QP Tryz.func230 (by kernel_rfl) (by kernel_rfl) (by rfl) (QdB _ _ hc K hK)
 ·cases hT
def QRP:List (Nat×Ctr):=(230,QRO)::QRN
noncomputable def QXX:QU:=mkT QRP J8 X4
theorem QL3:CtrsOK Tryz.prog QH QG QRP:= .cons QaH QL2
theorem QVa:QM Tryz.prog QH QG QXX:=QY QL3 Xl Qp
structure CgX where
 i:Nat
 k:Int
 l:Int
def QRQ (c:List (List Rat))(x:Rat)(n:Nat)(R:Int):LI:=fun id=>
 bif id.beq 3 then .inv ⟨CgX,fun e=>⟨[(0,sC c),(3,.x false [.p 3 0]),(5,iA .i64 e.k),(6,iA .i64 e.l),(10,sC c),(11,iA .i64 c.length),(12,iA .i64 e.i)],[(3,.box 25 [.r x n])]⟩,fun e=>(e.i<=c.length/\(0<=e.k/\e.k<=e.i)/\ -1<=e.l/\e.l<=1)/\KE x (c.drop e.i) e.k e.l=some R,fun e=>c.length-e.i,fun _=>0⟩
 else bif id.beq 8 then .cut ⟨CgX×Int,fun e=>⟨[(0,sC c),(3,.x false [.p 3 0]),(5,iA .i64 e.1.k),(6,iA .i64 e.1.l),(9,iA .i64 e.2),(10,sC c),(11,iA .i64 c.length),(12,iA .i64 e.1.i)],[(3,.box 25 [.r x n])]⟩,fun e=>(e.1.i<c.length/\(0<=e.1.k/\e.1.k<=e.1.i+1)/\(-1<=e.1.l/\e.1.l<=1)/\ -1<=e.2/\e.2<=1)/\KE x (c.drop (e.1.i+1)) e.1.k (bif e.2==0 then e.1.l else e.2)=some R,fun _=>0,fun e=>c.length-e.1.i⟩
 else .no
def QVb:OT:=fun _=>([],[])
def QEP (c:List (List Rat))(x:Rat)(n:Nat)(R:Int)(K:AV->Prop):Prop:=QW QXX QVb (QRQ c x n R) Tryz.f232 [sC c,rA x n] K
theorem QGM (c:List (List Rat))(x:Rat)(n:Nat)(R:Int)(K:AV->Prop):QEP c x n R K=((∃(x_1:CgX),(((x_1.i<=c.length/\(0<=x_1.k/\x_1.k<=Za x_1.i)/\ -1<=x_1.l/\x_1.l<=1)/\KE x (Zk x_1.i c) x_1.k x_1.l=some R)/\OfNat.ofNat 0=0)/\1=1/\chN c=chN c/\0=0/\0=x_1.k/\0=x_1.l/\1=1/\chN c=chN c/\Za (chN c).length=Za c.length/\0=Za x_1.i/\25=25/\x=x/\n<=n/\True)/\∀(x_1:CgX),(x_1.i<=c.length/\(0<=x_1.k/\x_1.k<=Za x_1.i)/\ -1<=x_1.l/\x_1.l<=1)/\KE x (Zk x_1.i c) x_1.k x_1.l=some R->OfNat.ofNat 0=0->bif decide (Za x_1.i<Za c.length)then(0<=Za x_1.i/\Za x_1.i<Za (chN c).length)/\∃(ys:List (List Ch)),ldE (chN c) (Za x_1.i).toNat 0 1=some [Zv 3 ys]/\∃(p:List Rat)(r:Rat),ys=lR 100000 p/\((p.length<=1000/\n<=100000)/\Xv p x=some r)/\100000<=4294967296/\(bif decide (Zb.wrap (Qf r*x_1.l)<0)then ∃(x_2:CgX×Int),(((x_2.fst.i<c.length/\(0<=x_2.fst.k/\x_2.fst.k<=Za x_2.fst.i+1)/\(-1<=x_2.fst.l/\x_2.fst.l<=1)/\ -1<=x_2.snd/\x_2.snd<=1)/\KE x (Zk (x_2.fst.i+1) c) x_2.fst.k (bif x_2.snd==0 then x_2.fst.l else x_2.snd)=some R)/\c.length-x_2.fst.i=c.length-x_1.i)/\1=1/\chN c=chN c/\0=0/\Zb.wrap (x_1.k+1)=x_2.fst.k/\x_1.l=x_2.fst.l/\Qf r=x_2.snd/\1=1/\chN c=chN c/\Za c.length=Za c.length/\Za x_1.i=Za x_2.fst.i/\25=25/\x=x/\n<=n/\True else ∃(x_2:CgX×Int),(((x_2.fst.i<c.length/\(0<=x_2.fst.k/\x_2.fst.k<=Za x_2.fst.i+1)/\(-1<=x_2.fst.l/\x_2.fst.l<=1)/\ -1<=x_2.snd/\x_2.snd<=1)/\KE x (Zk (x_2.fst.i+1) c) x_2.fst.k (bif x_2.snd==0 then x_2.fst.l else x_2.snd)=some R)/\c.length-x_2.fst.i=c.length-x_1.i)/\1=1/\chN c=chN c/\0=0/\x_1.k=x_2.fst.k/\x_1.l=x_2.fst.l/\Qf r=x_2.snd/\1=1/\chN c=chN c/\Za c.length=Za c.length/\Za x_1.i=Za x_2.fst.i/\25=25/\x=x/\n<=n/\True)/\∀(x_2:CgX×Int),(x_2.fst.i<c.length/\(0<=x_2.fst.k/\x_2.fst.k<=Za x_2.fst.i+1)/\(-1<=x_2.fst.l/\x_2.fst.l<=1)/\ -1<=x_2.snd/\x_2.snd<=1)/\KE x (Zk (x_2.fst.i+1) c) x_2.fst.k (bif x_2.snd==0 then x_2.fst.l else x_2.snd)=some R->c.length-x_2.fst.i=c.length-x_1.i->bif x_2.snd !=0 then ∃(x':CgX),(((x'.i<=c.length/\(0<=x'.k/\x'.k<=Za x'.i)/\ -1<=x'.l/\x'.l<=1)/\KE x (Zk x'.i c) x'.k x'.l=some R)/\OfNat.ofNat 0=0/\c.length-x'.i<c.length-x_1.i)/\1=1/\chN c=chN c/\0=0/\x_2.fst.k=x'.k/\x_2.snd=x'.l/\1=1/\chN c=chN c/\Za c.length=Za c.length/\Zb.wrap (Za x_2.fst.i+1)=Za x'.i/\25=25/\x=x/\n<=n/\True else ∃(x':CgX),(((x'.i<=c.length/\(0<=x'.k/\x'.k<=Za x'.i)/\ -1<=x'.l/\x'.l<=1)/\KE x (Zk x'.i c) x'.k x'.l=some R)/\OfNat.ofNat 0=0/\c.length-x'.i<c.length-x_1.i)/\1=1/\chN c=chN c/\0=0/\x_2.fst.k=x'.k/\x_2.fst.l=x'.l/\1=1/\chN c=chN c/\Za c.length=Za c.length/\Zb.wrap (Za x_2.fst.i+1)=Za x'.i/\25=25/\x=x/\n<=n/\True else K (AV.x false [Zt (Zl Zb x_1.k)])):=by kernel_rfl
theorem QaI (c:List (List Rat))(x:Rat)(n:Nat)(R:Int)(hc:((c.length<=200000/\n<=100000)/\ ∀p∈c,p.length<=1000)/\(Xc c x=some R))(K:AV->Prop)(hK:(0<=R/\R<=c.length)->K (iA .i64 R)):QR (QEP c x n R K):=by
  refine⟨?_⟩;rw[QGM];try simp only[Zd,R0,R1,Zj,Zg,R4,R2,R3]
  obtain⟨⟨⟨hl,hn⟩,hp⟩,hR⟩:=hc;simp only[QB1,R0];refine⟨⟨⟨0,0,0⟩,⟨⟨Nat.zero_le _,⟨by decide,by decide⟩,by decide,by decide⟩,hR⟩,rfl,rfl,rfl⟩,fun e ⟨⟨h1,⟨h2,h3⟩,h4,h5⟩,hv⟩=>QF (fun hj=> ?_) (fun hj=> ?_)⟩
  · have hj:e.i<c.length:=by have:=R5 hj;omega
    obtain⟨q,hq⟩: ∃q,c[e.i]? =some q:=⟨_,Zh (by omega)⟩
    have ed:c.drop e.i=q::c.drop (e.i+1):=by
      rw[List.drop_eq_getElem_cons hj];congr 1;rw[Zh hj]at hq;exact Option.some.inj hq
    rw[ed,KE]at hv;obtain⟨r,hr,hv⟩:=bind_some hv;have sb:=Qc7 r;have ew:Zb.wrap (Qf r*e.l)=Qf r*e.l:=by rcases sb with s | s | s<;>rw[s]<;>rw[w64 (by omega)]
    rw[Int.toNat_natCast];refine⟨by omega,_,QIU hq,q,r,rfl,⟨⟨hp q (Zp hq),hn⟩,hr⟩,by omega,⟨by rw[ew];refine QF (fun hb=> ?_) (fun hb=> ?_);exact(by rw[hb]at hv;exact⟨⟨⟨e.i,e.k+1,e.l⟩,Qf r⟩,⟨⟨⟨hj,⟨by simp only;omega,by simp only;omega⟩,⟨h4,h5⟩,by simp only;omega,by simp only;omega⟩,hv⟩,rfl⟩,by rw[w64 (by omega)],rfl,rfl,rfl⟩);exact(by rw[hb]at hv;exact⟨⟨⟨e.i,e.k,e.l⟩,Qf r⟩,⟨⟨⟨hj,⟨h2,by simp only;omega⟩,⟨h4,h5⟩,by simp only;omega,by simp only;omega⟩,hv⟩,rfl⟩,rfl,rfl,rfl,rfl⟩),fun y ⟨⟨y1,⟨y2,y3⟩,⟨y4,y5⟩,y6,y7⟩,yv⟩ yt=>QF (fun hb=> ?_) (fun hb=> ?_)⟩⟩
    · have e0:(y.2==0)=false:=by
        cases hz:y.2==0 with
        | false=>rfl
        | true=>simp at hz;rw[hz]at hb;cases hb
      rw[e0]at yv;exact⟨⟨y.1.i+1,y.1.k,y.2⟩,⟨⟨⟨by simp only;omega,⟨y2,by simp only;omega⟩,y6,y7⟩,yv⟩,by simp only;omega⟩,rfl,rfl,by rw[w64 (by omega)];simp⟩
    · have e0:(y.2==0)=true:=by
        cases hz:y.2==0 with
        | true=>rfl
        | false => have : (y.2 != 0) = true := by simp only [bne, hz]; rfl
                   rw[this]at hb;cases hb
      rw[e0]at yv;exact⟨⟨y.1.i+1,y.1.k,y.1.l⟩,⟨⟨⟨by simp only;omega,⟨y2,by simp only;omega⟩,y4,y5⟩,yv⟩,by simp only;omega⟩,rfl,rfl,by rw[w64 (by omega)];simp⟩
  · have hj:c.length<=e.i:=by have:=R6 hj;omega
    rw[List.drop_eq_nil_of_le hj]at hv;cases hv
    exact hK ⟨h2,by omega⟩
def QK1:Ctr:=fun as0=>match as0 with
 | [.x false [.s 1 xs],.x true [.r x n]]=>some fun K=> ∃(c:List (List Rat)) (R:Int),xs=chN c/\(((c.length<=200000/\n<=100000)/\ ∀p∈c,p.length<=1000)/\(Xc c x=some R))/\((0<=R/\R<=c.length)->K (iA .i64 R))
 | _=>none
theorem QVc:CtrOK Tryz.prog QH QG 232 QK1:=by
 refine⟨QJ Tryz.func232 (by kernel_rfl),fun l T hT K hK=> ?_⟩;unfold QK1 at hT;split at hT
 ·cases hT
  obtain⟨c,R,rfl,hc,hK⟩:=hK;exact QI QVa QP Tryz.func232 (by kernel_rfl) (by kernel_rfl) (by rfl) (QaI _ _ _ _ hc K hK)
 ·cases hT
def QRR:List (Nat×Ctr):=(232,QK1)::QRP
noncomputable def QXY:QU:=mkT QRR J8 X4
theorem QL4:CtrsOK Tryz.prog QH QG QRR:= .cons QVc QL3
theorem QVd:QM Tryz.prog QH QG QXY:=QY QL4 Xl Qp
def QRS:OT:=fun id=>bif id.beq 1 then([0,1,2,3,4,5,6,7],[[],[0],[1,0],[],[2,1,0,3],[4,2,1,0,3],[5,4,2,1,0,3],[6,5,4,2,1,0,3]])else([],[])
def QB3 (c:List (List Rat))(x:Rat)(n:Nat)(R:Bool)(K:AV->Prop):Prop:=QW QXY QRS noL Tryz.f233 [sC c,rA x n] K
theorem QDA (c:List (List Rat))(x:Rat)(n:Nat)(R:Bool)(K:AV->Prop):QB3 c x n R K=(((0:Int)<=0/\0<Za (chN c).length)/\∃(ys:List (List Ch)),ldE (chN c) 0 0 1=some [Zv 3 ys]/\∃(p:List Rat)(r:Rat),ys=lR 100000 p/\((p.length<=1000/\n<=100000)/\Xv p x=some r)/\100000<=4294967296/\K (AV.x false [Zt (Zu (Qf r==0))])):=by kernel_rfl
theorem QVe (c:List (List Rat))(x:Rat)(n:Nat)(R:Bool)(hc:((1<=c.length/\n<=100000)/\ ∀p∈c,p.length<=1000)/\(YG c x=some R))(K:AV->Prop)(hK:K (.x false [.v (.bool R)])):QR (QB3 c x n R K):=by
 refine⟨?_⟩;rw[QDA];try simp only[Zd,R0,R1,Zj,Zg,R4,R2,R3]
 obtain⟨⟨⟨h1,hn⟩,hp⟩,hz⟩:=hc;obtain⟨q,hq,hg⟩:=Qc8 h1;unfold YG at hz;rw[hg]at hz;obtain⟨e,he,hz⟩:=bind_some hz;cases hz
 exact⟨by rw[QB1];omega,_,QIU hq,q,e,rfl,⟨⟨hp q (Zp hq),hn⟩,he⟩,by omega,hK⟩
def QGN:Ctr:=fun as0=>match as0 with
 | [.x false [.s 1 xs],.x true [.r x n]]=>some fun K=> ∃(c:List (List Rat)) (R:Bool),xs=chN c/\(((1<=c.length/\n<=100000)/\ ∀p∈c,p.length<=1000)/\(YG c x=some R))/\(K (.x false [.v (.bool R)]))
 | _=>none
theorem QRT:CtrOK Tryz.prog QH QG 233 QGN:=by
 refine⟨QJ Tryz.func233 (by kernel_rfl),fun l T hT K hK=> ?_⟩;unfold QGN at hT;split at hT
 ·cases hT
  obtain⟨c,R,rfl,hc,hK⟩:=hK;exact QI QVd QP Tryz.func233 (by kernel_rfl) (by kernel_rfl) (by rfl) (QVe _ _ _ _ hc K hK)
 ·cases hT
def QRU:List (Nat×Ctr):=(233,QGN)::QRR
noncomputable def QXZ:QU:=mkT QRU J8 X4
theorem QL5:CtrsOK Tryz.prog QH QG QRU:= .cons QRT QL4
theorem QVf:QM Tryz.prog QH QG QXZ:=QY QL5 Xl Qp
def QVg:OT:=fun id=>bif id.beq 1 then([0,1,2,4,5,6,3,7,8,9],[[],[],[1],[0,2,1],[],[],[5],[4,6,5,3,0,2,1],[3,0,2,1,7,4,6,5],[8,3,0,2,1,7,4,6,5]])else([],[])
def QEQ (c:List (List Rat))(s:Sp)(R:Int)(K:AV->Prop):Prop:=QW QXZ QVg noL Tryz.f196 [sC c,.x true [.r s.lo 100000,.r s.hi 100000]] K
theorem QGO (c:List (List Rat))(s:Sp)(R:Int)(K:AV->Prop):QEQ c s R K=(∃(c_1:List (List Rat))(R:Int),chN c=chN c_1/\(((c_1.length<=200000/\100000<=100000)/\∀(p:List Rat),p∈c_1->p.length<=1000)/\Xc c_1 s.lo=some R)/\(0<=R/\R<=Za c_1.length->∃(c_2:List (List Rat))(R_1:Int),chN c=chN c_2/\(((c_2.length<=200000/\100000<=100000)/\∀(p:List Rat),p∈c_2->p.length<=1000)/\Xc c_2 s.hi=some R_1)/\(0<=R_1/\R_1<=Za c_2.length->∃(c_3:List (List Rat))(R_2:Bool),chN c=chN c_3/\(((1<=c_3.length/\100000<=100000)/\∀(p:List Rat),p∈c_3->p.length<=1000)/\YG c_3 s.lo=some R_2)/\bif R_2 then K (AV.x false [Zt (Zl Zb (Zb.wrap (Zb.wrap (R-R_1)+1)))])else K (AV.x false [Zt (Zl Zb (Zb.wrap (R-R_1)))])))):=by kernel_rfl
theorem QaJ (c:List (List Rat))(s:Sp)(R:Int)(hc:((1<=c.length/\c.length<=200000)/\ ∀p∈c,p.length<=1000)/\(X1 c s=some R))(K:AV->Prop)(hK:K (iA .i64 R)):QR (QEQ c s R K):=by
 refine⟨?_⟩;rw[QGO];try simp only[Zd,R0,R1,Zj,Zg,R4,R2,R3]
 obtain⟨⟨⟨h1,h2⟩,hp⟩,hz⟩:=hc;unfold X1 at hz;obtain⟨A,hA,hz⟩:=bind_some hz;obtain⟨B,hB,hz⟩:=bind_some hz;obtain⟨z,hzz,hz⟩:=bind_some hz;cases hz
 refine⟨c,A,rfl,⟨⟨h2,hp⟩,hA⟩,fun hA2=>⟨c,B,rfl,⟨⟨h2,hp⟩,hB⟩,fun hB2=>⟨c,z,rfl,⟨⟨h1,hp⟩,hzz⟩,?_⟩⟩⟩;rw[w64 (by omega: -9223372036854775808<=A-B/\A-B<9223372036854775808),w64 (by omega)];cases z with
 | true=>exact hK
 | false=>exact hK
def QK2:Ctr:=fun as0=>match as0 with
 | [.x false [.s 1 xs],.x true ys]=>some fun K=> ∃(c:List (List Rat)) (s:Sp) (R:Int),xs=chN c/\ys=[.r s.lo 100000,.r s.hi 100000]/\(((1<=c.length/\c.length<=200000)/\ ∀p∈c,p.length<=1000)/\(X1 c s=some R))/\(K (iA .i64 R))
 | _=>none
theorem QVh:CtrOK Tryz.prog QH QG 196 QK2:=by
 refine⟨QJ Tryz.func196 (by kernel_rfl),fun l T hT K hK=> ?_⟩;unfold QK2 at hT;split at hT
 ·cases hT
  obtain⟨c,s,R,rfl,rfl,hc,hK⟩:=hK;exact QI QVf QP Tryz.func196 (by kernel_rfl) (by kernel_rfl) (by rfl) (QaJ _ _ _ hc K hK)
 ·cases hT
def QRV:List (Nat×Ctr):=(196,QK2)::QRU
noncomputable def QXa:QU:=mkT QRV J8 X4
theorem QL6:CtrsOK Tryz.prog QH QG QRV:= .cons QVh QL5
theorem QVi:QM Tryz.prog QH QG QXa:=QY QL6 Xl Qp
def QRW:OT:=fun _=>([],[])
def QB4 (x:Int)(y:Int)(K:AV->Prop):Prop:=QW QXa QRW noL Tryz.f150 [iA .i64 x,iA .i64 y] K
theorem QDB (x:Int)(y:Int)(K:AV->Prop):QB4 x y K=((-9223372036854775808<=x/\x<9223372036854775808)/\(-9223372036854775808<=y/\y<9223372036854775808)/\200000<=4294967296/\∃(r:Rat),QC7 ↑x ↑y=some r/\K (AV.t [(true,[Zm r 100000]),(false,[Zt (Zl Zb 0)])])):=by kernel_rfl
theorem QVj (x:Int)(y:Int)(hc:((-9223372036854775808<=x/\x<9223372036854775808)/\ -9223372036854775808<=y/\y<9223372036854775808)/\((y:Rat)≠0))(K:AV->Prop)(hK:K (.t [(true,[.r ((x:Rat)/(y:Rat)) 100000]),(false,[.v (.int .i64 0)])])):QR (QB4 x y K):=by
 refine⟨?_⟩;rw[QDB];try simp only[Zd,R0,R1,Zj,Zg,R4,R2,R3]
 obtain⟨⟨hx,hy⟩,h0⟩:=hc;have p64:(2:Nat)^64=18446744073709551616:=by decide
 have bx:Bd 64 (x:Rat):=QQ6 (by omega) (by decide);have b2:Bd 64 (y:Rat):=QQ6 (by omega) (by decide);exact⟨hx,hy,by omega,_,Uw bx b2 h0 (by omega),hK⟩
def QGP:Ctr:=fun as0=>match as0 with
 | [.x false [.v (.int .i64 x)],.x false [.v (.int .i64 y)]]=>some fun K=>(((-9223372036854775808<=x/\x<9223372036854775808)/\ -9223372036854775808<=y/\y<9223372036854775808)/\((y:Rat)≠0))/\(K (.t [(true,[.r ((x:Rat)/(y:Rat)) 100000]),(false,[.v (.int .i64 0)])]))
 | _=>none
theorem QRX:CtrOK Tryz.prog QH QG 150 QGP:=by
 refine⟨QJ Tryz.func150 (by kernel_rfl),fun l T hT K hK=> ?_⟩;unfold QGP at hT;split at hT
 ·cases hT
  obtain⟨hc,hK⟩:=hK;exact QI QVi QP Tryz.func150 (by kernel_rfl) (by kernel_rfl) (by rfl) (QVj _ _ hc K hK)
 ·cases hT
def QRY:List (Nat×Ctr):=(150,QGP)::QRV
noncomputable def QXb:QU:=mkT QRY J8 X4
theorem QL7:CtrsOK Tryz.prog QH QG QRY:= .cons QRX QL6
theorem QVk:QM Tryz.prog QH QG QXb:=QY QL7 Xl Qp
def QVl:OT:=fun id=>bif id.beq 2 then([0,1,2,3,4,5,6,7],[[],[],[1],[],[3],[2,1,4,3],[0,5,2,1,4,3],[6,0,5,2,1,4,3]])else([],[])
def QER (s:Sp)(K:AV->Prop):Prop:=QW QXb QVl noL Tryz.f234 [.x true [.r s.lo 100000,.r s.hi 100000]] K
theorem QGQ (s:Sp)(K:AV->Prop):QER s K=(((((-9223372036854775808:Int)<=1/\(1:Int)<9223372036854775808)/\(-9223372036854775808:Int)<=2/\(2:Int)<9223372036854775808)/\(↑(2:Int):Rat)≠OfNat.ofNat 0)/\200001<=4294967296/\∃(r:Rat),Wf s.lo s.hi=some r/\200000<=4294967296/\∃(r_1:Rat),X2 ((↑(1:Int):Rat)/(↑(2:Int):Rat)) r=some r_1/\K (AV.x true [Zm r_1 100000])):=by kernel_rfl
theorem QaK (s:Sp)(hc:True)(K:AV->Prop)(hK: ∃R,VU s=some R/\K (rA R 100000)):QR (QER s K):=by
 refine⟨?_⟩;rw[QGQ];try simp only[Zd,R0,R1,Zj,Zg,R4,R2,R3]
 obtain⟨R,hR,hK⟩:=hK;unfold VU at hR;obtain⟨m,hm,hR⟩:=bind_some hR;exact⟨⟨⟨by omega,by omega⟩,by decide+kernel⟩,by omega,m,hm,by omega,R,hR,hK⟩
def QK3:Ctr:=fun as0=>match as0 with
 | [.x true ys]=>some fun K=> ∃(s:Sp),ys=[.r s.lo 100000,.r s.hi 100000]/\(True)/\(∃R,VU s=some R/\K (rA R 100000))
 | _=>none
theorem QVm:CtrOK Tryz.prog QH QG 234 QK3:=by
 refine⟨QJ Tryz.func234 (by kernel_rfl),fun l T hT K hK=> ?_⟩;unfold QK3 at hT;split at hT
 ·cases hT
  obtain⟨s,rfl,hc,hK⟩:=hK;exact QI QVk QP Tryz.func234 (by kernel_rfl) (by kernel_rfl) (by rfl) (QaK _ hc K hK)
 ·cases hT
def QRZ:List (Nat×Ctr):=(234,QK3)::QRY
noncomputable def QXc:QU:=mkT QRZ J8 X4
theorem QL8:CtrsOK Tryz.prog QH QG QRZ:= .cons QVm QL7
theorem QVn:QM Tryz.prog QH QG QXc:=QY QL8 Xl Qp
def QN0:OT:=fun _=>([],[])
def GV (c:List (List Rat))(s:Sp)(R:Sp)(K:AV->Prop):Prop:=QW QXc QN0 noL Tryz.f197 [sC c,.x true [.r s.lo 100000,.r s.hi 100000]] K
theorem QB5 (c:List (List Rat))(s:Sp)(R:Sp)(K:AV->Prop):GV c s R K=(∃(s_1:Sp),[Zm s.lo 100000,Zm s.hi 100000]=[Zm s_1.lo 100000,Zm s_1.hi 100000]/\True/\∃(R:Rat),VU s_1=some R/\∃(c_1:List (List Rat))(R_1:Bool),chN c=chN c_1/\(((1<=c_1.length/\100000<=100000)/\∀(p:List Rat),p∈c_1->p.length<=1000)/\YG c_1 R=some R_1)/\bif R_1 then 100000<=2000000000/\K (AV.x true [Zm R 100000,Zm R 100000])else ∃(c_2:List (List Rat))(s_2:Sp)(R_2:Int),chN c=chN c_2/\[Zm s.lo 100000,Zm R 100000]=[Zm s_2.lo 100000,Zm s_2.hi 100000]/\(((1<=c_2.length/\c_2.length<=200000)/\∀(p:List Rat),p∈c_2->p.length<=1000)/\X1 c_2 s_2=some R_2)/\bif R_2==1 then K (AV.x true [Zm s.lo 100000,Zm R 100000])else K (AV.x true [Zm R 100000,Zm s.hi 100000])):=by kernel_rfl
theorem QRa (c:List (List Rat))(s:Sp)(R:Sp)(hc:((1<=c.length/\c.length<=200000)/\ ∀p∈c,p.length<=1000)/\(Jp c s=some R))(K:AV->Prop)(hK:K (.x true [.r R.lo 100000,.r R.hi 100000])):QR (GV c s R K):=by
 refine⟨?_⟩;rw[QB5];try simp only[Zd,R0,R1,Zj,Zg,R4,R2,R3]
 obtain⟨⟨⟨h1,h2⟩,hp⟩,hz⟩:=hc;unfold Jp at hz;obtain⟨m,hm,hz⟩:=bind_some hz;obtain⟨z,hzz,hz⟩:=bind_some hz;refine⟨s,rfl,m,hm,c,z,rfl,⟨⟨h1,hp⟩,hzz⟩,QF (fun hb=> ?_) (fun hb=> ?_)⟩
 ·rw[hb]at hz;cases hz
  exact⟨by omega,hK⟩
 ·rw[hb]at hz;obtain⟨n,hn,hz⟩:=bind_some hz;refine⟨c,⟨s.lo,m⟩,n,rfl,rfl,⟨⟨⟨h1,h2⟩,hp⟩,hn⟩,QF (fun hb=> ?_) (fun hb=> ?_)⟩
  ·rw[hb]at hz;cases hz
   exact hK
  ·rw[hb]at hz;cases hz
   exact hK
def QB6:Ctr:=fun as0=>match as0 with
 | [.x false [.s 1 xs],.x true ys]=>some fun K=> ∃(c:List (List Rat)) (s:Sp) (R:Sp),xs=chN c/\ys=[.r s.lo 100000,.r s.hi 100000]/\(((1<=c.length/\c.length<=200000)/\ ∀p∈c,p.length<=1000)/\(Jp c s=some R))/\(K (.x true [.r R.lo 100000,.r R.hi 100000]))
 | _=>none
theorem QN1:CtrOK Tryz.prog QH QG 197 QB6:=by
 refine⟨QJ Tryz.func197 (by kernel_rfl),fun l T hT K hK=> ?_⟩;unfold QB6 at hT;split at hT
 ·cases hT
  obtain⟨c,s,R,rfl,rfl,hc,hK⟩:=hK;exact QI QVn QP Tryz.func197 (by kernel_rfl) (by kernel_rfl) (by rfl) (QRa _ _ _ hc K hK)
 ·cases hT
def QRb:List (Nat×Ctr):=(197,QB6)::QRZ
noncomputable def QXd:QU:=mkT QRb J8 X4
theorem QL9:CtrsOK Tryz.prog QH QG QRb:= .cons QN1 QL8
theorem QVo:QM Tryz.prog QH QG QXd:=QY QL9 Xl Qp
def QN2:OT:=fun _=>([],[])
def GW (p:List Rat)(R:List (List Rat))(K:AV->Prop):Prop:=QW QXd QN2 noL Tryz.f195 [sR 100000 p] K
theorem QB7 (p:List Rat)(R:List (List Rat))(K:AV->Prop):GW p R K=(∃(p_1:List Rat),lR 100000 p=lR 100000 p_1/\p_1.length<=1000/\bif Za (QK p_1).length==0 then K (AV.t [(false,[Zt (Value.slice none 0 0)]),(false,[Zt (Zl Zb 12)])])else bif decide (Za (QK p_1).length>13)then K (AV.t [(false,[Zt (Value.slice none 0 0)]),(false,[Zt (Zl Zb 2)])])else ∃(p:List Rat)(d:List Rat)(g:List Rat)(r:List Rat×List Rat)(s:List Rat),Zf (QK p_1).length (Zk 0 (Zi (fun(q:Rat)=>[Zm q 100000]) (QK p_1)))=lR 100000 p/\(p.length<=1000/\(Hp p=some d/\KD 100000 p d=some g)/\Xd p g=some r/\YR (QK r.fst)=some s)/\∃(p:List Rat)(R:List (List Rat)),lR 100000 s=lR 100000 p/\(p.length<=1000/\XZ p=some R)/\K (AV.t [(false,[Zv 1 (chN R)]),(false,[Zt (Zl Zb 0)])])):=by kernel_rfl
theorem QRc (p:List Rat)(R:List (List Rat))(hc:(p.length<=1000)/\(XM p=some R))(K:AV->Prop)(hK:K (.t [(false,[.s 1 (chN R)]),(false,[.v (.int .i64 0)])])):QR (GW p R K):=by
 refine⟨?_⟩;rw[QB7];try simp only[Zd,R0,R1,Zj,Zg,R4,R2,R3]
 obtain⟨hl,hR⟩:=hc;obtain⟨⟨h1,h2⟩,d,g,r,s,hd,hr,hs,h3,hch⟩:=QIV hR;refine⟨p,rfl,hl,QF (fun hb=> ?_) (fun hb=>QF (fun hb=> ?_) (fun hb=> ?_))⟩
 ·simp at hb;rw[hb]at h1;simp at h1
 ·have:=R5 hb;omega
 ·exact⟨QK p,d,g,r,s,Kf rfl,⟨by omega,hd,hr,hs⟩,s,R,rfl,⟨by omega,hch⟩,hK⟩
def QB8:Ctr:=fun as0=>match as0 with
 | [.x false [.s 3 xs]]=>some fun K=> ∃(p:List Rat) (R:List (List Rat)),xs=lR 100000 p/\((p.length<=1000)/\(XM p=some R))/\(K (.t [(false,[.s 1 (chN R)]),(false,[.v (.int .i64 0)])]))
 | _=>none
theorem QN3:CtrOK Tryz.prog QH QG 195 QB8:=by
 refine⟨QJ Tryz.func195 (by kernel_rfl),fun l T hT K hK=> ?_⟩;unfold QB8 at hT;split at hT
 ·cases hT
  obtain⟨p,R,rfl,hc,hK⟩:=hK;exact QI QVo QP Tryz.func195 (by kernel_rfl) (by kernel_rfl) (by rfl) (QRc _ _ hc K hK)
 ·cases hT
def QRd:List (Nat×Ctr):=(195,QB8)::QRb
noncomputable def QXe:QU:=mkT QRd J8 X4
theorem QMA:CtrsOK Tryz.prog QH QG QRd:= .cons QN3 QL9
theorem QVp:QM Tryz.prog QH QG QXe:=QY QMA Xl Qp
def QN4:OT:=fun _=>([],[])
def GX (p:List Rat)(s:Sp)(R:Int)(K:AV->Prop):Prop:=QW QXe QN4 noL Tryz.f193 [sR 100000 p,.x true [.r s.lo 100000,.r s.hi 100000]] K
theorem QB9 (p:List Rat)(s:Sp)(R:Int)(K:AV->Prop):GX p s R K=(∃(p_1:List Rat)(R:List (List Rat)),lR 100000 p=lR 100000 p_1/\(p_1.length<=1000/\XM p_1=some R)/\(400000<=4294967290/\s.lo<=s.hi/\s.lo<=s.hi)/\∃(c:List (List Rat))(s_1:Sp)(R_1:Int),chN R=chN c/\[Zm (Xi s.lo s.lo) 100000,Zm (JE s.hi s.hi) 100000]=[Zm s_1.lo 100000,Zm s_1.hi 100000]/\(((1<=c.length/\c.length<=200000)/\∀(p:List Rat),p∈c->p.length<=1000)/\X1 c s_1=some R_1)/\K (AV.t [(false,[Zt (Zl Zb R_1)]),(false,[Zt (Zl Zb 0)])])):=by kernel_rfl
theorem QRe (p:List Rat)(s:Sp)(R:Int)(hc:(p.length<=1000/\s.lo<=s.hi)/\(Wa p s=some R))(K:AV->Prop)(hK:K (.t [(false,[.v (.int .i64 R)]),(false,[.v (.int .i64 0)])])):QR (GX p s R K):=by
 refine⟨?_⟩;rw[QB9];try simp only[Zd,R0,R1,Zj,Zg,R4,R2,R3]
 obtain⟨⟨hl,ho⟩,hR⟩:=hc;unfold Wa at hR;obtain⟨c,hc,hR⟩:=bind_some hR;have hk:=QB2 hc;rw[JP,show JE s.hi s.hi=s.hi by unfold JE;split<;>rfl];exact⟨p,c,rfl,⟨hl,hc⟩,⟨by omega,ho,ho⟩,c,s,R,rfl,rfl,⟨hk,hR⟩,hK⟩
def QCA:Ctr:=fun as0=>match as0 with
 | [.x false [.s 3 xs],.x true ys]=>some fun K=> ∃(p:List Rat) (s:Sp) (R:Int),xs=lR 100000 p/\ys=[.r s.lo 100000,.r s.hi 100000]/\((p.length<=1000/\s.lo<=s.hi)/\(Wa p s=some R))/\(K (.t [(false,[.v (.int .i64 R)]),(false,[.v (.int .i64 0)])]))
 | _=>none
theorem QN5:CtrOK Tryz.prog QH QG 193 QCA:=by
 refine⟨QJ Tryz.func193 (by kernel_rfl),fun l T hT K hK=> ?_⟩;unfold QCA at hT;split at hT
 ·cases hT
  obtain⟨p,s,R,rfl,rfl,hc,hK⟩:=hK;exact QI QVp QP Tryz.func193 (by kernel_rfl) (by kernel_rfl) (by rfl) (QRe _ _ _ hc K hK)
 ·cases hT
def QRf:List (Nat×Ctr):=(193,QCA)::QRd
noncomputable def QXf:QU:=mkT QRf J8 X4
theorem QMB:CtrsOK Tryz.prog QH QG QRf:= .cons QN5 QMA
theorem QVq:QM Tryz.prog QH QG QXf:=QY QMB Xl Qp
def QN6 (c:List (List Rat))(w:Rat)(R:Sp):LI:=fun _=> .inv ⟨Nat×Sp,fun e=>⟨[(4,.x false [.p 4 0]),(5,.x false [.p 5 0]),(6,.x false [.p 6 0]),(8,sC c)],[(4,.box 83 [.r e.2.lo 100000,.r e.2.hi 100000]),(5,.box 25 [.r w 100000]),(6,.box 83 (V6++V6))]⟩,fun e=>KF c w e.1 e.2=some R,fun e=>e.1,fun _=>0⟩
def QRg:OT:=fun id=>bif id.beq 9 then([0,1,2,3,5,4,6,7],[[],[0],[],[2],[1,0,3,2],[],[4,1,0,3,2,5],[6,4,1,0,3,2,5]])else([],[])
def QCB (p:List Rat)(c:List (List Rat))(s:Sp)(w:Rat)(R:Sp)(K:AV->Prop):Prop:=QW QXf QRg (QN6 c w R) Tryz.f151 [sR 100000 p,.x true [.r s.lo 100000,.r s.hi 100000],rA w 100000] K
theorem QDC (p:List Rat)(c:List (List Rat))(s:Sp)(w:Rat)(R:Sp)(K:AV->Prop):QCB p c s w R K=(∃(p_1:List Rat)(R_1:List (List Rat)),lR 100000 p=lR 100000 p_1/\(p_1.length<=1000/\XM p_1=some R_1)/\100000<=4294967296/\bif decide (Qf w<=0)then K (AV.t [(true,[Zt (Zu false),Zt (Zn (Zc (Ze []))),Zt (Zn (Zc (Ze []))),Zt (Zu false),Zt (Zn (Zc (Ze []))),Zt (Zn (Zc (Ze [])))]),(false,[Zt (Zl Zb 1)])])else(400000<=4294967290/\s.lo<=s.hi/\s.lo<=s.hi)/\∃(c_1:List (List Rat))(s_1:Sp)(R_2:Int),chN R_1=chN c_1/\[Zm (Xi s.lo s.lo) 100000,Zm (JE s.hi s.hi) 100000]=[Zm s_1.lo 100000,Zm s_1.hi 100000]/\(((1<=c_1.length/\c_1.length<=200000)/\∀(p:List Rat),p∈c_1->p.length<=1000)/\X1 c_1 s_1=some R_2)/\bif R_2 !=1 then K (AV.t [(true,[Zt (Zu false),Zt (Zn (Zc (Ze []))),Zt (Zn (Zc (Ze []))),Zt (Zu false),Zt (Zn (Zc (Ze []))),Zt (Zn (Zc (Ze [])))]),(false,[Zt (Zl Zb 4)])])else(∃(x:Nat×Sp),(KF c w x.fst x.snd=some R/\OfNat.ofNat 0=0)/\0=0/\0=0/\0=0/\1=1/\chN R_1=chN c/\83=83/\Xi s.lo s.lo=x.snd.lo/\100000<=100000/\JE s.hi s.hi=x.snd.hi/\100000<=100000/\25=25/\w=w/\100000<=100000/\83=83/\false=false/\Zc (Ze [])=Zc (Ze [])/\Zc (Ze [])=Zc (Ze [])/\false=false/\Zc (Ze [])=Zc (Ze [])/\Zc (Ze [])=Zc (Ze [])/\True)/\∀(x:Nat×Sp),KF c w x.fst x.snd=some R->OfNat.ofNat 0=0->200001<=4294967296/\∃(r:Rat),Wg x.snd.hi x.snd.lo=some r/\200000<=4294967296/\bif decide (J0 r w>0)then ∃(c_2:List (List Rat))(s:Sp)(R_3:Sp),chN c=chN c_2/\[Zm x.snd.lo 100000,Zm x.snd.hi 100000]=[Zm s.lo 100000,Zm s.hi 100000]/\(((1<=c_2.length/\c_2.length<=200000)/\∀(p:List Rat),p∈c_2->p.length<=1000)/\Jp c_2 s=some R_3)/\∃(x':Nat×Sp),(KF c w x'.fst x'.snd=some R/\OfNat.ofNat 0=0/\x'.fst<x.fst)/\0=0/\0=0/\0=0/\1=1/\chN c=chN c/\83=83/\R_3.lo=x'.snd.lo/\100000<=100000/\R_3.hi=x'.snd.hi/\100000<=100000/\25=25/\w=w/\100000<=100000/\83=83/\false=false/\Zc (Ze [])=Zc (Ze [])/\Zc (Ze [])=Zc (Ze [])/\false=false/\Zc (Ze [])=Zc (Ze [])/\Zc (Ze [])=Zc (Ze [])/\True else K (AV.t [(true,[Zm x.snd.lo 100000,Zm x.snd.hi 100000]),(false,[Zt (Zl Zb 0)])])):=by kernel_rfl
theorem QVr (p:List Rat)(c:List (List Rat))(s:Sp)(w:Rat)(R:Sp)(hc:((p.length<=1000/\s.lo<=s.hi)/\XM p=some c)/\(0<w/\GQ p s w=some R))(K:AV->Prop)(hK:K (.t [(true,[.r R.lo 100000,.r R.hi 100000]),(false,[.v (.int .i64 0)])])):QR (QCB p c s w R K):=by
  refine⟨?_⟩;rw[QDC];try simp only[Zd,R0,R1,Zj,Zg,R4,R2,R3]
  obtain⟨⟨⟨hl,ho⟩,hc⟩,hw,hR⟩:=hc;unfold GQ at hR;rw[hc]at hR;obtain⟨c',hc',hR⟩:=bind_some hR;cases hc'
  obtain⟨n,hn,hR⟩:=bind_some hR;have hk:=QB2 hc;rw[JP,show JE s.hi s.hi=s.hi by unfold JE;split<;>rfl];refine⟨p,c,rfl,⟨hl,hc⟩,by omega,QF (fun hb=> ?_) (fun _=>⟨⟨by omega,ho,ho⟩,c,s,n,rfl,rfl,⟨hk,hn⟩,QF (fun hb=> ?_) (fun hb=>⟨⟨(FU,s),?_,rfl,rfl,rfl⟩,fun x hx=>⟨by omega,?_⟩⟩)⟩)⟩
  · have:=R5 hb;rw[QVU hw]at this;omega
  · have e:(n==1)=false:=by
      cases h:n==1 with
      | false=>rfl
      | true=>simp at h;subst h;cases hb
    rw[e]at hR;cases hR
  · have e:(n==1)=true:=by
      cases h:n==1 with
      | true=>rfl
      | false => have : (n != 1) = true := by simp only [bne, h]; rfl
                 rw[this]at hb;cases hb
    rw[e]at hR;exact hR
  · obtain⟨k,t⟩:=x;cases k with
    | zero=>cases hx
    | succ k=>
      have hx:KF c w (k+1) t=some R:=hx;rw[KF]at hx;obtain⟨d,hd,hx⟩:=bind_some hx;refine⟨d,hd,by omega,QF (fun hb=> ?_) (fun hb=> ?_)⟩
      · have hb:w<d:=by
          have:=R5 hb;exact Rat.not_le.1 fun e=>by have:=(WY d w).2 e;omega
        rw[decide_eq_true hb]at hx;obtain⟨t',ht,hx⟩:=bind_some hx;exact⟨c,t,t',rfl,rfl,⟨hk,ht⟩,(k,t'),⟨hx,Nat.lt_succ_self k⟩,rfl,rfl⟩
      · have hb: ¬w<d:=by
          have:=R6 hb;exact Rat.not_lt.2 ((WY d w).1 (by omega))
        rw[decide_eq_false hb]at hx;cases hx
        exact hK
def QGR:Ctr:=fun as0=>match as0 with
 | [.x false [.s 3 xs],.x true ys,.x true zs]=>some fun K=> ∃(p:List Rat) (c:List (List Rat)) (s:Sp) (w:Rat) (R:Sp),xs=lR 100000 p/\ys=[.r s.lo 100000,.r s.hi 100000]/\zs=[.r w 100000]/\(((p.length<=1000/\s.lo<=s.hi)/\XM p=some c)/\(0<w/\GQ p s w=some R))/\(K (.t [(true,[.r R.lo 100000,.r R.hi 100000]),(false,[.v (.int .i64 0)])]))
 | _=>none
theorem QRh:CtrOK Tryz.prog QH QG 151 QGR:=by
 refine⟨QJ Tryz.func151 (by kernel_rfl),fun l T hT K hK=> ?_⟩;unfold QGR at hT;split at hT
 ·cases hT
  obtain⟨p,c,s,w,R,rfl,rfl,rfl,hc,hK⟩:=hK;exact QI QVq QP Tryz.func151 (by kernel_rfl) (by kernel_rfl) (by rfl) (QVr _ _ _ _ _ hc K hK)
 ·cases hT
def QES:List (Nat×Ctr):=(151,QGR)::QRf
noncomputable def QXg:QU:=mkT QES J8 X4
theorem G6:CtrsOK Tryz.prog QH QG QES:= .cons QRh QMB
theorem QVs:QM Tryz.prog QH QG QXg:=QY G6 Xl Qp
end Go.Proofs
