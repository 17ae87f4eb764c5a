/- Polygons apart: poly.Box of points, apart.valid, Boxes, both, beyond, Meet. -/
import Derived.Test.YtfhfenokfkenoaaGreatDoorCL
open Int renaming ofNat → Za, ofNat_eq_natCast → Zj
open List renaming map → Zb, take → Ze, getElem?_eq_getElem → Zg, take_of_length_le → Zh, length_map → Zl, take_add_one → Zn, length_take → Zq, drop → Zt, mem_of_getElem? → Zu, drop_zero → Zw, getElem?_zipWith → Zx, map_append → Zy, getElem?_map → Zz, take_length → Ya, all_append → Yb, foldl → Yc
open ByteArray renaming mk → Zc
open Array renaming mk → Zd
open Go.IntKind renaming i64 → Zf
open Go.Eng.Ch renaming r → Zi, v → Zo, s → Yd
open Go.Value renaming bool → Zk, slice → Zm, int → Zp, string → Zs
open Nat renaming le_refl → Zr, zero_add → Zv
namespace Go.Proofs
open Go Go.Eng
def orC (c d:Ctr):Ctr:=fun a0=>match c a0 with
 | none=>d a0
 | some T=>some T
def QQL (n:Nat)(l:List (Rat×Rat)):LI:=fun _=> .inv ⟨Xn×Nat,fun x=>⟨[(2,.x false [.p 2 0]),(5,.x false [.p 5 0]),(26,.x false [.s 6 (l.tail.map (QT n))]),(27,iA .i64 l.tail.length),(28,iA .i64 x.2)],
 [(2,.box 93 (Xs++Xs++Xs++Xs)),(5,.box 93 (bxN (n+66) x.1))]⟩,fun x=>x.2<=l.tail.length/\(l.tail.drop x.2).foldl Qp x.1=Xh l,fun x=>l.tail.length-x.2,fun _=>0⟩
structure ByX where
 i:Nat
 j:Nat
 far:Bool
def atP (l:List (Rat×Rat))(i:Nat):Rat×Rat:=l.getD i (0,0)
def nxP (l:List (Rat×Rat))(i:Nat):Rat×Rat:=l.getD ((i+1) % l.length) (0,0)
def byT (n:Nat)(a:List (Rat×Rat))(m:Nat)(b:List (Rat×Rat))(i:Nat):List (Nat×AV):=[(0,sVv n a),(1,sVv m b),(4,.x false [.p 4 0]),(13,sVv n a),(14,iA .i64 a.length),(15,iA .i64 i)]
def byI (a b:List (Rat×Rat))(i:Nat):Prop:= ∀k,k<i->KB (atP a k) (nxP a k) b=false
def QJE (n:Nat)(a:List (Rat×Rat))(m:Nat)(b:List (Rat×Rat)):LI:=fun id=>bif id.beq 2 then .inv ⟨Nat,fun i=>⟨byT n a m b i,[(4,.box 27 (Xs++Xs))]⟩,fun i=>i<=a.length/\byI a b i,fun i=>a.length-i,fun _=>0⟩
 else .inv ⟨ByX,fun x=>⟨byT n a m b x.i++[(6,iA .i64 x.i),(7,.x false [.p 7 0]),(9,.x false [.p 9 0]),(10,.x false [.v (.bool x.far)]),(36,sVv m b),(37,iA .i64 b.length),(38,iA .i64 x.j)],
  [(4,.box 27 (Xs++Xs)),(7,.box 27 (QT n (atP a x.i))),(9,.box 27 (QT (2*n+2) (QEX (atP a x.i) (nxP a x.i))))]⟩,
  fun x=>(x.i<a.length/\byI a b x.i)/\x.j<=b.length/\x.far=KB (atP a x.i) (nxP a x.i) (b.take x.j),fun x=>b.length-x.j,fun x=>a.length-x.i⟩
theorem _root_.Go.Eng.CtrOK.or {P:Program}{g:Nat}{tab:List Value}{f:Nat}{c d:Ctr}(h:CtrOK P g tab f c)(k:CtrOK P g tab f d):CtrOK P g tab f (orC c d):=by
 refine⟨h.enter,fun a0 T hT K hK=> ?_⟩;unfold orC at hT;split at hT
 ·exact k.sound a0 T hT K hK
 ·rename_i e;cases hT
  exact h.sound a0 _ e K hK
theorem QEc (p q:Rat):decide (JZ p q<=0)=decide (p<=q):=decide_eq_decide.2 (W9 p q)
theorem QUc (q:Rat):decide (VZ q>0)=decide (0<q):=by
 refine decide_eq_decide.2 ⟨fun h=> ?_,fun h=>by rw[QBM h];omega⟩;unfold VZ at h;split at h
 ·omega
 ·split at h
  ·omega
  ·rename_i h0 h1;have h2:0<=q:=Rat.num_nonneg.1 (by omega);rcases Rat.le_iff_lt_or_eq.1 h2 with h3 | h3
   ·exact h3
   ·rw[<-h3]at h0;exact absurd rfl h0
theorem QQM {p q:Rat×Rat}{b:List (Rat×Rat)}{j:Nat}{v:Rat×Rat}(h:b[j]? =some v):KB p q (b.take (j+1))=(KB p q (b.take j)&&decide (0<QBd (QEX p q) (v.1-p.1,v.2-p.2))):=by
 unfold KB;rw[Zn,h,Yb];simp
theorem QKT {a b:List (Rat×Rat)}:Ve a b=true↔ ∃k,k<a.length/\KB (atP a k) (nxP a k) b=true:=by
 simp[Ve,atP,nxP,List.any_eq_true]
theorem QQN (_hc:True)(K:AV->Prop)(hK:K (.x false [.v (.bool false)])):QM (QR Qa4 (oF Tryz.f129) noL Tryz.f129 [.x true Xs] K):=by
 refine HV ((K (AV.x false [Zo (Zk false)]))) ?_
 try simp only[Zj,R0,R1,Zv,Zr,R4,R2,R3]
 exact hK
def QBh:Ctr
 | [.x true [.v (.bool false),.v (.string ⟨⟨[]⟩⟩),.v (.string ⟨⟨[]⟩⟩)]]=>some fun K=>(True)/\(K (.x false [.v (.bool false)]))
 | _=>none
theorem QMe:QI 129 QBh:=by
 refine okL Tryz.func129 fun l T hT K hK=> ?_
 unfold QBh at hT;split at hT<;>cases hT
 obtain⟨hc,hK⟩:=hK;exact spL QYn QK Tryz.func129 (QQN  hc K hK)
def QQO:LC:=(129,QBh)::QUT
theorem QKU:QG QQO:= .cons QMe QJB
theorem QUd (_hc:True)(K:AV->Prop)(hK:K (.x true [.r 0 1])):QM (QR (mkT QQO M79 X4) (oF Tryz.f73) noL Tryz.f73 [.x true Xs] K):=by
 refine HV ((True/\K (AV.x true [Zi (OfNat.ofNat 0) 1]))) ?_
 try simp only[R0]
 exact hK
def QEd:Ctr
 | [.x true [.v (.bool false),.v (.string ⟨⟨[]⟩⟩),.v (.string ⟨⟨[]⟩⟩)]]=>some fun K=>(True)/\(K (.x true [.r 0 1]))
 | _=>none
theorem QQP:QI 73 QEd:=by
 refine okL Tryz.func73 fun l T hT K hK=> ?_
 unfold QEd at hT;split at hT<;>cases hT
 obtain⟨hc,hK⟩:=hK;exact spL (QW QKU Q8 Qg) QK Tryz.func73 (QUd  hc K hK)
def QQQ:LC:=(73,QEd)::QQO
theorem QKV:QG QQQ:= .cons QQP QKU
theorem QUe (_hc:True)(K:AV->Prop)(hK:K (.x true [.r 0 2])):QM (QR (mkT QQQ M79 X4) (oF Tryz.f23) noL Tryz.f23 [.x true Xs,.x true Xs] K):=by
 refine HV ((True/\True/\(1<=549755813888/\1<=549755813888)/\((2<=4294967296/\1<=4294967296)/\1≠0)/\K (AV.x true [Zi (XF false 0 1) 2]))) ?_
 try simp only[R0]
 exact⟨⟨by omega,by omega⟩,⟨⟨by omega,by omega⟩,by omega⟩,by rw[QAt];exact hK⟩
def QEe:Ctr
 | [.x true [.v (.bool false),.v (.string ⟨⟨[]⟩⟩),.v (.string ⟨⟨[]⟩⟩)],.x true [.v (.bool false),.v (.string ⟨⟨[]⟩⟩),.v (.string ⟨⟨[]⟩⟩)]]=>some fun K=>(True)/\(K (.x true [.r 0 2]))
 | _=>none
theorem QQR:QI 23 QEe:=by
 refine okL Tryz.func23 fun l T hT K hK=> ?_
 unfold QEe at hT;split at hT<;>cases hT
 obtain⟨hc,hK⟩:=hK;exact spL (QW QKV Q8 Qg) QK Tryz.func23 (QUe  hc K hK)
def QWJ:LC:=(23,QEe)::QQQ
theorem QUf:QG QWJ:= .cons QQR QKV
theorem QUg (_hc:True)(K:AV->Prop)(hK:K (.x true [.r 0 2,.r 0 2])):QM (QR (mkT QWJ M79 X4) (oF Tryz.f108) noL Tryz.f108 [.x true (Xs++Xs),.x true (Xs++Xs)] K):=by
 refine HV ((True/\True/\K (AV.x true [Zi (OfNat.ofNat 0) 2,Zi (OfNat.ofNat 0) 2]))) ?_
 try simp only[R0]
 exact hK
def QEf:Ctr
 | [.x true [.v (.bool false),.v (.string ⟨⟨[]⟩⟩),.v (.string ⟨⟨[]⟩⟩),.v (.bool false),.v (.string ⟨⟨[]⟩⟩),.v (.string ⟨⟨[]⟩⟩)],.x true [.v (.bool false),.v (.string ⟨⟨[]⟩⟩),.v (.string ⟨⟨[]⟩⟩),.v (.bool false),.v (.string ⟨⟨[]⟩⟩),.v (.string ⟨⟨[]⟩⟩)]]=>some fun K=>(True)/\(K (.x true [.r 0 2,.r 0 2]))
 | _=>none
theorem QQS:QI 108 QEf:=by
 refine okL Tryz.func108 fun l T hT K hK=> ?_
 unfold QEf at hT;split at hT<;>cases hT
 obtain⟨hc,hK⟩:=hK;exact spL (QW QUf Q8 Qg) QK Tryz.func108 (QUg  hc K hK)
def QYr:LC:=(146,U1)::(235,Vu)::(108,orC QEf QEL)::QUT
theorem QQT:QG QYr:= .cons QMJ (.cons QBS (.cons (.or QQS QKK) QJB))
set_option maxHeartbeats 1000000 in
theorem QYs (n:Nat)(l:List (Rat×Rat))(hc:(n<=1000000000/\1<=l.length/\l.length<=100))(K:AV->Prop)(hK:K (.x true (bxN (n+66) (Xh l)))):QM (QR (mkT QYr M79 X4) (oF Tryz.f176) (QQL n l) Tryz.f176 [sVv n l] K):=by
 refine HV ((True/\bif Za (Zb (QT n) l).length==0 then K (AV.x true [Zi (OfNat.ofNat 0) 2,Zi (OfNat.ofNat 0) 2,Zi (OfNat.ofNat 0) 2,Zi (OfNat.ofNat 0) 2])else((0:Int)<=0/\0<Za (Zb (QT n) l).length)/\∃(q:Rat),∃(n_1:Nat),∃(q_1:Rat),∃(n_2:Nat),ldE (Zb (QT n) l) 0 0 6=some [Zi q n_1,Zi q_1 n_2]/\(n_1+2<=4294967290/\n_2+2<=4294967290)/\((0:Int)<=1/\1<=Za (Zb (QT n) l).length/\Za (Zb (QT n) l).length<=Za (Zb (QT n) l).length)/\(∃(x:Xn×Nat),((x.snd<=l.tail.length/\Yc Qp x.fst (Zt x.snd l.tail)=Xh l)/\OfNat.ofNat 0=0)/\0=0/\0=0/\6=6/\Ze ((Za (Zb (QT n) l).length).toNat-1) (Zt 1 (Zb (QT n) l))=Zb (QT n) l.tail/\Za (Ze ((Za (Zb (QT n) l).length).toNat-1) (Zt 1 (Zb (QT n) l))).length=Za l.tail.length/\0=Za x.snd/\93=93/\false=false/\Zc (Zd [])=Zc (Zd [])/\Zc (Zd [])=Zc (Zd [])/\false=false/\Zc (Zd [])=Zc (Zd [])/\Zc (Zd [])=Zc (Zd [])/\false=false/\Zc (Zd [])=Zc (Zd [])/\Zc (Zd [])=Zc (Zd [])/\false=false/\Zc (Zd [])=Zc (Zd [])/\Zc (Zd [])=Zc (Zd [])/\93=93/\q+OfNat.ofNat 0=x.fst.x1/\n_1+2+1<=n+66/\q_1+OfNat.ofNat 0=x.fst.y1/\n_2+2+1<=n+66/\q+OfNat.ofNat 0=x.fst.x2/\n_1+2+1<=n+66/\q_1+OfNat.ofNat 0=x.fst.y2/\n_2+2+1<=n+66/\True)/\∀(x:Xn×Nat),x.snd<=l.tail.length/\Yc Qp x.fst (Zt x.snd l.tail)=Xh l->OfNat.ofNat 0=0->bif decide (Za x.snd<Za l.tail.length)then(0<=Za x.snd/\Za x.snd<Za (Zb (QT n) l.tail).length)/\∃(q:Rat),∃(n_3:Nat),∃(q_2:Rat),∃(n_4:Nat),ldE (Zb (QT n) l.tail) (Za x.snd).toNat 0 6=some [Zi q n_3,Zi q_2 n_4]/\n+66+n_3<=4294967296/\n+66+n_4<=4294967296/\n+66+n_3<=4294967296/\n+66+n_4<=4294967296/\∃(x':Xn×Nat),((x'.snd<=l.tail.length/\Yc Qp x'.fst (Zt x'.snd l.tail)=Xh l)/\OfNat.ofNat 0=0/\l.tail.length-x'.snd<l.tail.length-x.snd)/\0=0/\0=0/\6=6/\Zb (QT n) l.tail=Zb (QT n) l.tail/\Za l.tail.length=Za l.tail.length/\Zf.wrap (Za x.snd+1)=Za x'.snd/\93=93/\false=false/\Zc (Zd [])=Zc (Zd [])/\Zc (Zd [])=Zc (Zd [])/\false=false/\Zc (Zd [])=Zc (Zd [])/\Zc (Zd [])=Zc (Zd [])/\false=false/\Zc (Zd [])=Zc (Zd [])/\Zc (Zd [])=Zc (Zd [])/\false=false/\Zc (Zd [])=Zc (Zd [])/\Zc (Zd [])=Zc (Zd [])/\93=93/\XA x.fst.x1 q=x'.fst.x1/\max (n+66) n_3<=n+66/\XA x.fst.y1 q_2=x'.fst.y1/\max (n+66) n_4<=n+66/\XH x.fst.x2 q=x'.fst.x2/\max (n+66) n_3<=n+66/\XH x.fst.y2 q_2=x'.fst.y2/\max (n+66) n_4<=n+66/\True else K (AV.x true [Zi x.fst.x1 (n+66),Zi x.fst.y1 (n+66),Zi x.fst.x2 (n+66),Zi x.fst.y2 (n+66)]))) ?_
 try simp only[Zj,R0,R1,R4]
 obtain⟨hn,hl1,hl2⟩:=hc;obtain⟨p0,hp0⟩: ∃p,l[0]? =some p:=⟨_,Zg (by omega)⟩
 have tl:l.tail.length=l.length-1:=List.length_tail;have et:Ze (l.length-1) (Zt 1 (l.map (QT n)))=l.tail.map (QT n):=by rw[List.drop_one,<-List.map_tail,Zh (by simp)]
 simp only[Zl,Int.toNat_natCast];refine QF (fun h=>by have:=eq_of_beq h;omega) (fun _=>⟨by omega,_,_,_,_,WE hp0,by omega,by omega,⟨(⟨p0.1,p0.2,p0.1,p0.2⟩,0),⟨by simp,?_⟩,et,by rw[et,Zl],rfl,Rat.add_zero _,by omega,Rat.add_zero _,by omega,Rat.add_zero _,by omega,Rat.add_zero _,by omega⟩,fun x ⟨hx,he⟩=>QF (fun hp=> ?_) (fun hp=> ?_)⟩)
 ·show Yc Qp ⟨p0.1,p0.2,p0.1,p0.2⟩ (l.tail.drop 0)=Xh l
  unfold Xh;rw[Zw,QEV hp0]
 ·have hp:x.2<l.tail.length:=by have:=R5 hp;omega
  obtain⟨p,hpp⟩: ∃p,l.tail[x.2]? =some p:=⟨_,Zg hp⟩
  rw[QPK hpp,List.foldl_cons]at he;exact⟨by omega,_,_,_,_,WE (by simpa using hpp),by omega,by omega,by omega,by omega,(Qp x.1 p,x.2+1),⟨⟨hp,he⟩,by simp only;omega⟩,by rw[w64 (by omega)];simp,rfl,by omega,rfl,by omega,rfl,by omega,rfl,by omega⟩
 ·have hp:x.2=l.tail.length:=by have:=R6 hp;omega
  rw[hp,List.drop_length]at he;have he:x.1=Xh l:=he;rw[<-he]at hK;exact hK
def QJF:Ctr
 | [.x false [.s 6 xs]]=>some fun K=> ∃(n:Nat) (l:List (Rat×Rat)),xs=l.map (QT n)/\((n<=1000000000/\1<=l.length/\l.length<=100))/\(K (.x true (bxN (n+66) (Xh l))))
 | _=>none
theorem QUh:QI 176 QJF:=by
 refine okL Tryz.func176 fun l T hT K hK=> ?_
 unfold QJF at hT;split at hT<;>cases hT
 obtain⟨n,l,rfl,hc,hK⟩:=hK;exact spL (QW QQT Q8 Qg) QK Tryz.func176 (QYs _ _ hc K hK)
def QQU:LC:=(176,QJF)::QYr
theorem QKW:QG QQU:= .cons QUh QQT
theorem QQV (n:Nat)(b:Xn)(hc:(n<=1100000000))(K:AV->Prop)(hK:K (.x false [.v (.bool b.ok)])):QM (QR (mkT QQU M79 X4) (oF Tryz.f209) noL Tryz.f209 [.x true (bxN n b)] K):=by
 refine HV ((n+n<=4294967296/\bif decide (JZ b.x1 b.x2<=0)then n+n<=4294967296/\K (AV.x false [Zo (Zk (decide (JZ b.y1 b.y2<=0)))])else K (AV.x false [Zo (Zk false)]))) ?_
 try simp only[Zj,R0,R1,Zv,Zr,R4,R2,R3]
 unfold Xn.ok at hK;refine⟨by omega,QF (fun h1=>⟨by omega,?_⟩) (fun h1=> ?_)⟩
 ·rw[QEc]at h1⊢;rw[h1]at hK;exact hK
 ·rw[QEc]at h1;rw[h1]at hK;exact hK
def QBi:Ctr
 | [.x true xs]=>some fun K=> ∃(n:Nat) (b:Xn),xs=bxN n b/\((n<=1100000000))/\(K (.x false [.v (.bool b.ok)]))
 | _=>none
theorem QMf:QI 209 QBi:=by
 refine okL Tryz.func209 fun l T hT K hK=> ?_
 unfold QBi at hT;split at hT<;>cases hT
 obtain⟨n,b,rfl,hc,hK⟩:=hK;exact spL (QW QKW Q8 Qg) QK Tryz.func209 (QQV _ _ hc K hK)
def QQW:LC:=(209,QBi)::QQU
theorem QKX:QG QQW:= .cons QMf QKW
theorem QQX (n:Nat)(a:Xn)(m:Nat)(b:Xn)(hc:(n<=1100000000/\m<=1100000000))(K:AV->Prop)(hK:K (.x false [.v (.bool (Jg a b))])):QM (QR (mkT QQW M79 X4) (oF Tryz.f175) noL Tryz.f175 [.x true (bxN n a),.x true (bxN m b)] K):=by
 refine HV ((∃(n_1:Nat),∃(b_1:Xn),[Zi a.x1 n,Zi a.y1 n,Zi a.x2 n,Zi a.y2 n]=[Zi b_1.x1 n_1,Zi b_1.y1 n_1,Zi b_1.x2 n_1,Zi b_1.y2 n_1]/\n_1<=1100000000/\bif b_1.ok then ∃(n_2:Nat),∃(b_2:Xn),[Zi b.x1 m,Zi b.y1 m,Zi b.x2 m,Zi b.y2 m]=[Zi b_2.x1 n_2,Zi b_2.y1 n_2,Zi b_2.x2 n_2,Zi b_2.y2 n_2]/\n_2<=1100000000/\bif b_2.ok then n+m<=4294967296/\bif decide (JZ a.x1 b.x2<=0)then m+n<=4294967296/\bif decide (JZ b.x1 a.x2<=0)then n+m<=4294967296/\bif decide (JZ a.y1 b.y2<=0)then m+n<=4294967296/\K (AV.x false [Zo (Zk (decide (JZ b.y1 a.y2<=0)))])else K (AV.x false [Zo (Zk false)])else K (AV.x false [Zo (Zk false)])else K (AV.x false [Zo (Zk false)])else K (AV.x false [Zo (Zk false)])else K (AV.x false [Zo (Zk false)]))) ?_
 try simp only[Zj,R0,R1,Zv,Zr,R4,R2,R3]
 unfold Jg at hK;simp only[QEc];refine⟨n,a,rfl,by omega,QF (fun h1=>⟨m,b,rfl,by omega,QF (fun h2=>⟨by omega,QF (fun h3=>⟨by omega,QF (fun h4=>⟨by omega,QF (fun h5=>⟨by omega,?_⟩) (fun h5=> ?_)⟩) (fun h4=> ?_)⟩) (fun h3=> ?_)⟩) (fun h2=> ?_)⟩) (fun h1=> ?_)⟩
 ·rw[h1,h2,h3,h4,h5]at hK;exact hK
 ·rw[h1,h2,h3,h4,h5]at hK;exact hK
 ·rw[h1,h2,h3,h4]at hK;exact hK
 ·rw[h1,h2,h3]at hK;exact hK
 ·rw[h1,h2]at hK;exact hK
 ·rw[h1]at hK;exact hK
def QBj:Ctr
 | [.x true xs,.x true ys]=>some fun K=> ∃(n:Nat) (a:Xn) (m:Nat) (b:Xn),xs=bxN n a/\ys=bxN m b/\((n<=1100000000/\m<=1100000000))/\(K (.x false [.v (.bool (Jg a b))]))
 | _=>none
theorem QMg:QI 175 QBj:=by
 refine okL Tryz.func175 fun l T hT K hK=> ?_
 unfold QBj at hT;split at hT<;>cases hT
 obtain⟨n,a,m,b,rfl,rfl,hc,hK⟩:=hK;exact spL (QW QKX Q8 Qg) QK Tryz.func175 (QQX _ _ _ _ hc K hK)
def QQY:LC:=(175,QBj)::QQW
theorem QKY:QG QQY:= .cons QMg QKX
theorem QUi (n:Nat)(a:List (Rat×Rat))(m:Nat)(b:List (Rat×Rat))(hc:(n<=500000000/\m<=500000000)/\(QX a/\QX b))(K:AV->Prop)(hK:K (iA .i64 0)):QM (QR (mkT QQY M79 X4) (oF Tryz.f210) noL Tryz.f210 [sVv n a,sVv m b] K):=by
 refine HV ((∃(n_1:Nat),∃(l:List (Rat×Rat)),Zb (QT n) a=Zb (QT n_1) l/\(n_1<=500000000/\QX l)/\∃(n:Nat),∃(l:List (Rat×Rat)),Zb (QT m) b=Zb (QT n) l/\(n<=500000000/\QX l)/\K (AV.x false [Zo (Zp Zf 0)]))) ?_
 try simp only[Zj,R0,R1,Zv,Zr,R4,R2,R3]
 exact⟨n,a,rfl,⟨hc.1.1,hc.2.1⟩,m,b,rfl,⟨hc.1.2,hc.2.2⟩,hK⟩
def QEg:Ctr
 | [.x false [.s 6 xs],.x false [.s 6 ys]]=>some fun K=> ∃(n:Nat) (a:List (Rat×Rat)) (m:Nat) (b:List (Rat×Rat)),xs=a.map (QT n)/\ys=b.map (QT m)/\((n<=500000000/\m<=500000000)/\(QX a/\QX b))/\(K (iA .i64 0))
 | _=>none
theorem QQZ:QI 210 QEg:=by
 refine okL Tryz.func210 fun l T hT K hK=> ?_
 unfold QEg at hT;split at hT<;>cases hT
 obtain⟨n,a,m,b,rfl,rfl,hc,hK⟩:=hK;exact spL (QW QKY Q8 Qg) QK Tryz.func210 (QUi _ _ _ _ hc K hK)
def QQa:LC:=(210,QEg)::QQY
theorem QKZ:QG QQa:= .cons QQZ QKY
abbrev QC5 (n:Nat)(a:List (Rat×Rat))(m:Nat)(b:List (Rat×Rat))(K:AV->Prop):Prop:=((n<=500000000/\m<=500000000)/\((1<=a.length/\a.length<=100)/\b.length<=100))/\((Ve a b=true-> ∀v d,K (.t [(true,QT d v),(false,[.v (.bool true)])]))/\(Ve a b=false->K (.t [(true,Xs++Xs),(false,[.v (.bool false)])])))
set_option maxHeartbeats 1000000 in
theorem QMh (n:Nat)(a:List (Rat×Rat))(m:Nat)(b:List (Rat×Rat))(K:AV->Prop)(hK:QC5 n a m b K):QM (QR (mkT QQa M79 X4) (oF Tryz.f211) (QJE n a m b) Tryz.f211 [sVv n a,sVv m b] K):=by
 obtain⟨hc,hK⟩:=hK;refine HV (((∃(x:Nat),((x<=a.length/\∀(k:Nat),k<x->KB (atP a k) (nxP a k) b=false)/\OfNat.ofNat 0=0)/\6=6/\Zb (QT n) a=Zb (QT n) a/\6=6/\Zb (QT m) b=Zb (QT m) b/\0=0/\6=6/\Zb (QT n) a=Zb (QT n) a/\Za (Zb (QT n) a).length=Za a.length/\0=Za x/\27=27/\false=false/\Zc (Zd [])=Zc (Zd [])/\Zc (Zd [])=Zc (Zd [])/\false=false/\Zc (Zd [])=Zc (Zd [])/\Zc (Zd [])=Zc (Zd [])/\True)/\∀(x:Nat),(x<=a.length/\∀(k:Nat),k<x->KB (atP a k) (nxP a k) b=false)->OfNat.ofNat 0=0->bif decide (Za x<Za a.length)then(0<=Za x/\Za x<Za (Zb (QT n) a).length)/\∃(q:Rat),∃(n_1:Nat),∃(q_1:Rat),∃(n_2:Nat),ldE (Zb (QT n) a) (Za x).toNat 0 6=some [Zi q n_1,Zi q_1 n_2]/\Za (Zb (QT n) a).length≠0/\(0<=(Zf.wrap (Za x+1)).tmod (Za (Zb (QT n) a).length)/\(Zf.wrap (Za x+1)).tmod (Za (Zb (QT n) a).length)<Za (Zb (QT n) a).length)/\∃(q_2:Rat),∃(n_3:Nat),∃(q_3:Rat),∃(n_4:Nat),ldE (Zb (QT n) a) ((Zf.wrap (Za x+1)).tmod (Za (Zb (QT n) a).length)).toNat 0 6=some [Zi q_2 n_3,Zi q_3 n_4]/\(n_3+n_1<=4294967290/\n_4+n_2<=4294967290)/\n_3+n_1+1<=4294967296/\(∃(x_1:ByX),(((x_1.i<a.length/\∀(k:Nat),k<x_1.i->KB (atP a k) (nxP a k) b=false)/\x_1.j<=b.length/\x_1.far=KB (atP a x_1.i) (nxP a x_1.i) (Ze x_1.j b))/\a.length-x_1.i=a.length-x)/\6=6/\Zb (QT n) a=Zb (QT n) a/\6=6/\Zb (QT m) b=Zb (QT m) b/\0=0/\6=6/\Zb (QT n) a=Zb (QT n) a/\Za a.length=Za a.length/\Za x=Za x_1.i/\Za x=Za x_1.i/\0=0/\0=0/\true=x_1.far/\6=6/\Zb (QT m) b=Zb (QT m) b/\Za (Zb (QT m) b).length=Za b.length/\0=Za x_1.j/\27=27/\false=false/\Zc (Zd [])=Zc (Zd [])/\Zc (Zd [])=Zc (Zd [])/\false=false/\Zc (Zd [])=Zc (Zd [])/\Zc (Zd [])=Zc (Zd [])/\27=27/\q=(atP a x_1.i).fst/\n_1<=n/\q_1=(atP a x_1.i).snd/\n_2<=n/\27=27/\q_3-q_1=((nxP a x_1.i).snd-(atP a x_1.i).snd,-((nxP a x_1.i).fst-(atP a x_1.i).fst)).fst/\n_4+n_2+1<=2*n+2/\ -(q_2-q)=((nxP a x_1.i).snd-(atP a x_1.i).snd,-((nxP a x_1.i).fst-(atP a x_1.i).fst)).snd/\n_3+n_1+1<=2*n+2/\True)/\∀(x_1:ByX),(x_1.i<a.length/\∀(k:Nat),k<x_1.i->KB (atP a k) (nxP a k) b=false)/\x_1.j<=b.length/\x_1.far=KB (atP a x_1.i) (nxP a x_1.i) (Ze x_1.j b)->a.length-x_1.i=a.length-x->bif decide (Za x_1.j<Za b.length)then(0<=Za x_1.j/\Za x_1.j<Za (Zb (QT m) b).length)/\∃(q:Rat),∃(n_5:Nat),∃(q_4:Rat),∃(n_6:Nat),ldE (Zb (QT m) b) (Za x_1.j).toNat 0 6=some [Zi q n_5,Zi q_4 n_6]/\bif x_1.far then(n_5+n<=4294967290/\n_6+n<=4294967290)/\2*n+2+(2*n+2)+(n_5+n+1)+(n_6+n+1)<=4294967290/\2*n+2+(n_5+n+1)+(2*n+2+(n_6+n+1))+1<=4294967296/\∃(x':ByX),(((x'.i<a.length/\∀(k:Nat),k<x'.i->KB (atP a k) (nxP a k) b=false)/\x'.j<=b.length/\x'.far=KB (atP a x'.i) (nxP a x'.i) (Ze x'.j b))/\a.length-x'.i=a.length-x/\b.length-x'.j<b.length-x_1.j)/\6=6/\Zb (QT n) a=Zb (QT n) a/\6=6/\Zb (QT m) b=Zb (QT m) b/\0=0/\6=6/\Zb (QT n) a=Zb (QT n) a/\Za a.length=Za a.length/\Za x_1.i=Za x'.i/\Za x_1.i=Za x'.i/\0=0/\0=0/\decide (VZ (((nxP a x_1.i).snd-(atP a x_1.i).snd,-((nxP a x_1.i).fst-(atP a x_1.i).fst)).fst*(q-(atP a x_1.i).fst)+((nxP a x_1.i).snd-(atP a x_1.i).snd,-((nxP a x_1.i).fst-(atP a x_1.i).fst)).snd*(q_4-(atP a x_1.i).snd))>0)=x'.far/\6=6/\Zb (QT m) b=Zb (QT m) b/\Za b.length=Za b.length/\Zf.wrap (Za x_1.j+1)=Za x'.j/\27=27/\false=false/\Zc (Zd [])=Zc (Zd [])/\Zc (Zd [])=Zc (Zd [])/\false=false/\Zc (Zd [])=Zc (Zd [])/\Zc (Zd [])=Zc (Zd [])/\27=27/\(atP a x_1.i).fst=(atP a x'.i).fst/\n<=n/\(atP a x_1.i).snd=(atP a x'.i).snd/\n<=n/\27=27/\((nxP a x_1.i).snd-(atP a x_1.i).snd,-((nxP a x_1.i).fst-(atP a x_1.i).fst)).fst=((nxP a x'.i).snd-(atP a x'.i).snd,-((nxP a x'.i).fst-(atP a x'.i).fst)).fst/\2*n+2<=2*n+2/\((nxP a x_1.i).snd-(atP a x_1.i).snd,-((nxP a x_1.i).fst-(atP a x_1.i).fst)).snd=((nxP a x'.i).snd-(atP a x'.i).snd,-((nxP a x'.i).fst-(atP a x'.i).fst)).snd/\2*n+2<=2*n+2/\True else ∃(x':ByX),(((x'.i<a.length/\∀(k:Nat),k<x'.i->KB (atP a k) (nxP a k) b=false)/\x'.j<=b.length/\x'.far=KB (atP a x'.i) (nxP a x'.i) (Ze x'.j b))/\a.length-x'.i=a.length-x/\b.length-x'.j<b.length-x_1.j)/\6=6/\Zb (QT n) a=Zb (QT n) a/\6=6/\Zb (QT m) b=Zb (QT m) b/\0=0/\6=6/\Zb (QT n) a=Zb (QT n) a/\Za a.length=Za a.length/\Za x_1.i=Za x'.i/\Za x_1.i=Za x'.i/\0=0/\0=0/\false=x'.far/\6=6/\Zb (QT m) b=Zb (QT m) b/\Za b.length=Za b.length/\Zf.wrap (Za x_1.j+1)=Za x'.j/\27=27/\false=false/\Zc (Zd [])=Zc (Zd [])/\Zc (Zd [])=Zc (Zd [])/\false=false/\Zc (Zd [])=Zc (Zd [])/\Zc (Zd [])=Zc (Zd [])/\27=27/\(atP a x_1.i).fst=(atP a x'.i).fst/\n<=n/\(atP a x_1.i).snd=(atP a x'.i).snd/\n<=n/\27=27/\((nxP a x_1.i).snd-(atP a x_1.i).snd,-((nxP a x_1.i).fst-(atP a x_1.i).fst)).fst=((nxP a x'.i).snd-(atP a x'.i).snd,-((nxP a x'.i).fst-(atP a x'.i).fst)).fst/\2*n+2<=2*n+2/\((nxP a x_1.i).snd-(atP a x_1.i).snd,-((nxP a x_1.i).fst-(atP a x_1.i).fst)).snd=((nxP a x'.i).snd-(atP a x'.i).snd,-((nxP a x'.i).fst-(atP a x'.i).fst)).snd/\2*n+2<=2*n+2/\True else bif x_1.far then K (AV.t [(true,[Zi ((nxP a x_1.i).snd-(atP a x_1.i).snd,-((nxP a x_1.i).fst-(atP a x_1.i).fst)).fst (2*n+2),Zi ((nxP a x_1.i).snd-(atP a x_1.i).snd,-((nxP a x_1.i).fst-(atP a x_1.i).fst)).snd (2*n+2)]),(false,[Zo (Zk true)])])else ∃(x':Nat),((x'<=a.length/\∀(k:Nat),k<x'->KB (atP a k) (nxP a k) b=false)/\OfNat.ofNat 0=0/\a.length-x'<a.length-x)/\6=6/\Zb (QT n) a=Zb (QT n) a/\6=6/\Zb (QT m) b=Zb (QT m) b/\0=0/\6=6/\Zb (QT n) a=Zb (QT n) a/\Za a.length=Za a.length/\Zf.wrap (Za x_1.i+1)=Za x'/\27=27/\false=false/\Zc (Zd [])=Zc (Zd [])/\Zc (Zd [])=Zc (Zd [])/\false=false/\Zc (Zd [])=Zc (Zd [])/\Zc (Zd [])=Zc (Zd [])/\True else K (AV.t [(true,[Zo (Zk false),Zo (Zs (Zc (Zd []))),Zo (Zs (Zc (Zd []))),Zo (Zk false),Zo (Zs (Zc (Zd []))),Zo (Zs (Zc (Zd [])))]),(false,[Zo (Zk false)])]))) ?_
 try simp only[Zj,R0,R1,Zr,R4]
 obtain⟨⟨hn,hm⟩,⟨ha1,ha2⟩,hb⟩:=hc;obtain⟨kt,kf⟩:=hK;simp only[Zl];refine⟨⟨0,⟨by omega,fun k hk=>absurd hk (by omega)⟩,trivial,rfl⟩,fun x ⟨hx,hxk⟩=>QF (fun hp=> ?_) (fun hp=> ?_)⟩
 ·have hp:x<a.length:=by have:=R5 hp;omega
  obtain⟨p,hpp⟩: ∃p,a[x]? =some p:=⟨_,Zg hp⟩
  have e1:(Zf.wrap ((x:Int)+1)).tmod (a.length:Int)=(((x+1) % a.length:Nat):Int):=by
   rw[w64 (by omega),tm (by omega)];simp
  have m1:=Nat.mod_lt (x+1) (by omega:0<a.length);obtain⟨q,hq⟩: ∃q,a[(x+1) % a.length]? =some q:=⟨_,Zg m1⟩
  have gp:atP a x=p:=U0 hpp;have gq:nxP a x=q:=U0 hq;rw[e1,Int.toNat_natCast];refine⟨by omega,_,_,_,_,WE (by simpa using hpp),by omega,by omega,_,_,_,_,WE hq,by omega,by omega,⟨⟨x,0,true⟩,⟨⟨⟨hp,hxk⟩,by simp,by simp[KB]⟩,rfl⟩,rfl,rfl,rfl,trivial,rfl,by rw[gp],by omega,by rw[gp],by omega,by rw[gp,gq],by omega,by rw[gp,gq],by omega⟩,fun y ⟨⟨hyi,hyk⟩,hyj,hyf⟩ hyt=>QF (fun hk=> ?_) (fun hk=> ?_)⟩
  ·have hk:y.j<b.length:=by have:=R5 hk;omega
   obtain⟨v,hv⟩: ∃v,b[y.j]? =some v:=⟨_,Zg hk⟩
   have hs:=QQM (p:=atP a y.i) (q:=nxP a y.i) hv;refine⟨by omega,_,_,_,_,WE (by simpa using hv),QF (fun hf=>⟨by omega,by omega,by omega,⟨y.i,y.j+1,KB (atP a y.i) (nxP a y.i) (b.take (y.j+1))⟩,⟨⟨⟨hyi,hyk⟩,hk,rfl⟩,hyt,by simp only;omega⟩,rfl,rfl,?_,by rw[w64 (by omega)];simp,rfl,rfl,rfl,rfl⟩) (fun hf=>⟨⟨y.i,y.j+1,KB (atP a y.i) (nxP a y.i) (b.take (y.j+1))⟩,⟨⟨⟨hyi,hyk⟩,hk,rfl⟩,hyt,by simp only;omega⟩,rfl,rfl,?_,by rw[w64 (by omega)];simp,rfl,rfl,rfl,rfl⟩)⟩
   ·simp only;rw[hs,<-hyf,hf,QUc];rfl
   ·simp only;rw[hs,<-hyf,hf];rfl
  ·have hk:y.j=b.length:=by have:=R6 hk;omega
   rw[hk,Ya]at hyf;refine QF (fun hf=> ?_) (fun hf=>⟨y.i+1,⟨⟨hyi,fun k hkk=> ?_⟩,by omega⟩,by rw[w64 (by omega)];simp⟩)
   ·exact kt (QKT.2 ⟨y.i,hyi,by rw[<-hyf];exact hf⟩) (QEX (atP a y.i) (nxP a y.i)) (2*n+2)
   ·by_cases e:k<y.i
    ·exact hyk k e
    ·have e:k=y.i:=by omega
     rw[e,<-hyf];exact hf
 ·have hp:x=a.length:=by have:=R6 hp;omega
  refine kf ?_
  cases hB:Ve a b with
  | false=>rfl
  | true=>
   obtain⟨k,h1,h2⟩:=QKT.1 hB;rw[hxk k (by omega)]at h2;cases h2
def Hz:Ctr
 | [.x false [.s 6 xs],.x false [.s 6 ys]]=>some fun K=> ∃(n:Nat) (a:List (Rat×Rat)) (m:Nat) (b:List (Rat×Rat)),xs=a.map (QT n)/\ys=b.map (QT m)/\QC5 n a m b K
 | _=>none
theorem QJG:QI 211 Hz:=by
 refine okL Tryz.func211 fun l T hT K hK=> ?_
 unfold Hz at hT;split at hT<;>cases hT
 obtain⟨n,a,m,b,rfl,rfl,hK⟩:=hK;exact spL (QW QKZ Q8 Qg) QK Tryz.func211 (QMh _ _ _ _ K hK)
def QQb:LC:=(211,Hz)::QQa
theorem QKa:QG QQb:= .cons QJG QKZ
abbrev QKb (n:Nat)(a:List (Rat×Rat))(m:Nat)(b:List (Rat×Rat))(K:AV->Prop):Prop:=((n<=500000000/\m<=500000000)/\(QX a/\QX b))/\(K (.t [(false,[.v (.bool (UD a b))]),(false,[.v (.int .i64 0)])]))
theorem QUj (n:Nat)(a:List (Rat×Rat))(m:Nat)(b:List (Rat×Rat))(K:AV->Prop)(hK:QKb n a m b K):QM (QR (mkT QQb M79 X4) (oF Tryz.f177) noL Tryz.f177 [sVv n a,sVv m b] K):=by
 obtain⟨hc,hK⟩:=hK;refine HV ((∃(n_1:Nat),∃(a_1:List (Rat×Rat)),∃(m_1:Nat),∃(b_1:List (Rat×Rat)),Zb (QT n) a=Zb (QT n_1) a_1/\Zb (QT m) b=Zb (QT m_1) b_1/\((n_1<=500000000/\m_1<=500000000)/\QX a_1/\QX b_1)/\∃(n_2:Nat),∃(a_2:List (Rat×Rat)),∃(m_2:Nat),∃(b_2:List (Rat×Rat)),Zb (QT n) a=Zb (QT n_2) a_2/\Zb (QT m) b=Zb (QT m_2) b_2/\((n_2<=500000000/\m_2<=500000000)/\(1<=a_2.length/\a_2.length<=100)/\b_2.length<=100)/\(Ve a_2 b_2=true->∀(_v:Rat×Rat) (_d:Nat),∃(n_3:Nat),∃(a_4:List (Rat×Rat)),∃(m_3:Nat),∃(b_3:List (Rat×Rat)),Zb (QT m) b=Zb (QT n_3) a_4/\Zb (QT n) a=Zb (QT m_3) b_3/\((n_3<=500000000/\m_3<=500000000)/\(1<=a_4.length/\a_4.length<=100)/\b_3.length<=100)/\(Ve a_4 b_3=true->∀(_v:Rat×Rat) (_d:Nat),K (AV.t [(false,[Zo (Zk false)]),(false,[Zo (Zp Zf 0)])]))/\(Ve a_4 b_3=false->K (AV.t [(false,[Zo (Zk false)]),(false,[Zo (Zp Zf 0)])])))/\(Ve a_2 b_2=false->∃(n_3:Nat),∃(a_4:List (Rat×Rat)),∃(m_3:Nat),∃(b_3:List (Rat×Rat)),Zb (QT m) b=Zb (QT n_3) a_4/\Zb (QT n) a=Zb (QT m_3) b_3/\((n_3<=500000000/\m_3<=500000000)/\(1<=a_4.length/\a_4.length<=100)/\b_3.length<=100)/\(Ve a_4 b_3=true->∀(_v:Rat×Rat) (_d:Nat),K (AV.t [(false,[Zo (Zk false)]),(false,[Zo (Zp Zf 0)])]))/\(Ve a_4 b_3=false->K (AV.t [(false,[Zo (Zk true)]),(false,[Zo (Zp Zf 0)])]))))) ?_
 try simp only[Zj,R0,R1,Zv,Zr,R4,R2,R3]
 obtain⟨⟨hn,hm⟩,pa,pb⟩:=hc;have a1:=pa.lo;have a2:=pa.hi;have b1:=pb.lo;have b2:=pb.hi;unfold UD at hK;refine⟨n,a,m,b,rfl,rfl,⟨⟨hn,hm⟩,pa,pb⟩,n,a,m,b,rfl,rfl,⟨⟨hn,hm⟩,by omega,by omega⟩,fun h1 _ _=>⟨m,b,n,a,rfl,rfl,⟨⟨hm,hn⟩,by omega,by omega⟩,fun h2 _ _=> ?_,fun h2=> ?_⟩,fun h1=>⟨m,b,n,a,rfl,rfl,⟨⟨hm,hn⟩,by omega,by omega⟩,fun h2 _ _=> ?_,fun h2=> ?_⟩⟩;all_goals
  rw[h1,h2]at hK
  exact hK
def QEh:Ctr
 | [.x false [.s 6 xs],.x false [.s 6 ys]]=>some fun K=> ∃(n:Nat) (a:List (Rat×Rat)) (m:Nat) (b:List (Rat×Rat)),xs=a.map (QT n)/\ys=b.map (QT m)/\QKb n a m b K
 | _=>none
theorem QQc:QI 177 QEh:=by
 refine okL Tryz.func177 fun l T hT K hK=> ?_
 unfold QEh at hT;split at hT<;>cases hT
 obtain⟨n,a,m,b,rfl,rfl,hK⟩:=hK;exact spL (QW QKa Q8 Qg) QK Tryz.func177 (QUj _ _ _ _ K hK)
def QQd:LC:=(177,QEh)::QQb
noncomputable def QWK:QZ:=mkT QQd M79 X4
theorem QKc:QG QQd:= .cons QQc QKa
theorem QUk:Q7 QWK:=QW QKc Q8 Qg
end Go.Proofs
namespace Go.Proofs
open Go Go.Eng
def slA (n:Nat)(l:List (List (Rat×Rat))):AV:= .x false [.s 1 (shN n l)]
def QQe (n:Nat)(ls:List (List (Rat×Rat)))(m:Nat)(ws:List (List (Rat×Rat))):LI:=fun id=>bif id.beq 2 then .inv ⟨Nat,fun i=>⟨[(1,slA m ws),(11,slA n ls),(12,iA .i64 ls.length),(13,iA .i64 i)],[]⟩,fun i=>i<=ls.length/\freeB (ls.take i) ws=true,fun i=>ls.length-i,fun _=>0⟩
 else .inv ⟨Nat×Nat,fun x=>⟨[(1,slA m ws),(6,sVv n (ls.getD x.1 [])),(11,slA n ls),(12,iA .i64 ls.length),(13,iA .i64 x.1),(17,slA m ws),(18,iA .i64 ws.length),(19,iA .i64 x.2)],[]⟩,fun x=>(x.1<ls.length/\freeB (ls.take x.1) ws=true)/\x.2<=ws.length/\freeB [ls.getD x.1 []] (ws.take x.2)=true,fun x=>ws.length-x.2,fun x=>ls.length-x.1⟩
def QJH (n:Nat)(ws:List (List (Rat×Rat))):LI:=fun _=> .inv ⟨Nat,fun i=>⟨[(9,slA n ws),(10,iA .i64 ws.length),(11,iA .i64 i)],[]⟩,fun i=>i<=ws.length,fun i=>ws.length-i,fun _=>0⟩
def rwN (B:Nat)(rows:List (List Sp)):List (List Ch):=rows.map fun row=>[Yd 6 (row.map (spN B))]
def QMi (d:Nat)(p:List Rat)(e:Nat)(q:List Rat)(n:Nat):LI:=fun id=>bif id.beq 6 then .inv ⟨Nat,fun k=>⟨[(0,sR d p),(1,sR e q),(2,iA .i64 n),(8,.x false [.w 500 0 k]),(9,sR (2*d+e+130) (Xy p q n k)),(36,iA .i64 n),(37,iA .i64 k)],[(500,.row 83 1 (rwN (2*d+e+130) ((Xr p q n).take k)))]⟩,fun k=>k<=n,fun k=>n-k,fun _=>0⟩
 else .inv ⟨Nat×Nat,fun x=>⟨[(0,sR d p),(1,sR e q),(2,iA .i64 n),(8,.x false [.w 500 0 x.1]),(9,sR (2*d+e+130) (Xy p q n x.1)),(11,sR (2*d+e+130) (Xy p q n (x.1+1))),(12,.x false [.w 501 0 x.2]),(36,iA .i64 n),(37,iA .i64 x.1),(46,sR (2*d+e+130) (Xy p q n x.1)),(47,iA .i64 p.length),(48,iA .i64 x.2)],[(500,.row 83 1 (rwN (2*d+e+130) ((Xr p q n).take x.1))),(501,.row 86 6 (((Xe p q n x.1).take x.2).map (spN (2*d+e+130))))]⟩,fun x=>x.1<n/\x.2<=p.length,fun x=>p.length-x.2,fun x=>n-x.1⟩
def QBk (a:ArmV)(row:List Sp):List (Sp×Sp):=XC (XL (Xp a) a.links row) a.links
def QJI (a:ArmV)(d:Nat)(p:List Rat)(e:Nat)(q:List Rat)(m:Nat)(ws:List (List (Rat×Rat)))(n:Nat):LI:=fun id=>bif id.beq 10 then .inv ⟨Nat,fun k=>⟨[(3,slA m ws),(5,.x false [.p 5 0]),(43,.x false [.s 1 (rwN (2*d+e+130) (Xr p q n))]),(44,iA .i64 n),(45,iA .i64 k)],[(5,.box 34 (XM a))]⟩,fun k=>k<=n/\ ∀j,j<k->freeB (Xt a (Xe p q n j)) ws=true,fun k=>n-k,fun _=>0⟩
 else .inv ⟨Nat×Nat,fun x=>⟨[(3,slA m ws),(5,.x false [.p 5 0]),(19,.x false [.w 500 0 x.2]),(43,.x false [.s 1 (rwN (2*d+e+130) (Xr p q n))]),(44,iA .i64 n),(45,iA .i64 x.1),(58,.x false [.s 12 ((QBk a (Xe p q n x.1)).map (bx4 126400000))]),(59,iA .i64 a.links.length),(60,iA .i64 x.2)],[(5,.box 34 (XM a)),(500,.row 61 1 (shN 126400000 ((Xt a (Xe p q n x.1)).take x.2)))]⟩,fun x=>(x.1<n/\ ∀j,j<x.1->freeB (Xt a (Xe p q n j)) ws=true)/\x.2<=a.links.length,fun x=>a.links.length-x.2,fun x=>n-x.1⟩
theorem QJJ {s:List (Rat×Rat)}{ws:List (List (Rat×Rat))}{j:Nat}{w:List (Rat×Rat)}(h:ws[j]? =some w):freeB [s] (ws.take (j+1))=(freeB [s] (ws.take j)&&(!(Jg (Xh s) (Xh w)) || !(UD s w))):=by
 simp only[freeB,List.all_cons,List.all_nil,Bool.and_true];rw[Zn,h,Yb];simp
theorem QMj {ls ws:List (List (Rat×Rat))}{i:Nat}{s:List (Rat×Rat)}(h:ls[i]? =some s):freeB (ls.take (i+1)) ws=(freeB (ls.take i) ws&&freeB [s] ws):=by
 unfold freeB;rw[Zn,h,Yb];simp
theorem QQf {ls ws:List (List (Rat×Rat))}{s w:List (Rat×Rat)}(hs:s∈ls)(hw:w∈ws)(hb:Jg (Xh s) (Xh w)=true)(hm:UD s w=true):freeB ls ws=false:=by
 cases h:freeB ls ws with
 | false=>rfl
 | true=>
  have:=QBe.1 h s hs w hw hb;rw[hm]at this;cases this
theorem Qa5 {B:Nat}{rows:List (List Sp)}{k:Nat}{row:List Sp}(h:rows[k]? =some row):ldE (rwN B rows) k 0 1=some [.s 6 (row.map (spN B))]:=by
 simp only[ldE,rwN,Zz,h];rfl
theorem QGk (p q:List Rat){n k:Nat}(h:k<n):(Xr p q n)[k]? =some (Xe p q n k):=by
 simp[Xr,Zz,List.getElem?_range h]
theorem QJK {los:List LoV}{l:LoV}{ls:List Qf}(h:los.length=ls.length):XC (los++[l]) ls=XC los ls:=by
 apply List.ext_getElem?
 intro i;by_cases hi:i<los.length
 ·simp only[XC,Zx,List.getElem?_append_left hi]
 ·have e:ls[i]? =none:=List.getElem?_eq_none (by omega)
  simp only[XC,Zx,e];cases(los++[l])[i]? <;>cases los[i]? <;>rfl
theorem QQg {a:ArmV}(hg:QJ a){row:List Sp}{qs:List Rat}(hq:HasQ row qs)(hl:row.length=a.links.length): ∀s∈Xt a row,QX s:=by
 intro s hs;obtain⟨b,hb,rfl⟩:=List.mem_map.1 hs;obtain⟨i,hi⟩:=List.getElem?_of_mem hb
 simp only[XC,Zx]at hi;have hq1:=hq.1;have fl:=UW a.links qs (Wx a) (by omega);cases h1:(XL (Xp a) a.links row)[i]? with
 | none=>rw[h1]at hi;cases hi
 | some l=>
  cases h2:a.links[i]? with
  | none=>rw[h1,h2]at hi;cases hi
  | some L=>
   rw[h1,h2]at hi;cases hi
   have hil:=(List.getElem?_eq_some_iff.1 h2).1;obtain⟨g,hg'⟩: ∃g,(WO (Wx a) a.links qs)[i]? =some g:=⟨_,Zg (by omega)⟩
   have hw:=QMd (Kp a.links row qs (Xp a) (Wx a) (KS a) hq i l g h1 hg') (hg.links L (Zu h2)).poly;exact QMc hw.1 hw.2
abbrev QKd (n:Nat)(ls:List (List (Rat×Rat)))(m:Nat)(ws:List (List (Rat×Rat)))(K:AV->Prop):Prop:=((n<=400000000/\m<=400000000)/\((∀s∈ls,QX s)/\ ∀w∈ws,QX w)/\(ls.length<=100/\ws.length<=100))/\(K (.x false [.v (.bool (freeB ls ws))]))
set_option maxHeartbeats 1000000 in
theorem QUl (n:Nat)(ls:List (List (Rat×Rat)))(m:Nat)(ws:List (List (Rat×Rat)))(K:AV->Prop)(hK:QKd n ls m ws K):QM (QR QWK (oF Tryz.f116) (QQe n ls m ws) Tryz.f116 [slA n ls,slA m ws] K):=by
 obtain⟨hc,hK⟩:=hK;refine HV (((∃(x:Nat),((x<=ls.length/\freeB (Ze x ls) ws=true)/\OfNat.ofNat 0=0)/\1=1/\shN m ws=shN m ws/\1=1/\shN n ls=shN n ls/\Za (shN n ls).length=Za ls.length/\0=Za x/\True)/\∀(x:Nat),x<=ls.length/\freeB (Ze x ls) ws=true->OfNat.ofNat 0=0->bif decide (Za x<Za ls.length)then(0<=Za x/\Za x<Za (shN n ls).length)/\∃(ys:List (List Ch)),ldE (shN n ls) (Za x).toNat 0 1=some [Yd 6 ys]/\(∃(x_1:Nat×Nat),(((x_1.fst<ls.length/\freeB (Ze x_1.fst ls) ws=true)/\x_1.snd<=ws.length/\freeB [ls.getD x_1.fst []] (Ze x_1.snd ws)=true)/\ls.length-x_1.fst=ls.length-x)/\1=1/\shN m ws=shN m ws/\6=6/\ys=Zb (QT n) (ls.getD x_1.fst [])/\1=1/\shN n ls=shN n ls/\Za ls.length=Za ls.length/\Za x=Za x_1.fst/\1=1/\shN m ws=shN m ws/\Za (shN m ws).length=Za ws.length/\0=Za x_1.snd/\True)/\∀(x_1:Nat×Nat),(x_1.fst<ls.length/\freeB (Ze x_1.fst ls) ws=true)/\x_1.snd<=ws.length/\freeB [ls.getD x_1.fst []] (Ze x_1.snd ws)=true->ls.length-x_1.fst=ls.length-x->bif decide (Za x_1.snd<Za ws.length)then(0<=Za x_1.snd/\Za x_1.snd<Za (shN m ws).length)/\∃(ys:List (List Ch)),ldE (shN m ws) (Za x_1.snd).toNat 0 1=some [Yd 6 ys]/\∃(n_1:Nat),∃(l:List (Rat×Rat)),Zb (QT n) (ls.getD x_1.fst [])=Zb (QT n_1) l/\(n_1<=1000000000/\1<=l.length/\l.length<=100)/\∃(n_2:Nat),∃(l_1:List (Rat×Rat)),ys=Zb (QT n_2) l_1/\(n_2<=1000000000/\1<=l_1.length/\l_1.length<=100)/\∃(n_3:Nat),∃(a:Xn),∃(m_1:Nat),∃(b:Xn),[Zi (Xh l).x1 (n_1+66),Zi (Xh l).y1 (n_1+66),Zi (Xh l).x2 (n_1+66),Zi (Xh l).y2 (n_1+66)]=[Zi a.x1 n_3,Zi a.y1 n_3,Zi a.x2 n_3,Zi a.y2 n_3]/\[Zi (Xh l_1).x1 (n_2+66),Zi (Xh l_1).y1 (n_2+66),Zi (Xh l_1).x2 (n_2+66),Zi (Xh l_1).y2 (n_2+66)]=[Zi b.x1 m_1,Zi b.y1 m_1,Zi b.x2 m_1,Zi b.y2 m_1]/\(n_3<=1100000000/\m_1<=1100000000)/\bif !Jg a b then ∃(x':Nat×Nat),(((x'.fst<ls.length/\freeB (Ze x'.fst ls) ws=true)/\x'.snd<=ws.length/\freeB [ls.getD x'.fst []] (Ze x'.snd ws)=true)/\ls.length-x'.fst=ls.length-x/\ws.length-x'.snd<ws.length-x_1.snd)/\1=1/\shN m ws=shN m ws/\6=6/\Zb (QT n) (ls.getD x_1.fst [])=Zb (QT n) (ls.getD x'.fst [])/\1=1/\shN n ls=shN n ls/\Za ls.length=Za ls.length/\Za x_1.fst=Za x'.fst/\1=1/\shN m ws=shN m ws/\Za ws.length=Za ws.length/\Zf.wrap (Za x_1.snd+1)=Za x'.snd/\True else ∃(n_4:Nat),∃(a:List (Rat×Rat)),∃(m_2:Nat),∃(b:List (Rat×Rat)),Zb (QT n) (ls.getD x_1.fst [])=Zb (QT n_4) a/\ys=Zb (QT m_2) b/\((n_4<=500000000/\m_2<=500000000)/\QX a/\QX b)/\bif UD a b then K (AV.x false [Zo (Zk false)])else ∃(x':Nat×Nat),(((x'.fst<ls.length/\freeB (Ze x'.fst ls) ws=true)/\x'.snd<=ws.length/\freeB [ls.getD x'.fst []] (Ze x'.snd ws)=true)/\ls.length-x'.fst=ls.length-x/\ws.length-x'.snd<ws.length-x_1.snd)/\1=1/\shN m ws=shN m ws/\6=6/\Zb (QT n) (ls.getD x_1.fst [])=Zb (QT n) (ls.getD x'.fst [])/\1=1/\shN n ls=shN n ls/\Za ls.length=Za ls.length/\Za x_1.fst=Za x'.fst/\1=1/\shN m ws=shN m ws/\Za ws.length=Za ws.length/\Zf.wrap (Za x_1.snd+1)=Za x'.snd/\True else ∃(x':Nat),((x'<=ls.length/\freeB (Ze x' ls) ws=true)/\OfNat.ofNat 0=0/\ls.length-x'<ls.length-x)/\1=1/\shN m ws=shN m ws/\1=1/\shN n ls=shN n ls/\Za ls.length=Za ls.length/\Zf.wrap (Za x_1.fst+1)=Za x'/\True else K (AV.x false [Zo (Zk true)]))) ?_
 try simp only[Zj,R0,R1,R4]
 obtain⟨⟨hn,hm⟩,⟨pl,pw⟩,hl,hw⟩:=hc;have shl: ∀n (l:List (List (Rat×Rat))),(shN n l).length=l.length:=fun n l=>by simp[shN]
 simp only[shl];refine⟨⟨0,⟨by omega,rfl⟩,trivial,rfl⟩,fun i ⟨hi,hfi⟩=>QF (fun hp=> ?_) (fun hp=> ?_)⟩
 ·have hp:i<ls.length:=by have:=R5 hp;omega
  obtain⟨s,hs⟩: ∃s,ls[i]? =some s:=⟨_,Zg hp⟩
  have gs:=U0 (d:=([]:List (Rat×Rat))) hs;have ms:=Zu hs;have ps:=pl s ms;have s1:=ps.lo;have s2:=ps.hi;refine⟨by omega,_,QPL (by simpa using hs),⟨(i,0),⟨⟨⟨hp,hfi⟩,by simp,by simp[freeB]⟩,rfl⟩,by rw[gs],rfl,trivial,rfl⟩,fun y ⟨⟨hy1,hy2⟩,hy3,hy4⟩ hyt=> ?_⟩;obtain⟨i',j⟩:=y;have e:i'=i:=by simp only at hy1 hyt;omega
  subst e;simp only at hy1 hy2 hy3 hy4 hyt⊢;rw[gs]at hy4;refine QF (fun hk=> ?_) (fun hk=> ?_)
  ·have hk:j<ws.length:=by have:=R5 hk;omega
   obtain⟨w,hw'⟩: ∃w,ws[j]? =some w:=⟨_,Zg hk⟩
   have mw:=Zu hw';have pw':=pw w mw;have w1:=pw'.lo;have w2:=pw'.hi;have sn:=QJJ (s:=s) hw';rw[hy4]at sn;refine⟨by omega,_,QPL (by simpa using hw'),n,s,by rw[gs],⟨by omega,by omega,by omega⟩,m,w,rfl,⟨by omega,by omega,by omega⟩,n+66,Xh s,m+66,Xh w,rfl,rfl,⟨by omega,by omega⟩,QF (fun hb=>⟨(i',j+1),⟨⟨⟨hp,hfi⟩,hk,?_⟩,rfl,by simp only;omega⟩,rfl,rfl,by rw[w64 (by omega)];simp⟩) (fun hb=>⟨n,s,m,w,by rw[gs],rfl,⟨⟨by omega,by omega⟩,ps,pw'⟩,QF (fun hM=> ?_) (fun hM=>⟨(i',j+1),⟨⟨⟨hp,hfi⟩,hk,?_⟩,rfl,by simp only;omega⟩,rfl,rfl,by rw[w64 (by omega)];simp⟩)⟩)⟩
   ·simp only;rw[gs,sn,hb];rfl
   ·rw[QQf ms mw (by simpa using hb) hM]at hK;exact hK
   ·simp only;rw[gs,sn,hM,hb];rfl
  ·have hk:j=ws.length:=by have:=R6 hk;omega
   rw[hk,Ya]at hy4;refine⟨i'+1,⟨⟨hp,?_⟩,by omega⟩,by rw[w64 (by omega)];simp⟩;rw[QMj hs,hfi,hy4];rfl
 ·have hp:i=ls.length:=by have:=R6 hp;omega
  rw[hp,Ya]at hfi;rw[hfi]at hK;exact hK
def QEi:Ctr
 | [.x false [.s 1 xs],.x false [.s 1 ys]]=>some fun K=> ∃(n:Nat) (ls:List (List (Rat×Rat))) (m:Nat) (ws:List (List (Rat×Rat))),xs=shN n ls/\ys=shN m ws/\QKd n ls m ws K
 | _=>none
theorem QQh:QI 116 QEi:=by
 refine okL Tryz.func116 fun l T hT K hK=> ?_
 unfold QEi at hT;split at hT<;>cases hT
 obtain⟨n,ls,m,ws,rfl,rfl,hK⟩:=hK;exact spL QUk QK Tryz.func116 (QUl _ _ _ _ K hK)
def QQi:LC:=(116,QEi)::QQd
theorem QKe:QG QQi:= .cons QQh QKc
theorem QQj (n:Nat)(ws:List (List (Rat×Rat)))(hc:(n<=400000000)/\((∀w∈ws,QX w)/\ws.length<=20))(K:AV->Prop)(hK:K (iA .i64 0)):QM (QR (mkT QQi M79 X4) (oF Tryz.f115) (QJH n ws) Tryz.f115 [slA n ws] K):=by
 refine HV ((bif decide (Za (shN n ws).length>20)then K (AV.x false [Zo (Zp Zf 2)])else(∃(x:Nat),(x<=ws.length/\OfNat.ofNat 0=0)/\1=1/\shN n ws=shN n ws/\Za (shN n ws).length=Za ws.length/\0=Za x/\True)/\∀(x:Nat),x<=ws.length->OfNat.ofNat 0=0->bif decide (Za x<Za ws.length)then(0<=Za x/\Za x<Za (shN n ws).length)/\∃(ys:List (List Ch)),ldE (shN n ws) (Za x).toNat 0 1=some [Yd 6 ys]/\∃(n_1:Nat),∃(l:List (Rat×Rat)),ys=Zb (QT n_1) l/\(n_1<=500000000/\QX l)/\∃(x':Nat),(x'<=ws.length/\OfNat.ofNat 0=0/\ws.length-x'<ws.length-x)/\1=1/\shN n ws=shN n ws/\Za ws.length=Za ws.length/\Zf.wrap (Za x+1)=Za x'/\True else K (AV.x false [Zo (Zp Zf 0)]))) ?_
 try simp only[Zj,R0,R1,R4]
 obtain⟨hn,hw,hl⟩:=hc;have shl: ∀n (l:List (List (Rat×Rat))),(shN n l).length=l.length:=fun n l=>by simp[shN]
 simp only[shl];refine QF (fun h=>by have:=R5 h;omega) (fun _=>⟨⟨0,by omega,trivial,rfl⟩,fun x hx=>QF (fun hp=> ?_) (fun _=>hK)⟩);have hp:x<ws.length:=by have:=R5 hp;omega
 obtain⟨w,hw'⟩: ∃w,ws[x]? =some w:=⟨_,Zg hp⟩
 exact⟨by omega,_,QPL (by simpa using hw'),n,w,rfl,⟨by omega,hw w (Zu hw')⟩,x+1,⟨by omega,by omega⟩,by rw[w64 (by omega)];simp⟩
def QBl:Ctr
 | [.x false [.s 1 xs]]=>some fun K=> ∃(n:Nat) (ws:List (List (Rat×Rat))),xs=shN n ws/\((n<=400000000)/\((∀w∈ws,QX w)/\ws.length<=20))/\(K (iA .i64 0))
 | _=>none
theorem QMk:QI 115 QBl:=by
 refine okL Tryz.func115 fun l T hT K hK=> ?_
 unfold QBl at hT;split at hT<;>cases hT
 obtain⟨n,ws,rfl,hc,hK⟩:=hK;exact spL (QW QKe Q8 Qg) QK Tryz.func115 (QQj _ _ hc K hK)
def QQk:LC:=(115,QBl)::QQi
theorem QKf:QG QQk:= .cons QMk QKe
theorem QJL (n:Nat)(b:Xn)(_hc:(n<=400000000))(K:AV->Prop)(hK:K (sVv n (XS b))):QM (QR (mkT QQk M79 X4) (oF Tryz.f165) noL Tryz.f165 [.x true (bxN n b)] K):=by
 refine HV ((K (AV.x false [Yd 6 [[Zi b.x1 n,Zi b.y1 n],[Zi b.x2 n,Zi b.y1 n],[Zi b.x2 n,Zi b.y2 n],[Zi b.x1 n,Zi b.y2 n]]]))) ?_
 try simp only[Zj,R0,R1,Zv,Zr,R4,R2,R3]
 exact hK
def UZ:Ctr
 | [.x true xs]=>some fun K=> ∃(n:Nat) (b:Xn),xs=bxN n b/\((n<=400000000))/\(K (sVv n (XS b)))
 | _=>none
theorem QGl:QI 165 UZ:=by
 refine okL Tryz.func165 fun l T hT K hK=> ?_
 unfold UZ at hT;split at hT<;>cases hT
 obtain⟨n,b,rfl,hc,hK⟩:=hK;exact spL (QW QKf Q8 Qg) QK Tryz.func165 (QJL _ _ hc K hK)
def QQl:LC:=(165,UZ)::QQk
theorem QKg:QG QQl:= .cons QGl QKf
abbrev QBm (d:Nat)(a:List Rat)(e:Nat)(b:List Rat)(x:Int)(y:Int)(K:AV->Prop):Prop:=((((-9223372036854775808<=x/\x<9223372036854775808)/\0<y/\y<9223372036854775808))/\(a.length=b.length/\a.length<=1000000/\d<=1000000/\e<=1000000))/\(K (sR (2*d+e+130) (Wj ((x:Rat)/(y:Rat)) a b)))
set_option maxHeartbeats 1000000 in
theorem QJM (d:Nat)(a:List Rat)(e:Nat)(b:List Rat)(x:Int)(y:Int)(K:AV->Prop)(hK:QBm d a e b x y K):QM (QR (mkT QQl M79 X4) (oF Tryz.f204) (fun _=> .inv ⟨Nat,fun k=>⟨[(0,sR d a),(1,sR e b),(9,.x false [.p 9 0]),(11,.x false [.w 500 0 k]),(23,iA .i64 a.length),(24,iA .i64 k)],[(9,.box 25 [.r ((x:Rat)/(y:Rat)) 128]),(500,QBH (2*d+e+130) ((Wj ((x:Rat)/(y:Rat)) a b).take k))]⟩,fun k=>k<=a.length,fun k=>a.length-k,fun _=>0⟩) Tryz.f204 [sR d a,sR e b,iA .i64 x,iA .i64 y] K):=by
 obtain⟨hc,hK⟩:=hK;refine HV ((((-9223372036854775808<=x/\x<9223372036854775808)/\0<y/\y<9223372036854775808)/\(∃(x_1:Nat),(x_1<=a.length/\OfNat.ofNat 0=0)/\3=3/\lR d a=lR d a/\3=3/\lR e b=lR e b/\0=0/\Zm none 0 0=Zm none 0 0/\0=0/\x_1=0/\(bif false then if Za (lR e b).length>Za (lR d a).length then Za (lR e b).length else Za (lR d a).length else if Za (lR e b).length<Za (lR d a).length then Za (lR e b).length else Za (lR d a).length)=Za a.length/\0=Za x_1/\25=25/\(↑x:Rat)/(↑y:Rat)=(↑x:Rat)/(↑y:Rat)/\128<=128/\Zb (fun(q:Rat)=>[Zi q (2*d+e+130)]) (Ze x_1 (Wj ((↑x:Rat)/(↑y:Rat)) a b))=[]/\True)/\∀(x_1:Nat),x_1<=a.length->OfNat.ofNat 0=0->bif decide (Za x_1<Za a.length)then(0<=Za x_1/\Za x_1<Za (lR d a).length)/\∃(q:Rat),∃(n:Nat),ldE (lR d a) (Za x_1).toNat 0 3=some [Zi q n]/\(0<=Za x_1/\Za x_1<Za (lR e b).length)/\∃(q_1:Rat),∃(n_1:Nat),ldE (lR e b) (Za x_1).toNat 0 3=some [Zi q_1 n_1]/\(0<=Za x_1/\Za x_1<Za (lR d a).length)/\∃(q_2:Rat),∃(n_2:Nat),ldE (lR d a) (Za x_1).toNat 0 3=some [Zi q_2 n_2]/\n_1+n_2+1<=4294967296/\128+(n_1+n_2+1)<=4294967296/\n+(128+(n_1+n_2+1))+1<=4294967296/\((x_1+1)*40<=140737488355328/\x_1+1<=9223372036854775807)/\∃(x':Nat),(x'<=a.length/\OfNat.ofNat 0=0/\a.length-x'<a.length-x_1)/\3=3/\lR d a=lR d a/\3=3/\lR e b=lR e b/\0=0/\0=0/\x_1+1=x'/\Za a.length=Za a.length/\Zf.wrap (Za x_1+1)=Za x'/\25=25/\(↑x:Rat)/(↑y:Rat)=(↑x:Rat)/(↑y:Rat)/\128<=128/\25=25/\3=3/\(Ze x_1 (Zb (fun(q:Rat)=>[Zi q (2*d+e+130)]) (Ze x_1 (Wj ((↑x:Rat)/(↑y:Rat)) a b)))++[[Zi (q+(↑x:Rat)/(↑y:Rat)*(q_1-q_2)) (n+(128+(n_1+n_2+1))+1)]]=Zb (fun(q:Rat)=>[Zi q (2*d+e+130)]) (Ze x' (Wj ((↑x:Rat)/(↑y:Rat)) a b))∨QC (Ze x_1 (Zb (fun(q:Rat)=>[Zi q (2*d+e+130)]) (Ze x_1 (Wj ((↑x:Rat)/(↑y:Rat)) a b)))++[[Zi (q+(↑x:Rat)/(↑y:Rat)*(q_1-q_2)) (n+(128+(n_1+n_2+1))+1)]]) (Zb (fun(q:Rat)=>[Zi q (2*d+e+130)]) (Ze x' (Wj ((↑x:Rat)/(↑y:Rat)) a b))))/\True else K (AV.x false [Yd 3 (Ze x_1 (Zt 0 (Zb (fun(q:Rat)=>[Zi q (2*d+e+130)]) (Ze x_1 (Wj ((↑x:Rat)/(↑y:Rat)) a b)))))]))) ?_
 try simp only[Zj,R0,R1,Zr,R4]
 obtain⟨⟨hx,hy⟩,hl,hm,hd,he⟩:=hc;simp only[WD];have hml:(Wj ((x:Rat)/(y:Rat)) a b).length=a.length:=G0 hl;refine⟨⟨hx,hy⟩,⟨0,by omega,rfl,by simp only[R8];split<;>omega,rfl,by simp⟩,fun k hk=>QF (fun hp=> ?_) (fun hp=> ?_)⟩
 ·have hp:k<a.length:=by have:=R5 hp;omega
  obtain⟨p,hpp⟩: ∃p,a[k]? =some p:=⟨_,Zg hp⟩
  obtain⟨q,hq⟩: ∃q,b[k]? =some q:=⟨_,Zg (by omega)⟩
  refine⟨by omega,p,d,KO (by simpa using hpp),by omega,q,e,KO (by simpa using hq),by omega,p,d,KO (by simpa using hpp),by omega,by omega,by omega,by omega,k+1,⟨by omega,by omega⟩,rfl,by rw[w64 (by omega)];simp,.inl ?_⟩;rw[Zh (by rw[Zl,Zq];omega),Zn,G4 hpp hq,Zy];simp only[Option.toList,List.map_cons,List.map_nil];rw[show d+(128+(e+d+1))+1=2*d+e+130 by omega]
 ·have hp:k=a.length:=by have:=R6 hp;omega
  subst hp;rw[Zw,Zh (by rw[Zl,Zq];omega),Zh (by omega)];exact hK
def Ua:Ctr
 | [.x false [.s 3 xs],.x false [.s 3 ys],.x false [.v (.int .i64 x)],.x false [.v (.int .i64 y)]]=>some fun K=> ∃(d:Nat) (a:List Rat) (e:Nat) (b:List Rat),xs=lR d a/\ys=lR e b/\QBm d a e b x y K
 | _=>none
theorem QGm:QI 204 Ua:=by
 refine okL Tryz.func204 fun l T hT K hK=> ?_
 unfold Ua at hT;split at hT<;>cases hT
 obtain⟨d,a,e,b,rfl,rfl,hK⟩:=hK;exact spL (QW QKg Q8 Qg) QK Tryz.func204 (QJM _ _ _ _ _ _ K hK)
def QQm:LC:=(204,Ua)::QQl
theorem QKh:QG QQm:= .cons QGm QKg
abbrev QGn (d:Nat)(p:List Rat)(e:Nat)(q:List Rat)(n:Nat)(K:AV->Prop):Prop:=((d<=1000000/\e<=1000000)/\(p.length=q.length/\p.length<=3)/\(1<=n/\n<=50))/\(K (.t [(false,[.s 1 (rwN (2*d+e+130) (Xr p q n))]),(false,[.v (.int .i64 0)])]))
set_option maxHeartbeats 1000000 in
theorem QQn (d:Nat)(p:List Rat)(e:Nat)(q:List Rat)(n:Nat)(K:AV->Prop)(hK:QGn d p e q n K):QM (QR (mkT QQm M79 X4) (oF Tryz.f164) (QMi d p e q n) Tryz.f164 [sR d p,sR e q,iA .i64 n] K):=by
 obtain⟨hc,hK⟩:=hK;refine HV ((bif Za (lR d p).length !=Za (lR e q).length then K (AV.t [(false,[Zo (Zm none 0 0)]),(false,[Zo (Zp Zf 1)])])else bif decide (Za (lR d p).length>3)then K (AV.t [(false,[Zo (Zm none 0 0)]),(false,[Zo (Zp Zf 1)])])else bif decide (Za n<1)then K (AV.t [(false,[Zo (Zm none 0 0)]),(false,[Zo (Zp Zf 1)])])else bif decide (Za n>50)then K (AV.t [(false,[Zo (Zm none 0 0)]),(false,[Zo (Zp Zf 1)])])else ∃(d_1:Nat),∃(a:List Rat),∃(e_1:Nat),∃(b:List Rat),lR d p=lR d_1 a/\lR e q=lR e_1 b/\((((-9223372036854775808:Int)<=0/\(0:Int)<9223372036854775808)/\0<Za n/\Za n<9223372036854775808)/\a.length=b.length/\a.length<=1000000/\d_1<=1000000/\e_1<=1000000)/\(∃(x:Nat),(x<=n/\OfNat.ofNat 0=0)/\3=3/\lR d p=lR d p/\3=3/\lR e q=lR e q/\Za n=Za n/\Zm none 0 0=Zm none 0 0/\0=0/\x=0/\3=3/\lR (2*d_1+e_1+130) (Wj ((↑(0:Int):Rat)/(↑(Za n):Rat)) a b)=lR (2*d+e+130) (Xy p q n x)/\Za n=Za n/\0=Za x/\rwN (2*d+e+130) (Ze x (Xr p q n))=[]/\True)/\∀(x:Nat),x<=n->OfNat.ofNat 0=0->bif decide (Za x<Za n)then ∃(d_2:Nat),∃(a:List Rat),∃(e_2:Nat),∃(b:List Rat),lR d p=lR d_2 a/\lR e q=lR e_2 b/\(((-9223372036854775808<=Zf.wrap (Za x+1)/\Zf.wrap (Za x+1)<9223372036854775808)/\0<Za n/\Za n<9223372036854775808)/\a.length=b.length/\a.length<=1000000/\d_2<=1000000/\e_2<=1000000)/\(∃(x_1:Nat×Nat),((x_1.fst<n/\x_1.snd<=p.length)/\n-x_1.fst=n-x)/\3=3/\lR d p=lR d p/\3=3/\lR e q=lR e q/\Za n=Za n/\0=0/\x=x_1.fst/\3=3/\lR (2*d+e+130) (Xy p q n x)=lR (2*d+e+130) (Xy p q n x_1.fst)/\3=3/\lR (2*d_2+e_2+130) (Wj ((↑(Zf.wrap (Za x+1)):Rat)/(↑(Za n):Rat)) a b)=lR (2*d+e+130) (Xy p q n (x_1.fst+1))/\Zm none 0 0=Zm none 0 0/\0=0/\x_1.snd=0/\Za n=Za n/\Za x=Za x_1.fst/\3=3/\lR (2*d+e+130) (Xy p q n x)=lR (2*d+e+130) (Xy p q n x_1.fst)/\Za (lR (2*d+e+130) (Xy p q n x)).length=Za p.length/\0=Za x_1.snd/\83=83/\1=1/\(rwN (2*d+e+130) (Ze x (Xr p q n))=rwN (2*d+e+130) (Ze x_1.fst (Xr p q n))∨QC (rwN (2*d+e+130) (Ze x (Xr p q n))) (rwN (2*d+e+130) (Ze x_1.fst (Xr p q n))))/\Zb (spN (2*d+e+130)) (Ze x_1.snd (Xe p q n x_1.fst))=[]/\True)/\∀(x_1:Nat×Nat),x_1.fst<n/\x_1.snd<=p.length->n-x_1.fst=n-x->bif decide (Za x_1.snd<Za p.length)then(0<=Za x_1.snd/\Za x_1.snd<Za (lR (2*d+e+130) (Xy p q n x_1.fst)).length)/\∃(q_1:Rat),∃(n_1:Nat),ldE (lR (2*d+e+130) (Xy p q n x_1.fst)) (Za x_1.snd).toNat 0 3=some [Zi q_1 n_1]/\(0<=Za x_1.snd/\Za x_1.snd<Za (lR (2*d+e+130) (Xy p q n (x_1.fst+1))).length)/\∃(q_2:Rat),∃(n_2:Nat),ldE (lR (2*d+e+130) (Xy p q n (x_1.fst+1))) (Za x_1.snd).toNat 0 3=some [Zi q_2 n_2]/\(0<=Za x_1.snd/\Za x_1.snd<Za (lR (2*d+e+130) (Xy p q n x_1.fst)).length)/\∃(q_3:Rat),∃(n_3:Nat),ldE (lR (2*d+e+130) (Xy p q n x_1.fst)) (Za x_1.snd).toNat 0 3=some [Zi q_3 n_3]/\(0<=Za x_1.snd/\Za x_1.snd<Za (lR (2*d+e+130) (Xy p q n (x_1.fst+1))).length)/\∃(q_4:Rat),∃(n_4:Nat),ldE (lR (2*d+e+130) (Xy p q n (x_1.fst+1))) (Za x_1.snd).toNat 0 3=some [Zi q_4 n_4]/\n_1+n_2<=4294967296/\n_3+n_4<=4294967296/\((x_1.snd+1)*80<=140737488355328/\x_1.snd+1<=9223372036854775807)/\∃(x':Nat×Nat),((x'.fst<n/\x'.snd<=p.length)/\n-x'.fst=n-x/\p.length-x'.snd<p.length-x_1.snd)/\3=3/\lR d p=lR d p/\3=3/\lR e q=lR e q/\Za n=Za n/\0=0/\x_1.fst=x'.fst/\3=3/\lR (2*d+e+130) (Xy p q n x_1.fst)=lR (2*d+e+130) (Xy p q n x'.fst)/\3=3/\lR (2*d+e+130) (Xy p q n (x_1.fst+1))=lR (2*d+e+130) (Xy p q n (x'.fst+1))/\0=0/\x_1.snd+1=x'.snd/\Za n=Za n/\Za x_1.fst=Za x'.fst/\3=3/\lR (2*d+e+130) (Xy p q n x_1.fst)=lR (2*d+e+130) (Xy p q n x'.fst)/\Za p.length=Za p.length/\Zf.wrap (Za x_1.snd+1)=Za x'.snd/\83=83/\1=1/\(rwN (2*d+e+130) (Ze x_1.fst (Xr p q n))=rwN (2*d+e+130) (Ze x'.fst (Xr p q n))∨QC (rwN (2*d+e+130) (Ze x_1.fst (Xr p q n))) (rwN (2*d+e+130) (Ze x'.fst (Xr p q n))))/\86=86/\6=6/\(Ze x_1.snd (Zb (spN (2*d+e+130)) (Ze x_1.snd (Xe p q n x_1.fst)))++[[Zi (XA q_1 q_2) (max n_1 n_2),Zi (XH q_3 q_4) (max n_3 n_4)]]=Zb (spN (2*d+e+130)) (Ze x'.snd (Xe p q n x'.fst))∨QC (Ze x_1.snd (Zb (spN (2*d+e+130)) (Ze x_1.snd (Xe p q n x_1.fst)))++[[Zi (XA q_1 q_2) (max n_1 n_2),Zi (XH q_3 q_4) (max n_3 n_4)]]) (Zb (spN (2*d+e+130)) (Ze x'.snd (Xe p q n x'.fst))))/\True else((x_1.fst+1)*24<=140737488355328/\x_1.fst+1<=9223372036854775807)/\∃(x':Nat),(x'<=n/\OfNat.ofNat 0=0/\n-x'<n-x)/\3=3/\lR d p=lR d p/\3=3/\lR e q=lR e q/\Za n=Za n/\0=0/\x_1.fst+1=x'/\3=3/\lR (2*d+e+130) (Xy p q n (x_1.fst+1))=lR (2*d+e+130) (Xy p q n x')/\Za n=Za n/\Zf.wrap (Za x_1.fst+1)=Za x'/\83=83/\1=1/\(Ze x_1.fst (rwN (2*d+e+130) (Ze x_1.fst (Xr p q n)))++[[Yd 6 (Ze x_1.snd (Zt 0 (Zb (spN (2*d+e+130)) (Ze x_1.snd (Xe p q n x_1.fst)))))]]=rwN (2*d+e+130) (Ze x' (Xr p q n))∨QC (Ze x_1.fst (rwN (2*d+e+130) (Ze x_1.fst (Xr p q n)))++[[Yd 6 (Ze x_1.snd (Zt 0 (Zb (spN (2*d+e+130)) (Ze x_1.snd (Xe p q n x_1.fst)))))]]) (rwN (2*d+e+130) (Ze x' (Xr p q n))))/\True else K (AV.t [(false,[Yd 1 (Ze x (Zt 0 (rwN (2*d+e+130) (Ze x (Xr p q n)))))]),(false,[Zo (Zp Zf 0)])]))) ?_
 try simp only[Zj,R0,R1,R4]
 obtain⟨⟨hd,he⟩,⟨hl,h3⟩,hn1,hn2⟩:=hc;simp only[WD];have pl: ∀k,(Xy p q n k).length=p.length:=fun k=>QKS hl n k;have rl: ∀k,(Xe p q n k).length=p.length:=fun k=>by rw[Xe,QC0 (by rw[pl,pl]),pl]
 have sl:(Xr p q n).length=n:=by simp[Xr]
 have rwl: ∀B (r:List (List Sp)),(rwN B r).length=r.length:=fun B r=>by simp[rwN]
 refine QF (fun h=>by simp[hl]at h) (fun _=>QF (fun h=>by have:=R5 h;omega) (fun _=>QF (fun h=>by have:=R5 h;omega) (fun _=>QF (fun h=>by have:=R5 h;omega) (fun _=>⟨d,p,e,q,rfl,rfl,⟨⟨⟨by omega,by omega⟩,by omega,by omega⟩,hl,by omega,hd,he⟩,⟨0,by omega,rfl,rfl,rfl,by simp[rwN]⟩,fun k hk=>QF (fun hp=> ?_) (fun hp=> ?_)⟩))))
 ·have hp:k<n:=by have:=R5 hp;omega
  have ew:Zf.wrap ((k:Int)+1)=((k+1:Nat):Int):=by rw[w64 (by omega)];omega
  rw[ew];refine⟨d,p,e,q,rfl,rfl,⟨⟨⟨by omega,by omega⟩,by omega,by omega⟩,hl,by omega,hd,he⟩,⟨(k,0),⟨⟨hp,by omega⟩,rfl⟩,rfl,rfl,rfl,rfl,rfl,rfl,by rw[pl],rfl,.inl rfl,by simp⟩,fun y ⟨hy1,hy2⟩ hyt=> ?_⟩;obtain⟨k',j⟩:=y;have e':k'=k:=by simp only at hy1 hyt;omega
  subst e';simp only at hy1 hy2 hyt⊢;refine QF (fun hj=> ?_) (fun hj=> ?_)
  ·have hj:j<p.length:=by have:=R5 hj;omega
   obtain⟨u,hu⟩: ∃u,(Xy p q n k')[j]? =some u:=⟨_,Zg (by rw[pl];exact hj)⟩
   obtain⟨v,hv⟩: ∃v,(Xy p q n (k'+1))[j]? =some v:=⟨_,Zg (by rw[pl];exact hj)⟩
   have hr:(Xe p q n k')[j]? =some ⟨XA u v,XH u v⟩:=QC1 hu hv
   refine⟨by rw[pl];omega,u,_,KO (by simpa using hu),by rw[pl];omega,v,_,KO (by simpa using hv),by rw[pl];omega,u,_,KO (by simpa using hu),by rw[pl];omega,v,_,KO (by simpa using hv),by omega,by omega,⟨by omega,by omega⟩,(k',j+1),⟨⟨hy1,hj⟩,rfl,by simp only;omega⟩,rfl,rfl,rfl,rfl,rfl,rfl,by rw[w64 (by omega)];simp,.inl rfl,.inl ?_⟩;rw[Zh (by rw[Zl,Zq];omega),Zn,hr,Zy,Nat.max_self];rfl
  ·have hj:j=p.length:=by have:=R6 hj;omega
   refine⟨⟨by omega,by omega⟩,k'+1,⟨hp,by omega⟩,rfl,rfl,by rw[ew],.inl ?_⟩;have e1:Ze j (Xe p q n k')=Xe p q n k':=Zh (by rw[rl];omega);rw[e1,Zw,Zh (l:=Zb _ (Xe p q n k')) (by rw[Zl,rl];omega),Zh (l:=rwN _ _) (by rw[rwl,Zq];omega),Zn,QGk p q hp];unfold rwN;rw[Zy];rfl
 ·have hp:k=n:=by have:=R6 hp;omega
  rw[Zw,Zh (l:=rwN _ _) (by rw[rwl,Zq];omega),Zh (by rw[sl];omega)];exact hK
def QBn:Ctr
 | [.x false [.s 3 xs],.x false [.s 3 ys],.x false [.v (.int .i64 N)]]=>some fun K=> ∃(d:Nat) (p:List Rat) (e:Nat) (q:List Rat) (n:Nat),xs=lR d p/\ys=lR e q/\N=(n:Int)/\QGn d p e q n K
 | _=>none
theorem QMl:QI 164 QBn:=by
 refine okL Tryz.func164 fun l T hT K hK=> ?_
 unfold QBn at hT;split at hT<;>cases hT
 obtain⟨d,p,e,q,n,rfl,rfl,rfl,hK⟩:=hK;exact spL (QW QKh Q8 Qg) QK Tryz.func164 (QQn _ _ _ _ _ K hK)
def QWL:LC:=(164,QBn)::QQm
theorem QUm:QG QWL:= .cons QMl QKh
def QWM:LC:=QWL
theorem QUn:QG QWM:=QUm
def QQo:LC:=QWM
theorem QKi:QG QQo:=QUn
abbrev QC6 (a:ArmV)(d:Nat)(p:List Rat)(e:Nat)(q:List Rat)(m:Nat)(ws:List (List (Rat×Rat)))(n:Nat)(K:AV->Prop):Prop:=((QJ a)/\(2*d+e+130<=400)/\(p.length=a.links.length/\q.length=a.links.length)/\(m<=400000000)/\((∀w∈ws,QX w)/\ws.length<=20)/\(1<=n/\n<=50))/\(K (.t [(false,[.v (.bool (QBg a (Xr p q n) ws))]),(false,[.v (.int .i64 0)])]))
set_option maxHeartbeats 1000000 in
theorem QMm (a:ArmV)(d:Nat)(p:List Rat)(e:Nat)(q:List Rat)(m:Nat)(ws:List (List (Rat×Rat)))(n:Nat)(K:AV->Prop)(hK:QC6 a d p e q m ws n K):QM (QR (mkT QQo M79 X4) (oF Tryz.f102) (QJI a d p e q m ws n) Tryz.f102 [J5 a,sR d p,sR e q,slA m ws,iA .i64 n] K):=by
 obtain⟨hc,hK⟩:=hK;refine HV ((∃(a_1:ArmV),[Zo (Zs a.name),Zi a.x 63,Zi a.y 63,Zo (Zk a.half),Zi a.t 63,Yd 16 (Zb QB a.links)]=[Zo (Zs a_1.name),Zi a_1.x 63,Zi a_1.y 63,Zo (Zk a_1.half),Zi a_1.t 63,Yd 16 (Zb QB a_1.links)]/\(QJ a_1/\Za (lR d p).length=Za a_1.links.length)/\∃(d_1:Nat),∃(p_1:List Rat),∃(e_1:Nat),∃(q_1:List Rat),∃(n_1:Nat),lR d p=lR d_1 p_1/\lR e q=lR e_1 q_1/\Za n=Za n_1/\((d_1<=1000000/\e_1<=1000000)/\(p_1.length=q_1.length/\p_1.length<=3)/\1<=n_1/\n_1<=50)/\∃(n_2:Nat),∃(ws_1:List (List (Rat×Rat))),shN m ws=shN n_2 ws_1/\(n_2<=400000000/\(∀(w:List (Rat×Rat)),w∈ws_1->QX w)/\ws_1.length<=20)/\(∃(x:Nat),((x<=n/\∀(j:Nat),j<x->freeB (Xt a (Xe p q n j)) ws=true)/\OfNat.ofNat 0=0)/\1=1/\shN m ws=shN m ws/\0=0/\1=1/\rwN (2*d_1+e_1+130) (Xr p_1 q_1 n_1)=rwN (2*d+e+130) (Xr p q n)/\Za (rwN (2*d_1+e_1+130) (Xr p_1 q_1 n_1)).length=Za n/\0=Za x/\34=34/\a.name=a.name/\a.x=a.x/\63<=63/\a.y=a.y/\63<=63/\a.half=a.half/\a.t=a.t/\63<=63/\16=16/\Zb QB a.links=Zb QB a.links/\True)/\∀(x:Nat),(x<=n/\∀(j:Nat),j<x->freeB (Xt a (Xe p q n j)) ws=true)->OfNat.ofNat 0=0->bif decide (Za x<Za n)then(0<=Za x/\Za x<Za (rwN (2*d+e+130) (Xr p q n)).length)/\∃(ys:List (List Ch)),ldE (rwN (2*d+e+130) (Xr p q n)) (Za x).toNat 0 1=some [Yd 6 ys]/\∃(a_4:ArmV),∃(B:Nat),∃(ts:List Sp),∃(qs:List Rat),[Zo (Zs a.name),Zi a.x 63,Zi a.y 63,Zo (Zk a.half),Zi a.t 63,Yd 16 (Zb QB a.links)]=[Zo (Zs a_4.name),Zi a_4.x 63,Zi a_4.y 63,Zo (Zk a_4.half),Zi a_4.t 63,Yd 16 (Zb QB a_4.links)]/\ys=Zb (spN B) ts/\(QJ a_4/\(B<=100000/\ts.length=a_4.links.length)/\ts.length=qs.length/\∀(i:Nat) (t:Sp) (q:Rat),ts[i]?=some t->qs[i]?=some q->t.lo<=q/\q<=t.hi)/\∀(ls:List LoV) (l:LoV),ls++[l]=XL (Xp a_4) a_4.links ts->ls.length=a_4.links.length->(∃(x_1:Nat×Nat),(((x_1.fst<n/\∀(j:Nat),j<x_1.fst->freeB (Xt a (Xe p q n j)) ws=true)/\x_1.snd<=a.links.length)/\n-x_1.fst=n-x)/\1=1/\shN m ws=shN m ws/\0=0/\Zm none 0 0=Zm none 0 0/\0=0/\x_1.snd=0/\1=1/\rwN (2*d+e+130) (Xr p q n)=rwN (2*d+e+130) (Xr p q n)/\Za n=Za n/\Za x=Za x_1.fst/\12=12/\Zb (bx4 126400000) (XC ls a_4.links)=Zb (bx4 126400000) (QBk a (Xe p q n x_1.fst))/\Za (Zb (bx4 126400000) (XC ls a_4.links)).length=Za a.links.length/\0=Za x_1.snd/\34=34/\a.name=a.name/\a.x=a.x/\63<=63/\a.y=a.y/\63<=63/\a.half=a.half/\a.t=a.t/\63<=63/\16=16/\Zb QB a.links=Zb QB a.links/\shN 126400000 (Ze x_1.snd (Xt a (Xe p q n x_1.fst)))=[]/\True)/\∀(x_1:Nat×Nat),(x_1.fst<n/\∀(j:Nat),j<x_1.fst->freeB (Xt a (Xe p q n j)) ws=true)/\x_1.snd<=a.links.length->n-x_1.fst=n-x->bif decide (Za x_1.snd<Za a.links.length)then(0<=Za x_1.snd/\Za x_1.snd<Za (Zb (bx4 126400000) (QBk a (Xe p q n x_1.fst))).length)/\∃(q_2:Rat),∃(n_3:Nat),∃(q_3:Rat),∃(n_4:Nat),∃(q_4:Rat),∃(n_5:Nat),∃(q_5:Rat),∃(n_6:Nat),ldE (Zb (bx4 126400000) (QBk a (Xe p q n x_1.fst))) (Za x_1.snd).toNat 0 12=some [Zi q_2 n_3,Zi q_3 n_4,Zi q_4 n_5,Zi q_5 n_6]/\∃(n_7:Nat),∃(b:Xn),[Zi q_2 n_3,Zi q_3 n_4,Zi q_4 n_5,Zi q_5 n_6]=[Zi b.x1 n_7,Zi b.y1 n_7,Zi b.x2 n_7,Zi b.y2 n_7]/\n_7<=400000000/\((x_1.snd+1)*24<=140737488355328/\x_1.snd+1<=9223372036854775807)/\∃(x':Nat×Nat),(((x'.fst<n/\∀(j:Nat),j<x'.fst->freeB (Xt a (Xe p q n j)) ws=true)/\x'.snd<=a.links.length)/\n-x'.fst=n-x/\a.links.length-x'.snd<a.links.length-x_1.snd)/\1=1/\shN m ws=shN m ws/\0=0/\0=0/\x_1.snd+1=x'.snd/\1=1/\rwN (2*d+e+130) (Xr p q n)=rwN (2*d+e+130) (Xr p q n)/\Za n=Za n/\Za x_1.fst=Za x'.fst/\12=12/\Zb (bx4 126400000) (QBk a (Xe p q n x_1.fst))=Zb (bx4 126400000) (QBk a (Xe p q n x'.fst))/\Za a.links.length=Za a.links.length/\Zf.wrap (Za x_1.snd+1)=Za x'.snd/\34=34/\a.name=a.name/\a.x=a.x/\63<=63/\a.y=a.y/\63<=63/\a.half=a.half/\a.t=a.t/\63<=63/\16=16/\Zb QB a.links=Zb QB a.links/\61=61/\1=1/\(Ze x_1.snd (shN 126400000 (Ze x_1.snd (Xt a (Xe p q n x_1.fst))))++[[Yd 6 [[Zi (b.x1,b.y1).fst n_7,Zi (b.x1,b.y1).snd n_7],[Zi (b.x2,b.y1).fst n_7,Zi (b.x2,b.y1).snd n_7],[Zi (b.x2,b.y2).fst n_7,Zi (b.x2,b.y2).snd n_7],[Zi (b.x1,b.y2).fst n_7,Zi (b.x1,b.y2).snd n_7]]]]=shN 126400000 (Ze x'.snd (Xt a (Xe p q n x'.fst)))∨QC (Ze x_1.snd (shN 126400000 (Ze x_1.snd (Xt a (Xe p q n x_1.fst))))++[[Yd 6 [[Zi (b.x1,b.y1).fst n_7,Zi (b.x1,b.y1).snd n_7],[Zi (b.x2,b.y1).fst n_7,Zi (b.x2,b.y1).snd n_7],[Zi (b.x2,b.y2).fst n_7,Zi (b.x2,b.y2).snd n_7],[Zi (b.x1,b.y2).fst n_7,Zi (b.x1,b.y2).snd n_7]]]]) (shN 126400000 (Ze x'.snd (Xt a (Xe p q n x'.fst)))))/\True else ∃(n_3:Nat),∃(ls:List (List (Rat×Rat))),∃(m_1:Nat),∃(ws_2:List (List (Rat×Rat))),Ze x_1.snd (Zt 0 (shN 126400000 (Ze x_1.snd (Xt a (Xe p q n x_1.fst)))))=shN n_3 ls/\shN m ws=shN m_1 ws_2/\((n_3<=400000000/\m_1<=400000000)/\((∀(s:List (Rat×Rat)),s∈ls->QX s)/\∀(w:List (Rat×Rat)),w∈ws_2->QX w)/\ls.length<=100/\ws_2.length<=100)/\bif !freeB ls ws_2 then K (AV.t [(false,[Zo (Zk false)]),(false,[Zo (Zp Zf 0)])])else ∃(x':Nat),((x'<=n/\∀(j:Nat),j<x'->freeB (Xt a (Xe p q n j)) ws=true)/\OfNat.ofNat 0=0/\n-x'<n-x)/\1=1/\shN m ws=shN m ws/\0=0/\1=1/\rwN (2*d+e+130) (Xr p q n)=rwN (2*d+e+130) (Xr p q n)/\Za n=Za n/\Zf.wrap (Za x_1.fst+1)=Za x'/\34=34/\a.name=a.name/\a.x=a.x/\63<=63/\a.y=a.y/\63<=63/\a.half=a.half/\a.t=a.t/\63<=63/\16=16/\Zb QB a.links=Zb QB a.links/\True else K (AV.t [(false,[Zo (Zk true)]),(false,[Zo (Zp Zf 0)])]))) ?_
 try simp only[Zj,R0,R1,Zr,R4]
 obtain⟨hg,hB,⟨hp,hq⟩,hm,⟨hw,hwl⟩,hn1,hn2⟩:=hc;have hn:=hg.n;have hpq:p.length=q.length:=by omega
 have pl: ∀k,(Xy p q n k).length=p.length:=fun k=>QKS hpq n k;have rl: ∀k,(Xe p q n k).length=p.length:=fun k=>by rw[Xe,QC0 (by rw[pl,pl]),pl]
 have sl:(Xr p q n).length=n:=by simp[Xr]
 have rwl: ∀B (r:List (List Sp)),(rwN B r).length=r.length:=fun B r=>by simp[rwN]
 have shl: ∀n (l:List (List (Rat×Rat))),(shN n l).length=l.length:=fun n l=>by simp[shN]
 have mi:=QEZ (a:=a) (p:=p) (q:=q) (n:=n) (ws:=ws);refine⟨a,rfl,⟨hg,by rw[WD,hp]⟩,d,p,e,q,n,rfl,rfl,rfl,⟨⟨by omega,by omega⟩,⟨hpq,by omega⟩,hn1,hn2⟩,m,ws,rfl,⟨hm,hw,hwl⟩,⟨0,⟨by omega,fun j hj=>absurd hj (by omega)⟩,rfl,by rw[rwl,sl],rfl⟩,fun k ⟨hk,hkf⟩=>QF (fun hp'=> ?_) (fun hp'=> ?_)⟩
 ·have hk':k<n:=by have:=R5 hp';omega
  have hHas:HasQ (Xe p q n k) (Xy p q n k):=QEb hpq hn1 hn1 (Zr _) (Nat.mul_le_mul_right _ (by omega));refine⟨by rw[rwl,sl];omega,_,Qa5 (by simpa using QGk p q hk'),a,2*d+e+130,Xe p q n k,Xy p q n k,rfl,rfl,⟨hg,⟨by omega,by rw[rl];omega⟩,hHas⟩,fun ls l hls hll=> ?_⟩;have eb:XC ls a.links=QBk a (Xe p q n k):=by unfold QBk;rw[<-hls,QJK hll]
  have bl:(QBk a (Xe p q n k)).length=a.links.length:=by rw[<-eb];exact Vy hll
  have hPl:(Xt a (Xe p q n k)).length=a.links.length:=by unfold Xt;rw[Zl];exact bl
  refine⟨⟨(k,0),⟨⟨⟨hk',hkf⟩,by omega⟩,rfl⟩,rfl,rfl,by rw[eb],by rw[Zl,Vy hll],rfl,by simp[shN]⟩,fun y ⟨⟨hy1,hyf⟩,hy2⟩ hyt=> ?_⟩;obtain⟨k',j⟩:=y;have e':k'=k:=by simp only at hy1 hyt;omega
  subst e';simp only at hy1 hy2 hyt hyf⊢;refine QF (fun hj=> ?_) (fun hj=> ?_)
  ·have hj:j<a.links.length:=by have:=R5 hj;omega
   obtain⟨u,hu⟩: ∃u,(QBk a (Xe p q n k'))[j]? =some u:=⟨_,Zg (by omega)⟩
   have hP:(Xt a (Xe p q n k'))[j]? =some (XS (QMZ u)):=by
    unfold QBk at hu;simp only[Xt,Zz,hu];rfl
   refine⟨by rw[Zl,bl];omega,_,_,_,_,_,_,_,_,QYi (by simpa using hu),126400000,QMZ u,rfl,by omega,⟨by omega,by omega⟩,(k',j+1),⟨⟨⟨hy1,hyf⟩,hj⟩,rfl,by simp only;omega⟩,rfl,rfl,rfl,by rw[w64 (by omega)];simp,.inl ?_⟩;rw[Zh (by rw[shl,Zq];omega),Zn,hP];unfold shN;rw[Zy];rfl
  ·have hj:j=a.links.length:=by have:=R6 hj;omega
   refine⟨126400000,Xt a (Xe p q n k'),m,ws,?_,rfl,⟨⟨by omega,hm⟩,⟨QQg hg hHas (by rw[rl];omega),hw⟩,by omega,by omega⟩,QF (fun hF=> ?_) (fun hF=>⟨k'+1,⟨⟨hk',fun i hi=> ?_⟩,by omega⟩,by rw[w64 (by omega)];simp⟩)⟩
   ·rw[Zw,Zh (by rw[shl,Zq];omega),Zh (by omega)]
   ·have hF:freeB (Xt a (Xe p q n k')) ws=false:=by simpa using hF
    have:QBg a (Xr p q n) ws=false:=by
     cases hM:QBg a (Xr p q n) ws with
     | false=>rfl
     | true=>rw[mi.1 hM k' hk']at hF;cases hF
    rw[this]at hK;exact hK
   ·by_cases e:i<k'
    ·exact hyf i e
    ·have e:i=k':=by omega
     rw[e];simpa using hF
 ·have hk':k=n:=by have:=R6 hp';omega
  rw[mi.2 fun i hi=>hkf i (by omega)]at hK;exact hK
def H3:Ctr
 | [.x true xs,.x false [.s 3 ys],.x false [.s 3 zs],.x false [.s 1 us],.x false [.v (.int .i64 N)]]=>some fun K=> ∃(a:ArmV) (d:Nat) (p:List Rat) (e:Nat) (q:List Rat) (m:Nat) (ws:List (List (Rat×Rat))) (n:Nat),xs=XM a/\ys=lR d p/\zs=lR e q/\us=shN m ws/\N=(n:Int)/\QC6 a d p e q m ws n K
 | _=>none
theorem QJN:QI 102 H3:=by
 refine okL Tryz.func102 fun l T hT K hK=> ?_
 unfold H3 at hT;split at hT<;>cases hT
 obtain⟨a,d,p,e,q,m,ws,n,rfl,rfl,rfl,rfl,rfl,hK⟩:=hK;exact spL (QW QKi Q8 Qg) QK Tryz.func102 (QMm _ _ _ _ _ _ _ _ K hK)
def QQp:LC:=(102,H3)::QQo
noncomputable def Qbw:QZ:=mkT QQp M79 X4
theorem QUo:QG QQp:= .cons QJN QKi
end Go.Proofs
