/- rat.whole, nat.Int, rat.Floor. -/
import Derived.Test.YtjdhppdpbkoihaaGreatDoorPA
open Int renaming ofNat_eq_natCast → Za, ofNat → Zc
open ByteArray renaming mk → Zb
open Array renaming mk → Zd
open Nat renaming le_refl → Ze, zero_add → Zf
open List renaming drop → Zg, tail_cons → Zh
namespace Go.Proofs
open Go Go.Eng
def QZz:LC:=L49
def QZ0:LC:=QZz
def QZ1:LC:=QZ0
noncomputable def QaM:Qc:=mkT QZ1 M48 X4
end Go.Proofs
namespace Go.Proofs
open Go Go.Eng
theorem QIe {w:World}{O:Nat->Prop}{ρ:Env}{m n:Nat}{v:Value}(h:ConcV w O ρ (.x true [.v (.bool false),.b m n,.v (.string ⟨⟨[1]⟩⟩)]) v):ConcV w O ρ (.x true [.r (m:Rat) (n+1)]) v:=by
 obtain⟨vals,h1,h2⟩:=h;cases h1 with
 | v _ h1=>cases h1 with
  | b hm h1=>cases h1 with
   | v _ h1=>
    cases h1
    refine⟨_,?_,h2⟩;have hn:((m:Nat):Rat).num=m:=rfl;have hd:((m:Nat):Rat).den=1:=rfl;have e:[Value.bool false,JI (QA m),Value.string ⟨⟨[1]⟩⟩]=[QCA (m:Rat),QEv (m:Rat),QEw (m:Rat)]:=by
     unfold QCA QEv QEw;rw[hn,hd];have:decide ((m:Int)<0)=false:=decide_eq_false (by omega);rw[this];rfl
    rw[e];refine .r ⟨?_,?_⟩ .nil
    ·rw[hn];have:2^n<=2^(n+1):=Nat.pow_le_pow_right (by decide) (by omega);show(m:Int).natAbs<_;rw[Int.natAbs_natCast];omega
    ·rw[hd];exact Nat.one_lt_two_pow (by omega)
def QES:Ctr:=fun as0=>match as0 with
 | [.x true [.r p a],.x true [.v (.bool false),.b m n,.v (.string ⟨⟨[1]⟩⟩)]]=>some fun K=>a+n+1<=4294967296/\K (rA (p*(m:Rat)) (a+n+1))
 | as0=>QD4 as0
theorem QOn:QI 53 QES:=by
 refine⟨ok_rMul.enter,fun l T hT K hK=> ?_⟩;unfold QES at hT;split at hT
 ·rename_i p a m n;cases hT
  refine Eng.Spec.args (ok_rMul.sound [.x true [.r p a],.x true [.r (m:Rat) (n+1)]] _ rfl K hK) fun w O vals hc=> ?_
  cases hc with
  | cons h1 h2=>cases h2 with
   | cons h2 h3=>exact .cons h1 (.cons (QIe h2) h3)
 ·exact ok_rMul.sound _ T hT K hK
def QY0:LC:=(53,QES)::L95
theorem QWR:QG QY0:= .cons QOn QYw
def QY1:LC:=QY0
theorem QWS:QG QY1:=QWR
def QY2:LC:=QY1
theorem QWT:QG QY2:=QWS
def QWU:LC:=QY2
theorem QOo:QG QWU:=QWT
theorem QSr (l:Rat)(a:Nat)(h:Rat)(b:Nat)(hc:(a+b<=4294967296)/\(l<=h))(K:AV->Prop)(hK:K (.x false [.v (.bool true)])):QM (QU (mkT QWU M79 X4) (oF Tryz.f91) noL Tryz.f91 [.x true [.r l a,.r h b]] K):=by
 refine HV ((a<=4294967296/\b<=4294967296/\a+b<=4294967296/\K (AV.x false [Ch.v (Value.bool (decide (Xk l h<=0)))]))) ?_
 try simp only[Za,R0,R1,Zf,Ze,R4,R2,R3]
 rw[decide_eq_true ((J2 l h).2 hc.2)];exact⟨by omega,by omega,hc.1,hK⟩
def QET:Ctr
 | [.x true [.r l a,.r h b]]=>some fun K=>((a+b<=4294967296)/\(l<=h))/\(K (.x false [.v (.bool true)]))
 | _=>none
theorem QOp:QI 91 QET:=by
 refine okL Tryz.func91 fun l T hT K hK=> ?_
 unfold QET at hT;split at hT<;>cases hT
 obtain⟨hc,hK⟩:=hK;exact spL (QV QOo X0 Qo) QN Tryz.func91 (QSr _ _ _ _ hc K hK)
def QWV:LC:=(91,QET)::QWU
theorem QOq:QG QWV:= .cons QOp QOo
theorem QWW (l:Rat)(a:Nat)(h:Rat)(b:Nat)(hc:(a+b<=4294967296)/\(l<=h))(K:AV->Prop)(hK:K (.x true [.r l a,.r h b])):QM (QU (mkT QWV M79 X4) (oF Tryz.f49) noL Tryz.f49 [.x true [.r l a,.r h b]] K):=by
 refine HV (((a+b<=4294967296/\l<=h)/\K (AV.x true [Ch.r l a,Ch.r h b]))) ?_
 try simp only[Za,R0,R1,Zf,Ze,R4,R2,R3]
 exact⟨hc,hK⟩
def QIf:Ctr
 | [.x true [.r l a,.r h b]]=>some fun K=>((a+b<=4294967296)/\(l<=h))/\(K (.x true [.r l a,.r h b]))
 | _=>none
theorem QSs:QI 49 QIf:=by
 refine okL Tryz.func49 fun l T hT K hK=> ?_
 unfold QIf at hT;split at hT<;>cases hT
 obtain⟨hc,hK⟩:=hK;exact spL (QV QOq X0 Qo) QN Tryz.func49 (QWW _ _ _ _ hc K hK)
def QWX:LC:=(49,QIf)::QWV
theorem QOr:QG QWX:= .cons QSs QOq
theorem QY3 (p:Rat)(a:Nat)(hc:(a<=2000000000))(K:AV->Prop)(hK:K (.x true [.r p a,.r p a])):QM (QU (mkT QWX M79 X4) (oF Tryz.f92) noL Tryz.f92 [rA p a] K):=by
 refine HV ((a+a<=4294967296/\K (AV.x true [Ch.r (Q9 p p) (max a a),Ch.r (Q9 p p) (max a a)]))) ?_
 try simp only[Za,R0,R1,Zf,Ze,R4,R2,R3]
 rw[Jc,Nat.max_self];exact⟨by omega,hK⟩
def QOs:Ctr
 | [.x true [.r p a]]=>some fun K=>((a<=2000000000))/\(K (.x true [.r p a,.r p a]))
 | _=>none
theorem QWY:QI 92 QOs:=by
 refine okL Tryz.func92 fun l T hT K hK=> ?_
 unfold QOs at hT;split at hT<;>cases hT
 obtain⟨hc,hK⟩:=hK;exact spL (QV QOr X0 Qo) QN Tryz.func92 (QY3 _ _ hc K hK)
def QWZ:LC:=(92,QOs)::QWX
theorem QOt:QG QWZ:= .cons QWY QOr
theorem QWa (l:Rat)(a:Nat)(h:Rat)(b:Nat)(m:Rat)(c:Nat)(k:Rat)(d:Nat)(hc:(a+b+c+d<=4294967290)/\(l<=h/\m<=k))(K:AV->Prop)(hK:K (.x true [.r (l+m) (a+c+1),.r (h+k) (b+d+1)])):QM (QU (mkT QWZ M79 X4) (oF Tryz.f120) noL Tryz.f120 [.x true [.r l a,.r h b],.x true [.r m c,.r k d]] K):=by
 refine HV (((a+b<=4294967296/\l<=h)/\(c+d<=4294967296/\m<=k)/\a+c+1<=4294967296/\b+d+1<=4294967296/\K (AV.x true [Ch.r (l+m) (a+c+1),Ch.r (h+k) (b+d+1)]))) ?_
 try simp only[Za,R0,R1,Zf,Ze,R4,R2,R3]
 obtain⟨h1,h2,h3⟩:=hc;exact⟨⟨by omega,h2⟩,⟨by omega,h3⟩,by omega,by omega,hK⟩
def QIg:Ctr
 | [.x true [.r l a,.r h b],.x true [.r m c,.r k d]]=>some fun K=>((a+b+c+d<=4294967290)/\(l<=h/\m<=k))/\(K (.x true [.r (l+m) (a+c+1),.r (h+k) (b+d+1)]))
 | _=>none
theorem QSt:QI 120 QIg:=by
 refine okL Tryz.func120 fun l T hT K hK=> ?_
 unfold QIg at hT;split at hT<;>cases hT
 obtain⟨hc,hK⟩:=hK;exact spL (QV QOt X0 Qo) QN Tryz.func120 (QWa _ _ _ _ _ _ _ _ hc K hK)
def QWb:LC:=(120,QIg)::QWZ
theorem QOu:QG QWb:= .cons QSt QOt
theorem QWc (l:Rat)(a:Nat)(h:Rat)(b:Nat)(m:Rat)(c:Nat)(k:Rat)(d:Nat)(hc:(a+b+c+d<=4294967290)/\(l<=h/\m<=k))(K:AV->Prop)(hK:K (.x true [.r (l-k) (a+d+1),.r (h-m) (b+c+1)])):QM (QU (mkT QWb M79 X4) (oF Tryz.f121) noL Tryz.f121 [.x true [.r l a,.r h b],.x true [.r m c,.r k d]] K):=by
 refine HV (((a+b<=4294967296/\l<=h)/\(c+d<=4294967296/\m<=k)/\a+d+1<=4294967296/\b+c+1<=4294967296/\K (AV.x true [Ch.r (l-k) (a+d+1),Ch.r (h-m) (b+c+1)]))) ?_
 try simp only[Za,R0,R1,Zf,Ze,R4,R2,R3]
 obtain⟨h1,h2,h3⟩:=hc;exact⟨⟨by omega,h2⟩,⟨by omega,h3⟩,by omega,by omega,hK⟩
def QIh:Ctr
 | [.x true [.r l a,.r h b],.x true [.r m c,.r k d]]=>some fun K=>((a+b+c+d<=4294967290)/\(l<=h/\m<=k))/\(K (.x true [.r (l-k) (a+d+1),.r (h-m) (b+c+1)]))
 | _=>none
theorem QSu:QI 121 QIh:=by
 refine okL Tryz.func121 fun l T hT K hK=> ?_
 unfold QIh at hT;split at hT<;>cases hT
 obtain⟨hc,hK⟩:=hK;exact spL (QV QOu X0 Qo) QN Tryz.func121 (QWc _ _ _ _ _ _ _ _ hc K hK)
def QWd:LC:=(121,QIh)::QWb
theorem QOv:QG QWd:= .cons QSu QOu
structure AdX where
 lo:Rat
 hi:Rat
 i:Nat
def Jd (f:Rat->Rat->Rat)(ps:List (Rat×Nat))(q:Rat):Rat:=(ps.map (·.1)).foldl f q
def hdR (l:List (Rat×Nat)):Rat:=match l with
 | []=>0
 | p::_=>p.1
def QGJ (l:List (Rat×Nat))(N:Nat):LI:=fun _=> .inv ⟨AdX,fun x=>⟨[(2,.x false [.p 2 0]),(3,.x false [.p 3 0]),(11,.x false [.s 3 (lRb l.tail)]),(12,iA .i64 l.tail.length),(13,iA .i64 x.i)],[(2,.box 64 (Wq++Wq)),(3,.box 64 [.r x.lo N,.r x.hi N])]⟩,
 fun x=>Jd Q9 (l.tail.drop x.i) x.lo=Jd Q9 l.tail (hdR l)/\Jd XL (l.tail.drop x.i) x.hi=Jd XL l.tail (hdR l)/\x.i<=l.tail.length,fun x=>l.tail.length-x.i,fun _=>0⟩
abbrev QC4 (l:List (Rat×Nat))(N:Nat)(K:AV->Prop):Prop:=((l≠[]/\l.length<=100/\N<=2000000000)/\(∀p∈l,p.2<=N))/\(K (.x true [.r (Jd Q9 l.tail (hdR l)) N,.r (Jd XL l.tail (hdR l)) N]))
set_option maxHeartbeats 1000000 in
theorem QMA (l:List (Rat×Nat))(N:Nat)(K:AV->Prop)(hK:QC4 l N K):QM (QU (mkT QWd M79 X4) (oF Tryz.f149) (QGJ l N) Tryz.f149 [.x false [.s 3 (lRb l)]] K):=by
 obtain⟨hc,hK⟩:=hK;refine HV ((((0:Int)<=0/\0<Zc (lRb l).length)/\∃(q:Rat),∃(n:Nat),ldE (lRb l) 0 0 3=some [Ch.r q n]/\n<=2000000000/\((0:Int)<=1/\1<=Zc (lRb l).length/\Zc (lRb l).length<=Zc (lRb l).length)/\(∃(x:AdX),((Jd Q9 (Zg x.i l.tail) x.lo=Jd Q9 l.tail (hdR l)/\Jd XL (Zg x.i l.tail) x.hi=Jd XL l.tail (hdR l)/\x.i<=l.tail.length)/\OfNat.ofNat 0=0)/\0=0/\0=0/\3=3/\List.take ((Zc (lRb l).length).toNat-1) (Zg 1 (lRb l))=lRb l.tail/\Zc (List.take ((Zc (lRb l).length).toNat-1) (Zg 1 (lRb l))).length=Zc l.tail.length/\0=Zc x.i/\64=64/\false=false/\Zb (Zd [])=Zb (Zd [])/\Zb (Zd [])=Zb (Zd [])/\false=false/\Zb (Zd [])=Zb (Zd [])/\Zb (Zd [])=Zb (Zd [])/\64=64/\q=x.lo/\n<=N/\q=x.hi/\n<=N/\True)/\∀(x:AdX),Jd Q9 (Zg x.i l.tail) x.lo=Jd Q9 l.tail (hdR l)/\Jd XL (Zg x.i l.tail) x.hi=Jd XL l.tail (hdR l)/\x.i<=l.tail.length->OfNat.ofNat 0=0->bif decide (Zc x.i<Zc l.tail.length)then(0<=Zc x.i/\Zc x.i<Zc (lRb l.tail).length)/\∃(q:Rat),∃(n:Nat),ldE (lRb l.tail) (Zc x.i).toNat 0 3=some [Ch.r q n]/\N+n<=4294967296/\N+n<=4294967296/\∃(x':AdX),((Jd Q9 (Zg x'.i l.tail) x'.lo=Jd Q9 l.tail (hdR l)/\Jd XL (Zg x'.i l.tail) x'.hi=Jd XL l.tail (hdR l)/\x'.i<=l.tail.length)/\OfNat.ofNat 0=0/\l.tail.length-x'.i<l.tail.length-x.i)/\0=0/\0=0/\3=3/\lRb l.tail=lRb l.tail/\Zc l.tail.length=Zc l.tail.length/\IntKind.i64.wrap (Zc x.i+1)=Zc x'.i/\64=64/\false=false/\Zb (Zd [])=Zb (Zd [])/\Zb (Zd [])=Zb (Zd [])/\false=false/\Zb (Zd [])=Zb (Zd [])/\Zb (Zd [])=Zb (Zd [])/\64=64/\Q9 x.lo q=x'.lo/\max N n<=N/\XL x.hi q=x'.hi/\max N n<=N/\True else K (AV.x true [Ch.r x.lo N,Ch.r x.hi N]))) ?_
 try simp only[Za,R0,R1,R4]
 obtain⟨⟨h0,hl,hN⟩,hb⟩:=hc;obtain⟨p0,ps,rfl⟩: ∃p ps,l=p::ps:=by
  cases l with
  | nil=>exact absurd rfl h0
  | cons p ps=>exact⟨p,ps,rfl⟩
 have hb0:=hb p0 (by simp);have hl':ps.length+1<=100:=hl;have ll:(lRb (p0::ps)).length=ps.length+1:=by simp[lRb]
 rw[ll];have e2:List.take ((((ps.length+1:Nat):Int)).toNat-1) (Zg 1 (lRb (p0::ps)))=lRb ps:=by
  rw[Int.toNat_natCast,Nat.add_sub_cancel];exact List.take_of_length_le (by simp[lRb])
 have lps:(lRb ps).length=ps.length:=by simp[lRb]
 refine⟨by omega,p0.1,p0.2,rfl,by omega,by omega,⟨⟨p0.1,p0.1,0⟩,⟨rfl,rfl,by simp⟩,e2,by rw[e2,lps];rfl,rfl,rfl,hb0,rfl,hb0⟩,fun x hx=>QF (fun hp=> ?_) (fun hp=> ?_)⟩
 ·have hp:x.i<ps.length:=by have:=R5 hp;simp only[Zh]at this;omega
  obtain⟨p,hpp⟩: ∃p,ps[x.i]? =some p:=⟨_,List.getElem?_eq_getElem hp⟩
  obtain⟨e1,e3,hxi⟩:=hx;simp only[Zh]at e1 e3 hxi⊢;have hd:ps.drop x.i=p::ps.drop (x.i+1):=by
   rw[List.drop_eq_getElem_cons hp];rw[List.getElem?_eq_getElem hp]at hpp;rw[Option.some.inj hpp]
  rw[hd]at e1 e3;have hbp:=hb p (by simp[List.mem_of_getElem? hpp]);exact⟨by rw[lps];omega,p.1,p.2,by simp only[ldE,lRb,List.getElem?_map,Int.toNat_natCast,hpp];rfl,by omega,by omega,⟨_,_,x.i+1⟩,⟨⟨e1,e3,hp⟩,by simp only;omega⟩,by rw[w64 (by omega)];simp,rfl,by omega,rfl,by omega⟩
 ·have hp:x.i=ps.length:=by have:=R6 hp;have:=hx.2.2;simp only[Zh]at*;omega
  obtain⟨e1,e3,hxi⟩:=hx;simp only[Zh]at e1 e3 hK;rw[hp,List.drop_length]at e1 e3;have e1:x.lo=_:=e1;have e3:x.hi=_:=e3;rw[e1,e3];exact hK
def GI:Ctr
 | [.x false [.s 3 xs]]=>some fun K=> ∃(l:List (Rat×Nat)) (N:Nat),xs=lRb l/\QC4 l N K
 | _=>none
theorem QIi:QI 149 GI:=by
 refine okL Tryz.func149 fun l T hT K hK=> ?_
 unfold GI at hT;split at hT<;>cases hT
 obtain⟨l,N,rfl,hK⟩:=hK;exact spL (QV QOv X0 Qo) QN Tryz.func149 (QMA _ _ K hK)
def QWe:LC:=(149,GI)::QWd
theorem QOw:QG QWe:= .cons QIi QOv
abbrev QOx (l:Rat)(a:Nat)(h:Rat)(b:Nat)(m:Rat)(c:Nat)(k:Rat)(d:Nat)(K:AV->Prop):Prop:=((a+b+c+d<=2000000000)/\(l<=h/\m<=k))/\(∀(s:Sp) n,s=Js ⟨l,h⟩ ⟨m,k⟩->n<=max a b+max c d->K (.x true [.r s.lo n,.r s.hi n]))
theorem QWf (l:Rat)(a:Nat)(h:Rat)(b:Nat)(m:Rat)(c:Nat)(k:Rat)(d:Nat)(K:AV->Prop)(hK:QOx l a h b m c k d K):QM (QU (mkT QWe M79 X4) (oF Tryz.f122) noL Tryz.f122 [.x true [.r l a,.r h b],.x true [.r m c,.r k d]] K):=by
 obtain⟨hc,hK⟩:=hK;refine HV (((a+b<=4294967296/\l<=h)/\(c+d<=4294967296/\m<=k)/\a+c<=4294967296/\a+d<=4294967296/\b+c<=4294967296/\b+d<=4294967296/\∃(l_1:List (Rat×Nat)),∃(N:Nat),[[Ch.r (l*m) (a+c)],[Ch.r (l*k) (a+d)],[Ch.r (h*m) (b+c)],[Ch.r (h*k) (b+d)]]=lRb l_1/\((l_1≠[]/\l_1.length<=100/\N<=2000000000)/\∀(p:Rat×Nat),p∈l_1->p.snd<=N)/\K (AV.x true [Ch.r (Jd Q9 l_1.tail (hdR l_1)) N,Ch.r (Jd XL l_1.tail (hdR l_1)) N]))) ?_
 try simp only[Za,R0,R1,Zf,Ze,R4,R2,R3]
 obtain⟨h1,h2,h3⟩:=hc;refine⟨⟨by omega,h2⟩,⟨by omega,h3⟩,by omega,by omega,by omega,by omega,[(l*m,a+c),(l*k,a+d),(h*m,b+c),(h*k,b+d)],max a b+max c d,rfl,⟨⟨by simp,by simp,by omega⟩,fun p hp=> ?_⟩,hK _ _ rfl (Ze _)⟩;simp only[List.mem_cons,List.not_mem_nil,or_false]at hp;rcases hp with rfl | rfl | rfl | rfl<;>simp only<;>omega
def QIj:Ctr
 | [.x true [.r l a,.r h b],.x true [.r m c,.r k d]]=>some fun K=>QOx l a h b m c k d K
 | _=>none
theorem QSv:QI 122 QIj:=by
 refine okL Tryz.func122 fun l T hT K hK=> ?_
 unfold QIj at hT;split at hT<;>cases hT
 exact spL (QV QOw X0 Qo) QN Tryz.func122 (QWf _ _ _ _ _ _ _ _ K hK)
def QWg:LC:=(122,QIj)::QWe
theorem QOy:QG QWg:= .cons QSv QOw
theorem QSw (l:Rat)(a:Nat)(h:Rat)(b:Nat)(m:Rat)(c:Nat)(k:Rat)(d:Nat)(hc:(a+b+c+d<=4294967290)/\(l<=h/\m<=k))(K:AV->Prop)(hK:K (.x true [.r (Q9 l m) (max a c),.r (XL h k) (max b d)])):QM (QU (mkT QWg M79 X4) (oF Tryz.f148) noL Tryz.f148 [.x true [.r l a,.r h b],.x true [.r m c,.r k d]] K):=by
 refine HV (((a+b<=4294967296/\l<=h)/\(c+d<=4294967296/\m<=k)/\a+c<=4294967296/\b+d<=4294967296/\K (AV.x true [Ch.r (Q9 l m) (max a c),Ch.r (XL h k) (max b d)]))) ?_
 try simp only[Za,R0,R1,Zf,Ze,R4,R2,R3]
 obtain⟨h1,h2,h3⟩:=hc;exact⟨⟨by omega,h2⟩,⟨by omega,h3⟩,by omega,by omega,hK⟩
def QEU:Ctr
 | [.x true [.r l a,.r h b],.x true [.r m c,.r k d]]=>some fun K=>((a+b+c+d<=4294967290)/\(l<=h/\m<=k))/\(K (.x true [.r (Q9 l m) (max a c),.r (XL h k) (max b d)]))
 | _=>none
theorem QOz:QI 148 QEU:=by
 refine okL Tryz.func148 fun l T hT K hK=> ?_
 unfold QEU at hT;split at hT<;>cases hT
 obtain⟨hc,hK⟩:=hK;exact spL (QV QOy X0 Qo) QN Tryz.func148 (QSw _ _ _ _ _ _ _ _ hc K hK)
def QWh:LC:=(148,QEU)::QWg
theorem QO0:QG QWh:= .cons QOz QOy
theorem QWi (l:Rat)(a:Nat)(h:Rat)(b:Nat)(q:Rat)(c:Nat)(hc:(a+b+c<=4294967290)/\(l<=h))(K:AV->Prop)(hK:K (.x false [.v (.bool (Qm ⟨l,h⟩ q))])):QM (QU (mkT QWh M79 X4) (oF Tryz.f24) noL Tryz.f24 [.x true [.r l a,.r h b],rA q c] K):=by
 refine HV (((a+b<=4294967296/\l<=h)/\a+c<=4294967296/\bif decide (Xk l q<=0)then c+b<=4294967296/\K (AV.x false [Ch.v (Value.bool (decide (Xk q h<=0)))])else K (AV.x false [Ch.v (Value.bool false)]))) ?_
 try simp only[Za,R0,R1,Zf,Ze,R4,R2,R3]
 refine⟨⟨by omega,hc.2⟩,by omega,?_⟩;unfold Qm at hK;refine QF (fun h1=>⟨by omega,?_⟩) (fun h1=> ?_)
 ·have h1:=(J2 _ _).1 (R5 h1);rw[decide_eq_true h1,Bool.true_and]at hK;have e:decide (Xk q h<=0)=decide (q<=h):=by
   by_cases e:q<=h
   ·rw[decide_eq_true e,decide_eq_true ((J2 _ _).2 e)]
   ·rw[decide_eq_false e,decide_eq_false (fun h=>e ((J2 _ _).1 h))]
  rw[e];exact hK
 ·have h1: ¬l<=q:=fun e=>R6 h1 ((J2 _ _).2 e);rw[decide_eq_false h1,Bool.false_and]at hK;exact hK
def QBe:Ctr
 | [.x true [.r l a,.r h b],.x true [.r q c]]=>some fun K=>((a+b+c<=4294967290)/\(l<=h))/\(K (.x false [.v (.bool (Qm ⟨l,h⟩ q))]))
 | _=>none
theorem QEV:QI 24 QBe:=by
 refine okL Tryz.func24 fun l T hT K hK=> ?_
 unfold QBe at hT;split at hT<;>cases hT
 obtain⟨hc,hK⟩:=hK;exact spL (QV QO0 X0 Qo) QN Tryz.func24 (QWi _ _ _ _ _ _ hc K hK)
def QY4:LC:=(24,QBe)::QWh
theorem QWj:QG QY4:= .cons QEV QO0
def QY5:LC:=QY4
theorem QWk:QG QY5:=QWj
def QY6:LC:=QY5
theorem QWl:QG QY6:=QWk
def QY7:LC:=QY6
theorem QWm:QG QY7:=QWl
def QWn:LC:=QY7
noncomputable def QaN:Qc:=mkT QWn M79 X4
theorem QWo:QG QWn:=QWm
end Go.Proofs
