/- The least integer that is not less than a rational number: plain laws. -/
import Derived.Test.YtfhfenokfkenoaaGreatDoorK1
import Derived.Test.YtfhfenokfkenoaaGreatDoorPB
import Derived.Test.YtfhfenokfkenoaaGreatDoorSH
import Derived.Test.YtfhfenokfkenoaaGreatDoorS2
open Int renaming ofNat → Za, ofNat_eq_natCast → Zo
open Go.IntKind renaming i64 → Zb
open List renaming map → Zc, getElem?_eq_getElem → Ze, mem_of_getElem? → Zf, take → Zj, take_of_length_le → Zl, drop → Zm, length_map → Zp
open Go.Value renaming int → Zd, string → Zg, bool → Zk, slice → Zn
open Go.Eng.Ch renaming v → Zh, r → Zi, s → Zq
namespace Go.Proofs
open Go Go.Eng
def Ja (q:Rat):Int:= -(-q).floor
theorem QSz (q:Rat):q<=(Ja q:Rat):=by
 have h:=Rat.floor_le (-q);unfold Ja;rw[Rat.intCast_neg];grind
theorem QS0 (q:Rat):((Ja q-1:Int):Rat)<q:=by
 have h:=Rat.lt_floor (x:= -q);unfold Ja;rw[Rat.intCast_sub,Rat.intCast_neg];have e:((1:Int):Rat)=1:=rfl;rw[e];grind
end Go.Proofs
namespace Go.Proofs
open Go Go.Eng
def tkG:List QY->List Rat->List Rat->Int->Int
 | L::ls,p::ps,q::qs,n=>tkG ls ps qs (max n (Ja (QW (q-p)/L.sp)))
 | _,_,_,n=>n
def tkV (a:ArmV)(ps qs:List Rat):Int:=tkG a.links ps qs 1
def QBE (a:ArmV)(ps qs:List Rat):Prop:= ∀(i:Nat) (L:QY) (p q:Rat),a.links[i]? =some L->ps[i]? =some p->qs[i]? =some q->QW (q-p)<=L.sp*100
def QLh (a:ArmV)(n:Nat)(ps:List Rat)(m:Nat)(qs:List Rat):LI:=fun id=>bif id.beq 2 then .unroll 3 else .inv ⟨Nat×Int,fun x=>⟨[(1,sR n ps),(2,sR m qs),(3,.x false [.p 3 0]),(11,iA .i64 x.2),(32,.x false [.s 16 (a.links.map QG)]),(33,iA .i64 a.links.length),(34,iA .i64 x.1)],[(3,.box 34 (Xd a))]⟩,fun x=>(x.1<=a.links.length/\1<=x.2/\x.2<=100)/\tkG (a.links.drop x.1) (ps.drop x.1) (qs.drop x.1) x.2=tkV a ps qs,fun x=>a.links.length-x.1,fun _=>0⟩
def QD8 (a:ArmV)(N:Nat):Int->List Rat->List (List Rat)->List Ke
 | _,_,[]=>[]
 | t,p,q::r=>⟨t+tkV a p q,N,q⟩::QD8 a N (t+tkV a p q) q r
def KH (a:ArmV)(N:Nat)(t:Int):List (List Rat)->List Ke
 | []=>[]
 | q::r=>⟨t,N,q⟩::QD8 a N t q r
structure PnX where
 o:List Ke
 i:Nat
 t:Int
structure PnI (a:ArmV)(N:Nat)(w:List (List Rat))(f:Int)(x:PnX):Prop where
 i:1<=x.i/\x.i<=w.length
 o:x.o.length=x.i
 last: ∃q,w[x.i-1]? =some q/\x.o[x.i-1]? =some ⟨x.t,N,q⟩/\x.o++QD8 a N x.t q (w.drop x.i)=KH a N f w
 t:0<=x.t/\x.t<=f+100*((x.i:Int)-1)
def QO9 (a:ArmV)(n:Nat)(w:List (List Rat))(f:Int):LI:=fun _=> .inv ⟨PnX,fun x=>⟨[(1,sW n w),(3,.x false [.p 3 0]),(10,.x false [.w 500 0 x.i]),(11,iA .i64 x.i)],[(3,.box 34 (Xd a)),(500,.row 55 2 (x.o.map WO))]⟩,PnI a (n+65) w f,fun x=>w.length-x.i,fun _=>0⟩
def QPA:LC:=(162,Uw)::QWg
theorem QBF {α:Type}{l:List α}{i:Nat}{a:α}(h:l[i]? =some a):l.drop i=a::l.drop (i+1):=by
 have hi:=(List.getElem?_eq_some_iff.1 h).1;rw[List.drop_eq_getElem_cons hi];rw[Ze hi]at h;rw[Option.some.inj h]
theorem QXb (p:Rat):0<=QW p:=by rw[QO8];split<;>grind
theorem QJd {q:Rat}{n:Int}(h:q<=(n:Rat)):Ja q<=n:=by
 have h1:=QS0 q;have h2:((Ja q-1:Int):Rat)<(n:Rat):=by grind
 have:=Rat.intCast_lt_intCast.1 h2;omega
theorem QJe {q:Rat}(h:0<=q):0<=Ja q:=by
 have h1:=Rat.le_trans h (QSz q);exact Rat.intCast_le_intCast.1 (show((0:Int):Rat)<=_ from h1)
theorem QPB {d s:Rat}(hs:0<s)(h0:0<=d)(h:d<=s*100):0<=d/s/\d/s<=100:=by
 have hi:0<s⁻¹:=Rat.inv_pos.2 hs;rw[Rat.div_def];refine⟨Rat.mul_nonneg h0 (Rat.le_of_lt hi),?_⟩;have:=Rat.mul_le_mul_of_nonneg_right h (Rat.le_of_lt hi);have e:s*s⁻¹=1:=Rat.mul_inv_cancel _ (by grind);grind
theorem QLi: ∀(ls:List QY) (ps qs:List Rat) (n:Int),n<=tkG ls ps qs n/\(n<=100->(∀(i:Nat) (L:QY) (p q:Rat),ls[i]? =some L->ps[i]? =some p->qs[i]? =some q->Ja (QW (q-p)/L.sp)<=100)->tkG ls ps qs n<=100):=by
 intro ls;induction ls with
 | nil=>intro ps qs n;exact⟨Int.le_refl _,fun h _=>h⟩
 | cons L ls ih=>
  intro ps qs n;cases ps with
  | nil=>exact⟨Int.le_refl _,fun h _=>h⟩
  | cons p ps=>
   cases qs with
   | nil=>exact⟨Int.le_refl _,fun h _=>h⟩
   | cons q qs=>
    obtain⟨h1,h2⟩:=ih ps qs (max n (Ja (QW (q-p)/L.sp)));refine⟨Int.le_trans (Int.le_max_left _ _) h1,fun hn h=>h2 ?_ fun i=>h (i+1)⟩;have:=h 0 L p q rfl rfl rfl;omega
theorem QCd {a:ArmV}{ps qs:List Rat}(hg:QU a)(h:QBE a ps qs){i:Nat}{L:QY}{p q:Rat}(hL:a.links[i]? =some L)(hp:ps[i]? =some p)(hq:qs[i]? =some q):(0<=QW (q-p)/L.sp/\QW (q-p)/L.sp<=100)/\0<=Ja (QW (q-p)/L.sp)/\Ja (QW (q-p)/L.sp)<=100:=by
 have hs:=(hg.links L (Zf hL)).sp;have k:=QPB hs (QXb _) (h i L p q hL hp hq);exact⟨k,QJe k.1,QJd k.2⟩
theorem QLj {a:ArmV}{ps qs:List Rat}(hg:QU a)(h:QBE a ps qs):1<=tkV a ps qs/\tkV a ps qs<=100:=by
 obtain⟨h1,h2⟩:=QLi a.links ps qs 1;exact⟨h1,h2 (by omega) fun i L p q hL hp hq=>(QCd hg h hL hp hq).2.2⟩
theorem QJf:QF QPA:= .cons QLg QWh
theorem QS1 (q:Rat)(n:Nat)(hc:(n<=1000000)/\(0<=q/\q<=2000))(K:AV->Prop)(hK:K (iA .i64 (Ja q))):QK (QP (mkT QPA M99 X4) (oF Tryz.f124) noL Tryz.f124 [rA q n] K):=by
 refine HV ((((-9223372036854775808:Int)<=2000/\(2000:Int)<9223372036854775808)/\n+64<=4294967296/\bif decide (Jp q ↑(2000:Int)>0)then K (AV.x false [Zh (Zd Zb 2001)])else n<=4294967296/\(n<=2000000000/\ -9223372036854775808<(-q).floor/\(-q).floor<9223372036854775808)/\K (AV.x false [Zh (Zd Zb (Zb.wrap (0-(-q).floor)))]))) ?_
 try simp only[Zo,R0,R1,Nat.zero_add,Nat.le_refl,R4,R2,R3]
 obtain⟨hn,h0,h1⟩:=hc;have c0:=QJe h0;have c1:=QJd (n:=2000) (show q<=((2000:Int):Rat)from h1);have e:Ja q= -(-q).floor:=rfl;rw[e]at hK c0 c1;refine⟨by omega,by omega,QC (fun h=> ?_) (fun _=>⟨by omega,⟨by omega,by omega,by omega⟩,?_⟩)⟩
 ·have:=QWX.1 (R5 h);exact absurd (show q<=((2000:Int):Rat)from h1) (Rat.not_le.2 this)
 ·rw[w64 (by omega),Int.zero_sub];exact hK
def QD9:Ctr
 | [.x true [.r q n]]=>some fun K=>((n<=1000000)/\(0<=q/\q<=2000))/\(K (iA .i64 (Ja q)))
 | _=>none
theorem QPC:QI 124 QD9:=by
 refine okL Tryz.func124 fun l T hT K hK=> ?_
 unfold QD9 at hT;split at hT<;>cases hT
 obtain⟨hc,hK⟩:=hK;exact spL (QS QJf QJU Qm) QM Tryz.func124 (QS1 _ _ hc K hK)
def QPD:LC:=(124,QD9)::QPA
theorem QJg:QF QPD:= .cons QPC QJf
abbrev QFz (a:ArmV)(n:Nat)(ps:List Rat)(m:Nat)(qs:List Rat)(K:AV->Prop):Prop:=((QU a)/\(n<=10000/\m<=10000)/\((ps.length=a.links.length/\qs.length=a.links.length)/\Fit a ps/\Fit a qs)/\(QBE a ps qs))/\(K (.t [(false,[.v (.int .i64 (tkV a ps qs))]),(false,[.v (.int .i64 0)])]))
set_option maxHeartbeats 1000000 in
theorem QPE (a:ArmV)(n:Nat)(ps:List Rat)(m:Nat)(qs:List Rat)(K:AV->Prop)(hK:QFz a n ps m qs K):QK (QP (mkT QPD M99 X4) (oF Tryz.f66) (QLh a n ps m qs) Tryz.f66 [Jq a,sR n ps,sR m qs] K):=by
 obtain⟨hc,hK⟩:=hK;refine HV ((((0:Int)<=0/\(0:Int)<2)/\∃(ys:List (List Ch)),some [Zq 3 (lR n ps)]=some [Zq 3 ys]/\∃(a_1:ArmV),∃(n_1:Nat),∃(qs_1:List Rat),[Zh (Zg a.name),Zi a.x 63,Zi a.y 63,Zh (Zk a.half),Zi a.t 63,Zq 16 (Zc QG a.links)]=[Zh (Zg a_1.name),Zi a_1.x 63,Zi a_1.y 63,Zh (Zk a_1.half),Zi a_1.t 63,Zq 16 (Zc QG a_1.links)]/\ys=lR n_1 qs_1/\(QU a_1/\n_1<=1000000/\qs_1.length=a_1.links.length)/\((∀(i:Nat) (L:QY) (q:Rat),a_1.links[i]?=some L->qs_1[i]?=some q->L.lo<=q/\q<=L.hi)->((0:Int)<=1/\(1:Int)<2)/\∃(ys:List (List Ch)),some [Zq 3 (lR m qs)]=some [Zq 3 ys]/\∃(a_3:ArmV),∃(n_2:Nat),∃(qs_2:List Rat),[Zh (Zg a.name),Zi a.x 63,Zi a.y 63,Zh (Zk a.half),Zi a.t 63,Zq 16 (Zc QG a.links)]=[Zh (Zg a_3.name),Zi a_3.x 63,Zi a_3.y 63,Zh (Zk a_3.half),Zi a_3.t 63,Zq 16 (Zc QG a_3.links)]/\ys=lR n_2 qs_2/\(QU a_3/\n_2<=1000000/\qs_2.length=a_3.links.length)/\((∀(i:Nat) (L:QY) (q:Rat),a_3.links[i]?=some L->qs_2[i]?=some q->L.lo<=q/\q<=L.hi)->(∃(x:Nat×Int),(((x.fst<=a.links.length/\1<=x.snd/\x.snd<=100)/\tkG (Zm x.fst a.links) (Zm x.fst ps) (Zm x.fst qs) x.snd=tkV a ps qs)/\OfNat.ofNat 0=0)/\3=3/\lR n ps=lR n ps/\3=3/\lR m qs=lR m qs/\0=0/\1=x.snd/\16=16/\Zc QG a.links=Zc QG a.links/\Za (Zc QG a.links).length=Za a.links.length/\0=Za x.fst/\34=34/\a.name=a.name/\a.x=a.x/\63<=63/\a.y=a.y/\63<=63/\a.half=a.half/\a.t=a.t/\63<=63/\16=16/\Zc QG a.links=Zc QG a.links/\True)/\∀(x:Nat×Int),(x.fst<=a.links.length/\1<=x.snd/\x.snd<=100)/\tkG (Zm x.fst a.links) (Zm x.fst ps) (Zm x.fst qs) x.snd=tkV a ps qs->OfNat.ofNat 0=0->bif decide (Za x.fst<Za a.links.length)then(0<=Za x.fst/\Za x.fst<Za (Zc QG a.links).length)/\∃(q:Rat),∃(n_3:Nat),∃(q_1:Rat),∃(n_4:Nat),∃(q_2:Rat),∃(n_5:Nat),∃(q_3:Rat),∃(n_6:Nat),∃(q_4:Rat),∃(n_7:Nat),∃(ys:List (List Ch)),ldE (Zc QG a.links) (Za x.fst).toNat 0 16=some [Zi q n_3,Zi q_1 n_4,Zi q_2 n_5,Zi q_3 n_6,Zi q_4 n_7,Zq 6 ys]/\(0<=Za x.fst/\Za x.fst<Za (lR m qs).length)/\∃(q:Rat),∃(n_8:Nat),ldE (lR m qs) (Za x.fst).toNat 0 3=some [Zi q n_8]/\(0<=Za x.fst/\Za x.fst<Za (lR n ps).length)/\∃(q_5:Rat),∃(n_9:Nat),ldE (lR n ps) (Za x.fst).toNat 0 3=some [Zi q_5 n_9]/\n_8+n_9+1<=4294967296/\n_8+n_9+1<=4294967296/\n_8+n_9+1+n_6<=4294967296/\(q_3≠OfNat.ofNat 0->(n_8+n_9+1+n_6<=1000000/\OfNat.ofNat 0<=QW (q-q_5)/q_3/\QW (q-q_5)/q_3<=OfNat.ofNat 2000)/\∃(x':Nat×Int),(((x'.fst<=a.links.length/\1<=x'.snd/\x'.snd<=100)/\tkG (Zm x'.fst a.links) (Zm x'.fst ps) (Zm x'.fst qs) x'.snd=tkV a ps qs)/\OfNat.ofNat 0=0/\a.links.length-x'.fst<a.links.length-x.fst)/\3=3/\lR n ps=lR n ps/\3=3/\lR m qs=lR m qs/\0=0/\(bif true then if Ja (QW (q-q_5)/q_3)>x.snd then Ja (QW (q-q_5)/q_3)else x.snd else if Ja (QW (q-q_5)/q_3)<x.snd then Ja (QW (q-q_5)/q_3)else x.snd)=x'.snd/\16=16/\Zc QG a.links=Zc QG a.links/\Za a.links.length=Za a.links.length/\Zb.wrap (Za x.fst+1)=Za x'.fst/\34=34/\a.name=a.name/\a.x=a.x/\63<=63/\a.y=a.y/\63<=63/\a.half=a.half/\a.t=a.t/\63<=63/\16=16/\Zc QG a.links=Zc QG a.links/\True)/\(q_3=OfNat.ofNat 0->False)else bif decide (x.snd>2000)then K (AV.t [(false,[Zh (Zd Zb 0)]),(false,[Zh (Zd Zb 19)])])else K (AV.t [(false,[Zh (Zd Zb x.snd)]),(false,[Zh (Zd Zb 0)])]))/\(¬Fit a_3 qs_2->K (AV.t [(false,[Zh (Zd Zb 0)]),(false,[Zh (Zd Zb 17)])])))/\(¬Fit a_1 qs_1->K (AV.t [(false,[Zh (Zd Zb 0)]),(false,[Zh (Zd Zb 17)])])))) ?_
 try simp only[Zo,R0,R1,Nat.le_refl,R4]
 obtain⟨hg,⟨hn,hm⟩,⟨⟨hp,hq⟩,fp,fq⟩,hnr⟩:=hc;have hgn:=hg.n;simp only[Zp,XH];refine⟨by omega,_,rfl,a,n,ps,rfl,rfl,⟨hg,by omega,hp⟩,fun _=>⟨by omega,_,rfl,a,m,qs,rfl,rfl,⟨hg,by omega,hq⟩,fun _=>⟨⟨(0,1),⟨⟨by omega,by omega,by omega⟩,rfl⟩,rfl,trivial,rfl⟩,fun x ⟨⟨hx1,hx2,hx3⟩,he⟩=>QC (fun hi=> ?_) (fun hi=> ?_)⟩,fun h=>absurd fq h⟩,fun h=>absurd fp h⟩
 ·have hi:x.1<a.links.length:=by have:=R5 hi;omega
  obtain⟨L,hL⟩: ∃L,a.links[x.1]? =some L:=⟨_,Ze hi⟩
  obtain⟨p,hpp⟩: ∃p,ps[x.1]? =some p:=⟨_,Ze (by omega)⟩
  obtain⟨q,hqq⟩: ∃q,qs[x.1]? =some q:=⟨_,Ze (by omega)⟩
  obtain⟨⟨d0,d1⟩,c0,c1⟩:=QCd hg hnr hL hpp hqq;have hs:=(hg.links L (Zf hL)).sp;rw[QBF hL,QBF hpp,QBF hqq]at he;have d2:QW (q-p)/L.sp<=2000:=Rat.le_trans d1 (by decide+kernel);refine⟨by omega,_,_,_,_,_,_,_,_,_,_,_,Wt (by simpa using hL),by omega,q,m,Xk (by simpa using hqq),by omega,p,n,Xk (by simpa using hpp),by omega,by omega,by omega,fun _=>⟨⟨by omega,d0,d2⟩,(x.1+1,max x.2 (Ja (QW (q-p)/L.sp))),⟨⟨⟨hi,by simp only;omega,by simp only;omega⟩,he⟩,by simp only;omega⟩,?_,by rw[w64 (by omega)];simp⟩,fun h0=> ?_⟩
  ·simp only[R7];split<;>omega
  ·rw[h0]at hs;exact Rat.lt_irrefl hs
 ·have hi:x.1=a.links.length:=by have:=R6 hi;omega
  rw[hi,List.drop_length]at he;have he:x.2=tkV a ps qs:=he;refine QC (fun h=>by have:=R5 h;omega) (fun _=> ?_);rw[he];exact hK
def QBG:Ctr
 | [.x true xs,.x false [.s 3 ys],.x false [.s 3 zs]]=>some fun K=> ∃(a:ArmV) (n:Nat) (ps:List Rat) (m:Nat) (qs:List Rat),xs=Xd a/\ys=lR n ps/\zs=lR m qs/\QFz a n ps m qs K
 | _=>none
theorem QLk:QI 66 QBG:=by
 refine okL Tryz.func66 fun l T hT K hK=> ?_
 unfold QBG at hT;split at hT<;>cases hT
 obtain⟨a,n,ps,m,qs,rfl,rfl,rfl,hK⟩:=hK;exact spL (QS QJg QJU Qm) QM Tryz.func66 (QPE _ _ _ _ _ K hK)
def QPF:LC:=(66,QBG)::QPD
theorem QJh:QF QPF:= .cons QLk QJg
theorem QS2 (n:Nat)(qs:List Rat)(hc:(n<=1000000/\qs.length<=1000000))(K:AV->Prop)(hK:K (sR (n+65) qs)):QK (QP (mkT QPF M99 X4) (oF Tryz.f65) (fun _=> .inv ⟨Nat,fun k=>⟨[(3,.x false [.w 500 0 k]),(6,sR n qs),(7,iA .i64 qs.length),(8,iA .i64 k)],[(500,Y9 (n+65) (qs.take k))]⟩,fun k=>k<=qs.length,fun k=>qs.length-k,fun _=>0⟩) Tryz.f65 [sR n qs] K):=by
 refine HV (((∃(x:Nat),(x<=qs.length/\OfNat.ofNat 0=0)/\Zn none 0 0=Zn none 0 0/\0=0/\x=0/\3=3/\lR n qs=lR n qs/\Za (lR n qs).length=Za qs.length/\0=Za x/\Zc (fun(q:Rat)=>[Zi q (n+65)]) (Zj x qs)=[]/\True)/\∀(x:Nat),x<=qs.length->OfNat.ofNat 0=0->bif decide (Za x<Za qs.length)then(0<=Za x/\Za x<Za (lR n qs).length)/\∃(q:Rat),∃(n_1:Nat),ldE (lR n qs) (Za x).toNat 0 3=some [Zi q n_1]/\((-9223372036854775808:Int)<=0/\(0:Int)<9223372036854775808)/\n_1+64+1<=4294967296/\((x+1)*40<=140737488355328/\x+1<=9223372036854775807)/\∃(x':Nat),(x'<=qs.length/\OfNat.ofNat 0=0/\qs.length-x'<qs.length-x)/\0=0/\x+1=x'/\3=3/\lR n qs=lR n qs/\Za qs.length=Za qs.length/\Zb.wrap (Za x+1)=Za x'/\25=25/\3=3/\(Zj x (Zc (fun(q:Rat)=>[Zi q (n+65)]) (Zj x qs))++[[Zi (q+↑(0:Int)) (n_1+64+1)]]=Zc (fun(q:Rat)=>[Zi q (n+65)]) (Zj x' qs)∨QE (Zj x (Zc (fun(q:Rat)=>[Zi q (n+65)]) (Zj x qs))++[[Zi (q+↑(0:Int)) (n_1+64+1)]]) (Zc (fun(q:Rat)=>[Zi q (n+65)]) (Zj x' qs)))/\True else K (AV.x false [Zq 3 (Zj x (Zm 0 (Zc (fun(q:Rat)=>[Zi q (n+65)]) (Zj x qs))))]))) ?_
 try simp only[Zo,R0,R1,R4]
 refine⟨⟨0,by omega,rfl,by rw[XH],rfl,by simp⟩,fun x hx=>QC (fun hp=> ?_) (fun hp=> ?_)⟩
 ·have hp:x<qs.length:=by have:=R5 hp;omega
  obtain⟨q,hq⟩: ∃q,qs[x]? =some q:=⟨_,Ze hp⟩
  refine⟨by rw[XH];omega,_,_,Xk (by simpa using hq),by omega,by omega,by omega,x+1,⟨by omega,by omega⟩,rfl,by rw[w64 (by omega)];simp,.inl ?_⟩;rw[Zl (by rw[Zp,List.length_take];omega),List.take_add_one,hq,List.map_append];simp only[Option.toList,List.map_cons,List.map_nil];rw[show q+((0:Int):Rat)=q by rw[Rat.intCast_zero,Rat.add_zero]]
 ·have hp:x=qs.length:=by have:=R6 hp;omega
  subst hp;rw[List.drop_zero,List.take_length,Zl (by rw[Zp];exact Nat.le_refl _)];exact hK
def QEA:Ctr
 | [.x false [.s 3 xs]]=>some fun K=> ∃(n:Nat) (qs:List Rat),xs=lR n qs/\((n<=1000000/\qs.length<=1000000))/\(K (sR (n+65) qs))
 | _=>none
theorem QPG:QI 65 QEA:=by
 refine okL Tryz.func65 fun l T hT K hK=> ?_
 unfold QEA at hT;split at hT<;>cases hT
 obtain⟨n,qs,rfl,hc,hK⟩:=hK;exact spL (QS QJh QJU Qm) QM Tryz.func65 (QS2 _ _ hc K hK)
def QPH:LC:=(65,QEA)::QPF
theorem QS3:QF QPH:= .cons QPG QJh
set_option maxHeartbeats 1000000 in
theorem QS4 (a:ArmV)(n:Nat)(w:List (List Rat))(f:Int)(hc:(QU a)/\(QFs w a.links.length/\n<=1000)/\((∀q∈w,Fit a q)/\ ∀(i:Nat) (p q:List Rat),w[i]? =some p->w[i+1]? =some q->QBE a p q)/\(0<=f/\f+100*(w.length:Int)<=2000))(K:AV->Prop)(hK:K (.t [(false,[.s 2 ((KH a (n+65) f w).map WO)]),(false,[.v (.int .i64 0)])])):QK (QP (mkT QPH M99 X4) (oF Tryz.f14) (QO9 a n w f) Tryz.f14 [Jq a,sW n w,iA .i64 f] K):=by
 refine HV ((∃(a_1:ArmV),[Zh (Zg a.name),Zi a.x 63,Zi a.y 63,Zh (Zk a.half),Zi a.t 63,Zq 16 (Zc QG a.links)]=[Zh (Zg a_1.name),Zi a_1.x 63,Zi a_1.y 63,Zh (Zk a_1.half),Zi a_1.t 63,Zq 16 (Zc QG a_1.links)]/\QU a_1/\bif Za (wN n w).length==0 then K (AV.t [(false,[Zh (Zn none 0 0)]),(false,[Zh (Zd Zb 14)])])else bif decide (Za (wN n w).length>60)then K (AV.t [(false,[Zh (Zn none 0 0)]),(false,[Zh (Zd Zb 2)])])else bif decide (f<0)then K (AV.t [(false,[Zh (Zn none 0 0)]),(false,[Zh (Zd Zb 1)])])else bif decide (f>2000)then K (AV.t [(false,[Zh (Zn none 0 0)]),(false,[Zh (Zd Zb 1)])])else((0:Int)<=0/\0<Za (wN n w).length)/\∃(ys:List (List Ch)),ldE (wN n w) 0 0 1=some [Zq 3 ys]/\∃(a_2:ArmV),∃(n_1:Nat),∃(qs:List Rat),[Zh (Zg a.name),Zi a.x 63,Zi a.y 63,Zh (Zk a.half),Zi a.t 63,Zq 16 (Zc QG a.links)]=[Zh (Zg a_2.name),Zi a_2.x 63,Zi a_2.y 63,Zh (Zk a_2.half),Zi a_2.t 63,Zq 16 (Zc QG a_2.links)]/\ys=lR n_1 qs/\(QU a_2/\n_1<=1000000/\qs.length=a_2.links.length)/\((∀(i:Nat) (L:QY) (q:Rat),a_2.links[i]?=some L->qs[i]?=some q->L.lo<=q/\q<=L.hi)->((0:Int)<=0/\0<Za (wN n w).length)/\∃(ys:List (List Ch)),ldE (wN n w) 0 0 1=some [Zq 3 ys]/\∃(n_2:Nat),∃(qs:List Rat),ys=lR n_2 qs/\(n_2<=1000000/\qs.length<=1000000)/\(∃(x:PnX),(PnI a (n+65) w f x/\OfNat.ofNat 0=0)/\1=1/\wN n w=wN n w/\0=0/\0=0/\1=x.i/\1=Za x.i/\34=34/\a.name=a.name/\a.x=a.x/\63<=63/\a.y=a.y/\63<=63/\a.half=a.half/\a.t=a.t/\63<=63/\16=16/\Zc QG a.links=Zc QG a.links/\55=55/\2=2/\([[Zh (Zd Zb f),Zq 3 (lR (n_2+65) qs)]]=Zc WO x.o∨QE [[Zh (Zd Zb f),Zq 3 (lR (n_2+65) qs)]] (Zc WO x.o))/\True)/\∀(x:PnX),PnI a (n+65) w f x->OfNat.ofNat 0=0->bif decide (Za x.i<Za (wN n w).length)then(0<=Zb.wrap (Za x.i-1)/\Zb.wrap (Za x.i-1)<Za (wN n w).length)/\∃(ys:List (List Ch)),ldE (wN n w) (Zb.wrap (Za x.i-1)).toNat 0 1=some [Zq 3 ys]/\(0<=Za x.i/\Za x.i<Za (wN n w).length)/\∃(ys_1:List (List Ch)),ldE (wN n w) (Za x.i).toNat 0 1=some [Zq 3 ys_1]/\∃(a_6:ArmV),∃(n_3:Nat),∃(ps:List Rat),∃(m:Nat),∃(qs:List Rat),[Zh (Zg a.name),Zi a.x 63,Zi a.y 63,Zh (Zk a.half),Zi a.t 63,Zq 16 (Zc QG a.links)]=[Zh (Zg a_6.name),Zi a_6.x 63,Zi a_6.y 63,Zh (Zk a_6.half),Zi a_6.t 63,Zq 16 (Zc QG a_6.links)]/\ys=lR n_3 ps/\ys_1=lR m qs/\(QU a_6/\(n_3<=10000/\m<=10000)/\((ps.length=a_6.links.length/\qs.length=a_6.links.length)/\(∀(i:Nat) (L:QY) (q:Rat),a_6.links[i]?=some L->ps[i]?=some q->L.lo<=q/\q<=L.hi)/\∀(i:Nat) (L:QY) (q:Rat),a_6.links[i]?=some L->qs[i]?=some q->L.lo<=q/\q<=L.hi)/\∀(i:Nat) (L:QY) (p q:Rat),a_6.links[i]?=some L->ps[i]?=some p->qs[i]?=some q->QW (q-p)<=L.sp*OfNat.ofNat 100)/\(0<=Zb.wrap (Za x.i-1)/\Zb.wrap (Za x.i-1)<Za x.i)/\∃(d:Int),ldE (Zc WO x.o) (0+(Zb.wrap (Za x.i-1)).toNat) 0 1=some [Zh (Zd Zb d)]/\bif decide (Zb.wrap (d+tkV a_6 ps qs)>2000)then K (AV.t [(false,[Zh (Zn none 0 0)]),(false,[Zh (Zd Zb 19)])])else(0<=Zb.wrap (Za x.i-1)/\Zb.wrap (Za x.i-1)<Za x.i)/\∃(d:Int),ldE (Zc WO x.o) (0+(Zb.wrap (Za x.i-1)).toNat) 0 1=some [Zh (Zd Zb d)]/\(0<=Za x.i/\Za x.i<Za (wN n w).length)/\∃(ys:List (List Ch)),ldE (wN n w) (Za x.i).toNat 0 1=some [Zq 3 ys]/\∃(n_4:Nat),∃(qs_1:List Rat),ys=lR n_4 qs_1/\(n_4<=1000000/\qs_1.length<=1000000)/\((x.i+1)*32<=140737488355328/\x.i+1<=9223372036854775807)/\∃(x':PnX),(PnI a (n+65) w f x'/\OfNat.ofNat 0=0/\w.length-x'.i<w.length-x.i)/\1=1/\wN n w=wN n w/\0=0/\0=0/\x.i+1=x'.i/\Zb.wrap (Za x.i+1)=Za x'.i/\34=34/\a.name=a.name/\a.x=a.x/\63<=63/\a.y=a.y/\63<=63/\a.half=a.half/\a.t=a.t/\63<=63/\16=16/\Zc QG a.links=Zc QG a.links/\55=55/\2=2/\(Zj x.i (Zc WO x.o)++[[Zh (Zd Zb (Zb.wrap (d+tkV a_6 ps qs))),Zq 3 (lR (n_4+65) qs_1)]]=Zc WO x'.o∨QE (Zj x.i (Zc WO x.o)++[[Zh (Zd Zb (Zb.wrap (d+tkV a_6 ps qs))),Zq 3 (lR (n_4+65) qs_1)]]) (Zc WO x'.o))/\True else K (AV.t [(false,[Zq 2 (Zj x.i (Zm 0 (Zc WO x.o)))]),(false,[Zh (Zd Zb 0)])]))/\(¬Fit a_2 qs->K (AV.t [(false,[Zh (Zn none 0 0)]),(false,[Zh (Zd Zb 17)])])))) ?_
 try simp only[Zo,R0,R1,Nat.zero_add,Nat.le_refl,R4]
 obtain⟨hg,⟨hw,hn⟩,⟨hf,hnear⟩,f0,f1⟩:=hc;have hwn:=hw.n;have hgn:=hg.n;have wl:(wN n w).length=w.length:=by simp[wN]
 have hlen: ∀{i:Nat} {q:List Rat},w[i]? =some q->q.length=a.links.length:=fun h=>hw.len _ (Zf h)
 rw[wl];obtain⟨q0,h0⟩: ∃q,w[0]? =some q:=⟨_,Ze (by omega)⟩
 have l0:=hlen h0;have ew:w=q0::w.drop 1:=by have:=QBF h0;simpa using this
 refine⟨a,rfl,hg,QC (fun h=>by have:=eq_of_beq h;omega) (fun _=>QC (fun h=>by have:=R5 h;omega) (fun _=>QC (fun h=>by have:=R5 h;omega) (fun _=>QC (fun h=>by have:=R5 h;omega) (fun _=>⟨by omega,_,QBA h0,a,n,q0,rfl,rfl,⟨hg,by omega,l0⟩,fun _=>⟨by omega,_,QBA h0,n,q0,rfl,⟨by omega,by omega⟩,⟨⟨[⟨f,n+65,q0⟩],1,f⟩,⟨⟨by simp,by simp only;omega⟩,rfl,⟨q0,h0,rfl,?_⟩,f0,by simp only;omega⟩,rfl,rfl,.inl rfl⟩,fun x hx=>QC (fun hi=> ?_) (fun hi=> ?_)⟩,fun h=>absurd (hf q0 (Zf h0)) h⟩))))⟩
 ·show[⟨f,n+65,q0⟩]++QD8 a (n+65) f q0 (w.drop 1)=KH a (n+65) f w
  conv=>rhs;rw[ew]
  rfl
 ·have hi:x.i<w.length:=by have:=R5 hi;omega
  obtain⟨p,hp,ho,he⟩:=hx.last;have x1:=hx.i.1;have xo:=hx.o;have xt:=hx.t;obtain⟨q,hq⟩: ∃q,w[x.i]? =some q:=⟨_,Ze hi⟩
  have lp:=hlen hp;have lq:=hlen hq;have hnr:QBE a p q:=hnear (x.i-1) p q hp (by rw[show x.i-1+1=x.i by omega];exact hq);have hr:=QLj hg hnr;have e1:Zb.wrap ((x.i:Int)-1)=((x.i-1:Nat):Int):=by rw[w64 (by omega)];omega
  have e2:Zb.wrap (x.t+tkV a p q)=x.t+tkV a p q:=w64 (by omega);rw[e1,Int.toNat_natCast];rw[QBF hq]at he;refine⟨by omega,_,QBA hp,by omega,_,QBA (by simpa using hq),a,n,p,n,q,rfl,rfl,rfl,⟨hg,⟨by omega,by omega⟩,⟨⟨lp,lq⟩,hf p (Zf hp),hf q (Zf hq)⟩,hnr⟩,by omega,x.t,QJR ho,QC (fun h=>by have:=R5 h;rw[e2]at this;omega) (fun _=>⟨by omega,x.t,QJR ho,by omega,_,QBA (by simpa using hq),n,q,rfl,⟨by omega,by omega⟩,⟨by omega,by omega⟩,⟨x.o++[⟨x.t+tkV a p q,n+65,q⟩],x.i+1,x.t+tkV a p q⟩,⟨⟨⟨by simp,hi⟩,by simp[xo],⟨q,by simpa using hq,?_,?_⟩,by simp only;omega,by simp only;omega⟩,by simp only;omega⟩,rfl,by rw[w64 (by omega)];simp,.inl ?_⟩)⟩
  ·simp only[Nat.add_sub_cancel];rw[List.getElem?_append_right (by omega),xo,Nat.sub_self];rfl
  ·simp only;rw[List.append_assoc];exact he
  ·simp only;rw[e2,Zl (by rw[Zp];omega),List.map_append];rfl
 ·have hi:x.i=w.length:=by have:=R6 hi;have:=hx.i.2;omega
  obtain⟨p,hp,ho,he⟩:=hx.last;rw[hi,List.drop_length]at he;have he:x.o++[]=KH a (n+65) f w:=he;rw[List.append_nil]at he;rw[List.drop_zero,Zl (by rw[Zp,hx.o];exact Nat.le_refl _),he];exact hK
def Gp:Ctr
 | [.x true xs,.x false [.s 1 ys],.x false [.v (.int .i64 f)]]=>some fun K=> ∃(a:ArmV) (n:Nat) (w:List (List Rat)),xs=Xd a/\ys=wN n w/\((QU a)/\(QFs w a.links.length/\n<=1000)/\((∀q∈w,Fit a q)/\ ∀(i:Nat) (p q:List Rat),w[i]? =some p->w[i+1]? =some q->QBE a p q)/\(0<=f/\f+100*(w.length:Int)<=2000))/\(K (.t [(false,[.s 2 ((KH a (n+65) f w).map WO)]),(false,[.v (.int .i64 0)])]))
 | _=>none
theorem QPI:QI 14 Gp:=by
 refine okL Tryz.func14 fun l T hT K hK=> ?_
 unfold Gp at hT;split at hT<;>cases hT
 obtain⟨a,n,w,rfl,rfl,hc,hK⟩:=hK;exact spL (QS QS3 QJU Qm) QM Tryz.func14 (QS4 _ _ _ _ hc K hK)
def QZ5:LC:=(14,Gp)::QPH
noncomputable def Qa8:Qb:=mkT QZ5 M99 X4
end Go.Proofs
