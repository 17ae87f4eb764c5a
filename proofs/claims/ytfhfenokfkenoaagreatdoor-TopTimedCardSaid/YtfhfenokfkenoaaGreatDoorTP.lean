/- The least integer that is not less than a rational number: plain laws. -/
import Derived.Test.YtfhfenokfkenoaaGreatDoorK1
import Derived.Test.YtfhfenokfkenoaaGreatDoorPB
import Derived.Test.YtfhfenokfkenoaaGreatDoorSH
import Derived.Test.YtfhfenokfkenoaaGreatDoorS2
open Int renaming ofNat → Za, ofNat_eq_natCast → Zp
open Go.IntKind renaming i64 → Zb
open List renaming getElem?_eq_getElem → Zc, map → Zd, mem_of_getElem? → Ze, getElem?_eq_some_iff → Zi, take → Zk, take_of_length_le → Zm, drop → Zn, length_map → Zq
open Go.Value renaming int → Zf, string → Zg, bool → Zl, slice → Zo
open Go.Eng.Ch renaming v → Zh, r → Zj, s → Zr
namespace Go.Proofs
open Go Go.Eng
def YQ (q:Rat):Int:= -(-q).floor
theorem QIe (q:Rat):q<=(YQ q:Rat):=by
 have h:=Rat.floor_le (-q);unfold YQ;rw[Rat.intCast_neg];grind
theorem QRS (q:Rat):((YQ q-1:Int):Rat)<q:=by
 have h:=Rat.lt_floor (x:= -q);unfold YQ;rw[Rat.intCast_sub,Rat.intCast_neg];have e:((1:Int):Rat)=1:=rfl;rw[e];grind
end Go.Proofs
namespace Go.Proofs
open Go Go.Eng
def tkG:List QZ->List Rat->List Rat->Int->Int
 | L::ls,p::ps,q::qs,n=>tkG ls ps qs (max n (YQ (Q5 (q-p)/L.sp)))
 | _,_,_,n=>n
def tkV (a:ArmV)(ps qs:List Rat):Int:=tkG a.links ps qs 1
def KQ (a:ArmV)(ps qs:List Rat):Prop:= ∀(i:Nat) (L:QZ) (p q:Rat),a.links[i]? =some L->ps[i]? =some p->qs[i]? =some q->Q5 (q-p)<=L.sp*100
def QKh (a:ArmV)(n:Nat)(ps:List Rat)(m:Nat)(qs:List Rat):LI:=fun id=>bif id.beq 2 then .unroll 3 else .inv ⟨Nat×Int,fun x=>⟨[(1,sR n ps),(2,sR m qs),(3,.x false [.p 3 0]),(11,iA .i64 x.2),(32,.x false [.s 16 (a.links.map QH)]),(33,iA .i64 a.links.length),(34,iA .i64 x.1)],[(3,.box 34 (XY a))]⟩,fun x=>(x.1<=a.links.length/\1<=x.2/\x.2<=100)/\tkG (a.links.drop x.1) (ps.drop x.1) (qs.drop x.1) x.2=tkV a ps qs,fun x=>a.links.length-x.1,fun _=>0⟩
def Wa (a:ArmV)(N:Nat):Int->List Rat->List (List Rat)->List Qh
 | _,_,[]=>[]
 | t,p,q::r=>⟨t+tkV a p q,N,q⟩::Wa a N (t+tkV a p q) q r
def XM (a:ArmV)(N:Nat)(t:Int):List (List Rat)->List Qh
 | []=>[]
 | q::r=>⟨t,N,q⟩::Wa a N t q r
structure PnX where
 o:List Qh
 i:Nat
 t:Int
structure PnI (a:ArmV)(N:Nat)(w:List (List Rat))(f:Int)(x:PnX):Prop where
 i:1<=x.i/\x.i<=w.length
 o:x.o.length=x.i
 last: ∃q,w[x.i-1]? =some q/\x.o[x.i-1]? =some ⟨x.t,N,q⟩/\x.o++Wa a N x.t q (w.drop x.i)=XM a N f w
 t:0<=x.t/\x.t<=f+100*((x.i:Int)-1)
def QNp (a:ArmV)(n:Nat)(w:List (List Rat))(f:Int):LI:=fun _=> .inv ⟨PnX,fun x=>⟨[(1,sW n w),(3,.x false [.p 3 0]),(10,.x false [.w 500 0 x.i]),(11,iA .i64 x.i)],[(3,.box 34 (XY a)),(500,.row 55 2 (x.o.map QP))]⟩,PnI a (n+65) w f,fun x=>w.length-x.i,fun _=>0⟩
def QNq:LC:=(162,UK)::(60,QIa)::(20,UG)::QU5
theorem K4 {α:Type}{l:List α}{i:Nat}{a:α}(h:l[i]? =some a):l.drop i=a::l.drop (i+1):=by
 have hi:=(Zi.1 h).1;rw[List.drop_eq_getElem_cons hi];rw[Zc hi]at h;rw[Option.some.inj h]
theorem QVh (p:Rat):0<=Q5 p:=by rw[UL];split<;>grind
theorem QIf {q:Rat}{n:Int}(h:q<=(n:Rat)):YQ q<=n:=by
 have h1:=QRS q;have h2:((YQ q-1:Int):Rat)<(n:Rat):=by grind
 have:=Rat.intCast_lt_intCast.1 h2;omega
theorem QIg {q:Rat}(h:0<=q):0<=YQ q:=by
 have h1:=Rat.le_trans h (QIe q);exact Rat.intCast_le_intCast.1 (show((0:Int):Rat)<=_ from h1)
theorem QNr {d s:Rat}(hs:0<s)(h0:0<=d)(h:d<=s*100):0<=d/s/\d/s<=100:=by
 have hi:0<s⁻¹:=Rat.inv_pos.2 hs;rw[Rat.div_def];refine⟨Rat.mul_nonneg h0 (Rat.le_of_lt hi),?_⟩;have:=Rat.mul_le_mul_of_nonneg_right h (Rat.le_of_lt hi);have e:s*s⁻¹=1:=Rat.mul_inv_cancel _ (by grind);grind
theorem QBz: ∀(ls:List QZ) (ps qs:List Rat) (n:Int),n<=tkG ls ps qs n/\(n<=100->(∀(i:Nat) (L:QZ) (p q:Rat),ls[i]? =some L->ps[i]? =some p->qs[i]? =some q->YQ (Q5 (q-p)/L.sp)<=100)->tkG ls ps qs n<=100):=by
 intro ls;induction ls with
 | nil=>intro ps qs n;exact⟨Int.le_refl _,fun h _=>h⟩
 | cons L ls ih=>
  intro ps qs n;cases ps with
  | nil=>exact⟨Int.le_refl _,fun h _=>h⟩
  | cons p ps=>
   cases qs with
   | nil=>exact⟨Int.le_refl _,fun h _=>h⟩
   | cons q qs=>
    obtain⟨h1,h2⟩:=ih ps qs (max n (YQ (Q5 (q-p)/L.sp)));refine⟨Int.le_trans (Int.le_max_left _ _) h1,fun hn h=>h2 ?_ fun i=>h (i+1)⟩;have:=h 0 L p q rfl rfl rfl;omega
theorem QB0 {a:ArmV}{ps qs:List Rat}(hg:QX a)(h:KQ a ps qs){i:Nat}{L:QZ}{p q:Rat}(hL:a.links[i]? =some L)(hp:ps[i]? =some p)(hq:qs[i]? =some q):(0<=Q5 (q-p)/L.sp/\Q5 (q-p)/L.sp<=100)/\0<=YQ (Q5 (q-p)/L.sp)/\YQ (Q5 (q-p)/L.sp)<=100:=by
 have hs:=(hg.links L (Ze hL)).sp;have k:=QNr hs (QVh _) (h i L p q hL hp hq);exact⟨k,QIg k.1,QIf k.2⟩
theorem U8 {a:ArmV}{ps qs:List Rat}(hg:QX a)(h:KQ a ps qs):1<=tkV a ps qs/\tkV a ps qs<=100:=by
 obtain⟨h1,h2⟩:=QBz a.links ps qs 1;exact⟨h1,h2 (by omega) fun i L p q hL hp hq=>(QB0 hg h hL hp hq).2.2⟩
theorem QIh:QG QNq:= .cons QKg (.cons QND (.cons QKX QU6))
theorem QRT (q:Rat)(n:Nat)(hc:(n<=1000000)/\(0<=q/\q<=2000))(K:AV->Prop)(hK:K (iA .i64 (YQ q))):QK (QT (mkT QNq M99 X4) (oF Tryz.f124) noL Tryz.f124 [rA q n] K):=by
 refine HV ((((-9223372036854775808:Int)<=2000/\(2000:Int)<9223372036854775808)/\n+64<=4294967296/\bif decide (YT q ↑(2000:Int)>0)then K (AV.x false [Zh (Zf Zb 2001)])else n<=4294967296/\(n<=2000000000/\ -9223372036854775808<(-q).floor/\(-q).floor<9223372036854775808)/\K (AV.x false [Zh (Zf Zb (Zb.wrap (0-(-q).floor)))]))) ?_
 try simp only[Zp,R0,R1,Nat.zero_add,Nat.le_refl,R4,R2,R3]
 obtain⟨hn,h0,h1⟩:=hc;have c0:=QIg h0;have c1:=QIf (n:=2000) (show q<=((2000:Int):Rat)from h1);have e:YQ q= -(-q).floor:=rfl;rw[e]at hK c0 c1;refine⟨by omega,by omega,QC (fun h=> ?_) (fun _=>⟨by omega,⟨by omega,by omega,by omega⟩,?_⟩)⟩
 ·have:=QNW.1 (R5 h);exact absurd (show q<=((2000:Int):Rat)from h1) (Rat.not_le.2 this)
 ·rw[w64 (by omega),Int.zero_sub];exact hK
def QDR:Ctr
 | [.x true [.r q n]]=>some fun K=>((n<=1000000)/\(0<=q/\q<=2000))/\(K (iA .i64 (YQ q)))
 | _=>none
theorem QNs:QJ 124 QDR:=by
 refine okL Tryz.func124 fun l T hT K hK=> ?_
 unfold QDR at hT;split at hT<;>cases hT
 obtain⟨hc,hK⟩:=hK;exact spL (QV QIh QAZ Qo) QN Tryz.func124 (QRT _ _ hc K hK)
def QNt:LC:=(124,QDR)::QNq
theorem QIi:QG QNt:= .cons QNs QIh
abbrev QFG (a:ArmV)(n:Nat)(ps:List Rat)(m:Nat)(qs:List Rat)(K:AV->Prop):Prop:=((QX a)/\(n<=10000/\m<=10000)/\((ps.length=a.links.length/\qs.length=a.links.length)/\Fit a ps/\Fit a qs)/\(KQ a ps qs))/\(K (.t [(false,[.v (.int .i64 (tkV a ps qs))]),(false,[.v (.int .i64 0)])]))
set_option maxHeartbeats 1000000 in
theorem QNu (a:ArmV)(n:Nat)(ps:List Rat)(m:Nat)(qs:List Rat)(K:AV->Prop)(hK:QFG a n ps m qs K):QK (QT (mkT QNt M99 X4) (oF Tryz.f66) (QKh a n ps m qs) Tryz.f66 [KT a,sR n ps,sR m qs] K):=by
 obtain⟨hc,hK⟩:=hK;refine HV ((((0:Int)<=0/\(0:Int)<2)/\∃(ys:List (List Ch)),some [Zr 3 (lR n ps)]=some [Zr 3 ys]/\∃(a_1:ArmV),∃(n_1:Nat),∃(qs_1:List Rat),[Zh (Zg a.name),Zj a.x 63,Zj a.y 63,Zh (Zl a.half),Zj a.t 63,Zr 16 (Zd QH a.links)]=[Zh (Zg a_1.name),Zj a_1.x 63,Zj a_1.y 63,Zh (Zl a_1.half),Zj a_1.t 63,Zr 16 (Zd QH a_1.links)]/\ys=lR n_1 qs_1/\(QX a_1/\n_1<=1000000/\qs_1.length=a_1.links.length)/\((∀(i:Nat) (L:QZ) (q:Rat),a_1.links[i]?=some L->qs_1[i]?=some q->L.lo<=q/\q<=L.hi)->((0:Int)<=1/\(1:Int)<2)/\∃(ys:List (List Ch)),some [Zr 3 (lR m qs)]=some [Zr 3 ys]/\∃(a_3:ArmV),∃(n_2:Nat),∃(qs_2:List Rat),[Zh (Zg a.name),Zj a.x 63,Zj a.y 63,Zh (Zl a.half),Zj a.t 63,Zr 16 (Zd QH a.links)]=[Zh (Zg a_3.name),Zj a_3.x 63,Zj a_3.y 63,Zh (Zl a_3.half),Zj a_3.t 63,Zr 16 (Zd QH a_3.links)]/\ys=lR n_2 qs_2/\(QX a_3/\n_2<=1000000/\qs_2.length=a_3.links.length)/\((∀(i:Nat) (L:QZ) (q:Rat),a_3.links[i]?=some L->qs_2[i]?=some q->L.lo<=q/\q<=L.hi)->(∃(x:Nat×Int),(((x.fst<=a.links.length/\1<=x.snd/\x.snd<=100)/\tkG (Zn x.fst a.links) (Zn x.fst ps) (Zn x.fst qs) x.snd=tkV a ps qs)/\OfNat.ofNat 0=0)/\3=3/\lR n ps=lR n ps/\3=3/\lR m qs=lR m qs/\0=0/\1=x.snd/\16=16/\Zd QH a.links=Zd QH a.links/\Za (Zd QH a.links).length=Za a.links.length/\0=Za x.fst/\34=34/\a.name=a.name/\a.x=a.x/\63<=63/\a.y=a.y/\63<=63/\a.half=a.half/\a.t=a.t/\63<=63/\16=16/\Zd QH a.links=Zd QH a.links/\True)/\∀(x:Nat×Int),(x.fst<=a.links.length/\1<=x.snd/\x.snd<=100)/\tkG (Zn x.fst a.links) (Zn x.fst ps) (Zn x.fst qs) x.snd=tkV a ps qs->OfNat.ofNat 0=0->bif decide (Za x.fst<Za a.links.length)then(0<=Za x.fst/\Za x.fst<Za (Zd QH a.links).length)/\∃(q:Rat),∃(n_3:Nat),∃(q_1:Rat),∃(n_4:Nat),∃(q_2:Rat),∃(n_5:Nat),∃(q_3:Rat),∃(n_6:Nat),∃(q_4:Rat),∃(n_7:Nat),∃(ys:List (List Ch)),ldE (Zd QH a.links) (Za x.fst).toNat 0 16=some [Zj q n_3,Zj q_1 n_4,Zj q_2 n_5,Zj q_3 n_6,Zj q_4 n_7,Zr 6 ys]/\(0<=Za x.fst/\Za x.fst<Za (lR m qs).length)/\∃(q:Rat),∃(n_8:Nat),ldE (lR m qs) (Za x.fst).toNat 0 3=some [Zj q n_8]/\(0<=Za x.fst/\Za x.fst<Za (lR n ps).length)/\∃(q_5:Rat),∃(n_9:Nat),ldE (lR n ps) (Za x.fst).toNat 0 3=some [Zj q_5 n_9]/\n_8+n_9+1<=4294967296/\n_8+n_9+1<=4294967296/\n_8+n_9+1+n_6<=4294967296/\(q_3≠OfNat.ofNat 0->(n_8+n_9+1+n_6<=1000000/\OfNat.ofNat 0<=Q5 (q-q_5)/q_3/\Q5 (q-q_5)/q_3<=OfNat.ofNat 2000)/\∃(x':Nat×Int),(((x'.fst<=a.links.length/\1<=x'.snd/\x'.snd<=100)/\tkG (Zn x'.fst a.links) (Zn x'.fst ps) (Zn x'.fst qs) x'.snd=tkV a ps qs)/\OfNat.ofNat 0=0/\a.links.length-x'.fst<a.links.length-x.fst)/\3=3/\lR n ps=lR n ps/\3=3/\lR m qs=lR m qs/\0=0/\(bif true then if YQ (Q5 (q-q_5)/q_3)>x.snd then YQ (Q5 (q-q_5)/q_3)else x.snd else if YQ (Q5 (q-q_5)/q_3)<x.snd then YQ (Q5 (q-q_5)/q_3)else x.snd)=x'.snd/\16=16/\Zd QH a.links=Zd QH a.links/\Za a.links.length=Za a.links.length/\Zb.wrap (Za x.fst+1)=Za x'.fst/\34=34/\a.name=a.name/\a.x=a.x/\63<=63/\a.y=a.y/\63<=63/\a.half=a.half/\a.t=a.t/\63<=63/\16=16/\Zd QH a.links=Zd QH a.links/\True)/\(q_3=OfNat.ofNat 0->False)else bif decide (x.snd>2000)then K (AV.t [(false,[Zh (Zf Zb 0)]),(false,[Zh (Zf Zb 19)])])else K (AV.t [(false,[Zh (Zf Zb x.snd)]),(false,[Zh (Zf Zb 0)])]))/\(¬Fit a_3 qs_2->K (AV.t [(false,[Zh (Zf Zb 0)]),(false,[Zh (Zf Zb 17)])])))/\(¬Fit a_1 qs_1->K (AV.t [(false,[Zh (Zf Zb 0)]),(false,[Zh (Zf Zb 17)])])))) ?_
 try simp only[Zp,R0,R1,Nat.le_refl,R4]
 obtain⟨hg,⟨hn,hm⟩,⟨⟨hp,hq⟩,fp,fq⟩,hnr⟩:=hc;have hgn:=hg.n;simp only[Zq,Qr];refine⟨by omega,_,rfl,a,n,ps,rfl,rfl,⟨hg,by omega,hp⟩,fun _=>⟨by omega,_,rfl,a,m,qs,rfl,rfl,⟨hg,by omega,hq⟩,fun _=>⟨⟨(0,1),⟨⟨by omega,by omega,by omega⟩,rfl⟩,rfl,trivial,rfl⟩,fun x ⟨⟨hx1,hx2,hx3⟩,he⟩=>QC (fun hi=> ?_) (fun hi=> ?_)⟩,fun h=>absurd fq h⟩,fun h=>absurd fp h⟩
 ·have hi:x.1<a.links.length:=by have:=R5 hi;omega
  obtain⟨L,hL⟩: ∃L,a.links[x.1]? =some L:=⟨_,Zc hi⟩
  obtain⟨p,hpp⟩: ∃p,ps[x.1]? =some p:=⟨_,Zc (by omega)⟩
  obtain⟨q,hqq⟩: ∃q,qs[x.1]? =some q:=⟨_,Zc (by omega)⟩
  obtain⟨⟨d0,d1⟩,c0,c1⟩:=QB0 hg hnr hL hpp hqq;have hs:=(hg.links L (Ze hL)).sp;rw[K4 hL,K4 hpp,K4 hqq]at he;have d2:Q5 (q-p)/L.sp<=2000:=Rat.le_trans d1 (by decide+kernel);refine⟨by omega,_,_,_,_,_,_,_,_,_,_,_,KC (by simpa using hL),by omega,q,m,XD (by simpa using hqq),by omega,p,n,XD (by simpa using hpp),by omega,by omega,by omega,fun _=>⟨⟨by omega,d0,d2⟩,(x.1+1,max x.2 (YQ (Q5 (q-p)/L.sp))),⟨⟨⟨hi,by simp only;omega,by simp only;omega⟩,he⟩,by simp only;omega⟩,?_,by rw[w64 (by omega)];simp⟩,fun h0=> ?_⟩
  ·simp only[R7];split<;>omega
  ·rw[h0]at hs;exact Rat.lt_irrefl hs
 ·have hi:x.1=a.links.length:=by have:=R6 hi;omega
  rw[hi,List.drop_length]at he;have he:x.2=tkV a ps qs:=he;refine QC (fun h=>by have:=R5 h;omega) (fun _=> ?_);rw[he];exact hK
def QAc:Ctr
 | [.x true xs,.x false [.s 3 ys],.x false [.s 3 zs]]=>some fun K=> ∃(a:ArmV) (n:Nat) (ps:List Rat) (m:Nat) (qs:List Rat),xs=XY a/\ys=lR n ps/\zs=lR m qs/\QFG a n ps m qs K
 | _=>none
theorem QKi:QJ 66 QAc:=by
 refine okL Tryz.func66 fun l T hT K hK=> ?_
 unfold QAc at hT;split at hT<;>cases hT
 obtain⟨a,n,ps,m,qs,rfl,rfl,rfl,hK⟩:=hK;exact spL (QV QIi QAZ Qo) QN Tryz.func66 (QNu _ _ _ _ _ K hK)
def QNv:LC:=(66,QAc)::QNt
theorem QIj:QG QNv:= .cons QKi QIi
theorem QRU (n:Nat)(qs:List Rat)(hc:(n<=1000000/\qs.length<=1000000))(K:AV->Prop)(hK:K (sR (n+65) qs)):QK (QT (mkT QNv M99 X4) (oF Tryz.f65) (fun _=> .inv ⟨Nat,fun k=>⟨[(3,.x false [.w 500 0 k]),(6,sR n qs),(7,iA .i64 qs.length),(8,iA .i64 k)],[(500,Xs (n+65) (qs.take k))]⟩,fun k=>k<=qs.length,fun k=>qs.length-k,fun _=>0⟩) Tryz.f65 [sR n qs] K):=by
 refine HV (((∃(x:Nat),(x<=qs.length/\OfNat.ofNat 0=0)/\Zo none 0 0=Zo none 0 0/\0=0/\x=0/\3=3/\lR n qs=lR n qs/\Za (lR n qs).length=Za qs.length/\0=Za x/\Zd (fun(q:Rat)=>[Zj q (n+65)]) (Zk x qs)=[]/\True)/\∀(x:Nat),x<=qs.length->OfNat.ofNat 0=0->bif decide (Za x<Za qs.length)then(0<=Za x/\Za x<Za (lR n qs).length)/\∃(q:Rat),∃(n_1:Nat),ldE (lR n qs) (Za x).toNat 0 3=some [Zj q n_1]/\((-9223372036854775808:Int)<=0/\(0:Int)<9223372036854775808)/\n_1+64+1<=4294967296/\((x+1)*40<=140737488355328/\x+1<=9223372036854775807)/\∃(x':Nat),(x'<=qs.length/\OfNat.ofNat 0=0/\qs.length-x'<qs.length-x)/\0=0/\x+1=x'/\3=3/\lR n qs=lR n qs/\Za qs.length=Za qs.length/\Zb.wrap (Za x+1)=Za x'/\25=25/\3=3/\(Zk x (Zd (fun(q:Rat)=>[Zj q (n+65)]) (Zk x qs))++[[Zj (q+↑(0:Int)) (n_1+64+1)]]=Zd (fun(q:Rat)=>[Zj q (n+65)]) (Zk x' qs)∨QE (Zk x (Zd (fun(q:Rat)=>[Zj q (n+65)]) (Zk x qs))++[[Zj (q+↑(0:Int)) (n_1+64+1)]]) (Zd (fun(q:Rat)=>[Zj q (n+65)]) (Zk x' qs)))/\True else K (AV.x false [Zr 3 (Zk x (Zn 0 (Zd (fun(q:Rat)=>[Zj q (n+65)]) (Zk x qs))))]))) ?_
 try simp only[Zp,R0,R1,R4]
 refine⟨⟨0,by omega,rfl,by rw[Qr],rfl,by simp⟩,fun x hx=>QC (fun hp=> ?_) (fun hp=> ?_)⟩
 ·have hp:x<qs.length:=by have:=R5 hp;omega
  obtain⟨q,hq⟩: ∃q,qs[x]? =some q:=⟨_,Zc hp⟩
  refine⟨by rw[Qr];omega,_,_,XD (by simpa using hq),by omega,by omega,by omega,x+1,⟨by omega,by omega⟩,rfl,by rw[w64 (by omega)];simp,.inl ?_⟩;rw[Zm (by rw[Zq,List.length_take];omega),List.take_add_one,hq,List.map_append];simp only[Option.toList,List.map_cons,List.map_nil];rw[show q+((0:Int):Rat)=q by rw[Rat.intCast_zero,Rat.add_zero]]
 ·have hp:x=qs.length:=by have:=R6 hp;omega
  subst hp;rw[List.drop_zero,List.take_length,Zm (by rw[Zq];exact Nat.le_refl _)];exact hK
def QDS:Ctr
 | [.x false [.s 3 xs]]=>some fun K=> ∃(n:Nat) (qs:List Rat),xs=lR n qs/\((n<=1000000/\qs.length<=1000000))/\(K (sR (n+65) qs))
 | _=>none
theorem QNw:QJ 65 QDS:=by
 refine okL Tryz.func65 fun l T hT K hK=> ?_
 unfold QDS at hT;split at hT<;>cases hT
 obtain⟨n,qs,rfl,hc,hK⟩:=hK;exact spL (QV QIj QAZ Qo) QN Tryz.func65 (QRU _ _ hc K hK)
def QNx:LC:=(65,QDS)::QNv
theorem QIk:QG QNx:= .cons QNw QIj
set_option maxHeartbeats 1000000 in
theorem QRV (a:ArmV)(n:Nat)(w:List (List Rat))(f:Int)(hc:(QX a)/\(WQ w a.links.length/\n<=1000)/\((∀q∈w,Fit a q)/\ ∀(i:Nat) (p q:List Rat),w[i]? =some p->w[i+1]? =some q->KQ a p q)/\(0<=f/\f+100*(w.length:Int)<=2000))(K:AV->Prop)(hK:K (.t [(false,[.s 2 ((XM a (n+65) f w).map QP)]),(false,[.v (.int .i64 0)])])):QK (QT (mkT QNx M99 X4) (oF Tryz.f14) (QNp a n w f) Tryz.f14 [KT a,sW n w,iA .i64 f] K):=by
 refine HV ((∃(a_1:ArmV),[Zh (Zg a.name),Zj a.x 63,Zj a.y 63,Zh (Zl a.half),Zj a.t 63,Zr 16 (Zd QH a.links)]=[Zh (Zg a_1.name),Zj a_1.x 63,Zj a_1.y 63,Zh (Zl a_1.half),Zj a_1.t 63,Zr 16 (Zd QH a_1.links)]/\QX a_1/\bif Za (wN n w).length==0 then K (AV.t [(false,[Zh (Zo none 0 0)]),(false,[Zh (Zf Zb 14)])])else bif decide (Za (wN n w).length>60)then K (AV.t [(false,[Zh (Zo none 0 0)]),(false,[Zh (Zf Zb 2)])])else bif decide (f<0)then K (AV.t [(false,[Zh (Zo none 0 0)]),(false,[Zh (Zf Zb 1)])])else bif decide (f>2000)then K (AV.t [(false,[Zh (Zo none 0 0)]),(false,[Zh (Zf Zb 1)])])else((0:Int)<=0/\0<Za (wN n w).length)/\∃(ys:List (List Ch)),ldE (wN n w) 0 0 1=some [Zr 3 ys]/\∃(a_2:ArmV),∃(n_1:Nat),∃(qs:List Rat),[Zh (Zg a.name),Zj a.x 63,Zj a.y 63,Zh (Zl a.half),Zj a.t 63,Zr 16 (Zd QH a.links)]=[Zh (Zg a_2.name),Zj a_2.x 63,Zj a_2.y 63,Zh (Zl a_2.half),Zj a_2.t 63,Zr 16 (Zd QH a_2.links)]/\ys=lR n_1 qs/\(QX a_2/\n_1<=1000000/\qs.length=a_2.links.length)/\((∀(i:Nat) (L:QZ) (q:Rat),a_2.links[i]?=some L->qs[i]?=some q->L.lo<=q/\q<=L.hi)->((0:Int)<=0/\0<Za (wN n w).length)/\∃(ys:List (List Ch)),ldE (wN n w) 0 0 1=some [Zr 3 ys]/\∃(n_2:Nat),∃(qs:List Rat),ys=lR n_2 qs/\(n_2<=1000000/\qs.length<=1000000)/\(∃(x:PnX),(PnI a (n+65) w f x/\OfNat.ofNat 0=0)/\1=1/\wN n w=wN n w/\0=0/\0=0/\1=x.i/\1=Za x.i/\34=34/\a.name=a.name/\a.x=a.x/\63<=63/\a.y=a.y/\63<=63/\a.half=a.half/\a.t=a.t/\63<=63/\16=16/\Zd QH a.links=Zd QH a.links/\55=55/\2=2/\([[Zh (Zf Zb f),Zr 3 (lR (n_2+65) qs)]]=Zd QP x.o∨QE [[Zh (Zf Zb f),Zr 3 (lR (n_2+65) qs)]] (Zd QP x.o))/\True)/\∀(x:PnX),PnI a (n+65) w f x->OfNat.ofNat 0=0->bif decide (Za x.i<Za (wN n w).length)then(0<=Zb.wrap (Za x.i-1)/\Zb.wrap (Za x.i-1)<Za (wN n w).length)/\∃(ys:List (List Ch)),ldE (wN n w) (Zb.wrap (Za x.i-1)).toNat 0 1=some [Zr 3 ys]/\(0<=Za x.i/\Za x.i<Za (wN n w).length)/\∃(ys_1:List (List Ch)),ldE (wN n w) (Za x.i).toNat 0 1=some [Zr 3 ys_1]/\∃(a_6:ArmV),∃(n_3:Nat),∃(ps:List Rat),∃(m:Nat),∃(qs:List Rat),[Zh (Zg a.name),Zj a.x 63,Zj a.y 63,Zh (Zl a.half),Zj a.t 63,Zr 16 (Zd QH a.links)]=[Zh (Zg a_6.name),Zj a_6.x 63,Zj a_6.y 63,Zh (Zl a_6.half),Zj a_6.t 63,Zr 16 (Zd QH a_6.links)]/\ys=lR n_3 ps/\ys_1=lR m qs/\(QX a_6/\(n_3<=10000/\m<=10000)/\((ps.length=a_6.links.length/\qs.length=a_6.links.length)/\(∀(i:Nat) (L:QZ) (q:Rat),a_6.links[i]?=some L->ps[i]?=some q->L.lo<=q/\q<=L.hi)/\∀(i:Nat) (L:QZ) (q:Rat),a_6.links[i]?=some L->qs[i]?=some q->L.lo<=q/\q<=L.hi)/\∀(i:Nat) (L:QZ) (p q:Rat),a_6.links[i]?=some L->ps[i]?=some p->qs[i]?=some q->Q5 (q-p)<=L.sp*OfNat.ofNat 100)/\(0<=Zb.wrap (Za x.i-1)/\Zb.wrap (Za x.i-1)<Za x.i)/\∃(d:Int),ldE (Zd QP x.o) (0+(Zb.wrap (Za x.i-1)).toNat) 0 1=some [Zh (Zf Zb d)]/\bif decide (Zb.wrap (d+tkV a_6 ps qs)>2000)then K (AV.t [(false,[Zh (Zo none 0 0)]),(false,[Zh (Zf Zb 19)])])else(0<=Zb.wrap (Za x.i-1)/\Zb.wrap (Za x.i-1)<Za x.i)/\∃(d:Int),ldE (Zd QP x.o) (0+(Zb.wrap (Za x.i-1)).toNat) 0 1=some [Zh (Zf Zb d)]/\(0<=Za x.i/\Za x.i<Za (wN n w).length)/\∃(ys:List (List Ch)),ldE (wN n w) (Za x.i).toNat 0 1=some [Zr 3 ys]/\∃(n_4:Nat),∃(qs_1:List Rat),ys=lR n_4 qs_1/\(n_4<=1000000/\qs_1.length<=1000000)/\((x.i+1)*32<=140737488355328/\x.i+1<=9223372036854775807)/\∃(x':PnX),(PnI a (n+65) w f x'/\OfNat.ofNat 0=0/\w.length-x'.i<w.length-x.i)/\1=1/\wN n w=wN n w/\0=0/\0=0/\x.i+1=x'.i/\Zb.wrap (Za x.i+1)=Za x'.i/\34=34/\a.name=a.name/\a.x=a.x/\63<=63/\a.y=a.y/\63<=63/\a.half=a.half/\a.t=a.t/\63<=63/\16=16/\Zd QH a.links=Zd QH a.links/\55=55/\2=2/\(Zk x.i (Zd QP x.o)++[[Zh (Zf Zb (Zb.wrap (d+tkV a_6 ps qs))),Zr 3 (lR (n_4+65) qs_1)]]=Zd QP x'.o∨QE (Zk x.i (Zd QP x.o)++[[Zh (Zf Zb (Zb.wrap (d+tkV a_6 ps qs))),Zr 3 (lR (n_4+65) qs_1)]]) (Zd QP x'.o))/\True else K (AV.t [(false,[Zr 2 (Zk x.i (Zn 0 (Zd QP x.o)))]),(false,[Zh (Zf Zb 0)])]))/\(¬Fit a_2 qs->K (AV.t [(false,[Zh (Zo none 0 0)]),(false,[Zh (Zf Zb 17)])])))) ?_
 try simp only[Zp,R0,R1,Nat.zero_add,Nat.le_refl,R4]
 obtain⟨hg,⟨hw,hn⟩,⟨hf,hnear⟩,f0,f1⟩:=hc;have hwn:=hw.n;have hgn:=hg.n;have wl:(wN n w).length=w.length:=by simp[wN]
 have hlen: ∀{i:Nat} {q:List Rat},w[i]? =some q->q.length=a.links.length:=fun h=>hw.len _ (Ze h)
 rw[wl];obtain⟨q0,h0⟩: ∃q,w[0]? =some q:=⟨_,Zc (by omega)⟩
 have l0:=hlen h0;have ew:w=q0::w.drop 1:=by have:=K4 h0;simpa using this
 refine⟨a,rfl,hg,QC (fun h=>by have:=eq_of_beq h;omega) (fun _=>QC (fun h=>by have:=R5 h;omega) (fun _=>QC (fun h=>by have:=R5 h;omega) (fun _=>QC (fun h=>by have:=R5 h;omega) (fun _=>⟨by omega,_,WZ h0,a,n,q0,rfl,rfl,⟨hg,by omega,l0⟩,fun _=>⟨by omega,_,WZ h0,n,q0,rfl,⟨by omega,by omega⟩,⟨⟨[⟨f,n+65,q0⟩],1,f⟩,⟨⟨by simp,by simp only;omega⟩,rfl,⟨q0,h0,rfl,?_⟩,f0,by simp only;omega⟩,rfl,rfl,.inl rfl⟩,fun x hx=>QC (fun hi=> ?_) (fun hi=> ?_)⟩,fun h=>absurd (hf q0 (Ze h0)) h⟩))))⟩
 ·show[⟨f,n+65,q0⟩]++Wa a (n+65) f q0 (w.drop 1)=XM a (n+65) f w
  conv=>rhs;rw[ew]
  rfl
 ·have hi:x.i<w.length:=by have:=R5 hi;omega
  obtain⟨p,hp,ho,he⟩:=hx.last;have x1:=hx.i.1;have xo:=hx.o;have xt:=hx.t;obtain⟨q,hq⟩: ∃q,w[x.i]? =some q:=⟨_,Zc hi⟩
  have lp:=hlen hp;have lq:=hlen hq;have hnr:KQ a p q:=hnear (x.i-1) p q hp (by rw[show x.i-1+1=x.i by omega];exact hq);have hr:=U8 hg hnr;have e1:Zb.wrap ((x.i:Int)-1)=((x.i-1:Nat):Int):=by rw[w64 (by omega)];omega
  have e2:Zb.wrap (x.t+tkV a p q)=x.t+tkV a p q:=w64 (by omega);rw[e1,Int.toNat_natCast];rw[K4 hq]at he;refine⟨by omega,_,WZ hp,by omega,_,WZ (by simpa using hq),a,n,p,n,q,rfl,rfl,rfl,⟨hg,⟨by omega,by omega⟩,⟨⟨lp,lq⟩,hf p (Ze hp),hf q (Ze hq)⟩,hnr⟩,by omega,x.t,Jx ho,QC (fun h=>by have:=R5 h;rw[e2]at this;omega) (fun _=>⟨by omega,x.t,Jx ho,by omega,_,WZ (by simpa using hq),n,q,rfl,⟨by omega,by omega⟩,⟨by omega,by omega⟩,⟨x.o++[⟨x.t+tkV a p q,n+65,q⟩],x.i+1,x.t+tkV a p q⟩,⟨⟨⟨by simp,hi⟩,by simp[xo],⟨q,by simpa using hq,?_,?_⟩,by simp only;omega,by simp only;omega⟩,by simp only;omega⟩,rfl,by rw[w64 (by omega)];simp,.inl ?_⟩)⟩
  ·simp only[Nat.add_sub_cancel];rw[List.getElem?_append_right (by omega),xo,Nat.sub_self];rfl
  ·simp only;rw[List.append_assoc];exact he
  ·simp only;rw[e2,Zm (by rw[Zq];omega),List.map_append];rfl
 ·have hi:x.i=w.length:=by have:=R6 hi;have:=hx.i.2;omega
  obtain⟨p,hp,ho,he⟩:=hx.last;rw[hi,List.drop_length]at he;have he:x.o++[]=XM a (n+65) f w:=he;rw[List.append_nil]at he;rw[List.drop_zero,Zm (by rw[Zq,hx.o];exact Nat.le_refl _),he];exact hK
def UM:Ctr
 | [.x true xs,.x false [.s 1 ys],.x false [.v (.int .i64 f)]]=>some fun K=> ∃(a:ArmV) (n:Nat) (w:List (List Rat)),xs=XY a/\ys=wN n w/\((QX a)/\(WQ w a.links.length/\n<=1000)/\((∀q∈w,Fit a q)/\ ∀(i:Nat) (p q:List Rat),w[i]? =some p->w[i+1]? =some q->KQ a p q)/\(0<=f/\f+100*(w.length:Int)<=2000))/\(K (.t [(false,[.s 2 ((XM a (n+65) f w).map QP)]),(false,[.v (.int .i64 0)])]))
 | _=>none
theorem QAd:QJ 14 UM:=by
 refine okL Tryz.func14 fun l T hT K hK=> ?_
 unfold UM at hT;split at hT<;>cases hT
 obtain⟨a,n,w,rfl,rfl,hc,hK⟩:=hK;exact spL (QV QIk QAZ Qo) QN Tryz.func14 (QRV _ _ _ _ hc K hK)
def QNy:LC:=(14,UM)::QNx
noncomputable def QYj:Qa:=mkT QNy M99 X4
theorem QRW:QG QNy:= .cons QAd QIk
end Go.Proofs
namespace Go.Proofs
open Go Go.Eng
def QTN:LC:=QNy
theorem QRX:QG QTN:=QRW
def QTO:LC:=QTN
theorem QRY:QG QTO:=QRX
def QTP:LC:=QTO
theorem QRZ:QG QTP:=QRY
theorem QAe {a:ArmV}{N:Nat}{w:List (List Rat)}{f:Int}:(XM a N f w).length=w.length/\(∀(i:Nat) (q:List Rat),w[i]? =some q-> ∃t,(XM a N f w)[i]? =some ⟨t,N,q⟩)/\
  (∀(i:Nat) (p q:List Rat) (t:Int),w[i]? =some p->w[i+1]? =some q->(XM a N f w)[i]? =some ⟨t,N,p⟩->(XM a N f w)[i+1]? =some ⟨t+tkV a p q,N,q⟩)/\ ∀(k:Qh),(XM a N f w)[0]? =some k->k.tick=f:=by
 have go: ∀(r:List (List Rat)) (t:Int) (p:List Rat),(Wa a N t p r).length=r.length/\(∀(i:Nat) (q:List Rat),(p::r)[i]? =some q-> ∃t',(⟨t,N,p⟩::Wa a N t p r)[i]? =some ⟨t',N,q⟩)/\
   ∀(i:Nat) (p' q:List Rat) (t':Int),(p::r)[i]? =some p'->(p::r)[i+1]? =some q->(⟨t,N,p⟩::Wa a N t p r)[i]? =some ⟨t',N,p'⟩->(⟨t,N,p⟩::Wa a N t p r)[i+1]? =some ⟨t'+tkV a p' q,N,q⟩:=by
  intro r;induction r with
  | nil=>
   intro t p;refine⟨rfl,fun i q h=> ?_,fun i p' q t' _ h=>by simp at h⟩;match i,h with
   | 0,h=>simp at h;subst h;exact⟨t,rfl⟩
  | cons b r ih=>
   intro t p;obtain⟨h1,h2,h3⟩:=ih (t+tkV a p b) b;refine⟨by simp[Wa,h1],fun i q h=> ?_,fun i p' q t' hp hq ht=> ?_⟩
   ·cases i with
    | zero=>simp at h;subst h;exact⟨t,rfl⟩
    | succ i=>exact h2 i q (by simpa using h)
   ·cases i with
    | zero=>
     simp at hp hq ht;obtain⟨rfl,rfl⟩:=ht;subst hq;rfl
    | succ i=>exact h3 i p' q t' (by simpa using hp) (by simpa using hq) (by simpa [Wa]using ht)
 cases w with
 | nil=>exact⟨rfl,by simp,by simp,fun k h=>by simp[XM]at h⟩
 | cons q r=>
  obtain⟨h1,h2,h3⟩:=go r f q;exact⟨by simp[XM,h1],h2,h3,fun k h=>by simp[XM]at h;subst h;rfl⟩
theorem QVi: ∀(ls:List QZ) (ps qs:List Rat) (n:Int) (i:Nat) (L:QZ) (p q:Rat),ls[i]? =some L->ps[i]? =some p->qs[i]? =some q->YQ (Q5 (q-p)/L.sp)<=tkG ls ps qs n:=by
 intro ls;induction ls with
 | nil=>intro ps qs n i L p q h;simp at h
 | cons M ls ih=>
  intro ps qs n i L p q h hp hq;cases ps with
  | nil=>simp at hp
  | cons p0 ps=>
   cases qs with
   | nil=>simp at hq
   | cons q0 qs=>
    cases i with
    | zero=>
     simp at h hp hq;subst h hp hq;have:=(QBz ls ps qs (max n (YQ (Q5 (q0-p0)/M.sp)))).1;simp only[tkG];omega
    | succ i=>exact ih ps qs _ i L p q (by simpa using h) (by simpa using hp) (by simpa using hq)
theorem QRa {d s:Rat}{n:Int}(hs:0<s)(h:d/s<=(n:Rat)):d<=s*(n:Rat):=by
 have e:d/s*s=d:=by rw[Rat.div_def,Rat.mul_assoc,Rat.inv_mul_cancel _ (by grind)];grind
 have:=Rat.mul_le_mul_of_nonneg_right h (Rat.le_of_lt hs);grind
theorem QKj {a:ArmV}(hg:QX a){x y:Qh}(h:y.tick=x.tick+tkV a x.q y.q):QNE a x y:=by
 intro i L p q hL hp hq;have hs:=(hg.links L (Ze hL)).sp;refine QRa hs (Rat.le_trans (QIe _) ?_);have:=QVi a.links x.q y.q 1 i L p q hL hp hq;exact Rat.intCast_le_intCast.2 (show _<=y.tick-x.tick by rw[h];unfold tkV;omega)
theorem QDT {ks:List Qh}{m N:Nat}(h:Q1 ks m N){i:Nat}{k:Qh}(hk:ks[i]? =some k):(atR ks k.tick).1=k.q:=by
 match ks,h,hk with
 | a::ks,h,hk=>
  have go: ∀(ks:List Qh) (a:Qh) (i:Nat),Q1 (a::ks) m N->(a::ks)[i]? =some k->(Xr a ks k.tick).1=k.q:=by
   intro ks;induction ks with
   | nil=>
    intro a i h hk;match i,hk with
    | 0,hk=>simp at hk;subst hk;rfl
   | cons b ks ih=>
    intro a i h hk;cases i with
    | zero=>simp at hk;subst hk;exact Gx h
    | succ i=>
     have h1:=h.tail.mono (i:=0) (j:=i) (by omega) rfl (by simpa using hk);rw[Xr,if_pos h1];exact ih b i h.tail (by simpa using hk)
  rw[atR];split
  ·rename_i hle;have h1:=h.mono (i:=0) (j:=i) (by omega) rfl hk;cases i with
   | zero=>simp at hk;subst hk;rfl
   | succ i=>
    exfalso;cases ks with
    | nil=>simp at hk
    | cons b ks=>
     have h2:=h.tail.mono (i:=0) (j:=i) (by omega) rfl (by simpa using hk);have h3:=h.head;omega
  ·exact go ks a i h hk
theorem QKk {a:ArmV}(hm:Made a){ps qs:List Rat}(hp:Fit a ps)(hq:Fit a qs):KQ a ps qs:=by
 intro i L p q hL h1 h2;obtain⟨p1,p2⟩:=hp i L p hL h1;obtain⟨q1,q2⟩:=hq i L q hL h2;obtain⟨r,i',j,s,b,tri,_,hi,hj,hs,_,rfl⟩:=hm.links L (Ze hL);have hlo: -2<=mkRat (-1-i') 3:=by
  have:i'=0∨i'=1∨i'=2∨i'=3∨i'=4∨i'=5:=by omega
  rcases this with rfl | rfl | rfl | rfl | rfl | rfl<;>decide+kernel
 have hhi:mkRat (1+j) 3<=2:=by
  have:j=0∨j=1∨j=2∨j=3∨j=4∨j=5:=by omega
  rcases this with rfl | rfl | rfl | rfl | rfl | rfl<;>decide+kernel
 have hsp:4<=mkRat 1 (4+s).toNat*100:=by
  have:s=0∨s=1∨s=2∨s=3∨s=4∨s=5∨s=6∨s=7:=by omega
  rcases this with rfl | rfl | rfl | rfl | rfl | rfl | rfl | rfl<;>decide+kernel
 show Q5 (q-p)<=mkRat 1 (4+s).toNat*100
 have p1:mkRat (-1-i') 3<=p:=p1;have q1:mkRat (-1-i') 3<=q:=q1;have p2:p<=mkRat (1+j) 3:=p2;have q2:q<=mkRat (1+j) 3:=q2;rw[UL];split<;>grind
theorem QHU {a:ArmV}{w:List (List Rat)}{f:Int}(hg:QX a)(hnr: ∀(i:Nat) (p q:List Rat),w[i]? =some p->w[i+1]? =some q->KQ a p q){N:Nat}: ∀(i:Nat) (k:Qh),(XM a N f w)[i]? =some k->f<=k.tick/\k.tick<=f+100*(i:Int):=by
 obtain⟨g1,g2,g3,g4⟩:=QAe (a:=a) (N:=N) (w:=w) (f:=f);intro i;induction i with
 | zero=>intro k hk;have:=g4 k hk;omega
 | succ i ih=>
  intro k hk;have hlt:=(Zi.1 hk).1;obtain⟨p,hp⟩: ∃p,w[i]? =some p:=⟨_,Zc (by omega)⟩
  obtain⟨q,hq⟩: ∃q,w[i+1]? =some q:=⟨_,Zc (by omega)⟩
  obtain⟨t,ht⟩:=g2 i p hp;have h1:=ih _ ht;have h2:=g3 i p q t hp hq ht;rw[hk]at h2;cases h2
  have:=U8 hg (hnr i p q hp hq);simp only at h1⊢;omega
theorem QRb {a:ArmV}{w:List (List Rat)}{f:Int}(hg:QX a)(hw:WQ w a.links.length)(hnr: ∀(i:Nat) (p q:List Rat),w[i]? =some p->w[i+1]? =some q->KQ a p q)(hfit: ∀q∈w,Fit a q)(hf:0<=f/\f+100*(w.length:Int)<=2000){N:Nat}(hN:N<=10000):
  Q1 (XM a N f w) a.links.length N/\H7 a (XM a N f w):=by
 obtain⟨g1,g2,g3,g4⟩:=QAe (a:=a) (N:=N) (w:=w) (f:=f);have hmem: ∀k∈XM a N f w,∃(i:Nat) (q:List Rat) (t:Int),w[i]? =some q/\k=⟨t,N,q⟩/\(XM a N f w)[i]? =some k:=by
  intro k hk;obtain⟨i,hi,e⟩:=List.mem_iff_getElem.1 hk;obtain⟨q,hq⟩: ∃q,w[i]? =some q:=⟨_,Zc (by omega)⟩
  obtain⟨t,ht⟩:=g2 i q hq;have hk':(XM a N f w)[i]? =some k:=by rw[Zc hi,e]
  rw[ht]at hk';exact⟨i,q,t,hq,(Option.some.inj hk').symm,by rw[ht];exact hk'⟩
 have hstep: ∀(i:Nat) (x y:Qh),(XM a N f w)[i]? =some x->(XM a N f w)[i+1]? =some y->y.tick=x.tick+tkV a x.q y.q/\KQ a x.q y.q:=by
  intro i x y hx hy;have h1:=(Zi.1 hy).1;obtain⟨p,hp⟩: ∃p,w[i]? =some p:=⟨_,Zc (by omega)⟩
  obtain⟨q,hq⟩: ∃q,w[i+1]? =some q:=⟨_,Zc (by omega)⟩
  obtain⟨t,ht⟩:=g2 i p hp;have h2:=g3 i p q t hp hq ht;rw[hx]at ht;cases ht
  rw[hy]at h2;cases h2
  exact⟨rfl,hnr i p q hp hq⟩
 have hk:Q1 (XM a N f w) a.links.length N:=by
  refine⟨fun k hk=> ?_,fun k hk=> ?_,fun k hk=> ?_,fun i x y hx hy=> ?_⟩
  ·obtain⟨i,q,t,hq,rfl,_⟩:=hmem k hk;exact hw.len q (Ze hq)
  ·obtain⟨i,q,t,hq,rfl,_⟩:=hmem k hk;exact Nat.le_refl _
  ·obtain⟨i,q,t,hq,_,hi⟩:=hmem k hk;have:=QHU hg hnr i k hi;have:=(Zi.1 hq).1;omega
  ·obtain⟨h1,h2⟩:=hstep i x y hx hy;have:=U8 hg h2;omega
 have hwn:=hw.n;refine⟨hk,hg,by omega,⟨N,hN,hk⟩,fun k hk'=> ?_,fun i x y hx hy=>QKj hg (hstep i x y hx hy).1⟩;obtain⟨i,q,t,hq,rfl,_⟩:=hmem k hk';exact hfit q (Ze hq)
end Go.Proofs
