/- The least integer that is not less than a rational number: plain laws. -/
import Derived.Test.YtfmgjnnkogpmmaaDoorK1
import Derived.Test.YtfmgjnnkogpmmaaDoorPB
import Derived.Test.YtfmgjnnkogpmmaaDoorSH
import Derived.Test.YtfmgjnnkogpmmaaDoorS2
open Go.IntKind renaming i64 → Za
open Int renaming ofNat → Zb, ofNat_eq_natCast → Zl
open Go.Value renaming int → Zc, string → Zf, bool → Zg, slice → Zp
open List renaming map → Zd, getElem?_eq_getElem → Zh, mem_of_getElem? → Zk, take → Zm, take_of_length_le → Zn, drop → Zo, length_map → Zq
open Go.Eng.Ch renaming v → Ze, s → Zi, r → Zj
namespace Go.Proofs
open Go Go.Eng
def Y6 (q:Rat):Int:= -(-q).floor
theorem QNT (q:Rat):q<=(Y6 q:Rat):=by
 have h:=Rat.floor_le (-q);unfold Y6;rw[Rat.intCast_neg];grind
theorem QNU (q:Rat):((Y6 q-1:Int):Rat)<q:=by
 have h:=Rat.lt_floor (x:= -q);unfold Y6;rw[Rat.intCast_sub,Rat.intCast_neg];have e:((1:Int):Rat)=1:=rfl;rw[e];grind
end Go.Proofs
namespace Go.Proofs
open Go Go.Eng
def tkG:List Qv->List Rat->List Rat->Int->Int
 | L::ls,p::ps,q::qs,n=>tkG ls ps qs (max n (Y6 (Qf (q-p)/L.sp)))
 | _,_,_,n=>n
def tkV (a:Qb)(ps qs:List Rat):Int:=tkG a.links ps qs 1
def QDj (a:Qb)(ps qs:List Rat):Prop:= ∀(i:Nat) (L:Qv) (p q:Rat),a.links[i]? =some L->ps[i]? =some p->qs[i]? =some q->Qf (q-p)<=L.sp*100
def QID (a:Qb)(n:Nat)(ps:List Rat)(m:Nat)(qs:List Rat):LI:=fun id=>bif id.beq 2 then .unroll 3 else .inv ⟨Nat×Int,fun x=>⟨[(1,sR n ps),(2,sR m qs),(3,.x false [.p 3 0]),(11,iA .i64 x.2),(32,.x false [.s 16 (a.links.map QC)]),(33,iA .i64 a.links.length),(34,iA .i64 x.1)],[(3,.box 48 (YM a))]⟩,fun x=>(x.1<=a.links.length/\1<=x.2/\x.2<=100)/\tkG (a.links.drop x.1) (ps.drop x.1) (qs.drop x.1) x.2=tkV a ps qs,fun x=>a.links.length-x.1,fun _=>0⟩
def QB1 (a:Qb)(N:Nat):Int->List Rat->List (List Rat)->List Qg
 | _,_,[]=>[]
 | t,p,q::r=>⟨t+tkV a p q,N,q⟩::QB1 a N (t+tkV a p q) q r
def Us (a:Qb)(N:Nat)(t:Int):List (List Rat)->List Qg
 | []=>[]
 | q::r=>⟨t,N,q⟩::QB1 a N t q r
structure PnX where
 o:List Qg
 i:Nat
 t:Int
structure PnI (a:Qb)(N:Nat)(w:List (List Rat))(f:Int)(x:PnX):Prop where
 i:1<=x.i/\x.i<=w.length
 o:x.o.length=x.i
 last: ∃q,w[x.i-1]? =some q/\x.o[x.i-1]? =some ⟨x.t,N,q⟩/\x.o++QB1 a N x.t q (w.drop x.i)=Us a N f w
 t:0<=x.t/\x.t<=f+100*((x.i:Int)-1)
def QKx (a:Qb)(n:Nat)(w:List (List Rat))(f:Int):LI:=fun _=> .inv ⟨PnX,fun x=>⟨[(1,sW n w),(3,.x false [.p 3 0]),(10,.x false [.w 500 0 x.i]),(11,iA .i64 x.i)],[(3,.box 48 (YM a)),(500,.row 58 2 (x.o.map QH))]⟩,PnI a (n+65) w f,fun x=>w.length-x.i,fun _=>0⟩
def QGW:LC:=(81,Vq)::(22,QGV)::(47,HB)::(26,Vm)::(21,Vn)::QPv
noncomputable def QKy:Qh:=mkT QGW M99 X4
theorem Gi {α:Type}{l:List α}{i:Nat}{a:α}(h:l[i]? =some a):l.drop i=a::l.drop (i+1):=by
 have hi:=(List.getElem?_eq_some_iff.1 h).1;rw[List.drop_eq_getElem_cons hi];rw[Zh hi]at h;rw[Option.some.inj h]
theorem QB2 (p:Rat):0<=Qf p:=by rw[Vr];split<;>grind
theorem QGX {q:Rat}{n:Int}(h:q<=(n:Rat)):Y6 q<=n:=by
 have h1:=QNU q;have h2:((Y6 q-1:Int):Rat)<(n:Rat):=by grind
 have:=Rat.intCast_lt_intCast.1 h2;omega
theorem QGY {q:Rat}(h:0<=q):0<=Y6 q:=by
 have h1:=Rat.le_trans h (QNT q);exact Rat.intCast_le_intCast.1 (show((0:Int):Rat)<=_ from h1)
theorem QKz {d s:Rat}(hs:0<s)(h0:0<=d)(h:d<=s*100):0<=d/s/\d/s<=100:=by
 have hi:0<s⁻¹:=Rat.inv_pos.2 hs;rw[Rat.div_def];refine⟨Rat.mul_nonneg h0 (Rat.le_of_lt hi),?_⟩;have:=Rat.mul_le_mul_of_nonneg_right h (Rat.le_of_lt hi);have e:s*s⁻¹=1:=Rat.mul_inv_cancel _ (by grind);grind
theorem QIE: ∀(ls:List Qv) (ps qs:List Rat) (n:Int),n<=tkG ls ps qs n/\(n<=100->(∀(i:Nat) (L:Qv) (p q:Rat),ls[i]? =some L->ps[i]? =some p->qs[i]? =some q->Y6 (Qf (q-p)/L.sp)<=100)->tkG ls ps qs n<=100):=by
 intro ls;induction ls with
 | nil=>intro ps qs n;exact⟨Int.le_refl _,fun h _=>h⟩
 | cons L ls ih=>
  intro ps qs n;cases ps with
  | nil=>exact⟨Int.le_refl _,fun h _=>h⟩
  | cons p ps=>
   cases qs with
   | nil=>exact⟨Int.le_refl _,fun h _=>h⟩
   | cons q qs=>
    obtain⟨h1,h2⟩:=ih ps qs (max n (Y6 (Qf (q-p)/L.sp)));refine⟨Int.le_trans (Int.le_max_left _ _) h1,fun hn h=>h2 ?_ fun i=>h (i+1)⟩;have:=h 0 L p q rfl rfl rfl;omega
theorem QAp {a:Qb}{ps qs:List Rat}(hg:Ql a)(h:QDj a ps qs){i:Nat}{L:Qv}{p q:Rat}(hL:a.links[i]? =some L)(hp:ps[i]? =some p)(hq:qs[i]? =some q):(0<=Qf (q-p)/L.sp/\Qf (q-p)/L.sp<=100)/\0<=Y6 (Qf (q-p)/L.sp)/\Y6 (Qf (q-p)/L.sp)<=100:=by
 have hs:=(hg.links L (Zk hL)).sp;have k:=QKz hs (QB2 _) (h i L p q hL hp hq);exact⟨k,QGY k.1,QGX k.2⟩
theorem QIF {a:Qb}{ps qs:List Rat}(hg:Ql a)(h:QDj a ps qs):1<=tkV a ps qs/\tkV a ps qs<=100:=by
 obtain⟨h1,h2⟩:=QIE a.links ps qs 1;exact⟨h1,h2 (by omega) fun i L p q hL hp hq=>(QAp hg h hL hp hq).2.2⟩
theorem QB3:QN QGW:= .cons QIC (.cons QKd (.cons QDf (.cons QAo (.cons ok_tCheck QPw))))
theorem QGZ:XO QKy:=Qq QB3 Vp XP
theorem QNV (q:Rat)(n:Nat)(hc:(n<=1000000)/\(0<=q/\q<=2000))(K:AV->Prop)(hK:K (iA .i64 (Y6 q))):QU (Qc QKy (oF Tryd.f71) noL Tryd.f71 [rA q n] K):=by
 refine HV ((((-9223372036854775808:Int)<=2000/\(2000:Int)<9223372036854775808)/\n+64<=4294967296/\bif decide (JS q ↑(2000:Int)>0)then K (AV.x false [Ze (Zc Za 2001)])else n<=4294967296/\(n<=2000000000/\ -9223372036854775808<(-q).floor/\(-q).floor<9223372036854775808)/\K (AV.x false [Ze (Zc Za (Za.wrap (0-(-q).floor)))]))) ?_
 try simp only[Zl,R0,R1,Nat.zero_add,Nat.le_refl,R4,R2,R3]
 obtain⟨hn,h0,h1⟩:=hc;have c0:=QGY h0;have c1:=QGX (n:=2000) (show q<=((2000:Int):Rat)from h1);have e:Y6 q= -(-q).floor:=rfl;rw[e]at hK c0 c1;refine⟨by omega,by omega,QE (fun h=> ?_) (fun _=>⟨by omega,⟨by omega,by omega,by omega⟩,?_⟩)⟩
 ·have:=QKq.1 (R5 h);exact absurd (show q<=((2000:Int):Rat)from h1) (Rat.not_le.2 this)
 ·rw[w64 (by omega),Int.zero_sub];exact hK
def QB4:Ctr
 | [.x true [.r q n]]=>some fun K=>((n<=1000000)/\(0<=q/\q<=2000))/\(K (iA .i64 (Y6 q)))
 | _=>none
theorem QK0:QT 71 QB4:=by
 refine okL Tryd.func71 fun l T hT K hK=> ?_
 unfold QB4 at hT;split at hT<;>cases hT
 obtain⟨hc,hK⟩:=hK;exact spL QGZ QW Tryd.func71 (QNV _ _ hc K hK)
def QK1:LC:=(71,QB4)::QGW
theorem QGa:QN QK1:= .cons QK0 QB3
abbrev QDk (a:Qb)(n:Nat)(ps:List Rat)(m:Nat)(qs:List Rat)(K:AV->Prop):Prop:=((Ql a)/\(n<=10000/\m<=10000)/\((ps.length=a.links.length/\qs.length=a.links.length)/\Fit a ps/\Fit a qs)/\(QDj a ps qs))/\(K (.t [(false,[.v (.int .i64 (tkV a ps qs))]),(false,[.v (.int .i64 0)])]))
set_option maxHeartbeats 1000000 in
theorem QK2 (a:Qb)(n:Nat)(ps:List Rat)(m:Nat)(qs:List Rat)(K:AV->Prop)(hK:QDk a n ps m qs K):QU (Qc (mkT QK1 M99 X4) (oF Tryd.f46) (QID a n ps m qs) Tryd.f46 [WW a,sR n ps,sR m qs] K):=by
 obtain⟨hc,hK⟩:=hK;refine HV ((((0:Int)<=0/\(0:Int)<2)/\∃(ys:List (List Ch)),some [Zi 3 (lR n ps)]=some [Zi 3 ys]/\∃(a_1:Qb),∃(n_1:Nat),∃(qs_1:List Rat),[Ze (Zf a.name),Zj a.x 63,Zj a.y 63,Ze (Zg a.half),Zj a.t 63,Zi 16 (Zd QC a.links)]=[Ze (Zf a_1.name),Zj a_1.x 63,Zj a_1.y 63,Ze (Zg a_1.half),Zj a_1.t 63,Zi 16 (Zd QC a_1.links)]/\ys=lR n_1 qs_1/\(Ql a_1/\n_1<=1000000/\qs_1.length=a_1.links.length)/\((∀(i:Nat) (L:Qv) (q:Rat),a_1.links[i]?=some L->qs_1[i]?=some q->L.lo<=q/\q<=L.hi)->((0:Int)<=1/\(1:Int)<2)/\∃(ys:List (List Ch)),some [Zi 3 (lR m qs)]=some [Zi 3 ys]/\∃(a_3:Qb),∃(n_2:Nat),∃(qs_2:List Rat),[Ze (Zf a.name),Zj a.x 63,Zj a.y 63,Ze (Zg a.half),Zj a.t 63,Zi 16 (Zd QC a.links)]=[Ze (Zf a_3.name),Zj a_3.x 63,Zj a_3.y 63,Ze (Zg a_3.half),Zj a_3.t 63,Zi 16 (Zd QC a_3.links)]/\ys=lR n_2 qs_2/\(Ql a_3/\n_2<=1000000/\qs_2.length=a_3.links.length)/\((∀(i:Nat) (L:Qv) (q:Rat),a_3.links[i]?=some L->qs_2[i]?=some q->L.lo<=q/\q<=L.hi)->(∃(x:Nat×Int),(((x.fst<=a.links.length/\1<=x.snd/\x.snd<=100)/\tkG (Zo x.fst a.links) (Zo x.fst ps) (Zo x.fst qs) x.snd=tkV a ps qs)/\OfNat.ofNat 0=0)/\3=3/\lR n ps=lR n ps/\3=3/\lR m qs=lR m qs/\0=0/\1=x.snd/\16=16/\Zd QC a.links=Zd QC a.links/\Zb (Zd QC a.links).length=Zb a.links.length/\0=Zb x.fst/\48=48/\a.name=a.name/\a.x=a.x/\63<=63/\a.y=a.y/\63<=63/\a.half=a.half/\a.t=a.t/\63<=63/\16=16/\Zd QC a.links=Zd QC a.links/\True)/\∀(x:Nat×Int),(x.fst<=a.links.length/\1<=x.snd/\x.snd<=100)/\tkG (Zo x.fst a.links) (Zo x.fst ps) (Zo x.fst qs) x.snd=tkV a ps qs->OfNat.ofNat 0=0->bif decide (Zb x.fst<Zb a.links.length)then(0<=Zb x.fst/\Zb x.fst<Zb (Zd QC a.links).length)/\∃(q:Rat),∃(n_3:Nat),∃(q_1:Rat),∃(n_4:Nat),∃(q_2:Rat),∃(n_5:Nat),∃(q_3:Rat),∃(n_6:Nat),∃(q_4:Rat),∃(n_7:Nat),∃(ys:List (List Ch)),ldE (Zd QC a.links) (Zb x.fst).toNat 0 16=some [Zj q n_3,Zj q_1 n_4,Zj q_2 n_5,Zj q_3 n_6,Zj q_4 n_7,Zi 6 ys]/\(0<=Zb x.fst/\Zb x.fst<Zb (lR m qs).length)/\∃(q:Rat),∃(n_8:Nat),ldE (lR m qs) (Zb x.fst).toNat 0 3=some [Zj q n_8]/\(0<=Zb x.fst/\Zb x.fst<Zb (lR n ps).length)/\∃(q_5:Rat),∃(n_9:Nat),ldE (lR n ps) (Zb x.fst).toNat 0 3=some [Zj q_5 n_9]/\n_8+n_9+1<=4294967296/\n_8+n_9+1<=4294967296/\n_8+n_9+1+n_6<=4294967296/\(q_3≠OfNat.ofNat 0->(n_8+n_9+1+n_6<=1000000/\OfNat.ofNat 0<=Qf (q-q_5)/q_3/\Qf (q-q_5)/q_3<=OfNat.ofNat 2000)/\∃(x':Nat×Int),(((x'.fst<=a.links.length/\1<=x'.snd/\x'.snd<=100)/\tkG (Zo x'.fst a.links) (Zo x'.fst ps) (Zo x'.fst qs) x'.snd=tkV a ps qs)/\OfNat.ofNat 0=0/\a.links.length-x'.fst<a.links.length-x.fst)/\3=3/\lR n ps=lR n ps/\3=3/\lR m qs=lR m qs/\0=0/\(bif true then if Y6 (Qf (q-q_5)/q_3)>x.snd then Y6 (Qf (q-q_5)/q_3)else x.snd else if Y6 (Qf (q-q_5)/q_3)<x.snd then Y6 (Qf (q-q_5)/q_3)else x.snd)=x'.snd/\16=16/\Zd QC a.links=Zd QC a.links/\Zb a.links.length=Zb a.links.length/\Za.wrap (Zb x.fst+1)=Zb x'.fst/\48=48/\a.name=a.name/\a.x=a.x/\63<=63/\a.y=a.y/\63<=63/\a.half=a.half/\a.t=a.t/\63<=63/\16=16/\Zd QC a.links=Zd QC a.links/\True)/\(q_3=OfNat.ofNat 0->False)else bif decide (x.snd>2000)then K (AV.t [(false,[Ze (Zc Za 0)]),(false,[Ze (Zc Za 19)])])else K (AV.t [(false,[Ze (Zc Za x.snd)]),(false,[Ze (Zc Za 0)])]))/\(¬Fit a_3 qs_2->K (AV.t [(false,[Ze (Zc Za 0)]),(false,[Ze (Zc Za 17)])])))/\(¬Fit a_1 qs_1->K (AV.t [(false,[Ze (Zc Za 0)]),(false,[Ze (Zc Za 17)])])))) ?_
 try simp only[Zl,R0,R1,Nat.le_refl,R4]
 obtain⟨hg,⟨hn,hm⟩,⟨⟨hp,hq⟩,fp,fq⟩,hnr⟩:=hc;have hgn:=hg.n;simp only[Zq,XE];refine⟨by omega,_,rfl,a,n,ps,rfl,rfl,⟨hg,by omega,hp⟩,fun _=>⟨by omega,_,rfl,a,m,qs,rfl,rfl,⟨hg,by omega,hq⟩,fun _=>⟨⟨(0,1),⟨⟨by omega,by omega,by omega⟩,rfl⟩,rfl,trivial,rfl⟩,fun x ⟨⟨hx1,hx2,hx3⟩,he⟩=>QE (fun hi=> ?_) (fun hi=> ?_)⟩,fun h=>absurd fq h⟩,fun h=>absurd fp h⟩
 ·have hi:x.1<a.links.length:=by have:=R5 hi;omega
  obtain⟨L,hL⟩: ∃L,a.links[x.1]? =some L:=⟨_,Zh hi⟩
  obtain⟨p,hpp⟩: ∃p,ps[x.1]? =some p:=⟨_,Zh (by omega)⟩
  obtain⟨q,hqq⟩: ∃q,qs[x.1]? =some q:=⟨_,Zh (by omega)⟩
  obtain⟨⟨d0,d1⟩,c0,c1⟩:=QAp hg hnr hL hpp hqq;have hs:=(hg.links L (Zk hL)).sp;rw[Gi hL,Gi hpp,Gi hqq]at he;have d2:Qf (q-p)/L.sp<=2000:=Rat.le_trans d1 (by decide+kernel);refine⟨by omega,_,_,_,_,_,_,_,_,_,_,_,Ww (by simpa using hL),by omega,q,m,Xd (by simpa using hqq),by omega,p,n,Xd (by simpa using hpp),by omega,by omega,by omega,fun _=>⟨⟨by omega,d0,d2⟩,(x.1+1,max x.2 (Y6 (Qf (q-p)/L.sp))),⟨⟨⟨hi,by simp only;omega,by simp only;omega⟩,he⟩,by simp only;omega⟩,?_,by rw[w64 (by omega)];simp⟩,fun h0=> ?_⟩
  ·simp only[R7];split<;>omega
  ·rw[h0]at hs;exact Rat.lt_irrefl hs
 ·have hi:x.1=a.links.length:=by have:=R6 hi;omega
  rw[hi,List.drop_length]at he;have he:x.2=tkV a ps qs:=he;refine QE (fun h=>by have:=R5 h;omega) (fun _=> ?_);rw[he];exact hK
def Gj:Ctr
 | [.x true xs,.x false [.s 3 ys],.x false [.s 3 zs]]=>some fun K=> ∃(a:Qb) (n:Nat) (ps:List Rat) (m:Nat) (qs:List Rat),xs=YM a/\ys=lR n ps/\zs=lR m qs/\QDk a n ps m qs K
 | _=>none
theorem QIG:QT 46 Gj:=by
 refine okL Tryd.func46 fun l T hT K hK=> ?_
 unfold Gj at hT;split at hT<;>cases hT
 obtain⟨a,n,ps,m,qs,rfl,rfl,rfl,hK⟩:=hK;exact spL (Qq QGa Vp XP) QW Tryd.func46 (QK2 _ _ _ _ _ K hK)
def QK3:LC:=(46,Gj)::QK1
theorem QGb:QN QK3:= .cons QIG QGa
theorem QNW (n:Nat)(qs:List Rat)(hc:(n<=1000000/\qs.length<=1000000))(K:AV->Prop)(hK:K (sR (n+65) qs)):QU (Qc (mkT QK3 M99 X4) (oF Tryd.f45) (fun _=> .inv ⟨Nat,fun k=>⟨[(3,.x false [.w 500 0 k]),(6,sR n qs),(7,iA .i64 qs.length),(8,iA .i64 k)],[(500,UW (n+65) (qs.take k))]⟩,fun k=>k<=qs.length,fun k=>qs.length-k,fun _=>0⟩) Tryd.f45 [sR n qs] K):=by
 refine HV (((∃(x:Nat),(x<=qs.length/\OfNat.ofNat 0=0)/\Zp none 0 0=Zp none 0 0/\0=0/\x=0/\3=3/\lR n qs=lR n qs/\Zb (lR n qs).length=Zb qs.length/\0=Zb x/\Zd (fun(q:Rat)=>[Zj q (n+65)]) (Zm x qs)=[]/\True)/\∀(x:Nat),x<=qs.length->OfNat.ofNat 0=0->bif decide (Zb x<Zb qs.length)then(0<=Zb x/\Zb x<Zb (lR n qs).length)/\∃(q:Rat),∃(n_1:Nat),ldE (lR n qs) (Zb x).toNat 0 3=some [Zj q n_1]/\((-9223372036854775808:Int)<=0/\(0:Int)<9223372036854775808)/\n_1+64+1<=4294967296/\((x+1)*40<=140737488355328/\x+1<=9223372036854775807)/\∃(x':Nat),(x'<=qs.length/\OfNat.ofNat 0=0/\qs.length-x'<qs.length-x)/\0=0/\x+1=x'/\3=3/\lR n qs=lR n qs/\Zb qs.length=Zb qs.length/\Za.wrap (Zb x+1)=Zb x'/\27=27/\3=3/\(Zm x (Zd (fun(q:Rat)=>[Zj q (n+65)]) (Zm x qs))++[[Zj (q+↑(0:Int)) (n_1+64+1)]]=Zd (fun(q:Rat)=>[Zj q (n+65)]) (Zm x' qs)∨QG (Zm x (Zd (fun(q:Rat)=>[Zj q (n+65)]) (Zm x qs))++[[Zj (q+↑(0:Int)) (n_1+64+1)]]) (Zd (fun(q:Rat)=>[Zj q (n+65)]) (Zm x' qs)))/\True else K (AV.x false [Zi 3 (Zm x (Zo 0 (Zd (fun(q:Rat)=>[Zj q (n+65)]) (Zm x qs))))]))) ?_
 try simp only[Zl,R0,R1,R4]
 refine⟨⟨0,by omega,rfl,by rw[XE],rfl,by simp⟩,fun x hx=>QE (fun hp=> ?_) (fun hp=> ?_)⟩
 ·have hp:x<qs.length:=by have:=R5 hp;omega
  obtain⟨q,hq⟩: ∃q,qs[x]? =some q:=⟨_,Zh hp⟩
  refine⟨by rw[XE];omega,_,_,Xd (by simpa using hq),by omega,by omega,by omega,x+1,⟨by omega,by omega⟩,rfl,by rw[w64 (by omega)];simp,.inl ?_⟩;rw[Zn (by rw[Zq,List.length_take];omega),List.take_add_one,hq,List.map_append];simp only[Option.toList,List.map_cons,List.map_nil];rw[show q+((0:Int):Rat)=q by rw[Rat.intCast_zero,Rat.add_zero]]
 ·have hp:x=qs.length:=by have:=R6 hp;omega
  subst hp;rw[List.drop_zero,List.take_length,Zn (by rw[Zq];exact Nat.le_refl _)];exact hK
def QB5:Ctr
 | [.x false [.s 3 xs]]=>some fun K=> ∃(n:Nat) (qs:List Rat),xs=lR n qs/\((n<=1000000/\qs.length<=1000000))/\(K (sR (n+65) qs))
 | _=>none
theorem QK4:QT 45 QB5:=by
 refine okL Tryd.func45 fun l T hT K hK=> ?_
 unfold QB5 at hT;split at hT<;>cases hT
 obtain⟨n,qs,rfl,hc,hK⟩:=hK;exact spL (Qq QGb Vp XP) QW Tryd.func45 (QNW _ _ hc K hK)
def QK5:LC:=(45,QB5)::QK3
theorem QGc:QN QK5:= .cons QK4 QGb
abbrev QGd (a:Qb)(n:Nat)(w:List (List Rat))(f:Int)(K:AV->Prop):Prop:=((Ql a)/\(QOQ w a.links.length/\n<=1000)/\((∀q∈w,Fit a q)/\ ∀(i:Nat) (p q:List Rat),w[i]? =some p->w[i+1]? =some q->QDj a p q)/\(0<=f/\f+100*(w.length:Int)<=2000))/\(K (.t [(false,[.s 2 ((Us a (n+65) f w).map QH)]),(false,[.v (.int .i64 0)])]))
set_option maxHeartbeats 1000000 in
theorem QNX (a:Qb)(n:Nat)(w:List (List Rat))(f:Int)(K:AV->Prop)(hK:QGd a n w f K):QU (Qc (mkT QK5 M99 X4) (oF Tryd.f20) (QKx a n w f) Tryd.f20 [WW a,sW n w,iA .i64 f] K):=by
 obtain⟨hc,hK⟩:=hK;refine HV ((∃(a_1:Qb),[Ze (Zf a.name),Zj a.x 63,Zj a.y 63,Ze (Zg a.half),Zj a.t 63,Zi 16 (Zd QC a.links)]=[Ze (Zf a_1.name),Zj a_1.x 63,Zj a_1.y 63,Ze (Zg a_1.half),Zj a_1.t 63,Zi 16 (Zd QC a_1.links)]/\Ql a_1/\bif Zb (wN n w).length==0 then K (AV.t [(false,[Ze (Zp none 0 0)]),(false,[Ze (Zc Za 14)])])else bif decide (Zb (wN n w).length>60)then K (AV.t [(false,[Ze (Zp none 0 0)]),(false,[Ze (Zc Za 2)])])else bif decide (f<0)then K (AV.t [(false,[Ze (Zp none 0 0)]),(false,[Ze (Zc Za 1)])])else bif decide (f>2000)then K (AV.t [(false,[Ze (Zp none 0 0)]),(false,[Ze (Zc Za 1)])])else((0:Int)<=0/\0<Zb (wN n w).length)/\∃(ys:List (List Ch)),ldE (wN n w) 0 0 1=some [Zi 3 ys]/\∃(a_2:Qb),∃(n_1:Nat),∃(qs:List Rat),[Ze (Zf a.name),Zj a.x 63,Zj a.y 63,Ze (Zg a.half),Zj a.t 63,Zi 16 (Zd QC a.links)]=[Ze (Zf a_2.name),Zj a_2.x 63,Zj a_2.y 63,Ze (Zg a_2.half),Zj a_2.t 63,Zi 16 (Zd QC a_2.links)]/\ys=lR n_1 qs/\(Ql a_2/\n_1<=1000000/\qs.length=a_2.links.length)/\((∀(i:Nat) (L:Qv) (q:Rat),a_2.links[i]?=some L->qs[i]?=some q->L.lo<=q/\q<=L.hi)->((0:Int)<=0/\0<Zb (wN n w).length)/\∃(ys:List (List Ch)),ldE (wN n w) 0 0 1=some [Zi 3 ys]/\∃(n_2:Nat),∃(qs:List Rat),ys=lR n_2 qs/\(n_2<=1000000/\qs.length<=1000000)/\(∃(x:PnX),(PnI a (n+65) w f x/\OfNat.ofNat 0=0)/\1=1/\wN n w=wN n w/\0=0/\0=0/\1=x.i/\1=Zb x.i/\48=48/\a.name=a.name/\a.x=a.x/\63<=63/\a.y=a.y/\63<=63/\a.half=a.half/\a.t=a.t/\63<=63/\16=16/\Zd QC a.links=Zd QC a.links/\58=58/\2=2/\([[Ze (Zc Za f),Zi 3 (lR (n_2+65) qs)]]=Zd QH x.o∨QG [[Ze (Zc Za f),Zi 3 (lR (n_2+65) qs)]] (Zd QH x.o))/\True)/\∀(x:PnX),PnI a (n+65) w f x->OfNat.ofNat 0=0->bif decide (Zb x.i<Zb (wN n w).length)then(0<=Za.wrap (Zb x.i-1)/\Za.wrap (Zb x.i-1)<Zb (wN n w).length)/\∃(ys:List (List Ch)),ldE (wN n w) (Za.wrap (Zb x.i-1)).toNat 0 1=some [Zi 3 ys]/\(0<=Zb x.i/\Zb x.i<Zb (wN n w).length)/\∃(ys_1:List (List Ch)),ldE (wN n w) (Zb x.i).toNat 0 1=some [Zi 3 ys_1]/\∃(a_6:Qb),∃(n_3:Nat),∃(ps:List Rat),∃(m:Nat),∃(qs:List Rat),[Ze (Zf a.name),Zj a.x 63,Zj a.y 63,Ze (Zg a.half),Zj a.t 63,Zi 16 (Zd QC a.links)]=[Ze (Zf a_6.name),Zj a_6.x 63,Zj a_6.y 63,Ze (Zg a_6.half),Zj a_6.t 63,Zi 16 (Zd QC a_6.links)]/\ys=lR n_3 ps/\ys_1=lR m qs/\(Ql a_6/\(n_3<=10000/\m<=10000)/\((ps.length=a_6.links.length/\qs.length=a_6.links.length)/\(∀(i:Nat) (L:Qv) (q:Rat),a_6.links[i]?=some L->ps[i]?=some q->L.lo<=q/\q<=L.hi)/\∀(i:Nat) (L:Qv) (q:Rat),a_6.links[i]?=some L->qs[i]?=some q->L.lo<=q/\q<=L.hi)/\∀(i:Nat) (L:Qv) (p q:Rat),a_6.links[i]?=some L->ps[i]?=some p->qs[i]?=some q->Qf (q-p)<=L.sp*OfNat.ofNat 100)/\(0<=Za.wrap (Zb x.i-1)/\Za.wrap (Zb x.i-1)<Zb x.i)/\∃(d:Int),ldE (Zd QH x.o) (0+(Za.wrap (Zb x.i-1)).toNat) 0 1=some [Ze (Zc Za d)]/\bif decide (Za.wrap (d+tkV a_6 ps qs)>2000)then K (AV.t [(false,[Ze (Zp none 0 0)]),(false,[Ze (Zc Za 19)])])else(0<=Za.wrap (Zb x.i-1)/\Za.wrap (Zb x.i-1)<Zb x.i)/\∃(d:Int),ldE (Zd QH x.o) (0+(Za.wrap (Zb x.i-1)).toNat) 0 1=some [Ze (Zc Za d)]/\(0<=Zb x.i/\Zb x.i<Zb (wN n w).length)/\∃(ys:List (List Ch)),ldE (wN n w) (Zb x.i).toNat 0 1=some [Zi 3 ys]/\∃(n_4:Nat),∃(qs_1:List Rat),ys=lR n_4 qs_1/\(n_4<=1000000/\qs_1.length<=1000000)/\((x.i+1)*32<=140737488355328/\x.i+1<=9223372036854775807)/\∃(x':PnX),(PnI a (n+65) w f x'/\OfNat.ofNat 0=0/\w.length-x'.i<w.length-x.i)/\1=1/\wN n w=wN n w/\0=0/\0=0/\x.i+1=x'.i/\Za.wrap (Zb x.i+1)=Zb x'.i/\48=48/\a.name=a.name/\a.x=a.x/\63<=63/\a.y=a.y/\63<=63/\a.half=a.half/\a.t=a.t/\63<=63/\16=16/\Zd QC a.links=Zd QC a.links/\58=58/\2=2/\(Zm x.i (Zd QH x.o)++[[Ze (Zc Za (Za.wrap (d+tkV a_6 ps qs))),Zi 3 (lR (n_4+65) qs_1)]]=Zd QH x'.o∨QG (Zm x.i (Zd QH x.o)++[[Ze (Zc Za (Za.wrap (d+tkV a_6 ps qs))),Zi 3 (lR (n_4+65) qs_1)]]) (Zd QH x'.o))/\True else K (AV.t [(false,[Zi 2 (Zm x.i (Zo 0 (Zd QH x.o)))]),(false,[Ze (Zc Za 0)])]))/\(¬Fit a_2 qs->K (AV.t [(false,[Ze (Zp none 0 0)]),(false,[Ze (Zc Za 17)])])))) ?_
 try simp only[Zl,R0,R1,Nat.zero_add,Nat.le_refl,R4]
 obtain⟨hg,⟨hw,hn⟩,⟨hf,hnear⟩,f0,f1⟩:=hc;have hwn:=hw.n;have hgn:=hg.n;have wl:(wN n w).length=w.length:=by simp[wN]
 have hlen: ∀{i:Nat} {q:List Rat},w[i]? =some q->q.length=a.links.length:=fun h=>hw.len _ (Zk h)
 rw[wl];obtain⟨q0,h0⟩: ∃q,w[0]? =some q:=⟨_,Zh (by omega)⟩
 have l0:=hlen h0;have ew:w=q0::w.drop 1:=by have:=Gi h0;simpa using this
 refine⟨a,rfl,hg,QE (fun h=>by have:=eq_of_beq h;omega) (fun _=>QE (fun h=>by have:=R5 h;omega) (fun _=>QE (fun h=>by have:=R5 h;omega) (fun _=>QE (fun h=>by have:=R5 h;omega) (fun _=>⟨by omega,_,Gg h0,a,n,q0,rfl,rfl,⟨hg,by omega,l0⟩,fun _=>⟨by omega,_,Gg h0,n,q0,rfl,⟨by omega,by omega⟩,⟨⟨[⟨f,n+65,q0⟩],1,f⟩,⟨⟨by simp,by simp only;omega⟩,rfl,⟨q0,h0,rfl,?_⟩,f0,by simp only;omega⟩,rfl,rfl,.inl rfl⟩,fun x hx=>QE (fun hi=> ?_) (fun hi=> ?_)⟩,fun h=>absurd (hf q0 (Zk h0)) h⟩))))⟩
 ·show[⟨f,n+65,q0⟩]++QB1 a (n+65) f q0 (w.drop 1)=Us a (n+65) f w
  conv=>rhs;rw[ew]
  rfl
 ·have hi:x.i<w.length:=by have:=R5 hi;omega
  obtain⟨p,hp,ho,he⟩:=hx.last;have x1:=hx.i.1;have xo:=hx.o;have xt:=hx.t;obtain⟨q,hq⟩: ∃q,w[x.i]? =some q:=⟨_,Zh hi⟩
  have lp:=hlen hp;have lq:=hlen hq;have hnr:QDj a p q:=hnear (x.i-1) p q hp (by rw[show x.i-1+1=x.i by omega];exact hq);have hr:=QIF hg hnr;have e1:Za.wrap ((x.i:Int)-1)=((x.i-1:Nat):Int):=by rw[w64 (by omega)];omega
  have e2:Za.wrap (x.t+tkV a p q)=x.t+tkV a p q:=w64 (by omega);rw[e1,Int.toNat_natCast];rw[Gi hq]at he;refine⟨by omega,_,Gg hp,by omega,_,Gg (by simpa using hq),a,n,p,n,q,rfl,rfl,rfl,⟨hg,⟨by omega,by omega⟩,⟨⟨lp,lq⟩,hf p (Zk hp),hf q (Zk hq)⟩,hnr⟩,by omega,x.t,Ku ho,QE (fun h=>by have:=R5 h;rw[e2]at this;omega) (fun _=>⟨by omega,x.t,Ku ho,by omega,_,Gg (by simpa using hq),n,q,rfl,⟨by omega,by omega⟩,⟨by omega,by omega⟩,⟨x.o++[⟨x.t+tkV a p q,n+65,q⟩],x.i+1,x.t+tkV a p q⟩,⟨⟨⟨by simp,hi⟩,by simp[xo],⟨q,by simpa using hq,?_,?_⟩,by simp only;omega,by simp only;omega⟩,by simp only;omega⟩,rfl,by rw[w64 (by omega)];simp,.inl ?_⟩)⟩
  ·simp only[Nat.add_sub_cancel];rw[List.getElem?_append_right (by omega),xo,Nat.sub_self];rfl
  ·simp only;rw[List.append_assoc];exact he
  ·simp only;rw[e2,Zn (by rw[Zq];omega),List.map_append];rfl
 ·have hi:x.i=w.length:=by have:=R6 hi;have:=hx.i.2;omega
  obtain⟨p,hp,ho,he⟩:=hx.last;rw[hi,List.drop_length]at he;have he:x.o++[]=Us a (n+65) f w:=he;rw[List.append_nil]at he;rw[List.drop_zero,Zn (by rw[Zq,hx.o];exact Nat.le_refl _),he];exact hK
def QB6:Ctr
 | [.x true xs,.x false [.s 1 ys],.x false [.v (.int .i64 f)]]=>some fun K=> ∃(a:Qb) (n:Nat) (w:List (List Rat)),xs=YM a/\ys=wN n w/\QGd a n w f K
 | _=>none
theorem QK6:QT 20 QB6:=by
 refine okL Tryd.func20 fun l T hT K hK=> ?_
 unfold QB6 at hT;split at hT<;>cases hT
 obtain⟨a,n,w,rfl,rfl,hK⟩:=hK;exact spL (Qq QGc Vp XP) QW Tryd.func20 (QNX _ _ _ _ K hK)
def QK7:LC:=(20,QB6)::QK5
noncomputable def QOR:Qh:=mkT QK7 M99 X4
theorem QGe:QN QK7:= .cons QK6 QGc
theorem QNY:XO QOR:=Qq QGe Vp XP
end Go.Proofs
namespace Go.Proofs
open Go Go.Eng
def inT (l:List Int):AV:= .x false [.s 1 (ints l)]
abbrev QAq (a:Qb)(x:Qg)(y:Qg)(K:AV->Prop):Prop:=((Ql a)/\((x.q.length=a.links.length/\y.q.length=a.links.length)/\x.n<=10000/\y.n<=10000)/\((0<=x.tick/\x.tick<y.tick/\y.tick<=2000)/\Fit a x.q/\Fit a y.q)/\(¬VB a x y))/\(K (iA .i64 19))
set_option maxHeartbeats 1000000 in
theorem QIH (a:Qb)(x:Qg)(y:Qg)(K:AV->Prop)(hK:QAq a x y K):QU (Qc QOR (oF Tryd.f21) (fun _=> .inv ⟨Nat,fun i=>⟨[(1,.x false [.s 2 [QH x,QH y]]),(2,.x false [.p 2 0]),(20,.x false [.s 2 [QH x,QH y]]),(21,iA .i64 2),(22,iA .i64 i)],[(2,.box 48 (YM a))]⟩,fun i=>i<=1,fun i=>1-i,fun _=>0⟩) Tryd.f21 [WW a,.x false [.s 2 [QH x,QH y]]] K):=by
 obtain⟨hc,hK⟩:=hK;refine HV ((∃(a_1:Qb),[Ze (Zf a.name),Zj a.x 63,Zj a.y 63,Ze (Zg a.half),Zj a.t 63,Zi 16 (Zd QC a.links)]=[Ze (Zf a_1.name),Zj a_1.x 63,Zj a_1.y 63,Ze (Zg a_1.half),Zj a_1.t 63,Zi 16 (Zd QC a_1.links)]/\Ql a_1/\(∃(x_1:Nat),(x_1<=1/\OfNat.ofNat 0=0)/\2=2/\[[Ze (Zc Za x.tick),Zi 3 (lR x.n x.q)],[Ze (Zc Za y.tick),Zi 3 (lR y.n y.q)]]=[[Ze (Zc Za x.tick),Zi 3 (lR x.n x.q)],[Ze (Zc Za y.tick),Zi 3 (lR y.n y.q)]]/\0=0/\2=2/\[[Ze (Zc Za x.tick),Zi 3 (lR x.n x.q)],[Ze (Zc Za y.tick),Zi 3 (lR y.n y.q)]]=[[Ze (Zc Za x.tick),Zi 3 (lR x.n x.q)],[Ze (Zc Za y.tick),Zi 3 (lR y.n y.q)]]/\Zb 2=2/\0=Zb x_1/\48=48/\a.name=a.name/\a.x=a.x/\63<=63/\a.y=a.y/\63<=63/\a.half=a.half/\a.t=a.t/\63<=63/\16=16/\Zd QC a.links=Zd QC a.links/\True)/\∀(x_1:Nat),x_1<=1->OfNat.ofNat 0=0->bif decide (Zb x_1<2)then(0<=Zb x_1/\Zb x_1<Zb 2)/\∃(d:Int),∃(ys:List (List Ch)),ldE [[Ze (Zc Za x.tick),Zi 3 (lR x.n x.q)],[Ze (Zc Za y.tick),Zi 3 (lR y.n y.q)]] (Zb x_1).toNat 0 2=some [Ze (Zc Za d),Zi 3 ys]/\bif decide (d<0)then K (AV.x false [Ze (Zc Za 1)])else bif decide (d>2000)then K (AV.x false [Ze (Zc Za 1)])else ∃(a_4:Qb),∃(n:Nat),∃(qs:List Rat),[Ze (Zf a.name),Zj a.x 63,Zj a.y 63,Ze (Zg a.half),Zj a.t 63,Zi 16 (Zd QC a.links)]=[Ze (Zf a_4.name),Zj a_4.x 63,Zj a_4.y 63,Ze (Zg a_4.half),Zj a_4.t 63,Zi 16 (Zd QC a_4.links)]/\ys=lR n qs/\(Ql a_4/\n<=1000000/\qs.length=a_4.links.length)/\((∀(i:Nat) (L:Qv) (q:Rat),a_4.links[i]?=some L->qs[i]?=some q->L.lo<=q/\q<=L.hi)->bif Zb x_1==0 then ∃(x':Nat),(x'<=1/\OfNat.ofNat 0=0/\1-x'<1-x_1)/\2=2/\[[Ze (Zc Za x.tick),Zi 3 (lR x.n x.q)],[Ze (Zc Za y.tick),Zi 3 (lR y.n y.q)]]=[[Ze (Zc Za x.tick),Zi 3 (lR x.n x.q)],[Ze (Zc Za y.tick),Zi 3 (lR y.n y.q)]]/\0=0/\2=2/\[[Ze (Zc Za x.tick),Zi 3 (lR x.n x.q)],[Ze (Zc Za y.tick),Zi 3 (lR y.n y.q)]]=[[Ze (Zc Za x.tick),Zi 3 (lR x.n x.q)],[Ze (Zc Za y.tick),Zi 3 (lR y.n y.q)]]/\(2:Int)=2/\Za.wrap (Zb x_1+1)=Zb x'/\48=48/\a.name=a.name/\a.x=a.x/\63<=63/\a.y=a.y/\63<=63/\a.half=a.half/\a.t=a.t/\63<=63/\16=16/\Zd QC a.links=Zd QC a.links/\True else(0<=Za.wrap (Zb x_1-1)/\Za.wrap (Zb x_1-1)<Zb 2)/\∃(d_1:Int),ldE [[Ze (Zc Za x.tick),Zi 3 (lR x.n x.q)],[Ze (Zc Za y.tick),Zi 3 (lR y.n y.q)]] (Za.wrap (Zb x_1-1)).toNat 0 1=some [Ze (Zc Za d_1)]/\bif decide (d<=d_1)then K (AV.x false [Ze (Zc Za 9)])else(0<=Za.wrap (Zb x_1-1)/\Za.wrap (Zb x_1-1)<Zb 2)/\∃(d_2:Int),∃(ys_1:List (List Ch)),ldE [[Ze (Zc Za x.tick),Zi 3 (lR x.n x.q)],[Ze (Zc Za y.tick),Zi 3 (lR y.n y.q)]] (Za.wrap (Zb x_1-1)).toNat 0 2=some [Ze (Zc Za d_2),Zi 3 ys_1]/\∃(a_6:Qb),∃(x_2:Qg),∃(y_1:Qg),[Ze (Zf a.name),Zj a.x 63,Zj a.y 63,Ze (Zg a.half),Zj a.t 63,Zi 16 (Zd QC a.links)]=[Ze (Zf a_6.name),Zj a_6.x 63,Zj a_6.y 63,Ze (Zg a_6.half),Zj a_6.t 63,Zi 16 (Zd QC a_6.links)]/\[Ze (Zc Za d_2),Zi 3 ys_1]=[Ze (Zc Za x_2.tick),Zi 3 (lR x_2.n x_2.q)]/\[Ze (Zc Za d),Zi 3 ys]=[Ze (Zc Za y_1.tick),Zi 3 (lR y_1.n y_1.q)]/\((a_6.links.length<=3/\x_2.q.length=a_6.links.length/\y_1.q.length=a_6.links.length)/\(x_2.n<=100000/\y_1.n<=100000)/\(-1000000<=x_2.tick/\x_2.tick<=1000000)/\ -1000000<=y_1.tick/\y_1.tick<=1000000)/\((∀(i:Nat) (L:Qv) (p q:Rat),a_6.links[i]?=some L->x_2.q[i]?=some p->y_1.q[i]?=some q->Qf (q-p)<=L.sp*↑(y_1.tick-x_2.tick))->∃(x':Nat),(x'<=1/\OfNat.ofNat 0=0/\1-x'<1-x_1)/\2=2/\[[Ze (Zc Za x.tick),Zi 3 (lR x.n x.q)],[Ze (Zc Za y.tick),Zi 3 (lR y.n y.q)]]=[[Ze (Zc Za x.tick),Zi 3 (lR x.n x.q)],[Ze (Zc Za y.tick),Zi 3 (lR y.n y.q)]]/\0=0/\2=2/\[[Ze (Zc Za x.tick),Zi 3 (lR x.n x.q)],[Ze (Zc Za y.tick),Zi 3 (lR y.n y.q)]]=[[Ze (Zc Za x.tick),Zi 3 (lR x.n x.q)],[Ze (Zc Za y.tick),Zi 3 (lR y.n y.q)]]/\(2:Int)=2/\Za.wrap (Zb x_1+1)=Zb x'/\48=48/\a.name=a.name/\a.x=a.x/\63<=63/\a.y=a.y/\63<=63/\a.half=a.half/\a.t=a.t/\63<=63/\16=16/\Zd QC a.links=Zd QC a.links/\True)/\(¬VB a_6 x_2 y_1->K (AV.x false [Ze (Zc Za 19)])))/\(¬Fit a_4 qs->K (AV.x false [Ze (Zc Za 17)]))else K (AV.x false [Ze (Zc Za 0)]))) ?_
 try simp only[Zl,R0,R1,Nat.le_refl,R4]
 obtain⟨hg,⟨⟨lx,ly⟩,nx,ny⟩,⟨⟨t0,t1,t2⟩,fx,fy⟩,hns⟩:=hc;have hgn:=hg.n;refine⟨a,rfl,hg,⟨0,by omega,rfl,rfl⟩,fun i hi=>QE (fun hp=> ?_) (fun hp=>by have:=R6 hp;omega)⟩;have hi2:i=0∨i=1:=by omega
 rcases hi2 with rfl | rfl
 ·refine⟨by omega,_,_,rfl,QE (fun h=>by have:=R5 h;omega) (fun _=>QE (fun h=>by have:=R5 h;omega) (fun _=>⟨a,x.n,x.q,rfl,rfl,⟨hg,by omega,lx⟩,fun _=>QE (fun _=>⟨1,⟨by omega,by omega⟩,by rw[w64 (by omega)];simp⟩) (fun h=>by simp at h),fun h=>absurd fx h⟩))⟩
 ·have e1:Za.wrap (((1:Nat):Int)-1)=0:=by rw[w64 (by omega)];rfl
  rw[e1];refine⟨by omega,_,_,rfl,QE (fun h=>by have:=R5 h;omega) (fun _=>QE (fun h=>by have:=R5 h;omega) (fun _=>⟨a,y.n,y.q,rfl,rfl,⟨hg,by omega,ly⟩,fun _=>QE (fun h=>by simp at h) (fun _=>⟨by omega,_,rfl,QE (fun h=>by have:=R5 h;omega) (fun _=>⟨by omega,_,_,rfl,a,x,y,rfl,rfl,rfl,⟨⟨by omega,lx,ly⟩,⟨by omega,by omega⟩,by omega,by omega⟩,fun hs=>absurd hs hns,fun _=>hK⟩)⟩),fun h=>absurd fy h⟩))⟩
def Ub:Ctr
 | [.x true xs,.x false [.s 2 zs]]=>some fun K=> ∃(a:Qb) (x:Qg) (y:Qg),xs=YM a/\zs=[QH x,QH y]/\QAq a x y K
 | _=>none
theorem ok_tCheckL:QT 21 Ub:=by
 refine okL Tryd.func21 fun l T hT K hK=> ?_
 unfold Ub at hT;split at hT<;>cases hT
 obtain⟨a,x,y,rfl,rfl,hK⟩:=hK;exact spL QNY QW Tryd.func21 (QIH _ _ _ K hK)
def QOS:LC:=(21,Ub)::QK7
theorem QNZ:QN QOS:= .cons ok_tCheckL QGe
def QK8:LC:=QOS
theorem QGf:QN QK8:=QNZ
set_option maxHeartbeats 1000000 in
theorem QK9 (_hc:True)(K:AV->Prop)(hK:K (.x false [.v (.bool true)])):QU (Qc (mkT QK8 M99 X4) (oF Tryd.f17) noL Tryd.f17 [] K):=by
 refine HV ((∃(ns:List Int),[[Ze (Zc Za 3)]]=ints ns/\(ns.length<=3/\∀(n:Int),n∈ns->1<=n/\n<=1000)/\(((-9223372036854775808:Int)<0/\(0:Int)<9223372036854775808)/\(0:Int)<1/\(1:Int)<9223372036854775808)/\(((-9223372036854775808:Int)<2/\(2:Int)<9223372036854775808)/\(0:Int)<1/\(1:Int)<9223372036854775808)/\∃(a:Qb),∃(n:Nat),∃(w:List (List Rat)),[Ze (Zf (Xv ns).name),Zj (Xv ns).x 63,Zj (Xv ns).y 63,Ze (Zg false),Zj (Xv ns).t 63,Zi 16 (Zd QC (Xv ns).links)]=[Ze (Zf a.name),Zj a.x 63,Zj a.y 63,Ze (Zg a.half),Zj a.t 63,Zi 16 (Zd QC a.links)]/\[[Zi 3 [[Zj (mkRat 0 1) 63]]],[Zi 3 [[Zj (mkRat 2 1) 63]]]]=wN n w/\(Ql a/\(QOQ w a.links.length/\n<=1000)/\((∀(q:List Rat),q∈w->∀(i:Nat) (L:Qv) (q_1:Rat),a.links[i]?=some L->q[i]?=some q_1->L.lo<=q_1/\q_1<=L.hi)/\∀(i:Nat) (p q:List Rat),w[i]?=some p->w[i+1]?=some q->∀(i:Nat) (L:Qv) (p_1 q_1:Rat),a.links[i]?=some L->p[i]?=some p_1->q[i]?=some q_1->Qf (q_1-p_1)<=L.sp*OfNat.ofNat 100)/\(0:Int)<=5/\5+100*Zb w.length<=2000)/\bif Zb (Zd QH (Us a (n+65) 5 w)).length==2 then((0:Int)<=1/\1<Zb (Zd QH (Us a (n+65) 5 w)).length)/\∃(d:Int),ldE (Zd QH (Us a (n+65) 5 w)) 1 0 1=some [Ze (Zc Za d)]/\K (AV.x false [Ze (Zg (d==13))])else K (AV.x false [Ze (Zg false)]))) ?_
 try simp only[Zl]
 have e:tkV (Xv [3]) [mkRat 0 1] [mkRat 2 1]=8:=by decide+kernel
 have hp:Us (Xv [3]) (63+65) 5 [[mkRat 0 1],[mkRat 2 1]]=[⟨5,128,[mkRat 0 1]⟩,⟨13,128,[mkRat 2 1]⟩]:=by
  show[(⟨5,128,[mkRat 0 1]⟩:Qg),⟨5+tkV (Xv [3]) [mkRat 0 1] [mkRat 2 1],128,[mkRat 2 1]⟩]=_
  rw[e];rfl
 have l3: ∀{i:Nat} {L:Qv},(Xv [3]).links[i]? =some L->i=0/\L=VC 3:=fun {i L} h=>by
  match i,h with
  | 0,h=>exact⟨rfl,(Option.some.inj h).symm⟩
 have o1: ∀{i:Nat} {x y:Rat},[x][i]? =some y->y=x:=fun {i x y} h=>by
  match i,h with
  | 0,h=>exact(Option.some.inj h).symm
 refine⟨[3],rfl,⟨by simp,by simp⟩,by omega,by omega,Xv [3],63,[[mkRat 0 1],[mkRat 2 1]],rfl,rfl,⟨QDh (by simp) (by simp),⟨⟨by simp,fun q hq=> ?_,by simp[Xv]⟩,by omega⟩,⟨fun q hq=> ?_,fun i p q hi hj=> ?_⟩,by simp⟩,?_⟩
 ·simp only[List.mem_cons,List.not_mem_nil,or_false]at hq;rcases hq with rfl | rfl<;>rfl
 ·intro i L x hL hx;obtain⟨rfl,rfl⟩:=l3 hL;simp only[List.mem_cons,List.not_mem_nil,or_false]at hq;rcases hq with rfl | rfl
  ·rw[o1 hx];exact⟨by decide+kernel,by decide+kernel⟩
  ·rw[o1 hx];exact⟨by decide+kernel,by decide+kernel⟩
 ·match i,hi,hj with
  | 0,hi,hj=>
   have e1:p=[mkRat 0 1]:=(Option.some.inj hi).symm;have e2:q=[mkRat 2 1]:=(Option.some.inj hj).symm;subst e1 e2;intro i L x y hL hx hy;obtain⟨rfl,rfl⟩:=l3 hL;rw[o1 hx,o1 hy];decide+kernel
  | 1,_,hj=>cases hj
 ·rw[hp];refine QE (fun _=>⟨by simp,13,rfl,hK⟩) (fun h=>by simp at h)
def Gk:Ctr
 | []=>some fun K=>(True)/\(K (.x false [.v (.bool true)]))
 | _=>none
theorem QII:QT 17 Gk:=by
 refine okL Tryd.func17 fun l T hT K hK=> ?_
 unfold Gk at hT;split at hT<;>cases hT
 obtain⟨hc,hK⟩:=hK;exact spL (Qq QGf Vp XP) QW Tryd.func17 (QK9  hc K hK)
def QOT:LC:=(17,Gk)::QK8
theorem QNa:QN QOT:= .cons QII QGf
def CkR (a:Qb)(ks:List Qg)(r:Int):Prop:=(Kw a ks/\r=0)∨ ∃x y:Qg,ks=[x,y]/\r=19/\Ql a/\((x.q.length=a.links.length/\y.q.length=a.links.length)/\x.n<=10000/\y.n<=10000)/\((0<=x.tick/\x.tick<y.tick/\y.tick<=2000)/\Fit a x.q/\Fit a y.q)/\ ¬VB a x y
def QLA:Ctr:=fun a0=>match a0 with
 | [.x true xs,.x false [.s 2 ys]]=>some fun K=> ∃(a:Qb) (ks:List Qg) (r:Int),xs=YM a/\ys=ks.map QH/\CkR a ks r/\K (iA .i64 r)
 | _=>none
def QRL:LC:=(21,QLA)::QOT
theorem QP2:QT 21 QLA:=by
 refine⟨ok_tCheck.enter,fun a0 T hT K hK=> ?_⟩;unfold QLA at hT;split at hT
 ·cases hT
  obtain⟨a,ks,r,rfl,rfl,h,hK⟩:=hK;rcases h with⟨h,rfl⟩ | ⟨x,y,rfl,rfl,h⟩
  ·exact ok_tCheck.sound _ _ rfl K ⟨a,ks,rfl,rfl,h,hK⟩
  ·exact ok_tCheckL.sound _ _ rfl K ⟨a,x,y,rfl,rfl,h,hK⟩
 ·cases hT
theorem QP3:QN QRL:= .cons QP2 QNa
theorem QP4 {ks:List Qg}{m N:Nat}(h:XD ks m N){i:Nat}{k:Qg}(hk:ks[i]? =some k):(atR ks k.tick).1=k.q:=by
 match ks,h,hk with
 | a::ks,h,hk=>
  have go: ∀(ks:List Qg) (a:Qg) (i:Nat),XD (a::ks) m N->(a::ks)[i]? =some k->(YS a ks k.tick).1=k.q:=by
   intro ks;induction ks with
   | nil=>
    intro a i h hk;match i,hk with
    | 0,hk=>simp at hk;subst hk;rfl
   | cons b ks ih=>
    intro a i h hk;cases i with
    | zero=>simp at hk;subst hk;exact H5 h
    | succ i=>
     have h1:=h.tail.mono (i:=0) (j:=i) (by omega) rfl (by simpa using hk);rw[YS,if_pos h1];exact ih b i h.tail (by simpa using hk)
  rw[atR];split
  ·rename_i hle;have h1:=h.mono (i:=0) (j:=i) (by omega) rfl hk;cases i with
   | zero=>simp at hk;subst hk;rfl
   | succ i=>
    exfalso;cases ks with
    | nil=>simp at hk
    | cons b ks=>
     have h2:=h.tail.mono (i:=0) (j:=i) (by omega) rfl (by simpa using hk);have h3:=h.head;omega
  ·exact go ks a i h hk
end Go.Proofs
