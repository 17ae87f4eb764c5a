/- frame.Back; inverse: solve, inside, Two. -/
import Derived.Test.YtfhfenokfkenoaaGreatDoorIT
open List renaming map → Za, getElem?_eq_getElem → Zd, length_map → Ze, drop → Zf, take → Zg, take_of_length_le → Zl, mem_of_getElem? → Zm, drop_eq_getElem_cons → Zn, drop_eq_nil_of_le → Zp, mem_append → Zr
open Int renaming ofNat → Zb, ofNat_eq_natCast → Zh, toNat_natCast → Zs
open Go.Eng.Ch renaming r → Zc, s → Zi, v → Zu
open Go.Value renaming slice → Zj, bool → Zq, string → Zt
open Go.IntKind renaming i64 → Zk
open Nat renaming le_refl → Zo
namespace Go.Proofs
open Go Go.Eng
def Wd (f:FrV):FrV:=⟨(0-f.x)*Vn f.h (-f.t)-(0-f.y)*VS f.h (-f.t),(0-f.x)*VS f.h (-f.t)+(0-f.y)*Vn f.h (-f.t),f.h,-f.t⟩
theorem QSJ (h:Bool)(t:Rat)(k:Nat)(hc:(h=true->t=0)/\(k<=100000000))(K:AV->Prop)(hK: ∀n,n<=k+64->K (.x true [.v (.bool h),.r (-t) n])):QK (QT QXn (oF Tryz.f144) noL Tryz.f144 [.x true [.v (.bool h),.r t k]] K):=by
 refine HV ((k<=1000000000/\∀(n:Nat),n<=k+64->n<=4294967296/\K (AV.x true [Zu (Zq h),Zc (-XR h t) n]))) ?_
 try simp only[Zh,R0,R1,Nat.zero_add,Zo,R4,R2,R3]
 have e:XR h t=t:=by
  cases h with
  | true=>rw[hc.1 rfl];rfl
  | false=>rfl
 rw[e];exact⟨by omega,fun n hn=>⟨by omega,hK n hn⟩⟩
def QDj:Ctr
 | [.x true [.v (.bool h),.r t k]]=>some fun K=>((h=true->t=0)/\(k<=100000000))/\(∀n,n<=k+64->K (.x true [.v (.bool h),.r (-t) n]))
 | _=>none
theorem QOv:QJ 144 QDj:=by
 refine okL Tryz.func144 fun l T hT K hK=> ?_
 unfold QDj at hT;split at hT<;>cases hT
 obtain⟨hc,hK⟩:=hK;exact spL QVf QN Tryz.func144 (QSJ _ _ _ hc K hK)
def QOw:LC:=(144,QDj)::QRR
theorem QJB:QG QOw:= .cons QOv QHT
theorem QSK (_hc:True)(K:AV->Prop)(hK:K (.x true [.r ((0:Int):Rat) 64,.r ((0:Int):Rat) 64,.v (.bool false),.r ((0:Int):Rat) 64])):QK (QT (mkT QOw M79 X4) (oF Tryz.f145) noL Tryz.f145 [] K):=by
 refine HV ((((-9223372036854775808:Int)<=0/\(0:Int)<9223372036854775808)/\64<=1000000000/\K (AV.x true [Zc (↑(0:Int)) 64,Zc (↑(0:Int)) 64,Zu (Zq false),Zc (↑(0:Int)) 64]))) ?_
 try simp only[Zh,R0,R1,Nat.zero_add,Zo,R4,R2,R3]
 exact⟨by omega,by omega,hK⟩
def QDk:Ctr
 | []=>some fun K=>(True)/\(K (.x true [.r ((0:Int):Rat) 64,.r ((0:Int):Rat) 64,.v (.bool false),.r ((0:Int):Rat) 64]))
 | _=>none
theorem QOx:QJ 145 QDk:=by
 refine okL Tryz.func145 fun l T hT K hK=> ?_
 unfold QDk at hT;split at hT<;>cases hT
 obtain⟨hc,hK⟩:=hK;exact spL (QV QJB YH Qo) QN Tryz.func145 (QSK  hc K hK)
def QOy:LC:=(145,QDk)::QOw
theorem QSL:QG QOy:= .cons QOx QJB
theorem QSM (x:Rat)(i:Nat)(y:Rat)(j:Nat)(h:Bool)(t:Rat)(k:Nat)(hc:(h=true->t=0)/\(i+j+k<=1000))(K:AV->Prop)(hK: ∀n m o,n<=20000->m<=20000->o<=1064->K (.x true [.r (Wd ⟨x,y,h,t⟩).x n,.r (Wd ⟨x,y,h,t⟩).y m,.v (.bool h),.r (-t) o])):QK (QT (mkT QOy M79 X4) (oF Tryz.f83) noL Tryz.f83 [.x true [.r x i,.r y j,.v (.bool h),.r t k]] K):=by
 refine HV ((((h=true->t=OfNat.ofNat 0)/\k<=100000000)/\∀(n:Nat),n<=k+64->True/\(64+i<=4294967290/\64+j<=4294967290)/\64+i+1+(64+j+1)+n<=400000000/\∀(n_1 m:Nat),n_1<=64+i+1+(64+j+1)+8*n+1000->m<=64+i+1+(64+j+1)+8*n+1000->K (AV.x true [Zc ((↑(0:Int)-x)*Vn h (-t)-(↑(0:Int)-y)*VS h (-t)) n_1,Zc ((↑(0:Int)-x)*VS h (-t)+(↑(0:Int)-y)*Vn h (-t)) m,Zu (Zq h),Zc (-t) n]))) ?_
 try simp only[R0]
 refine⟨⟨hc.1,by omega⟩,fun o ho=>⟨⟨by omega,by omega⟩,by omega,fun n m hn hm=>hK n m o (by omega) (by omega) (by omega)⟩⟩
def H9:Ctr
 | [.x true [.r x i,.r y j,.v (.bool h),.r t k]]=>some fun K=>((h=true->t=0)/\(i+j+k<=1000))/\(∀n m o,n<=20000->m<=20000->o<=1064->K (.x true [.r (Wd ⟨x,y,h,t⟩).x n,.r (Wd ⟨x,y,h,t⟩).y m,.v (.bool h),.r (-t) o]))
 | _=>none
theorem QOz:QJ 83 H9:=by
 refine okL Tryz.func83 fun l T hT K hK=> ?_
 unfold H9 at hT;split at hT<;>cases hT
 obtain⟨hc,hK⟩:=hK;exact spL (QV QSL YH Qo) QN Tryz.func83 (QSM _ _ _ _ _ _ _ hc K hK)
def QX4:LC:=(83,H9)::QOy
noncomputable def QYm:Qa:=mkT QX4 M79 X4
def Qw (r:RtV×RtV):List Ch:=[.s 3 (lR 100000 r.1.p),.r r.1.s.lo 100000,.r r.1.s.hi 100000,.s 3 (lR 100000 r.2.p),.r r.2.s.lo 100000,.r r.2.s.hi 100000]
def sP (l:List (RtV×RtV)):AV:= .x false [.s 14 (l.map Qw)]
def QSN:LC:=(187,UU)::(83,H9)::QOu
theorem QO0:QG QSN:= .cons QKx (.cons QOz QSI)
theorem QO1 {c:List (List Rat)}{m:Rat}: ∀{k:Nat} {b:Rat} {t:Sp},VY c m k b=some t->0<=b->m-b<=t.lo/\t.lo<=m/\m<=t.hi/\t.hi<=m+b:=by
 intro k;induction k with
 | zero=>intro b t h;cases h
 | succ k ih=>
  intro b t h hb;rw[VY]at h;obtain⟨h0,e0,h⟩:=bind_some h;obtain⟨bb,e1,h⟩:=bind_some h;obtain⟨l,e2,h⟩:=bind_some h;obtain⟨u,e3,h⟩:=bind_some h;obtain⟨n,_,h⟩:=bind_some h;have h0e:h0=1/2:=by have:=QHr e0;rw[this];decide+kernel
  have k1:=(YN.1 e1).2;have k2:=(YN.1 e2).2;have k3:=(YN.1 e3).2;rw[h0e]at k1;have hbb:bb=b/2:=by rw[<-k1];grind
  have again:VY c m k bb=some t->m-b<=t.lo/\t.lo<=m/\m<=t.hi/\t.hi<=m+b:=fun h=>by
   obtain⟨r1,r2,r3,r4⟩:=ih h (by grind);exact⟨by grind,r2,r3,by grind⟩
  cases hn:n==1 with
  | false=>rw[hn]at h;exact again h
  | true=>
   rw[hn]at h;simp only[R7]at h;obtain⟨z,_,h⟩:=bind_some h;cases z with
   | true=>exact again h
   | false=>
    simp only[R8]at h;obtain⟨w,_,h⟩:=bind_some h;cases w with
    | true=>exact again h
    | false=>
     cases h
     exact⟨by show m-b<=l;grind,by show l<=m;grind,by show m<=u;grind,by show u<=m+b;grind⟩
theorem QK1 {c:List (List Rat)}: ∀{k:Nat} {out o:List Sp} {s:Sp},XK c k out s=some o->s.lo<=s.hi->(∀t∈out,t.lo<=t.hi)-> ∀t∈o,t.lo<=t.hi:=by
 intro k;induction k with
 | zero=>intro out o s h;cases h
 | succ k ih=>
  intro out o s h hs ho;rw[XK]at h;obtain⟨n,hn,h⟩:=bind_some h;cases hb:n==0 with
  | true=>rw[hb]at h;cases h;exact ho
  | false=>
   rw[hb]at h;cases hb2:n==1 with
   | true=>
    rw[hb2]at h;cases h
    intro t ht;rcases Zr.1 ht with ht | ht
    ·exact ho t ht
    ·simp at ht;subst ht;exact hs
   | false=>
    rw[hb2]at h;simp only[R8]at h;obtain⟨m,hm,h⟩:=bind_some h;obtain⟨z,hz,h⟩:=bind_some h;have em:=QHr hm;cases z with
    | false=>
     obtain⟨o1,h1,h⟩:=bind_some h;exact ih h (by show m<=s.hi;grind) (ih h1 (by show s.lo<=m;grind) ho)
    | true=>
     obtain⟨b,hb0,h⟩:=bind_some h;obtain⟨t,ht,h⟩:=bind_some h;obtain⟨o1,h1,h⟩:=bind_some h;have eb:=(YN.1 hb0).2;obtain⟨r1,r2,r3,r4⟩:=QO1 ht (by grind);refine ih h (by show t.hi<=s.hi;grind) fun u hu=> ?_
     rcases Zr.1 hu with hu | hu
     ·exact ih h1 (by show s.lo<=t.lo;grind) ho u hu
     ·simp at hu;subst hu;exact Rat.le_refl
theorem QSO: ∀{l:List Rat} {s m:Rat},WR l s=some m->s<=m:=by
 intro l;induction l with
 | nil=>intro s m h;cases h;exact Rat.le_refl
 | cons x l ih=>
  intro s m h;rw[WR]at h;obtain⟨a,ha,h⟩:=bind_some h;have e:=(YN.1 ha).2;have:=ih h;have ha:0<=Q5 x:=by
   unfold Q5;split
   ·rename_i hx;have: ¬0<=x:=fun e=>by have:=Rat.num_nonneg.2 e;omega
    grind
   ·rename_i hx;exact Rat.num_nonneg.1 (by omega)
  grind
theorem QHt {c:List (List Rat)}: ∀{k:Nat} {s t:Sp} {r:Sp×Sp},Wc c k s t=some r->s.lo<=s.hi->t.lo<=t.hi->r.1.lo<=r.1.hi/\r.2.lo<=r.2.hi:=by
 intro k;induction k with
 | zero=>intro s t r h;cases h
 | succ k ih=>
  intro s t r h h1 h2;rw[Wc]at h;cases hb:decide (t.lo<=s.hi)with
  | true=>
   rw[hb]at h;obtain⟨s',e1,h⟩:=bind_some h;obtain⟨t',e2,h⟩:=bind_some h;exact ih h (HA e1 h1) (HA e2 h2)
  | false=>rw[hb]at h;cases h;exact⟨h1,h2⟩
theorem UX {o:List Sp}(ho: ∀t∈o,t.lo<=t.hi)(i:Nat):(o.getD i s0).lo<=(o.getD i s0).hi:=by
 rw[List.getD_eq_getElem?_getD];cases h:o[i]? with
 | none=>exact Rat.le_refl
 | some t=>exact ho t (Zm h)
theorem QHu {c:List (List Rat)}: ∀{k i:Nat} {o R:List Sp},Xq c k i o=some R->(∀t∈o,t.lo<=t.hi)-> ∀t∈R,t.lo<=t.hi:=by
 intro k;induction k with
 | zero=>intro i o R h;cases h;exact fun h=>h
 | succ k ih=>
  intro i o R h ho;rw[Xq]at h;obtain⟨r,hr,h⟩:=bind_some h;obtain⟨r1,r2⟩:=QHt hr (UX ho _) (UX ho _);refine ih h fun t ht=> ?_
  rcases List.mem_or_eq_of_mem_set ht with ht | ht
  ·rcases List.mem_or_eq_of_mem_set ht with ht | ht
   ·exact ho t ht
   ·subst ht;exact r1
  ·subst ht;exact r2
theorem Wp {p:List Rat}{R:List Sp}(h:WE p=some R):R.length<=1000/\ ∀t∈R,t.lo<=t.hi:=by
 obtain⟨c,m,out,_,hm,ho,hl,hR⟩:=QAs h;have h1:=QSO hm;refine⟨by rw[QHp hR];exact hl,QHu hR (QK1 ho (by show-m<=m;grind) (by simp))⟩
structure SvX where
 i:Nat
 acc:List (RtV×RtV)
def QO2 (l:List (RtV×RtV)):Blk:= .row 135 14 (l.map Qw)
theorem QDl {o:List (RtV×RtV)}{r:RtV×RtV}:Zg o.length (Za Qw o)++[Qw r]=Za Qw (o++[r]):=by
 rw[Zl (by simp),List.map_append];rfl
theorem QJC {o:List (RtV×RtV)}:Zg o.length (Zf 0 (Za Qw o))=Za Qw o:=by
 rw[List.drop_zero,Zl (by simp)]
theorem QJD {o:List (RtV×RtV)}{i:Nat}{r:RtV×RtV}(h:o[i]? =some r):ldE (o.map Qw) i 0 14=some (Qw r):=by
 simp only[ldE,List.getElem?_map,h];rfl
def QHv (x y:Rat)(p q:List Rat)(first second:List Sp)(R:List (RtV×RtV)):LI:=fun id=>
 bif id.beq 8 then .cutf [36,74] ⟨Unit,fun _=>⟨[(5,.x false [.p 5 0]),(8,sR 100000 p),(11,sR 100000 q)],[(5,.box 27 [.r x 100000,.r y 100000])]⟩,fun _=>True,fun _=>0,fun _=>0⟩
 else bif id.beq 12 then .inv ⟨SvX,fun e=>⟨[(5,.x false [.p 5 0]),(8,sR 100000 p),(11,sR 100000 q),(14,.x false [.s 6 (second.map (spN 100000))]),(16,.x false [.w 500 0 e.acc.length]),(85,.x false [.s 6 (first.map (spN 100000))]),(86,iA .i64 first.length),(87,iA .i64 e.i)],[(5,.box 27 [.r x 100000,.r y 100000]),(500,QO2 e.acc)]⟩,
  fun e=>(e.i<=first.length/\e.acc.length<=e.i)/\Js q p x y second (first.drop e.i) e.acc=some R,fun e=>first.length-e.i,fun _=>0⟩
 else .no
def Hd (l:Rat)(a:Nat)(m:Rat)(b:Nat)(x:Rat)(y:Rat)(_far:Rat)(p:List Rat)(q:List Rat)(first:List Sp)(second:List Sp)(R:List (RtV×RtV))(K:AV->Prop):Prop:=QT (mkT QSN Hp X4) (oF Tryz.f142) (QHv x y p q first second R) Tryz.f142 [rA l a,rA m b,.x true [.r x 100000,.r y 100000]] K
theorem QAv (l:Rat)(a:Nat)(m:Rat)(b:Nat)(x:Rat)(y:Rat)(far:Rat)(p:List Rat)(q:List Rat)(first:List Sp)(second:List Sp)(R:List (RtV×RtV))(K:AV->Prop):Hd l a m b x y far p q first second R K=((100000<=100000/\100000<=100000)/\∃(s:Rat),HY x y=some s/\a+b+1<=4294967296/\∃(r:Rat),Wn l m=some r/\100000<=100000/\∃(s_1:Rat),sqZ r=some s_1/\200001<=4294967296/\∃(r:Rat),Wb s s_1=some r/\((-9223372036854775808:Int)<=0/\(0:Int)<9223372036854775808)/\a+b+1<=4294967296/\∃(r_1:Rat),Wb l m=some r_1/\100000<=100000/\∃(s_2:Rat),sqZ r_1=some s_2/\200001<=4294967296/\∃(r_2:Rat),Wb s s_2=some r_2/\((0:Int)<=0/\(0:Int)<3)/\∃(q_1:Rat)(n:Nat),some [Zc r 100000]=some [Zc q_1 n]/\n<=4294967296/\bif decide (XE q_1>0)then K (AV.x false [Zu (Zj none 0 0)])else((0:Int)<=2/\(2:Int)<3)/\∃(q_2:Rat)(n:Nat),some [Zc r_2 100000]=some [Zc q_2 n]/\n<=4294967296/\bif decide (XE q_2<=0)then K (AV.x false [Zu (Zj none 0 0)])else a<=100000/\∃(s_3:Rat),sqZ l=some s_3/\200001<=4294967296/\∃(r_3:Rat),Wn s s_3=some r_3/\b<=100000/\∃(s:Rat),sqZ m=some s/\200001<=4294967296/\∃(r_4:Rat),Wb r_3 s=some r_4/\((-9223372036854775808:Int)<=2/\(2:Int)<9223372036854775808)/\a+100000<=4294967296/\∃(r_5:Rat),YM l x=some r_5/\200000<=4294967296/\∃(r_6:Rat),YM (↑(2:Int)) r_5=some r_6/\(200001<=4294967296/\∃(r_7:Rat),Wb r_4 r_6=some r_7/\((-9223372036854775808:Int)<= -4/\(-4:Int)<9223372036854775808)/\a+100000<=4294967296/\∃(r_8:Rat),YM l y=some r_8/\200000<=4294967296/\∃(r_9:Rat),YM (↑(-4:Int)) r_8=some r_9/\200001<=4294967296/\∃(r_10:Rat),Wn r_4 r_6=some r_10/\∃(_x_1:Unit),(True/\OfNat.ofNat 0=0)/\0=0/\3=3/\[[Zc r 100000],[Zc (↑(0:Int)) 100000],[Zc r_2 100000]]=lR 100000 p/\3=3/\[[Zc r_7 100000],[Zc r_9 100000],[Zc r_10 100000]]=lR 100000 q/\27=27/\x=x/\100000<=100000/\y=y/\100000<=100000/\True)/\∀(_x_1:Unit),True->OfNat.ofNat 0=0->∃(p_1:List Rat)(c:List (List Rat))(m:Rat)(out:List Sp)(R_1:List Sp),lR 100000 q=lR 100000 p_1/\(((p_1.length<=1000/\out.length<=1000)/\X6 p_1=some c)/\WR (c.getD 0 []) (OfNat.ofNat 1)=some m/\XK c 100000 [] (Sp.mk (-m) m)=some out/\Xq c (out.length-1) 1 out=some R_1)/\∃(p_2:List Rat)(c:List (List Rat))(m:Rat)(out:List Sp)(R_2:List Sp),lR 100000 p=lR 100000 p_2/\(((p_2.length<=1000/\out.length<=1000)/\X6 p_2=some c)/\WR (c.getD 0 []) (OfNat.ofNat 1)=some m/\XK c 100000 [] (Sp.mk (-m) m)=some out/\Xq c (out.length-1) 1 out=some R_2)/\(∃(x_2:SvX),(((x_2.i<=first.length/\x_2.acc.length<=x_2.i)/\Js q p x y second (Zf x_2.i first) x_2.acc=some R)/\OfNat.ofNat 0=0)/\0=0/\3=3/\lR 100000 p=lR 100000 p/\3=3/\lR 100000 q=lR 100000 q/\6=6/\Za (spN 100000) R_2=Za (spN 100000) second/\Zj none 0 0=Zj none 0 0/\0=0/\x_2.acc.length=0/\6=6/\Za (spN 100000) R_1=Za (spN 100000) first/\Zb (Za (spN 100000) R_1).length=Zb first.length/\0=Zb x_2.i/\27=27/\x=x/\100000<=100000/\y=y/\100000<=100000/\Za Qw x_2.acc=[]/\True)/\∀(x_2:SvX),(x_2.i<=first.length/\x_2.acc.length<=x_2.i)/\Js q p x y second (Zf x_2.i first) x_2.acc=some R->OfNat.ofNat 0=0->bif decide (Zb x_2.i<Zb first.length)then(0<=Zb x_2.i/\Zb x_2.i<Zb (Za (spN 100000) first).length)/\∃(q_3:Rat)(n:Nat)(q_4:Rat)(n_1:Nat),ldE (Za (spN 100000) first) (Zb x_2.i).toNat 0 6=some [Zc q_3 n,Zc q_4 n_1]/\((0:Int)<=0/\0<Zb (Za (spN 100000) second).length)/\∃(q_5:Rat)(n_2:Nat)(q_6:Rat)(n_3:Nat),ldE (Za (spN 100000) second) 0 0 6=some [Zc q_5 n_2,Zc q_6 n_3]/\bif Zb (Za (spN 100000) second).length==2 then ∃(r:RtV)(x_3:Rat)(y_1:Rat)(m:Rat)(n_4:Int),[Zi 3 (lR 100000 q),Zc q_3 n,Zc q_4 n_1]=[Zi 3 (lR 100000 r.p),Zc r.s.lo 100000,Zc r.s.hi 100000]/\[Zc x 100000,Zc y 100000]=[Zc x_3 100000,Zc y_1 100000]/\((r.p.length<=1000/\r.s.lo<=r.s.hi)/\YM (↑(-2:Int)) x_3=some m/\UP [y_1,m,-y_1] 15 16 r=some n_4)/\bif decide (n_4>0)then((0:Int)<=1/\1<Zb (Za (spN 100000) second).length)/\∃(q_7:Rat)(n_5:Nat)(q_8:Rat)(n_6:Nat),ldE (Za (spN 100000) second) 1 0 6=some [Zc q_7 n_5,Zc q_8 n_6]/\((x_2.acc.length+1)*208<=140737488355328/\x_2.acc.length+1<=9223372036854775807)/\∃(x':SvX),(((x'.i<=first.length/\x'.acc.length<=x'.i)/\Js q p x y second (Zf x'.i first) x'.acc=some R)/\OfNat.ofNat 0=0/\first.length-x'.i<first.length-x_2.i)/\0=0/\3=3/\lR 100000 p=lR 100000 p/\3=3/\lR 100000 q=lR 100000 q/\6=6/\Za (spN 100000) second=Za (spN 100000) second/\0=0/\x_2.acc.length+1=x'.acc.length/\6=6/\Za (spN 100000) first=Za (spN 100000) first/\Zb first.length=Zb first.length/\Zk.wrap (Zb x_2.i+1)=Zb x'.i/\27=27/\x=x/\100000<=100000/\y=y/\100000<=100000/\135=135/\14=14/\(Zg x_2.acc.length (Za Qw x_2.acc)++[[Zi 3 (lR 100000 q),Zc q_3 n,Zc q_4 n_1,Zi 3 (lR 100000 p),Zc q_7 n_5,Zc q_8 n_6]]=Za Qw x'.acc∨QE (Zg x_2.acc.length (Za Qw x_2.acc)++[[Zi 3 (lR 100000 q),Zc q_3 n,Zc q_4 n_1,Zi 3 (lR 100000 p),Zc q_7 n_5,Zc q_8 n_6]]) (Za Qw x'.acc))/\True else((x_2.acc.length+1)*208<=140737488355328/\x_2.acc.length+1<=9223372036854775807)/\∃(x':SvX),(((x'.i<=first.length/\x'.acc.length<=x'.i)/\Js q p x y second (Zf x'.i first) x'.acc=some R)/\OfNat.ofNat 0=0/\first.length-x'.i<first.length-x_2.i)/\0=0/\3=3/\lR 100000 p=lR 100000 p/\3=3/\lR 100000 q=lR 100000 q/\6=6/\Za (spN 100000) second=Za (spN 100000) second/\0=0/\x_2.acc.length+1=x'.acc.length/\6=6/\Za (spN 100000) first=Za (spN 100000) first/\Zb first.length=Zb first.length/\Zk.wrap (Zb x_2.i+1)=Zb x'.i/\27=27/\x=x/\100000<=100000/\y=y/\100000<=100000/\135=135/\14=14/\(Zg x_2.acc.length (Za Qw x_2.acc)++[[Zi 3 (lR 100000 q),Zc q_3 n,Zc q_4 n_1,Zi 3 (lR 100000 p),Zc q_5 n_2,Zc q_6 n_3]]=Za Qw x'.acc∨QE (Zg x_2.acc.length (Za Qw x_2.acc)++[[Zi 3 (lR 100000 q),Zc q_3 n,Zc q_4 n_1,Zi 3 (lR 100000 p),Zc q_5 n_2,Zc q_6 n_3]]) (Za Qw x'.acc))/\True else((x_2.acc.length+1)*208<=140737488355328/\x_2.acc.length+1<=9223372036854775807)/\∃(x':SvX),(((x'.i<=first.length/\x'.acc.length<=x'.i)/\Js q p x y second (Zf x'.i first) x'.acc=some R)/\OfNat.ofNat 0=0/\first.length-x'.i<first.length-x_2.i)/\0=0/\3=3/\lR 100000 p=lR 100000 p/\3=3/\lR 100000 q=lR 100000 q/\6=6/\Za (spN 100000) second=Za (spN 100000) second/\0=0/\x_2.acc.length+1=x'.acc.length/\6=6/\Za (spN 100000) first=Za (spN 100000) first/\Zb first.length=Zb first.length/\Zk.wrap (Zb x_2.i+1)=Zb x'.i/\27=27/\x=x/\100000<=100000/\y=y/\100000<=100000/\135=135/\14=14/\(Zg x_2.acc.length (Za Qw x_2.acc)++[[Zi 3 (lR 100000 q),Zc q_3 n,Zc q_4 n_1,Zi 3 (lR 100000 p),Zc q_5 n_2,Zc q_6 n_3]]=Za Qw x'.acc∨QE (Zg x_2.acc.length (Za Qw x_2.acc)++[[Zi 3 (lR 100000 q),Zc q_3 n,Zc q_4 n_1,Zi 3 (lR 100000 p),Zc q_5 n_2,Zc q_6 n_3]]) (Za Qw x'.acc))/\True else K (AV.x false [Zi 14 (Zg x_2.acc.length (Zf 0 (Za Qw x_2.acc)))])):=by kernel_rfl
theorem QO3 (l:Rat)(a:Nat)(m:Rat)(b:Nat)(x:Rat)(y:Rat)(far:Rat)(p:List Rat)(q:List Rat)(first:List Sp)(second:List Sp)(R:List (RtV×RtV))(hc:(a<=100000/\b<=100000)/\((HY x y=some far/\QB3 l m far=some p)/\((0<XE (p.getD 0 0)∨XE (p.getD 2 0)<=0)/\R=[]∨ ¬(0<XE (p.getD 0 0)∨XE (p.getD 2 0)<=0)/\QB4 l m x y far=some q/\WE q=some first/\WE p=some second/\1<=second.length/\Js q p x y second first []=some R)))(K:AV->Prop)(hK:(R=[]->K (.x false [.v (.slice none 0 0)]))/\K (sP R)):QK (Hd l a m b x y far p q first second R K):=by
 refine⟨?_⟩;rw[QAv];try simp only[Zh,R0,R1,Zo,R4]
 obtain⟨⟨ha,hb⟩,⟨hf,hp⟩,hc⟩:=hc;obtain⟨hK0,hK⟩:=hK;unfold QB3 at hp;obtain⟨a1,h1,hp⟩:=bind_some hp;obtain⟨a2,h2,hp⟩:=bind_some hp;obtain⟨p0,h3,hp⟩:=bind_some hp;obtain⟨b1,h4,hp⟩:=bind_some hp;obtain⟨b2,h5,hp⟩:=bind_some hp;obtain⟨p2,h6,hp⟩:=bind_some hp;cases hp
 rw[show[p0,0,p2].getD 0 0=p0 from rfl,show[p0,0,p2].getD 2 0=p2 from rfl]at hc;refine⟨far,hf,by omega,a1,h1,a2,h2,by omega,p0,h3,⟨by omega,by omega⟩,by omega,b1,h4,b2,h5,by omega,p2,h6,⟨by omega,by omega⟩,p0,100000,rfl,by omega,QC (fun s1=> ?_) (fun s1=>⟨⟨by omega,by omega⟩,p2,100000,rfl,by omega,QC (fun s2=> ?_) (fun s2=> ?_)⟩)⟩
 ·rcases hc with⟨_,e⟩ | ⟨e,_⟩
  ·exact hK0 e
  ·exact absurd (.inl (R5 s1)) e
 ·rcases hc with⟨_,e⟩ | ⟨e,_⟩
  ·exact hK0 e
  ·exact absurd (.inr (R5 s2)) e
 ·rcases hc with⟨e,_⟩ | ⟨_,hq,r1,r2,hl,hR⟩
  ·have:=R6 s1;have:=R6 s2;rcases e with e | e
   ·exact absurd e (by assumption)
   ·exact absurd e (by assumption)
  ·unfold QB4 at hq;obtain⟨l2,g1,hq⟩:=bind_some hq;obtain⟨f,g2,hq⟩:=bind_some hq;obtain⟨m2,g3,hq⟩:=bind_some hq;obtain⟨k,g4,hq⟩:=bind_some hq;obtain⟨lx,g5,hq⟩:=bind_some hq;obtain⟨u,g6,hq⟩:=bind_some hq;obtain⟨q0,g7,hq⟩:=bind_some hq;obtain⟨ly,g8,hq⟩:=bind_some hq;obtain⟨q1,g9,hq⟩:=bind_some hq;obtain⟨q2,g10,hq⟩:=bind_some hq;cases hq
   obtain⟨c,m',out,k1,k2,k3,k4,k5⟩:=QAs r1;obtain⟨c',m'',out',k1',k2',k3',k4',k5'⟩:=QAs r2;have ord:=(Wp r1).2;have fl:=(Wp r1).1;obtain⟨t0,ht0⟩: ∃t,second[0]? =some t:=⟨_,Zd (by omega)⟩
   refine⟨by omega,l2,g1,by omega,f,g2,by omega,m2,g3,by omega,k,g4,⟨by omega,by omega⟩,by omega,lx,g5,by omega,u,g6,⟨by omega,q0,g7,⟨by omega,by omega⟩,by omega,ly,g8,by omega,q1,g9,by omega,q2,g10,(),rfl,rfl⟩,
    fun _=>⟨[q0,q1,q2],c,m',out,first,rfl,⟨⟨⟨by simp,k4⟩,k1⟩,k2,k3,k5⟩,[p0,0,p2],c',m'',out',second,rfl,⟨⟨⟨by simp,k4'⟩,k1'⟩,k2',k3',k5'⟩,⟨⟨0,[]⟩,⟨⟨Nat.zero_le _,Zo _⟩,hR⟩,rfl,rfl,rfl,by rw[Ze],rfl,rfl⟩,fun z ⟨⟨z1,z2⟩,zv⟩=>QC (fun hj=> ?_) (fun hj=> ?_)⟩⟩
   ·have hj:z.i<first.length:=by have:=R5 hj;omega
    obtain⟨s,hs⟩: ∃s,first[z.i]? =some s:=⟨_,Zd (by omega)⟩
    have ed:first.drop z.i=s::first.drop (z.i+1):=by
     rw[Zn hj];congr 1;rw[Zd hj]at hs;exact Option.some.inj hs
    have os:=ord s (Zm hs);rw[ed,Js]at zv;rw[Zs];refine⟨⟨by omega,by rw[Ze];omega⟩,s.lo,100000,s.hi,100000,QFF hs,⟨by omega,by rw[Ze];omega⟩,t0.lo,100000,t0.hi,100000,QFF ht0,QC (fun e2=> ?_) (fun e2=> ?_)⟩
    ·have e2:second.length=2:=by simp at e2;omega
     rw[show Nat.beq second.length 2=true by rw[e2];rfl]at zv;simp only[R7]at zv;obtain⟨n,hn,zv⟩:=bind_some zv;unfold QTR at hn;obtain⟨mm,hm,hn⟩:=bind_some hn;obtain⟨t1,ht1⟩: ∃t,second[1]? =some t:=⟨_,Zd (by omega)⟩
     rw[spD ht0,spD ht1]at zv;refine⟨⟨[q0,q1,q2],s⟩,x,y,mm,n,rfl,rfl,⟨⟨by simp,os⟩,hm,hn⟩,QC (fun h3=> ?_) (fun h3=> ?_)⟩
     ·rw[show decide (0<n)=true from h3]at zv;exact⟨⟨by omega,by rw[Ze];omega⟩,t1.lo,100000,t1.hi,100000,QFF ht1,⟨by omega,by omega⟩,⟨z.i+1,z.acc++[(⟨[q0,q1,q2],s⟩,⟨[p0,0,p2],t1⟩)]⟩,⟨⟨⟨by simp only;omega,by simp;omega⟩,zv⟩,by simp only;omega⟩,by simp,by rw[w64 (by omega)];simp,.inl (QDl (r:=(⟨[q0,q1,q2],s⟩,⟨[p0,0,p2],t1⟩)))⟩
     ·rw[show decide (0<n)=false from h3]at zv;exact⟨⟨by omega,by omega⟩,⟨z.i+1,z.acc++[(⟨[q0,q1,q2],s⟩,⟨[p0,0,p2],t0⟩)]⟩,⟨⟨⟨by simp only;omega,by simp;omega⟩,zv⟩,by simp only;omega⟩,by simp,by rw[w64 (by omega)];simp,.inl (QDl (r:=(⟨[q0,q1,q2],s⟩,⟨[p0,0,p2],t0⟩)))⟩
    ·have e2:second.length≠2:=fun e=>by rw[Ze,e]at e2;simp at e2
     rw[show Nat.beq second.length 2=false by cases hb:Nat.beq second.length 2 with | false=>rfl | true=>exact absurd (Nat.eq_of_beq_eq_true hb) e2,spD ht0]at zv;simp only[R8]at zv;exact⟨⟨by omega,by omega⟩,⟨z.i+1,z.acc++[(⟨[q0,q1,q2],s⟩,⟨[p0,0,p2],t0⟩)]⟩,⟨⟨⟨by simp only;omega,by simp;omega⟩,zv⟩,by simp only;omega⟩,by simp,by rw[w64 (by omega)];simp,.inl (QDl (r:=(⟨[q0,q1,q2],s⟩,⟨[p0,0,p2],t0⟩)))⟩
   ·have hj:first.length<=z.i:=by have:=R6 hj;omega
    rw[Zp hj]at zv;have zv:z.acc=R:=Option.some.inj zv;rw[QJC,zv];exact hK
def QAw:Ctr
 | [.x true [.r l a],.x true [.r m b],.x true ys]=>some fun K=> ∃(x:Rat) (y:Rat) (far:Rat) (p:List Rat) (q:List Rat) (first:List Sp) (second:List Sp) (R:List (RtV×RtV)),ys=[.r x 100000,.r y 100000]/\((a<=100000/\b<=100000)/\((HY x y=some far/\QB3 l m far=some p)/\((0<XE (p.getD 0 0)∨XE (p.getD 2 0)<=0)/\R=[]∨ ¬(0<XE (p.getD 0 0)∨XE (p.getD 2 0)<=0)/\QB4 l m x y far=some q/\WE q=some first/\WE p=some second/\1<=second.length/\Js q p x y second first []=some R)))/\((R=[]->K (.x false [.v (.slice none 0 0)]))/\K (sP R))
 | _=>none
theorem ok_iSolve:QJ 142 QAw:=by
 refine okL Tryz.func142 fun l T hT K hK=> ?_
 unfold QAw at hT;split at hT<;>cases hT
 obtain⟨x,y,far,p,q,first,second,R,rfl,hc,hK⟩:=hK;exact spL (QV QO0 QAr Qo) QN Tryz.func142 (QO3 _ _ _ _ _ _ _ _ _ _ _ _ hc K hK)
def QX5:LC:=(142,QAw)::QSN
noncomputable def QYn:Qa:=mkT QX5 Hp X4
def HC:Ctr
 | [.x true [.r l a],.x true [.r m b],.x true ys]=>some fun K=> ∃(x y:Rat) (R:List (RtV×RtV)),ys=[.r x 100000,.r y 100000]/\((a<=100000/\b<=100000)/\JR l m x y=some R)/\K (sP R)
 | _=>none
theorem QX6 {w:World}{O:Nat->Prop}{ρ:Env}{n:Nat}{v:Value}(h:ConcV w O ρ (.x false [.v (.slice none 0 0)]) v):ConcV w O ρ (.x false [.s n []]) v:=by
 obtain⟨vals,h1,h2⟩:=h;cases h1 with | v _ h1=>exact⟨_,.s0 h1,h2⟩
theorem QFS {l m x y:Rat}{R:List (RtV×RtV)}(h:JR l m x y=some R): ∃far p q first second,(HY x y=some far/\QB3 l m far=some p)/\((0<XE (p.getD 0 0)∨XE (p.getD 2 0)<=0)/\R=[]∨ ¬(0<XE (p.getD 0 0)∨XE (p.getD 2 0)<=0)/\QB4 l m x y far=some q/\WE q=some first/\WE p=some second/\1<=second.length/\Js q p x y second first []=some R):=by
 unfold JR at h;obtain⟨far,hf,h⟩:=bind_some h;obtain⟨p,hp,h⟩:=bind_some h;by_cases e:0<XE (p.getD 0 0)∨XE (p.getD 2 0)<=0
 ·have:(decide (0<XE (p.getD 0 0)) || decide (XE (p.getD 2 0)<=0))=true:=by simpa using e
  rw[this]at h;cases h
  exact⟨far,p,[],[],[],⟨hf,hp⟩,.inl ⟨e,rfl⟩⟩
 ·have:(decide (0<XE (p.getD 0 0)) || decide (XE (p.getD 2 0)<=0))=false:=by
   cases hb:(decide (0<XE (p.getD 0 0)) || decide (XE (p.getD 2 0)<=0))with
   | false=>rfl
   | true=>exact absurd (by simpa using hb) e
  rw[this]at h;simp only[R8]at h;obtain⟨q,hq,h⟩:=bind_some h;obtain⟨first,h1,h⟩:=bind_some h;obtain⟨second,h2,h⟩:=bind_some h;cases hb:Nat.ble 1 second.length with
  | true=>rw[hb]at h;exact⟨far,p,q,first,second,⟨hf,hp⟩,.inr ⟨e,hq,h1,h2,Nat.le_of_ble_eq_true hb,h⟩⟩
  | false=>rw[hb]at h;cases h
theorem QHw:QJ 142 HC:=by
 refine⟨ok_iSolve.enter,fun l T hT K hK=> ?_⟩;unfold HC at hT;split at hT
 ·rename_i l a m b ys;cases hT
  obtain⟨x,y,R,rfl,⟨h1,h⟩,hK⟩:=hK;obtain⟨far,p,q,first,second,h2,h3⟩:=QFS h;refine Spec.res (ok_iSolve.sound [.x true [.r l a],.x true [.r m b],.x true [.r x 100000,.r y 100000]] _ rfl (fun av=>R=[]/\av= .x false [.v (.slice none 0 0)]∨av=sP R) ⟨x,y,far,p,q,first,second,R,rfl,⟨h1,h2,h3⟩,fun e=> .inl ⟨e,rfl⟩,.inr rfl⟩) fun w O av v e hcv=>⟨_,hK,?_⟩;rcases e with⟨e1,e2⟩ | e
  ·subst e1 e2;exact QX6 hcv
  ·subst e;exact hcv
 ·cases hT
def QSP:LC:=(142,HC)::QSN
theorem QO4:QG QSP:= .cons QHw QO0
def QSQ (a:ArmV)(L0 L1:QZ)(rs R:List (RtV×RtV)):LI:=fun _=> .inv ⟨SvX,fun e=>⟨[(5,.x false [.p 5 0]),(6,.x false [.p 6 0]),(7,.x false [.w 500 0 e.acc.length]),(23,sP rs),(24,iA .i64 rs.length),(25,iA .i64 e.i)],[(5,.box 63 (QH L0)),(6,.box 63 (QH L1)),(500,QO2 e.acc)]⟩,
  fun e=>(e.i<=rs.length/\e.acc.length<=e.i)/\inF L0.lo L0.hi L1.lo L1.hi (rs.drop e.i) e.acc=some R,fun e=>rs.length-e.i,fun _=>0⟩
abbrev QTW (a:ArmV)(L0:QZ)(L1:QZ)(x:Rat)(y:Rat)(rs:List (RtV×RtV))(R:List (RtV×RtV))(K:AV->Prop):Prop:=(((a.links[0]? =some L0/\a.links[1]? =some L1)/\rs.length<=1000/\ ∀r∈rs,r.1.p.length<=1000/\r.2.p.length<=1000)/\(JR L0.len L1.len x y=some rs/\inF L0.lo L0.hi L1.lo L1.hi rs []=some R))/\(K (sP R))
set_option maxHeartbeats 1000000 in
theorem QX7 (a:ArmV)(L0:QZ)(L1:QZ)(x:Rat)(y:Rat)(rs:List (RtV×RtV))(R:List (RtV×RtV))(K:AV->Prop)(hK:QTW a L0 L1 x y rs R K):QK (QT (mkT QSP Hp X4) (oF Tryz.f81) (QSQ a L0 L1 rs R) Tryz.f81 [KT a,.x true [.r x 100000,.r y 100000]] K):=by
 obtain⟨hc,hK⟩:=hK;refine HV ((((0:Int)<=0/\0<Zb (Za QH a.links).length)/\∃(q:Rat),∃(n:Nat),∃(q_1:Rat),∃(n_1:Nat),∃(q_2:Rat),∃(n_2:Nat),∃(q_3:Rat),∃(n_3:Nat),∃(q_4:Rat),∃(n_4:Nat),∃(ys:List (List Ch)),ldE (Za QH a.links) 0 0 16=some [Zc q n,Zc q_1 n_1,Zc q_2 n_2,Zc q_3 n_3,Zc q_4 n_4,Zi 6 ys]/\((0:Int)<=1/\1<Zb (Za QH a.links).length)/\∃(q_5:Rat),∃(n_5:Nat),∃(q_6:Rat),∃(n_6:Nat),∃(q_7:Rat),∃(n_7:Nat),∃(q_8:Rat),∃(n_8:Nat),∃(q_9:Rat),∃(n_9:Nat),∃(ys_1:List (List Ch)),ldE (Za QH a.links) 1 0 16=some [Zc q_5 n_5,Zc q_6 n_6,Zc q_7 n_7,Zc q_8 n_8,Zc q_9 n_9,Zi 6 ys_1]/\∃(x_1:Rat),∃(y_1:Rat),∃(R_1:List (RtV×RtV)),[Zc x 100000,Zc y 100000]=[Zc x_1 100000,Zc y_1 100000]/\((n<=100000/\n_5<=100000)/\JR q q_5 x_1 y_1=some R_1)/\(∃(x:SvX),(((x.i<=rs.length/\x.acc.length<=x.i)/\inF L0.lo L0.hi L1.lo L1.hi (Zf x.i rs) x.acc=some R)/\OfNat.ofNat 0=0)/\0=0/\0=0/\Zj none 0 0=Zj none 0 0/\0=0/\x.acc.length=0/\14=14/\Za Qw R_1=Za Qw rs/\Zb (Za Qw R_1).length=Zb rs.length/\0=Zb x.i/\63=63/\q=L0.len/\n<=63/\q_1=L0.lo/\n_1<=63/\q_2=L0.hi/\n_2<=63/\q_3=L0.sp/\n_3<=63/\q_4=L0.br/\n_4<=63/\6=6/\ys=Za XX L0.shape/\63=63/\q_5=L1.len/\n_5<=63/\q_6=L1.lo/\n_6<=63/\q_7=L1.hi/\n_7<=63/\q_8=L1.sp/\n_8<=63/\q_9=L1.br/\n_9<=63/\6=6/\ys_1=Za XX L1.shape/\Za Qw x.acc=[]/\True)/\∀(x:SvX),(x.i<=rs.length/\x.acc.length<=x.i)/\inF L0.lo L0.hi L1.lo L1.hi (Zf x.i rs) x.acc=some R->OfNat.ofNat 0=0->bif decide (Zb x.i<Zb rs.length)then(0<=Zb x.i/\Zb x.i<Zb (Za Qw rs).length)/\∃(ys:List (List Ch)),∃(q:Rat),∃(n:Nat),∃(q_10:Rat),∃(n_10:Nat),∃(ys_2:List (List Ch)),∃(q_11:Rat),∃(n_11:Nat),∃(q_12:Rat),∃(n_12:Nat),ldE (Za Qw rs) (Zb x.i).toNat 0 14=some [Zi 3 ys,Zc q n,Zc q_10 n_10,Zi 3 ys_2,Zc q_11 n_11,Zc q_12 n_12]/\∃(r:RtV),∃(R_2:Bool),[Zi 3 ys,Zc q n,Zc q_10 n_10]=[Zi 3 (lR 100000 r.p),Zc r.s.lo 100000,Zc r.s.hi 100000]/\((r.p.length<=1000/\63<=100000/\63<=100000)/\KH r L0.lo L0.hi=some R_2)/\bif R_2 then ∃(r:RtV),∃(R_3:Bool),[Zi 3 ys_2,Zc q_11 n_11,Zc q_12 n_12]=[Zi 3 (lR 100000 r.p),Zc r.s.lo 100000,Zc r.s.hi 100000]/\((r.p.length<=1000/\63<=100000/\63<=100000)/\KH r L1.lo L1.hi=some R_3)/\bif R_3 then((x.acc.length+1)*208<=140737488355328/\x.acc.length+1<=9223372036854775807)/\∃(x':SvX),(((x'.i<=rs.length/\x'.acc.length<=x'.i)/\inF L0.lo L0.hi L1.lo L1.hi (Zf x'.i rs) x'.acc=some R)/\OfNat.ofNat 0=0/\rs.length-x'.i<rs.length-x.i)/\0=0/\0=0/\0=0/\x.acc.length+1=x'.acc.length/\14=14/\Za Qw rs=Za Qw rs/\Zb rs.length=Zb rs.length/\Zk.wrap (Zb x.i+1)=Zb x'.i/\63=63/\L0.len=L0.len/\63<=63/\L0.lo=L0.lo/\63<=63/\L0.hi=L0.hi/\63<=63/\L0.sp=L0.sp/\63<=63/\L0.br=L0.br/\63<=63/\6=6/\Za XX L0.shape=Za XX L0.shape/\63=63/\L1.len=L1.len/\63<=63/\L1.lo=L1.lo/\63<=63/\L1.hi=L1.hi/\63<=63/\L1.sp=L1.sp/\63<=63/\L1.br=L1.br/\63<=63/\6=6/\Za XX L1.shape=Za XX L1.shape/\135=135/\14=14/\(Zg x.acc.length (Za Qw x.acc)++[[Zi 3 ys,Zc q n,Zc q_10 n_10,Zi 3 ys_2,Zc q_11 n_11,Zc q_12 n_12]]=Za Qw x'.acc∨QE (Zg x.acc.length (Za Qw x.acc)++[[Zi 3 ys,Zc q n,Zc q_10 n_10,Zi 3 ys_2,Zc q_11 n_11,Zc q_12 n_12]]) (Za Qw x'.acc))/\True else ∃(x':SvX),(((x'.i<=rs.length/\x'.acc.length<=x'.i)/\inF L0.lo L0.hi L1.lo L1.hi (Zf x'.i rs) x'.acc=some R)/\OfNat.ofNat 0=0/\rs.length-x'.i<rs.length-x.i)/\0=0/\0=0/\0=0/\x.acc.length=x'.acc.length/\14=14/\Za Qw rs=Za Qw rs/\Zb rs.length=Zb rs.length/\Zk.wrap (Zb x.i+1)=Zb x'.i/\63=63/\L0.len=L0.len/\63<=63/\L0.lo=L0.lo/\63<=63/\L0.hi=L0.hi/\63<=63/\L0.sp=L0.sp/\63<=63/\L0.br=L0.br/\63<=63/\6=6/\Za XX L0.shape=Za XX L0.shape/\63=63/\L1.len=L1.len/\63<=63/\L1.lo=L1.lo/\63<=63/\L1.hi=L1.hi/\63<=63/\L1.sp=L1.sp/\63<=63/\L1.br=L1.br/\63<=63/\6=6/\Za XX L1.shape=Za XX L1.shape/\135=135/\14=14/\(Za Qw x.acc=Za Qw x'.acc∨QE (Za Qw x.acc) (Za Qw x'.acc))/\True else ∃(x':SvX),(((x'.i<=rs.length/\x'.acc.length<=x'.i)/\inF L0.lo L0.hi L1.lo L1.hi (Zf x'.i rs) x'.acc=some R)/\OfNat.ofNat 0=0/\rs.length-x'.i<rs.length-x.i)/\0=0/\0=0/\0=0/\x.acc.length=x'.acc.length/\14=14/\Za Qw rs=Za Qw rs/\Zb rs.length=Zb rs.length/\Zk.wrap (Zb x.i+1)=Zb x'.i/\63=63/\L0.len=L0.len/\63<=63/\L0.lo=L0.lo/\63<=63/\L0.hi=L0.hi/\63<=63/\L0.sp=L0.sp/\63<=63/\L0.br=L0.br/\63<=63/\6=6/\Za XX L0.shape=Za XX L0.shape/\63=63/\L1.len=L1.len/\63<=63/\L1.lo=L1.lo/\63<=63/\L1.hi=L1.hi/\63<=63/\L1.sp=L1.sp/\63<=63/\L1.br=L1.br/\63<=63/\6=6/\Za XX L1.shape=Za XX L1.shape/\135=135/\14=14/\(Za Qw x.acc=Za Qw x'.acc∨QE (Za Qw x.acc) (Za Qw x'.acc))/\True else K (AV.x false [Zi 14 (Zg x.acc.length (Zf 0 (Za Qw x.acc)))]))) ?_
 try simp only[Zh,R0,R1,Zo,R4]
 obtain⟨⟨⟨h0,h1⟩,hrl,hpl⟩,hs,hR⟩:=hc;have l0:=(List.getElem?_eq_some_iff.1 h0).1;have l1:=(List.getElem?_eq_some_iff.1 h1).1
 refine⟨⟨by omega,by rw[Ze];omega⟩,L0.len,63,L0.lo,63,L0.hi,63,L0.sp,63,L0.br,63,_,KC h0,⟨by omega,by rw[Ze];omega⟩,L1.len,63,L1.lo,63,L1.hi,63,L1.sp,63,L1.br,63,_,KC h1,x,y,rs,rfl,⟨⟨by omega,by omega⟩,hs⟩,
  ⟨⟨0,[]⟩,⟨⟨Nat.zero_le _,Zo _⟩,hR⟩,rfl,rfl,by rw[Ze],rfl,rfl,by omega,rfl,by omega,rfl,by omega,rfl,by omega,rfl,by omega,rfl,rfl,by omega,rfl,by omega,rfl,by omega,rfl,by omega,rfl,by omega,rfl,rfl⟩,fun z ⟨⟨z1,z2⟩,zv⟩=>QC (fun hj=> ?_) (fun hj=> ?_)⟩
 ·have hj:z.i<rs.length:=by have:=R5 hj;omega
  obtain⟨r,hr⟩: ∃r,rs[z.i]? =some r:=⟨_,Zd (by omega)⟩
  have ed:rs.drop z.i=r::rs.drop (z.i+1):=by
   rw[Zn hj];congr 1;rw[Zd hj]at hr;exact Option.some.inj hr
  have hrp:=hpl r (Zm hr);rw[ed,inF]at zv;obtain⟨A,hA,zv⟩:=bind_some zv;rw[Zs];refine⟨⟨by omega,by rw[Ze];omega⟩,_,_,_,_,_,_,_,_,_,_,QJD hr,r.1,A,rfl,⟨⟨hrp.1,by omega,by omega⟩,hA⟩,QC (fun hb=> ?_) (fun hb=> ?_)⟩
  ·rw[hb]at zv;simp only[R7]at zv;obtain⟨B,hB,zv⟩:=bind_some zv;refine⟨r.2,B,rfl,⟨⟨hrp.2,by omega,by omega⟩,hB⟩,QC (fun hb=> ?_) (fun hb=> ?_)⟩
   ·rw[hb]at zv;exact⟨⟨by omega,by omega⟩,⟨z.i+1,z.acc++[r]⟩,⟨⟨⟨by simp only;omega,by simp;omega⟩,zv⟩,by simp only;omega⟩,by simp,by rw[w64 (by omega)];simp,.inl (QDl (r:=r))⟩
   ·rw[hb]at zv;exact⟨⟨z.i+1,z.acc⟩,⟨⟨⟨by simp only;omega,by simp only;omega⟩,zv⟩,by simp only;omega⟩,rfl,by rw[w64 (by omega)];simp,.inl rfl⟩
  ·rw[hb]at zv;exact⟨⟨z.i+1,z.acc⟩,⟨⟨⟨by simp only;omega,by simp only;omega⟩,zv⟩,by simp only;omega⟩,rfl,by rw[w64 (by omega)];simp,.inl rfl⟩
 ·have hj:rs.length<=z.i:=by have:=R6 hj;omega
  rw[Zp hj]at zv;have zv:z.acc=R:=Option.some.inj zv;rw[QJC,zv];exact hK
def QO5:Ctr
 | [.x true xs,.x true ys]=>some fun K=> ∃(a:ArmV) (L0:QZ) (L1:QZ) (x:Rat) (y:Rat) (rs:List (RtV×RtV)) (R:List (RtV×RtV)),xs=XY a/\ys=[.r x 100000,.r y 100000]/\QTW a L0 L1 x y rs R K
 | _=>none
theorem ok_iIn:QJ 81 QO5:=by
 refine okL Tryz.func81 fun l T hT K hK=> ?_
 unfold QO5 at hT;split at hT<;>cases hT
 obtain⟨a,L0,L1,x,y,rs,R,rfl,rfl,hK⟩:=hK;exact spL (QV QO4 QAr Qo) QN Tryz.func81 (QX7 _ _ _ _ _ _ _ K hK)
def QX8:LC:=(81,QO5)::QSP
noncomputable def QYo:Qa:=mkT QX8 Hp X4
end Go.Proofs
namespace Go.Proofs
open Go Go.Eng
theorem QO6 {q p:List Rat}{x y:Rat}{second:List Sp}(h2: ∀t∈second,t.lo<=t.hi): ∀{l:List Sp} {acc R:List (RtV×RtV)},Js q p x y second l acc=some R->(∀t∈l,t.lo<=t.hi)->(∀r∈acc,(r.1.p=q/\r.1.s.lo<=r.1.s.hi)/\r.2.p=p/\r.2.s.lo<=r.2.s.hi)->
  R.length=acc.length+l.length/\ ∀r∈R,(r.1.p=q/\r.1.s.lo<=r.1.s.hi)/\r.2.p=p/\r.2.s.lo<=r.2.s.hi:=by
 intro l;induction l with
 | nil=>intro acc R h _ ha;cases h;exact⟨by simp,ha⟩
 | cons s l ih=>
  intro acc R h hl ha;have h1:=hl s (by simp);have key: ∀{t:Sp},t.lo<=t.hi->Js q p x y second l (acc++[(⟨q,s⟩,⟨p,t⟩)])=some R->R.length=acc.length+(s::l).length/\ ∀r∈R,(r.1.p=q/\r.1.s.lo<=r.1.s.hi)/\r.2.p=p/\r.2.s.lo<=r.2.s.hi:=fun ht h=>by
   obtain⟨k1,k2⟩:=ih h (fun t ht=>hl t (by simp[ht])) (fun r hr=>by
    rcases Zr.1 hr with hr | hr
    ·exact ha r hr
    ·simp at hr;subst hr;exact⟨⟨rfl,h1⟩,rfl,ht⟩)
   exact⟨by rw[k1];simp;omega,k2⟩
  rw[Js]at h;cases hb:Nat.beq second.length 2 with
  | true=>
   rw[hb]at h;obtain⟨n,_,h⟩:=bind_some h;cases hn:decide (0<n)with
   | true=>rw[hn]at h;exact key (UX h2 1) h
   | false=>rw[hn]at h;exact key (UX h2 0) h
  | false=>rw[hb]at h;exact key (UX h2 0) h
theorem QFT {l m x y:Rat}{R:List (RtV×RtV)}(h:JR l m x y=some R):R.length<=1000/\ ∀r∈R,(r.1.p.length=3/\r.1.s.lo<=r.1.s.hi)/\r.2.p.length=3/\r.2.s.lo<=r.2.s.hi:=by
 obtain⟨far,p,q,first,second,⟨_,hp⟩,h⟩:=QFS h;rcases h with⟨_,rfl⟩ | ⟨_,hq,r1,r2,_,h⟩
 ·simp
 ·obtain⟨k1,k2⟩:=QO6 (Wp r2).2 h (Wp r1).2 (by simp);have fl:=(Wp r1).1;have pl:p.length=3:=by
   unfold QB3 at hp;obtain⟨_,_,hp⟩:=bind_some hp;obtain⟨_,_,hp⟩:=bind_some hp;obtain⟨_,_,hp⟩:=bind_some hp;obtain⟨_,_,hp⟩:=bind_some hp;obtain⟨_,_,hp⟩:=bind_some hp;obtain⟨_,_,hp⟩:=bind_some hp;cases hp;rfl
  have ql:q.length=3:=by
   unfold QB4 at hq;obtain⟨_,_,hq⟩:=bind_some hq;obtain⟨_,_,hq⟩:=bind_some hq;obtain⟨_,_,hq⟩:=bind_some hq;obtain⟨_,_,hq⟩:=bind_some hq;obtain⟨_,_,hq⟩:=bind_some hq;obtain⟨_,_,hq⟩:=bind_some hq;obtain⟨_,_,hq⟩:=bind_some hq;obtain⟨_,_,hq⟩:=bind_some hq;obtain⟨_,_,hq⟩:=bind_some hq;obtain⟨_,_,hq⟩:=bind_some hq;cases hq;rfl
  refine⟨by rw[k1];simp;exact fl,fun r hr=> ?_⟩;obtain⟨⟨e1,e2⟩,e3,e4⟩:=k2 r hr;exact⟨⟨by rw[e1,ql],e2⟩,by rw[e3,pl],e4⟩
theorem QSR {a b c d:Rat}: ∀{l acc R:List (RtV×RtV)},inF a b c d l acc=some R->R.length<=acc.length+l.length/\ ∀r∈R,r∈acc∨r∈l:=by
 intro l;induction l with
 | nil=>intro acc R h;cases h;exact⟨by simp,fun r hr=> .inl hr⟩
 | cons s l ih=>
  intro acc R h;rw[inF]at h;obtain⟨A,_,h⟩:=bind_some h;have skip:inF a b c d l acc=some R->R.length<=acc.length+(s::l).length/\ ∀r∈R,r∈acc∨r∈s::l:=fun h=>by
   obtain⟨k1,k2⟩:=ih h;exact⟨by simp;omega,fun r hr=>(k2 r hr).imp id (fun h=>by simp[h])⟩
  cases A with
  | false=>exact skip h
  | true=>
   simp only[R7]at h;obtain⟨B,_,h⟩:=bind_some h;cases B with
   | false=>exact skip h
   | true=>
    obtain⟨k1,k2⟩:=ih h;refine⟨by simp at k1⊢;omega,fun r hr=> ?_⟩;rcases k2 r hr with hr | hr
    ·rcases Zr.1 hr with hr | hr
     ·exact .inl hr
     ·simp at hr;subst hr;exact .inr (by simp)
    ·exact .inr (by simp[hr])
theorem QYd {W:World}{O:Nat->Prop}{ρ:Env}{x y:Rat}{n m n' m':Nat}(h1:n<=n')(h2:m<=m'){v:Value}(h:ConcV W O ρ (.x true [.r x n,.r y m]) v):ConcV W O ρ (.x true [.r x n',.r y m']) v:=by
 obtain⟨vals,h3,h4⟩:=h;cases h3 with | r b1 h3=>cases h3 with | r b2 h3=>exact⟨_,.r (b1.mono h1) (.r (b2.mono h2) h3),h4⟩
def QHx:Ctr
 | [.x true xs,.x true [.r x n,.r y m]]=>some fun K=> ∃(a:ArmV) (L0 L1:QZ) (rs R:List (RtV×RtV)),xs=XY a/\((a.links[0]? =some L0/\a.links[1]? =some L1)/\n<=100000/\m<=100000)/\(JR L0.len L1.len x y=some rs/\inF L0.lo L0.hi L1.lo L1.hi rs []=some R)/\K (sP R)
 | _=>none
theorem QSS:QJ 81 QHx:=by
 refine⟨ok_iIn.enter,fun l T hT K hK=> ?_⟩;unfold QHx at hT;split at hT
 ·rename_i xs x n y m;cases hT
  obtain⟨a,L0,L1,rs,R,rfl,⟨hl,hn,hm⟩,⟨hs,hR⟩,hK⟩:=hK;obtain⟨s1,s2⟩:=QFT hs;refine Eng.Spec.args (ok_iIn.sound [.x true (XY a),.x true [.r x 100000,.r y 100000]] _ rfl K ⟨a,L0,L1,x,y,rs,R,rfl,rfl,⟨⟨hl,s1,fun r hr=> ?_⟩,hs,hR⟩,hK⟩) fun w O vals hc=> ?_
  ·obtain⟨⟨e1,_⟩,e2,_⟩:=s2 r hr;exact⟨by omega,by omega⟩
  ·cases hc with
   | cons h1 h2=>cases h2 with
    | cons h2 h3=>exact .cons h1 (.cons (QYd hn hm h2) h3)
 ·cases hT
def QO7:LC:=(81,QHx)::QSP
theorem QO8:QG QO7:= .cons QSS QO4
def K9 (o:List Sp):List Ch:=[.s 6 (o.map (spN 100000))]
structure TwX where
 i:Nat
 acc:List (List Sp)
def QO9 (R:List (RtV×RtV))(O:List (List Sp)):LI:=fun _=> .inv ⟨TwX,fun e=>⟨[(7,.x false [.w 500 0 e.acc.length]),(21,sP R),(22,iA .i64 R.length),(23,iA .i64 e.i)],[(500,.row 83 1 (e.acc.map K9))]⟩,
  fun e=>(e.i<=R.length/\e.acc.length<=e.i)/\Hn (R.drop e.i) e.acc=some O,fun e=>R.length-e.i,fun _=>0⟩
def QX9 (a:ArmV):FrV:=⟨a.x,a.y,a.half,a.t⟩
def QK2 (a:ArmV)(x y:Rat):Rat:=QNN (Wd (QX9 a)) x y
def QK3 (a:ArmV)(x y:Rat):Rat:=QNO (Wd (QX9 a)) x y
def QB8 (a:ArmV)(_L0:QZ)(_L1:QZ)(x:Rat)(n:Nat)(y:Rat)(m:Nat)(_rs:List (RtV×RtV))(R:List (RtV×RtV))(O:List (List Sp))(K:AV->Prop):Prop:=QT (mkT QO7 Hp X4) (oF Tryz.f27) (QO9 R O) Tryz.f27 [KT a,.x true [.r x n,.r y m]] K
theorem QDm (a:ArmV)(L0:QZ)(L1:QZ)(x:Rat)(n:Nat)(y:Rat)(m:Nat)(rs:List (RtV×RtV))(R:List (RtV×RtV))(O:List (List Sp))(K:AV->Prop):QB8 a L0 L1 x n y m rs R O K=(∃(a_1:ArmV),[Zu (Zt a.name),Zc a.x 63,Zc a.y 63,Zu (Zq a.half),Zc a.t 63,Zi 16 (Za QH a.links)]=[Zu (Zt a_1.name),Zc a_1.x 63,Zc a_1.y 63,Zu (Zq a_1.half),Zc a_1.t 63,Zi 16 (Za QH a_1.links)]/\(QX a_1/\2=Zb a_1.links.length)/\((a.half=true->a.t=OfNat.ofNat 0)/\189<=1000)/\∀(n_1 m_1 o:Nat),n_1<=20000->m_1<=20000->o<=1064->n_1+m_1+o+n+m<=400000000/\∀(n_2 m_2:Nat),n_2<=n_1+n+m+8*o+1100->m_2<=m_1+n+m+8*o+1100->∃(a_7:ArmV)(L0:QZ)(L1:QZ)(rs:List (RtV×RtV))(R_1:List (RtV×RtV)),[Zu (Zt a.name),Zc a.x 63,Zc a.y 63,Zu (Zq a.half),Zc a.t 63,Zi 16 (Za QH a.links)]=[Zu (Zt a_7.name),Zc a_7.x 63,Zc a_7.y 63,Zu (Zq a_7.half),Zc a_7.t 63,Zi 16 (Za QH a_7.links)]/\((a_7.links[0]?=some L0/\a_7.links[1]?=some L1)/\n_2<=100000/\m_2<=100000)/\(JR L0.len L1.len (QNN (FrV.mk (Wd (FrV.mk a.x a.y a.half a.t)).x (Wd (FrV.mk a.x a.y a.half a.t)).y a.half (-a.t)) x y) (QNO (FrV.mk (Wd (FrV.mk a.x a.y a.half a.t)).x (Wd (FrV.mk a.x a.y a.half a.t)).y a.half (-a.t)) x y)=some rs/\inF L0.lo L0.hi L1.lo L1.hi rs []=some R_1)/\(∃(x:TwX),(((x.i<=R.length/\x.acc.length<=x.i)/\Hn (Zf x.i R) x.acc=some O)/\OfNat.ofNat 0=0)/\Zj none 0 0=Zj none 0 0/\0=0/\x.acc.length=0/\14=14/\Za Qw R_1=Za Qw R/\Zb (Za Qw R_1).length=Zb R.length/\0=Zb x.i/\Za K9 x.acc=[]/\True)/\∀(x:TwX),(x.i<=R.length/\x.acc.length<=x.i)/\Hn (Zf x.i R) x.acc=some O->OfNat.ofNat 0=0->bif decide (Zb x.i<Zb R.length)then(0<=Zb x.i/\Zb x.i<Zb (Za Qw R).length)/\∃(ys:List (List Ch))(q:Rat)(n:Nat)(q_1:Rat)(n_3:Nat)(ys_1:List (List Ch))(q_2:Rat)(n_4:Nat)(q_3:Rat)(n_5:Nat),ldE (Za Qw R) (Zb x.i).toNat 0 14=some [Zi 3 ys,Zc q n,Zc q_1 n_3,Zi 3 ys_1,Zc q_2 n_4,Zc q_3 n_5]/\∃(r:RtV)(R_2:RtV),[Zi 3 ys,Zc q n,Zc q_1 n_3]=[Zi 3 (lR 100000 r.p),Zc r.s.lo 100000,Zc r.s.hi 100000]/\(((r.p.length<=1000/\r.s.lo<=r.s.hi)/\(1:Int)<=1000/\(1000:Int)<9223372036854775808)/\K7 r 1000=some R_2)/\∃(r:RtV)(R_3:RtV),[Zi 3 ys_1,Zc q_2 n_4,Zc q_3 n_5]=[Zi 3 (lR 100000 r.p),Zc r.s.lo 100000,Zc r.s.hi 100000]/\(((r.p.length<=1000/\r.s.lo<=r.s.hi)/\(1:Int)<=1000/\(1000:Int)<9223372036854775808)/\K7 r 1000=some R_3)/\((x.acc.length+1)*24<=140737488355328/\x.acc.length+1<=9223372036854775807)/\∃(x':TwX),(((x'.i<=R.length/\x'.acc.length<=x'.i)/\Hn (Zf x'.i R) x'.acc=some O)/\OfNat.ofNat 0=0/\R.length-x'.i<R.length-x.i)/\0=0/\x.acc.length+1=x'.acc.length/\14=14/\Za Qw R=Za Qw R/\Zb R.length=Zb R.length/\Zk.wrap (Zb x.i+1)=Zb x'.i/\83=83/\1=1/\(Zg x.acc.length (Za K9 x.acc)++[[Zi 6 [[Zc R_2.s.lo 100000,Zc R_2.s.hi 100000],[Zc R_3.s.lo 100000,Zc R_3.s.hi 100000]]]]=Za K9 x'.acc∨QE (Zg x.acc.length (Za K9 x.acc)++[[Zi 6 [[Zc R_2.s.lo 100000,Zc R_2.s.hi 100000],[Zc R_3.s.lo 100000,Zc R_3.s.hi 100000]]]]) (Za K9 x'.acc))/\True else bif Zb x.acc.length==0 then K (AV.t [(false,[Zu (Zj none 0 0)]),(false,[Zu (Value.int Zk 17)])])else K (AV.t [(false,[Zi 1 (Zg x.acc.length (Zf 0 (Za K9 x.acc)))]),(false,[Zu (Value.int Zk 0)])])):=by kernel_rfl
theorem QV7 (a:ArmV)(L0:QZ)(L1:QZ)(x:Rat)(n:Nat)(y:Rat)(m:Nat)(rs:List (RtV×RtV))(R:List (RtV×RtV))(O:List (List Sp))(hc:((QX a/\a.links=[L0,L1])/\n<=20000/\m<=20000)/\((JR L0.len L1.len (QK2 a x y) (QK3 a x y)=some rs/\inF L0.lo L0.hi L1.lo L1.hi rs []=some R)/\Hn R []=some O))(K:AV->Prop)(hK:(O=[]->K (.t [(false,[.v (.slice none 0 0)]),(false,[.v (.int .i64 17)])]))/\(O≠[]->K (.t [(false,[.s 1 (O.map K9)]),(false,[.v (.int .i64 0)])]))):QK (QB8 a L0 L1 x n y m rs R O K):=by
 refine⟨?_⟩;rw[QDm];try simp only[Zh,R0,R1,R4]
 obtain⟨⟨⟨hg,hl⟩,hn,hm⟩,⟨hs,hR⟩,hO⟩:=hc;obtain⟨hK0,hK1⟩:=hK;obtain⟨s1,s2⟩:=QFT hs;obtain⟨i1,i2⟩:=QSR hR;have i1:R.length<=1000:=by simp at i1;omega
 have hr: ∀r∈R,(r.1.p.length=3/\r.1.s.lo<=r.1.s.hi)/\r.2.p.length=3/\r.2.s.lo<=r.2.s.hi:=fun r hr=>s2 r ((i2 r hr).resolve_left (by simp));refine⟨a,rfl,⟨hg,by rw[hl];rfl⟩,⟨hg.half,by omega⟩,fun n1 m1 o h1 h2 h3=>⟨by omega,fun n2 m2 h4 h5=>⟨a,L0,L1,rs,R,rfl,⟨⟨by rw[hl];rfl,by rw[hl];rfl⟩,by omega,by omega⟩,⟨hs,hR⟩,⟨⟨0,[]⟩,⟨⟨Nat.zero_le _,Zo _⟩,hO⟩,rfl,rfl,by rw[Ze],rfl,rfl⟩,fun z ⟨⟨z1,z2⟩,zv⟩=>QC (fun hj=> ?_) (fun hj=> ?_)⟩⟩⟩
 ·have hj:z.i<R.length:=by have:=R5 hj;omega
  obtain⟨r,hri⟩: ∃r,R[z.i]? =some r:=⟨_,Zd (by omega)⟩
  have ed:R.drop z.i=r::R.drop (z.i+1):=by
   rw[Zn hj];congr 1;rw[Zd hj]at hri;exact Option.some.inj hri
  obtain⟨⟨e1,e2⟩,e3,e4⟩:=hr r (Zm hri);rw[ed,Hn]at zv;obtain⟨A,hA,zv⟩:=bind_some zv;obtain⟨B,hB,zv⟩:=bind_some zv;rw[Zs];refine⟨⟨by omega,by rw[Ze];omega⟩,_,_,_,_,_,_,_,_,_,_,QJD hri,r.1,A,rfl,⟨⟨⟨by omega,e2⟩,by omega,by omega⟩,hA⟩,r.2,B,rfl,⟨⟨⟨by omega,e4⟩,by omega,by omega⟩,hB⟩,⟨by omega,by omega⟩,⟨z.i+1,z.acc++[[A.s,B.s]]⟩,⟨⟨⟨by simp only;omega,by simp;omega⟩,zv⟩,by simp only;omega⟩,by simp,by rw[w64 (by omega)];simp,.inl ?_⟩;rw[Zl (by simp),List.map_append];rfl
 ·have hj:R.length<=z.i:=by have:=R6 hj;omega
  rw[Zp hj]at zv;have zv:z.acc=O:=Option.some.inj zv;refine QC (fun hb=> ?_) (fun hb=> ?_)
  ·refine hK0 ?_
   rw[<-zv];exact List.eq_nil_of_length_eq_zero (by simpa using hb)
  ·rw[List.drop_zero,Zl (by simp),zv];refine hK1 fun e=> ?_
   rw[zv,e]at hb;simp at hb
def QHy:Ctr
 | [.x true xs,.x true [.r x n,.r y m]]=>some fun K=> ∃(a:ArmV) (L0:QZ) (L1:QZ) (rs:List (RtV×RtV)) (R:List (RtV×RtV)) (O:List (List Sp)),xs=XY a/\(((QX a/\a.links=[L0,L1])/\n<=20000/\m<=20000)/\((JR L0.len L1.len (QK2 a x y) (QK3 a x y)=some rs/\inF L0.lo L0.hi L1.lo L1.hi rs []=some R)/\Hn R []=some O))/\((O=[]->K (.t [(false,[.v (.slice none 0 0)]),(false,[.v (.int .i64 17)])]))/\(O≠[]->K (.t [(false,[.s 1 (O.map K9)]),(false,[.v (.int .i64 0)])])))
 | _=>none
theorem ok_iTwo:QJ 27 QHy:=by
 refine okL Tryz.func27 fun l T hT K hK=> ?_
 unfold QHy at hT;split at hT<;>cases hT
 obtain⟨a,L0,L1,rs,R,O,rfl,hc,hK⟩:=hK;exact spL (QV QO8 QAr Qo) QN Tryz.func27 (QV7 _ _ _ _ _ _ _ _ _ _ hc K hK)
def QYA:LC:=(27,QHy)::QO7
noncomputable def QYp:Qa:=mkT QYA Hp X4
end Go.Proofs
