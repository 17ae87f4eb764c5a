/- frame.Back; inverse: solve, inside, Two. -/
import Derived.Test.YtjdhppdpbkoihaaGreatDoorIT
open List renaming map → Za, getElem?_eq_getElem → Zd, length_map → Ze, drop → Zf, take → Zg, mem_of_getElem? → Zj, mem_append → Zk
open Int renaming ofNat → Zb, ofNat_eq_natCast → Zh
open Go.Eng.Ch renaming r → Zc, s → Zi
namespace Go.Proofs
open Go Go.Eng
def WR (f:FrV):FrV:=⟨(0-f.x)*QK f.h (-f.t)-(0-f.y)*QO f.h (-f.t),(0-f.x)*QO f.h (-f.t)+(0-f.y)*QK f.h (-f.t),f.h,-f.t⟩
theorem QTd (h:Bool)(t:Rat)(k:Nat)(hc:(h=true->t=0)/\(k<=100000000))(K:AV->Prop)(hK: ∀n,n<=k+64->K (.x true [.v (.bool h),.r (-t) n])):QM (QU QWz (oF Tryz.f39) noL Tryz.f39 [.x true [.v (.bool h),.r t k]] K):=by
 refine HV ((k<=1000000000/\∀(n:Nat),n<=k+64->n<=4294967296/\K (AV.x true [Ch.v (Value.bool h),Zc (-XX h t) n]))) ?_
 try simp only[Zh,R0,R1,Nat.zero_add,Nat.le_refl,R4,R2,R3]
 have e:XX h t=t:=by
  cases h with
  | true=>rw[hc.1 rfl];rfl
  | false=>rfl
 rw[e];exact⟨by omega,fun n hn=>⟨by omega,hK n hn⟩⟩
def QAO:Ctr
 | [.x true [.v (.bool h),.r t k]]=>some fun K=>((h=true->t=0)/\(k<=100000000))/\(∀n,n<=k+64->K (.x true [.v (.bool h),.r (-t) n]))
 | _=>none
theorem QGZ:QI 39 QAO:=by
 refine okL Tryz.func39 fun l T hT K hK=> ?_
 unfold QAO at hT;split at hT<;>cases hT
 obtain⟨hc,hK⟩:=hK;exact spL QO2 QN Tryz.func39 (QTd _ _ _ hc K hK)
def QPz:LC:=(39,QAO)::QO1
theorem QKX:QG QPz:= .cons QGZ QEW
theorem QTe (_hc:True)(K:AV->Prop)(hK:K (.x true [.r ((0:Int):Rat) 64,.r ((0:Int):Rat) 64,.v (.bool false),.r ((0:Int):Rat) 64])):QM (QU (mkT QPz M79 X4) (oF Tryz.f11) noL Tryz.f11 [] K):=by
 refine HV ((((-9223372036854775808:Int)<=0/\(0:Int)<9223372036854775808)/\64<=1000000000/\K (AV.x true [Zc (↑(0:Int)) 64,Zc (↑(0:Int)) 64,Ch.v (Value.bool false),Zc (↑(0:Int)) 64]))) ?_
 try simp only[Zh,R0,R1,Nat.zero_add,Nat.le_refl,R4,R2,R3]
 exact⟨by omega,by omega,hK⟩
def QEj:Ctr
 | []=>some fun K=>(True)/\(K (.x true [.r ((0:Int):Rat) 64,.r ((0:Int):Rat) 64,.v (.bool false),.r ((0:Int):Rat) 64]))
 | _=>none
theorem QP0:QI 11 QEj:=by
 refine okL Tryz.func11 fun l T hT K hK=> ?_
 unfold QEj at hT;split at hT<;>cases hT
 obtain⟨hc,hK⟩:=hK;exact spL (QV QKX X0 Qo) QN Tryz.func11 (QTe  hc K hK)
def QKY:LC:=(11,QEj)::QPz
noncomputable def QP1:Qc:=mkT QKY M79 X4
theorem QTf:QG QKY:= .cons QP0 QKX
theorem QKZ:XP QP1:=QV QTf X0 Qo
theorem QTg (x:Rat)(i:Nat)(y:Rat)(j:Nat)(h:Bool)(t:Rat)(k:Nat)(hc:(h=true->t=0)/\(i+j+k<=1000))(K:AV->Prop)(hK: ∀n m o,n<=20000->m<=20000->o<=1064->K (.x true [.r (WR ⟨x,y,h,t⟩).x n,.r (WR ⟨x,y,h,t⟩).y m,.v (.bool h),.r (-t) o])):QM (QU QP1 (oF Tryz.f14) noL Tryz.f14 [.x true [.r x i,.r y j,.v (.bool h),.r t k]] K):=by
 refine HV ((((h=true->t=OfNat.ofNat 0)/\k<=100000000)/\∀(n:Nat),n<=k+64->True/\(64+i<=4294967290/\64+j<=4294967290)/\64+i+1+(64+j+1)+n<=400000000/\∀(n_1 m:Nat),n_1<=64+i+1+(64+j+1)+8*n+1000->m<=64+i+1+(64+j+1)+8*n+1000->K (AV.x true [Zc ((↑(0:Int)-x)*QK h (-t)-(↑(0:Int)-y)*QO h (-t)) n_1,Zc ((↑(0:Int)-x)*QO h (-t)+(↑(0:Int)-y)*QK h (-t)) m,Ch.v (Value.bool h),Zc (-t) n]))) ?_
 try simp only[R0]
 refine⟨⟨hc.1,by omega⟩,fun o ho=>⟨⟨by omega,by omega⟩,by omega,fun n m hn hm=>hK n m o (by omega) (by omega) (by omega)⟩⟩
def QAP:Ctr
 | [.x true [.r x i,.r y j,.v (.bool h),.r t k]]=>some fun K=>((h=true->t=0)/\(i+j+k<=1000))/\(∀n m o,n<=20000->m<=20000->o<=1064->K (.x true [.r (WR ⟨x,y,h,t⟩).x n,.r (WR ⟨x,y,h,t⟩).y m,.v (.bool h),.r (-t) o]))
 | _=>none
theorem QP2:QI 14 QAP:=by
 refine okL Tryz.func14 fun l T hT K hK=> ?_
 unfold QAP at hT;split at hT<;>cases hT
 obtain⟨hc,hK⟩:=hK;exact spL QKZ QN Tryz.func14 (QTg _ _ _ _ _ _ _ hc K hK)
def QZS:LC:=(14,QAP)::QKY
noncomputable def QaF:Qc:=mkT QZS M79 X4
def Qz (r:RtV×RtV):List Ch:=[.s 3 (lR 100000 r.1.p),.r r.1.s.lo 100000,.r r.1.s.hi 100000,.s 3 (lR 100000 r.2.p),.r r.2.s.lo 100000,.r r.2.s.hi 100000]
def sP (l:List (RtV×RtV)):AV:= .x false [.s 14 (l.map Qz)]
def QP3:LC:=(27,HJ)::(14,QAP)::QPy
theorem QJA:QG QP3:= .cons QMO (.cons QP2 QTc)
theorem QP4 {c:List (List Rat)}{m:Rat}: ∀{k:Nat} {b:Rat} {t:Sp},KC c m k b=some t->0<=b->m-b<=t.lo/\t.lo<=m/\m<=t.hi/\t.hi<=m+b:=by
 intro k;induction k with
 | zero=>intro b t h;cases h
 | succ k ih=>
  intro b t h hb;rw[KC]at h;obtain⟨h0,e0,h⟩:=bind_some h;obtain⟨bb,e1,h⟩:=bind_some h;obtain⟨l,e2,h⟩:=bind_some h;obtain⟨u,e3,h⟩:=bind_some h;obtain⟨n,_,h⟩:=bind_some h;have h0e:h0=1/2:=by have:=QI8 e0;rw[this];decide+kernel
  have k1:=(JH.1 e1).2;have k2:=(JH.1 e2).2;have k3:=(JH.1 e3).2;rw[h0e]at k1;have hbb:bb=b/2:=by rw[<-k1];grind
  have again:KC c m k bb=some t->m-b<=t.lo/\t.lo<=m/\m<=t.hi/\t.hi<=m+b:=fun h=>by
   obtain⟨r1,r2,r3,r4⟩:=ih h (by grind);exact⟨by grind,r2,r3,by grind⟩
  cases hn:n==1 with
  | false=>rw[hn]at h;exact again h
  | true=>
   rw[hn]at h;simp only[R7]at h;obtain⟨z,_,h⟩:=bind_some h;cases z with
   | true=>exact again h
   | false=>
    simp only[R8]at h;obtain⟨w,_,h⟩:=bind_some h;cases w with
    | true=>exact again h
    | false=>
     cases h
     exact⟨by show m-b<=l;grind,by show l<=m;grind,by show m<=u;grind,by show u<=m+b;grind⟩
theorem QMS {c:List (List Rat)}: ∀{k:Nat} {out o:List Sp} {s:Sp},XM c k out s=some o->s.lo<=s.hi->(∀t∈out,t.lo<=t.hi)-> ∀t∈o,t.lo<=t.hi:=by
 intro k;induction k with
 | zero=>intro out o s h;cases h
 | succ k ih=>
  intro out o s h hs ho;rw[XM]at h;obtain⟨n,hn,h⟩:=bind_some h;cases hb:n==0 with
  | true=>rw[hb]at h;cases h;exact ho
  | false=>
   rw[hb]at h;cases hb2:n==1 with
   | true=>
    rw[hb2]at h;cases h
    intro t ht;rcases Zk.1 ht with ht | ht
    ·exact ho t ht
    ·simp at ht;subst ht;exact hs
   | false=>
    rw[hb2]at h;simp only[R8]at h;obtain⟨m,hm,h⟩:=bind_some h;obtain⟨z,hz,h⟩:=bind_some h;have em:=QI8 hm;cases z with
    | false=>
     obtain⟨o1,h1,h⟩:=bind_some h;exact ih h (by show m<=s.hi;grind) (ih h1 (by show s.lo<=m;grind) ho)
    | true=>
     obtain⟨b,hb0,h⟩:=bind_some h;obtain⟨t,ht,h⟩:=bind_some h;obtain⟨o1,h1,h⟩:=bind_some h;have eb:=(JH.1 hb0).2;obtain⟨r1,r2,r3,r4⟩:=QP4 ht (by grind);refine ih h (by show t.hi<=s.hi;grind) fun u hu=> ?_
     rcases Zk.1 hu with hu | hu
     ·exact ih h1 (by show s.lo<=t.lo;grind) ho u hu
     ·simp at hu;subst hu;exact Rat.le_refl
theorem QTh: ∀{l:List Rat} {s m:Rat},Y4 l s=some m->s<=m:=by
 intro l;induction l with
 | nil=>intro s m h;cases h;exact Rat.le_refl
 | cons x l ih=>
  intro s m h;rw[Y4]at h;obtain⟨a,ha,h⟩:=bind_some h;have e:=(JH.1 ha).2;have:=ih h;have ha:0<=QX x:=by
   unfold QX;split
   ·rename_i hx;have: ¬0<=x:=fun e=>by have:=Rat.num_nonneg.2 e;omega
    grind
   ·rename_i hx;exact Rat.num_nonneg.1 (by omega)
  grind
theorem QJB {c:List (List Rat)}: ∀{k:Nat} {s t:Sp} {r:Sp×Sp},J4 c k s t=some r->s.lo<=s.hi->t.lo<=t.hi->r.1.lo<=r.1.hi/\r.2.lo<=r.2.hi:=by
 intro k;induction k with
 | zero=>intro s t r h;cases h
 | succ k ih=>
  intro s t r h h1 h2;rw[J4]at h;cases hb:decide (t.lo<=s.hi)with
  | true=>
   rw[hb]at h;obtain⟨s',e1,h⟩:=bind_some h;obtain⟨t',e2,h⟩:=bind_some h;exact ih h (GN e1 h1) (GN e2 h2)
  | false=>rw[hb]at h;cases h;exact⟨h1,h2⟩
theorem HL {o:List Sp}(ho: ∀t∈o,t.lo<=t.hi)(i:Nat):(o.getD i s0).lo<=(o.getD i s0).hi:=by
 rw[List.getD_eq_getElem?_getD];cases h:o[i]? with
 | none=>exact Rat.le_refl
 | some t=>exact ho t (Zj h)
theorem QJC {c:List (List Rat)}: ∀{k i:Nat} {o R:List Sp},Xn c k i o=some R->(∀t∈o,t.lo<=t.hi)-> ∀t∈R,t.lo<=t.hi:=by
 intro k;induction k with
 | zero=>intro i o R h;cases h;exact fun h=>h
 | succ k ih=>
  intro i o R h ho;rw[Xn]at h;obtain⟨r,hr,h⟩:=bind_some h;obtain⟨r1,r2⟩:=QJB hr (HL ho _) (HL ho _);refine ih h fun t ht=> ?_
  rcases List.mem_or_eq_of_mem_set ht with ht | ht
  ·rcases List.mem_or_eq_of_mem_set ht with ht | ht
   ·exact ho t ht
   ·subst ht;exact r1
  ·subst ht;exact r2
theorem Kh {p:List Rat}{R:List Sp}(h:Jt p=some R):R.length<=1000/\ ∀t∈R,t.lo<=t.hi:=by
 obtain⟨c,m,out,_,hm,ho,hl,hR⟩:=QBs h;have h1:=QTh hm;refine⟨by rw[QI6 hR];exact hl,QJC hR (QMS ho (by show-m<=m;grind) (by simp))⟩
structure SvX where
 i:Nat
 acc:List (RtV×RtV)
def QP5 (l:List (RtV×RtV)):Blk:= .row 93 14 (l.map Qz)
theorem QEk {o:List (RtV×RtV)}{r:RtV×RtV}:Zg o.length (Za Qz o)++[Qz r]=Za Qz (o++[r]):=by
 rw[List.take_of_length_le (by simp),List.map_append];rfl
theorem QKa {o:List (RtV×RtV)}:Zg o.length (Zf 0 (Za Qz o))=Za Qz o:=by
 rw[List.drop_zero,List.take_of_length_le (by simp)]
theorem QKb {o:List (RtV×RtV)}{i:Nat}{r:RtV×RtV}(h:o[i]? =some r):ldE (o.map Qz) i 0 14=some (Qz r):=by
 simp only[ldE,List.getElem?_map,h];rfl
def QJD (x y:Rat)(p q:List Rat)(first second:List Sp)(R:List (RtV×RtV)):LI:=fun id=>
 bif id.beq 8 then .cutf [36,74] ⟨Unit,fun _=>⟨[(5,.x false [.p 5 0]),(8,sR 100000 p),(11,sR 100000 q)],[(5,.box 32 [.r x 100000,.r y 100000])]⟩,fun _=>True,fun _=>0,fun _=>0⟩
 else bif id.beq 12 then .inv ⟨SvX,fun e=>⟨[(5,.x false [.p 5 0]),(8,sR 100000 p),(11,sR 100000 q),(14,.x false [.s 6 (second.map (spN 100000))]),(16,.x false [.w 500 0 e.acc.length]),(85,.x false [.s 6 (first.map (spN 100000))]),(86,iA .i64 first.length),(87,iA .i64 e.i)],[(5,.box 32 [.r x 100000,.r y 100000]),(500,QP5 e.acc)]⟩,
  fun e=>(e.i<=first.length/\e.acc.length<=e.i)/\Ju q p x y second (first.drop e.i) e.acc=some R,fun e=>first.length-e.i,fun _=>0⟩
 else .no
def Gu (l:Rat)(a:Nat)(m:Rat)(b:Nat)(x:Rat)(y:Rat)(_far:Rat)(p:List Rat)(q:List Rat)(first:List Sp)(second:List Sp)(R:List (RtV×RtV))(K:AV->Prop):Prop:=QU (mkT QP3 Uo X4) (oF Tryz.f83) (QJD x y p q first second R) Tryz.f83 [rA l a,rA m b,.x true [.r x 100000,.r y 100000]] K
theorem QBw (l:Rat)(a:Nat)(m:Rat)(b:Nat)(x:Rat)(y:Rat)(far:Rat)(p:List Rat)(q:List Rat)(first:List Sp)(second:List Sp)(R:List (RtV×RtV))(K:AV->Prop):Gu l a m b x y far p q first second R K=((100000<=100000/\100000<=100000)/\∃(s:Rat),Kf x y=some s/\a+b+1<=4294967296/\∃(r:Rat),Wr l m=some r/\100000<=100000/\∃(s_1:Rat),sqZ r=some s_1/\200001<=4294967296/\∃(r:Rat),W2 s s_1=some r/\((-9223372036854775808:Int)<=0/\(0:Int)<9223372036854775808)/\a+b+1<=4294967296/\∃(r_1:Rat),W2 l m=some r_1/\100000<=100000/\∃(s_2:Rat),sqZ r_1=some s_2/\200001<=4294967296/\∃(r_2:Rat),W2 s s_2=some r_2/\((0:Int)<=0/\(0:Int)<3)/\∃(q_1:Rat)(n:Nat),some [Zc r 100000]=some [Zc q_1 n]/\n<=4294967296/\bif decide (Qa q_1>0)then K (AV.x false [Ch.v (Value.slice none 0 0)])else((0:Int)<=2/\(2:Int)<3)/\∃(q_2:Rat)(n:Nat),some [Zc r_2 100000]=some [Zc q_2 n]/\n<=4294967296/\bif decide (Qa q_2<=0)then K (AV.x false [Ch.v (Value.slice none 0 0)])else a<=100000/\∃(s_3:Rat),sqZ l=some s_3/\200001<=4294967296/\∃(r_3:Rat),Wr s s_3=some r_3/\b<=100000/\∃(s:Rat),sqZ m=some s/\200001<=4294967296/\∃(r_4:Rat),W2 r_3 s=some r_4/\((-9223372036854775808:Int)<=2/\(2:Int)<9223372036854775808)/\a+100000<=4294967296/\∃(r_5:Rat),YV l x=some r_5/\200000<=4294967296/\∃(r_6:Rat),YV (↑(2:Int)) r_5=some r_6/\(200001<=4294967296/\∃(r_7:Rat),W2 r_4 r_6=some r_7/\((-9223372036854775808:Int)<= -4/\(-4:Int)<9223372036854775808)/\a+100000<=4294967296/\∃(r_8:Rat),YV l y=some r_8/\200000<=4294967296/\∃(r_9:Rat),YV (↑(-4:Int)) r_8=some r_9/\200001<=4294967296/\∃(r_10:Rat),Wr r_4 r_6=some r_10/\∃(_x_1:Unit),(True/\OfNat.ofNat 0=0)/\0=0/\3=3/\[[Zc r 100000],[Zc (↑(0:Int)) 100000],[Zc r_2 100000]]=lR 100000 p/\3=3/\[[Zc r_7 100000],[Zc r_9 100000],[Zc r_10 100000]]=lR 100000 q/\32=32/\x=x/\100000<=100000/\y=y/\100000<=100000/\True)/\∀(_x_1:Unit),True->OfNat.ofNat 0=0->∃(p_1:List Rat)(c:List (List Rat))(m:Rat)(out:List Sp)(R_1:List Sp),lR 100000 q=lR 100000 p_1/\(((p_1.length<=1000/\out.length<=1000)/\Xg p_1=some c)/\Y4 (c.getD 0 []) (OfNat.ofNat 1)=some m/\XM c 100000 [] (Sp.mk (-m) m)=some out/\Xn c (out.length-1) 1 out=some R_1)/\∃(p_2:List Rat)(c:List (List Rat))(m:Rat)(out:List Sp)(R_2:List Sp),lR 100000 p=lR 100000 p_2/\(((p_2.length<=1000/\out.length<=1000)/\Xg p_2=some c)/\Y4 (c.getD 0 []) (OfNat.ofNat 1)=some m/\XM c 100000 [] (Sp.mk (-m) m)=some out/\Xn c (out.length-1) 1 out=some R_2)/\(∃(x_2:SvX),(((x_2.i<=first.length/\x_2.acc.length<=x_2.i)/\Ju q p x y second (Zf x_2.i first) x_2.acc=some R)/\OfNat.ofNat 0=0)/\0=0/\3=3/\lR 100000 p=lR 100000 p/\3=3/\lR 100000 q=lR 100000 q/\6=6/\Za (spN 100000) R_2=Za (spN 100000) second/\Value.slice none 0 0=Value.slice none 0 0/\0=0/\x_2.acc.length=0/\6=6/\Za (spN 100000) R_1=Za (spN 100000) first/\Zb (Za (spN 100000) R_1).length=Zb first.length/\0=Zb x_2.i/\32=32/\x=x/\100000<=100000/\y=y/\100000<=100000/\Za Qz x_2.acc=[]/\True)/\∀(x_2:SvX),(x_2.i<=first.length/\x_2.acc.length<=x_2.i)/\Ju q p x y second (Zf x_2.i first) x_2.acc=some R->OfNat.ofNat 0=0->bif decide (Zb x_2.i<Zb first.length)then(0<=Zb x_2.i/\Zb x_2.i<Zb (Za (spN 100000) first).length)/\∃(q_3:Rat)(n:Nat)(q_4:Rat)(n_1:Nat),ldE (Za (spN 100000) first) (Zb x_2.i).toNat 0 6=some [Zc q_3 n,Zc q_4 n_1]/\((0:Int)<=0/\0<Zb (Za (spN 100000) second).length)/\∃(q_5:Rat)(n_2:Nat)(q_6:Rat)(n_3:Nat),ldE (Za (spN 100000) second) 0 0 6=some [Zc q_5 n_2,Zc q_6 n_3]/\bif Zb (Za (spN 100000) second).length==2 then ∃(r:RtV)(x_3:Rat)(y_1:Rat)(m:Rat)(n_4:Int),[Zi 3 (lR 100000 q),Zc q_3 n,Zc q_4 n_1]=[Zi 3 (lR 100000 r.p),Zc r.s.lo 100000,Zc r.s.hi 100000]/\[Zc x 100000,Zc y 100000]=[Zc x_3 100000,Zc y_1 100000]/\((r.p.length<=1000/\r.s.lo<=r.s.hi)/\YV (↑(-2:Int)) x_3=some m/\KD [y_1,m,-y_1] 15 16 r=some n_4)/\bif decide (n_4>0)then((0:Int)<=1/\1<Zb (Za (spN 100000) second).length)/\∃(q_7:Rat)(n_5:Nat)(q_8:Rat)(n_6:Nat),ldE (Za (spN 100000) second) 1 0 6=some [Zc q_7 n_5,Zc q_8 n_6]/\((x_2.acc.length+1)*208<=140737488355328/\x_2.acc.length+1<=9223372036854775807)/\∃(x':SvX),(((x'.i<=first.length/\x'.acc.length<=x'.i)/\Ju q p x y second (Zf x'.i first) x'.acc=some R)/\OfNat.ofNat 0=0/\first.length-x'.i<first.length-x_2.i)/\0=0/\3=3/\lR 100000 p=lR 100000 p/\3=3/\lR 100000 q=lR 100000 q/\6=6/\Za (spN 100000) second=Za (spN 100000) second/\0=0/\x_2.acc.length+1=x'.acc.length/\6=6/\Za (spN 100000) first=Za (spN 100000) first/\Zb first.length=Zb first.length/\IntKind.i64.wrap (Zb x_2.i+1)=Zb x'.i/\32=32/\x=x/\100000<=100000/\y=y/\100000<=100000/\93=93/\14=14/\(Zg x_2.acc.length (Za Qz x_2.acc)++[[Zi 3 (lR 100000 q),Zc q_3 n,Zc q_4 n_1,Zi 3 (lR 100000 p),Zc q_7 n_5,Zc q_8 n_6]]=Za Qz x'.acc∨QC (Zg x_2.acc.length (Za Qz x_2.acc)++[[Zi 3 (lR 100000 q),Zc q_3 n,Zc q_4 n_1,Zi 3 (lR 100000 p),Zc q_7 n_5,Zc q_8 n_6]]) (Za Qz x'.acc))/\True else((x_2.acc.length+1)*208<=140737488355328/\x_2.acc.length+1<=9223372036854775807)/\∃(x':SvX),(((x'.i<=first.length/\x'.acc.length<=x'.i)/\Ju q p x y second (Zf x'.i first) x'.acc=some R)/\OfNat.ofNat 0=0/\first.length-x'.i<first.length-x_2.i)/\0=0/\3=3/\lR 100000 p=lR 100000 p/\3=3/\lR 100000 q=lR 100000 q/\6=6/\Za (spN 100000) second=Za (spN 100000) second/\0=0/\x_2.acc.length+1=x'.acc.length/\6=6/\Za (spN 100000) first=Za (spN 100000) first/\Zb first.length=Zb first.length/\IntKind.i64.wrap (Zb x_2.i+1)=Zb x'.i/\32=32/\x=x/\100000<=100000/\y=y/\100000<=100000/\93=93/\14=14/\(Zg x_2.acc.length (Za Qz x_2.acc)++[[Zi 3 (lR 100000 q),Zc q_3 n,Zc q_4 n_1,Zi 3 (lR 100000 p),Zc q_5 n_2,Zc q_6 n_3]]=Za Qz x'.acc∨QC (Zg x_2.acc.length (Za Qz x_2.acc)++[[Zi 3 (lR 100000 q),Zc q_3 n,Zc q_4 n_1,Zi 3 (lR 100000 p),Zc q_5 n_2,Zc q_6 n_3]]) (Za Qz x'.acc))/\True else((x_2.acc.length+1)*208<=140737488355328/\x_2.acc.length+1<=9223372036854775807)/\∃(x':SvX),(((x'.i<=first.length/\x'.acc.length<=x'.i)/\Ju q p x y second (Zf x'.i first) x'.acc=some R)/\OfNat.ofNat 0=0/\first.length-x'.i<first.length-x_2.i)/\0=0/\3=3/\lR 100000 p=lR 100000 p/\3=3/\lR 100000 q=lR 100000 q/\6=6/\Za (spN 100000) second=Za (spN 100000) second/\0=0/\x_2.acc.length+1=x'.acc.length/\6=6/\Za (spN 100000) first=Za (spN 100000) first/\Zb first.length=Zb first.length/\IntKind.i64.wrap (Zb x_2.i+1)=Zb x'.i/\32=32/\x=x/\100000<=100000/\y=y/\100000<=100000/\93=93/\14=14/\(Zg x_2.acc.length (Za Qz x_2.acc)++[[Zi 3 (lR 100000 q),Zc q_3 n,Zc q_4 n_1,Zi 3 (lR 100000 p),Zc q_5 n_2,Zc q_6 n_3]]=Za Qz x'.acc∨QC (Zg x_2.acc.length (Za Qz x_2.acc)++[[Zi 3 (lR 100000 q),Zc q_3 n,Zc q_4 n_1,Zi 3 (lR 100000 p),Zc q_5 n_2,Zc q_6 n_3]]) (Za Qz x'.acc))/\True else K (AV.x false [Zi 14 (Zg x_2.acc.length (Zf 0 (Za Qz x_2.acc)))])):=by kernel_rfl
theorem QP6 (l:Rat)(a:Nat)(m:Rat)(b:Nat)(x:Rat)(y:Rat)(far:Rat)(p:List Rat)(q:List Rat)(first:List Sp)(second:List Sp)(R:List (RtV×RtV))(hc:(a<=100000/\b<=100000)/\((Kf x y=some far/\Gn l m far=some p)/\((0<Qa (p.getD 0 0)∨Qa (p.getD 2 0)<=0)/\R=[]∨ ¬(0<Qa (p.getD 0 0)∨Qa (p.getD 2 0)<=0)/\Gp l m x y far=some q/\Jt q=some first/\Jt p=some second/\1<=second.length/\Ju q p x y second first []=some R)))(K:AV->Prop)(hK:(R=[]->K (.x false [.v (.slice none 0 0)]))/\K (sP R)):QM (Gu l a m b x y far p q first second R K):=by
 refine⟨?_⟩;rw[QBw];try simp only[Zh,R0,R1,Nat.le_refl,R4]
 obtain⟨⟨ha,hb⟩,⟨hf,hp⟩,hc⟩:=hc;obtain⟨hK0,hK⟩:=hK;unfold Gn at hp;obtain⟨a1,h1,hp⟩:=bind_some hp;obtain⟨a2,h2,hp⟩:=bind_some hp;obtain⟨p0,h3,hp⟩:=bind_some hp;obtain⟨b1,h4,hp⟩:=bind_some hp;obtain⟨b2,h5,hp⟩:=bind_some hp;obtain⟨p2,h6,hp⟩:=bind_some hp;cases hp
 rw[show[p0,0,p2].getD 0 0=p0 from rfl,show[p0,0,p2].getD 2 0=p2 from rfl]at hc;refine⟨far,hf,by omega,a1,h1,a2,h2,by omega,p0,h3,⟨by omega,by omega⟩,by omega,b1,h4,b2,h5,by omega,p2,h6,⟨by omega,by omega⟩,p0,100000,rfl,by omega,QF (fun s1=> ?_) (fun s1=>⟨⟨by omega,by omega⟩,p2,100000,rfl,by omega,QF (fun s2=> ?_) (fun s2=> ?_)⟩)⟩
 ·rcases hc with⟨_,e⟩ | ⟨e,_⟩
  ·exact hK0 e
  ·exact absurd (.inl (R5 s1)) e
 ·rcases hc with⟨_,e⟩ | ⟨e,_⟩
  ·exact hK0 e
  ·exact absurd (.inr (R5 s2)) e
 ·rcases hc with⟨e,_⟩ | ⟨_,hq,r1,r2,hl,hR⟩
  ·have:=R6 s1;have:=R6 s2;rcases e with e | e
   ·exact absurd e (by assumption)
   ·exact absurd e (by assumption)
  ·unfold Gp at hq;obtain⟨l2,g1,hq⟩:=bind_some hq;obtain⟨f,g2,hq⟩:=bind_some hq;obtain⟨m2,g3,hq⟩:=bind_some hq;obtain⟨k,g4,hq⟩:=bind_some hq;obtain⟨lx,g5,hq⟩:=bind_some hq;obtain⟨u,g6,hq⟩:=bind_some hq;obtain⟨q0,g7,hq⟩:=bind_some hq;obtain⟨ly,g8,hq⟩:=bind_some hq;obtain⟨q1,g9,hq⟩:=bind_some hq;obtain⟨q2,g10,hq⟩:=bind_some hq;cases hq
   obtain⟨c,m',out,k1,k2,k3,k4,k5⟩:=QBs r1;obtain⟨c',m'',out',k1',k2',k3',k4',k5'⟩:=QBs r2;have ord:=(Kh r1).2;have fl:=(Kh r1).1;obtain⟨t0,ht0⟩: ∃t,second[0]? =some t:=⟨_,Zd (by omega)⟩
   refine⟨by omega,l2,g1,by omega,f,g2,by omega,m2,g3,by omega,k,g4,⟨by omega,by omega⟩,by omega,lx,g5,by omega,u,g6,⟨by omega,q0,g7,⟨by omega,by omega⟩,by omega,ly,g8,by omega,q1,g9,by omega,q2,g10,(),rfl,rfl⟩,
    fun _=>⟨[q0,q1,q2],c,m',out,first,rfl,⟨⟨⟨by simp,k4⟩,k1⟩,k2,k3,k5⟩,[p0,0,p2],c',m'',out',second,rfl,⟨⟨⟨by simp,k4'⟩,k1'⟩,k2',k3',k5'⟩,⟨⟨0,[]⟩,⟨⟨Nat.zero_le _,Nat.le_refl _⟩,hR⟩,rfl,rfl,rfl,by rw[Ze],rfl,rfl⟩,fun z ⟨⟨z1,z2⟩,zv⟩=>QF (fun hj=> ?_) (fun hj=> ?_)⟩⟩
   ·have hj:z.i<first.length:=by have:=R5 hj;omega
    obtain⟨s,hs⟩: ∃s,first[z.i]? =some s:=⟨_,Zd (by omega)⟩
    have ed:first.drop z.i=s::first.drop (z.i+1):=by
     rw[List.drop_eq_getElem_cons hj];congr 1;rw[Zd hj]at hs;exact Option.some.inj hs
    have os:=ord s (Zj hs);rw[ed,Ju]at zv;rw[Int.toNat_natCast];refine⟨⟨by omega,by rw[Ze];omega⟩,s.lo,100000,s.hi,100000,QGK hs,⟨by omega,by rw[Ze];omega⟩,t0.lo,100000,t0.hi,100000,QGK ht0,QF (fun e2=> ?_) (fun e2=> ?_)⟩
    ·have e2:second.length=2:=by simp at e2;omega
     rw[show Nat.beq second.length 2=true by rw[e2];rfl]at zv;simp only[R7]at zv;obtain⟨n,hn,zv⟩:=bind_some zv;unfold QGO at hn;obtain⟨mm,hm,hn⟩:=bind_some hn;obtain⟨t1,ht1⟩: ∃t,second[1]? =some t:=⟨_,Zd (by omega)⟩
     rw[spD ht0,spD ht1]at zv;refine⟨⟨[q0,q1,q2],s⟩,x,y,mm,n,rfl,rfl,⟨⟨by simp,os⟩,hm,hn⟩,QF (fun h3=> ?_) (fun h3=> ?_)⟩
     ·rw[show decide (0<n)=true from h3]at zv;exact⟨⟨by omega,by rw[Ze];omega⟩,t1.lo,100000,t1.hi,100000,QGK ht1,⟨by omega,by omega⟩,⟨z.i+1,z.acc++[(⟨[q0,q1,q2],s⟩,⟨[p0,0,p2],t1⟩)]⟩,⟨⟨⟨by simp only;omega,by simp;omega⟩,zv⟩,by simp only;omega⟩,by simp,by rw[w64 (by omega)];simp,.inl (QEk (r:=(⟨[q0,q1,q2],s⟩,⟨[p0,0,p2],t1⟩)))⟩
     ·rw[show decide (0<n)=false from h3]at zv;exact⟨⟨by omega,by omega⟩,⟨z.i+1,z.acc++[(⟨[q0,q1,q2],s⟩,⟨[p0,0,p2],t0⟩)]⟩,⟨⟨⟨by simp only;omega,by simp;omega⟩,zv⟩,by simp only;omega⟩,by simp,by rw[w64 (by omega)];simp,.inl (QEk (r:=(⟨[q0,q1,q2],s⟩,⟨[p0,0,p2],t0⟩)))⟩
    ·have e2:second.length≠2:=fun e=>by rw[Ze,e]at e2;simp at e2
     rw[show Nat.beq second.length 2=false by cases hb:Nat.beq second.length 2 with | false=>rfl | true=>exact absurd (Nat.eq_of_beq_eq_true hb) e2,spD ht0]at zv;simp only[R8]at zv;exact⟨⟨by omega,by omega⟩,⟨z.i+1,z.acc++[(⟨[q0,q1,q2],s⟩,⟨[p0,0,p2],t0⟩)]⟩,⟨⟨⟨by simp only;omega,by simp;omega⟩,zv⟩,by simp only;omega⟩,by simp,by rw[w64 (by omega)];simp,.inl (QEk (r:=(⟨[q0,q1,q2],s⟩,⟨[p0,0,p2],t0⟩)))⟩
   ·have hj:first.length<=z.i:=by have:=R6 hj;omega
    rw[List.drop_eq_nil_of_le hj]at zv;have zv:z.acc=R:=Option.some.inj zv;rw[QKa,zv];exact hK
def QBx:Ctr
 | [.x true [.r l a],.x true [.r m b],.x true ys]=>some fun K=> ∃(x:Rat) (y:Rat) (far:Rat) (p:List Rat) (q:List Rat) (first:List Sp) (second:List Sp) (R:List (RtV×RtV)),ys=[.r x 100000,.r y 100000]/\((a<=100000/\b<=100000)/\((Kf x y=some far/\Gn l m far=some p)/\((0<Qa (p.getD 0 0)∨Qa (p.getD 2 0)<=0)/\R=[]∨ ¬(0<Qa (p.getD 0 0)∨Qa (p.getD 2 0)<=0)/\Gp l m x y far=some q/\Jt q=some first/\Jt p=some second/\1<=second.length/\Ju q p x y second first []=some R)))/\((R=[]->K (.x false [.v (.slice none 0 0)]))/\K (sP R))
 | _=>none
theorem ok_iSolve:QI 83 QBx:=by
 refine okL Tryz.func83 fun l T hT K hK=> ?_
 unfold QBx at hT;split at hT<;>cases hT
 obtain⟨x,y,far,p,q,first,second,R,rfl,hc,hK⟩:=hK;exact spL (QV QJA Vu Qo) QN Tryz.func83 (QP6 _ _ _ _ _ _ _ _ _ _ _ _ hc K hK)
def QZT:LC:=(83,QBx)::QP3
noncomputable def QaG:Qc:=mkT QZT Uo X4
def GP:Ctr
 | [.x true [.r l a],.x true [.r m b],.x true ys]=>some fun K=> ∃(x y:Rat) (R:List (RtV×RtV)),ys=[.r x 100000,.r y 100000]/\((a<=100000/\b<=100000)/\YW l m x y=some R)/\K (sP R)
 | _=>none
theorem QZU {w:World}{O:Nat->Prop}{ρ:Env}{n:Nat}{v:Value}(h:ConcV w O ρ (.x false [.v (.slice none 0 0)]) v):ConcV w O ρ (.x false [.s n []]) v:=by
 obtain⟨vals,h1,h2⟩:=h;cases h1 with | v _ h1=>exact⟨_,.s0 h1,h2⟩
theorem QGa {l m x y:Rat}{R:List (RtV×RtV)}(h:YW l m x y=some R): ∃far p q first second,(Kf x y=some far/\Gn l m far=some p)/\((0<Qa (p.getD 0 0)∨Qa (p.getD 2 0)<=0)/\R=[]∨ ¬(0<Qa (p.getD 0 0)∨Qa (p.getD 2 0)<=0)/\Gp l m x y far=some q/\Jt q=some first/\Jt p=some second/\1<=second.length/\Ju q p x y second first []=some R):=by
 unfold YW at h;obtain⟨far,hf,h⟩:=bind_some h;obtain⟨p,hp,h⟩:=bind_some h;by_cases e:0<Qa (p.getD 0 0)∨Qa (p.getD 2 0)<=0
 ·have:(decide (0<Qa (p.getD 0 0)) || decide (Qa (p.getD 2 0)<=0))=true:=by simpa using e
  rw[this]at h;cases h
  exact⟨far,p,[],[],[],⟨hf,hp⟩,.inl ⟨e,rfl⟩⟩
 ·have:(decide (0<Qa (p.getD 0 0)) || decide (Qa (p.getD 2 0)<=0))=false:=by
   cases hb:(decide (0<Qa (p.getD 0 0)) || decide (Qa (p.getD 2 0)<=0))with
   | false=>rfl
   | true=>exact absurd (by simpa using hb) e
  rw[this]at h;simp only[R8]at h;obtain⟨q,hq,h⟩:=bind_some h;obtain⟨first,h1,h⟩:=bind_some h;obtain⟨second,h2,h⟩:=bind_some h;cases hb:Nat.ble 1 second.length with
  | true=>rw[hb]at h;exact⟨far,p,q,first,second,⟨hf,hp⟩,.inr ⟨e,hq,h1,h2,Nat.le_of_ble_eq_true hb,h⟩⟩
  | false=>rw[hb]at h;cases h
theorem QJE:QI 83 GP:=by
 refine⟨ok_iSolve.enter,fun l T hT K hK=> ?_⟩;unfold GP at hT;split at hT
 ·rename_i l a m b ys;cases hT
  obtain⟨x,y,R,rfl,⟨h1,h⟩,hK⟩:=hK;obtain⟨far,p,q,first,second,h2,h3⟩:=QGa h;refine Spec.res (ok_iSolve.sound [.x true [.r l a],.x true [.r m b],.x true [.r x 100000,.r y 100000]] _ rfl (fun av=>R=[]/\av= .x false [.v (.slice none 0 0)]∨av=sP R) ⟨x,y,far,p,q,first,second,R,rfl,⟨h1,h2,h3⟩,fun e=> .inl ⟨e,rfl⟩,.inr rfl⟩) fun w O av v e hcv=>⟨_,hK,?_⟩;rcases e with⟨e1,e2⟩ | e
  ·subst e1 e2;exact QZU hcv
  ·subst e;exact hcv
 ·cases hT
def QTi:LC:=(83,GP)::QP3
theorem QP7:QG QTi:= .cons QJE QJA
def QTj (_a:Qx)(L0 L1:QZ)(rs R:List (RtV×RtV)):LI:=fun _=> .inv ⟨SvX,fun e=>⟨[(5,.x false [.p 5 0]),(6,.x false [.p 6 0]),(7,.x false [.w 500 0 e.acc.length]),(23,sP rs),(24,iA .i64 rs.length),(25,iA .i64 e.i)],[(5,.box 55 (QH L0)),(6,.box 55 (QH L1)),(500,QP5 e.acc)]⟩,
  fun e=>(e.i<=rs.length/\e.acc.length<=e.i)/\inF L0.lo L0.hi L1.lo L1.hi (rs.drop e.i) e.acc=some R,fun e=>rs.length-e.i,fun _=>0⟩
abbrev QU4 (a:Qx)(L0:QZ)(L1:QZ)(x:Rat)(y:Rat)(rs:List (RtV×RtV))(R:List (RtV×RtV))(K:AV->Prop):Prop:=(((a.links[0]? =some L0/\a.links[1]? =some L1)/\rs.length<=1000/\ ∀r∈rs,r.1.p.length<=1000/\r.2.p.length<=1000)/\(YW L0.len L1.len x y=some rs/\inF L0.lo L0.hi L1.lo L1.hi rs []=some R))/\(K (sP R))
set_option maxHeartbeats 1000000 in
theorem QZV (a:Qx)(L0:QZ)(L1:QZ)(x:Rat)(y:Rat)(rs:List (RtV×RtV))(R:List (RtV×RtV))(K:AV->Prop)(hK:QU4 a L0 L1 x y rs R K):QM (QU (mkT QTi Uo X4) (oF Tryz.f42) (QTj a L0 L1 rs R) Tryz.f42 [Ka a,.x true [.r x 100000,.r y 100000]] K):=by
 obtain⟨hc,hK⟩:=hK;refine HV ((((0:Int)<=0/\0<Zb (Za QH a.links).length)/\∃(q:Rat),∃(n:Nat),∃(q_1:Rat),∃(n_1:Nat),∃(q_2:Rat),∃(n_2:Nat),∃(q_3:Rat),∃(n_3:Nat),∃(q_4:Rat),∃(n_4:Nat),∃(ys:List (List Ch)),ldE (Za QH a.links) 0 0 16=some [Zc q n,Zc q_1 n_1,Zc q_2 n_2,Zc q_3 n_3,Zc q_4 n_4,Zi 6 ys]/\((0:Int)<=1/\1<Zb (Za QH a.links).length)/\∃(q_5:Rat),∃(n_5:Nat),∃(q_6:Rat),∃(n_6:Nat),∃(q_7:Rat),∃(n_7:Nat),∃(q_8:Rat),∃(n_8:Nat),∃(q_9:Rat),∃(n_9:Nat),∃(ys_1:List (List Ch)),ldE (Za QH a.links) 1 0 16=some [Zc q_5 n_5,Zc q_6 n_6,Zc q_7 n_7,Zc q_8 n_8,Zc q_9 n_9,Zi 6 ys_1]/\∃(x_1:Rat),∃(y_1:Rat),∃(R_1:List (RtV×RtV)),[Zc x 100000,Zc y 100000]=[Zc x_1 100000,Zc y_1 100000]/\((n<=100000/\n_5<=100000)/\YW q q_5 x_1 y_1=some R_1)/\(∃(x:SvX),(((x.i<=rs.length/\x.acc.length<=x.i)/\inF L0.lo L0.hi L1.lo L1.hi (Zf x.i rs) x.acc=some R)/\OfNat.ofNat 0=0)/\0=0/\0=0/\Value.slice none 0 0=Value.slice none 0 0/\0=0/\x.acc.length=0/\14=14/\Za Qz R_1=Za Qz rs/\Zb (Za Qz R_1).length=Zb rs.length/\0=Zb x.i/\55=55/\q=L0.len/\n<=63/\q_1=L0.lo/\n_1<=63/\q_2=L0.hi/\n_2<=63/\q_3=L0.sp/\n_3<=63/\q_4=L0.br/\n_4<=63/\6=6/\ys=Za Xr L0.shape/\55=55/\q_5=L1.len/\n_5<=63/\q_6=L1.lo/\n_6<=63/\q_7=L1.hi/\n_7<=63/\q_8=L1.sp/\n_8<=63/\q_9=L1.br/\n_9<=63/\6=6/\ys_1=Za Xr L1.shape/\Za Qz x.acc=[]/\True)/\∀(x:SvX),(x.i<=rs.length/\x.acc.length<=x.i)/\inF L0.lo L0.hi L1.lo L1.hi (Zf x.i rs) x.acc=some R->OfNat.ofNat 0=0->bif decide (Zb x.i<Zb rs.length)then(0<=Zb x.i/\Zb x.i<Zb (Za Qz rs).length)/\∃(ys:List (List Ch)),∃(q:Rat),∃(n:Nat),∃(q_10:Rat),∃(n_10:Nat),∃(ys_2:List (List Ch)),∃(q_11:Rat),∃(n_11:Nat),∃(q_12:Rat),∃(n_12:Nat),ldE (Za Qz rs) (Zb x.i).toNat 0 14=some [Zi 3 ys,Zc q n,Zc q_10 n_10,Zi 3 ys_2,Zc q_11 n_11,Zc q_12 n_12]/\∃(r:RtV),∃(R_2:Bool),[Zi 3 ys,Zc q n,Zc q_10 n_10]=[Zi 3 (lR 100000 r.p),Zc r.s.lo 100000,Zc r.s.hi 100000]/\((r.p.length<=1000/\63<=100000/\63<=100000)/\XY r L0.lo L0.hi=some R_2)/\bif R_2 then ∃(r:RtV),∃(R_3:Bool),[Zi 3 ys_2,Zc q_11 n_11,Zc q_12 n_12]=[Zi 3 (lR 100000 r.p),Zc r.s.lo 100000,Zc r.s.hi 100000]/\((r.p.length<=1000/\63<=100000/\63<=100000)/\XY r L1.lo L1.hi=some R_3)/\bif R_3 then((x.acc.length+1)*208<=140737488355328/\x.acc.length+1<=9223372036854775807)/\∃(x':SvX),(((x'.i<=rs.length/\x'.acc.length<=x'.i)/\inF L0.lo L0.hi L1.lo L1.hi (Zf x'.i rs) x'.acc=some R)/\OfNat.ofNat 0=0/\rs.length-x'.i<rs.length-x.i)/\0=0/\0=0/\0=0/\x.acc.length+1=x'.acc.length/\14=14/\Za Qz rs=Za Qz rs/\Zb rs.length=Zb rs.length/\IntKind.i64.wrap (Zb x.i+1)=Zb x'.i/\55=55/\L0.len=L0.len/\63<=63/\L0.lo=L0.lo/\63<=63/\L0.hi=L0.hi/\63<=63/\L0.sp=L0.sp/\63<=63/\L0.br=L0.br/\63<=63/\6=6/\Za Xr L0.shape=Za Xr L0.shape/\55=55/\L1.len=L1.len/\63<=63/\L1.lo=L1.lo/\63<=63/\L1.hi=L1.hi/\63<=63/\L1.sp=L1.sp/\63<=63/\L1.br=L1.br/\63<=63/\6=6/\Za Xr L1.shape=Za Xr L1.shape/\93=93/\14=14/\(Zg x.acc.length (Za Qz x.acc)++[[Zi 3 ys,Zc q n,Zc q_10 n_10,Zi 3 ys_2,Zc q_11 n_11,Zc q_12 n_12]]=Za Qz x'.acc∨QC (Zg x.acc.length (Za Qz x.acc)++[[Zi 3 ys,Zc q n,Zc q_10 n_10,Zi 3 ys_2,Zc q_11 n_11,Zc q_12 n_12]]) (Za Qz x'.acc))/\True else ∃(x':SvX),(((x'.i<=rs.length/\x'.acc.length<=x'.i)/\inF L0.lo L0.hi L1.lo L1.hi (Zf x'.i rs) x'.acc=some R)/\OfNat.ofNat 0=0/\rs.length-x'.i<rs.length-x.i)/\0=0/\0=0/\0=0/\x.acc.length=x'.acc.length/\14=14/\Za Qz rs=Za Qz rs/\Zb rs.length=Zb rs.length/\IntKind.i64.wrap (Zb x.i+1)=Zb x'.i/\55=55/\L0.len=L0.len/\63<=63/\L0.lo=L0.lo/\63<=63/\L0.hi=L0.hi/\63<=63/\L0.sp=L0.sp/\63<=63/\L0.br=L0.br/\63<=63/\6=6/\Za Xr L0.shape=Za Xr L0.shape/\55=55/\L1.len=L1.len/\63<=63/\L1.lo=L1.lo/\63<=63/\L1.hi=L1.hi/\63<=63/\L1.sp=L1.sp/\63<=63/\L1.br=L1.br/\63<=63/\6=6/\Za Xr L1.shape=Za Xr L1.shape/\93=93/\14=14/\(Za Qz x.acc=Za Qz x'.acc∨QC (Za Qz x.acc) (Za Qz x'.acc))/\True else ∃(x':SvX),(((x'.i<=rs.length/\x'.acc.length<=x'.i)/\inF L0.lo L0.hi L1.lo L1.hi (Zf x'.i rs) x'.acc=some R)/\OfNat.ofNat 0=0/\rs.length-x'.i<rs.length-x.i)/\0=0/\0=0/\0=0/\x.acc.length=x'.acc.length/\14=14/\Za Qz rs=Za Qz rs/\Zb rs.length=Zb rs.length/\IntKind.i64.wrap (Zb x.i+1)=Zb x'.i/\55=55/\L0.len=L0.len/\63<=63/\L0.lo=L0.lo/\63<=63/\L0.hi=L0.hi/\63<=63/\L0.sp=L0.sp/\63<=63/\L0.br=L0.br/\63<=63/\6=6/\Za Xr L0.shape=Za Xr L0.shape/\55=55/\L1.len=L1.len/\63<=63/\L1.lo=L1.lo/\63<=63/\L1.hi=L1.hi/\63<=63/\L1.sp=L1.sp/\63<=63/\L1.br=L1.br/\63<=63/\6=6/\Za Xr L1.shape=Za Xr L1.shape/\93=93/\14=14/\(Za Qz x.acc=Za Qz x'.acc∨QC (Za Qz x.acc) (Za Qz x'.acc))/\True else K (AV.x false [Zi 14 (Zg x.acc.length (Zf 0 (Za Qz x.acc)))]))) ?_
 try simp only[Zh,R0,R1,Nat.le_refl,R4]
 obtain⟨⟨⟨h0,h1⟩,hrl,hpl⟩,hs,hR⟩:=hc;have l0:=(List.getElem?_eq_some_iff.1 h0).1;have l1:=(List.getElem?_eq_some_iff.1 h1).1
 refine⟨⟨by omega,by rw[Ze];omega⟩,L0.len,63,L0.lo,63,L0.hi,63,L0.sp,63,L0.br,63,_,UA h0,⟨by omega,by rw[Ze];omega⟩,L1.len,63,L1.lo,63,L1.hi,63,L1.sp,63,L1.br,63,_,UA h1,x,y,rs,rfl,⟨⟨by omega,by omega⟩,hs⟩,
  ⟨⟨0,[]⟩,⟨⟨Nat.zero_le _,Nat.le_refl _⟩,hR⟩,rfl,rfl,by rw[Ze],rfl,rfl,by omega,rfl,by omega,rfl,by omega,rfl,by omega,rfl,by omega,rfl,rfl,by omega,rfl,by omega,rfl,by omega,rfl,by omega,rfl,by omega,rfl,rfl⟩,fun z ⟨⟨z1,z2⟩,zv⟩=>QF (fun hj=> ?_) (fun hj=> ?_)⟩
 ·have hj:z.i<rs.length:=by have:=R5 hj;omega
  obtain⟨r,hr⟩: ∃r,rs[z.i]? =some r:=⟨_,Zd (by omega)⟩
  have ed:rs.drop z.i=r::rs.drop (z.i+1):=by
   rw[List.drop_eq_getElem_cons hj];congr 1;rw[Zd hj]at hr;exact Option.some.inj hr
  have hrp:=hpl r (Zj hr);rw[ed,inF]at zv;obtain⟨A,hA,zv⟩:=bind_some zv;rw[Int.toNat_natCast];refine⟨⟨by omega,by rw[Ze];omega⟩,_,_,_,_,_,_,_,_,_,_,QKb hr,r.1,A,rfl,⟨⟨hrp.1,by omega,by omega⟩,hA⟩,QF (fun hb=> ?_) (fun hb=> ?_)⟩
  ·rw[hb]at zv;simp only[R7]at zv;obtain⟨B,hB,zv⟩:=bind_some zv;refine⟨r.2,B,rfl,⟨⟨hrp.2,by omega,by omega⟩,hB⟩,QF (fun hb=> ?_) (fun hb=> ?_)⟩
   ·rw[hb]at zv;exact⟨⟨by omega,by omega⟩,⟨z.i+1,z.acc++[r]⟩,⟨⟨⟨by simp only;omega,by simp;omega⟩,zv⟩,by simp only;omega⟩,by simp,by rw[w64 (by omega)];simp,.inl (QEk (r:=r))⟩
   ·rw[hb]at zv;exact⟨⟨z.i+1,z.acc⟩,⟨⟨⟨by simp only;omega,by simp only;omega⟩,zv⟩,by simp only;omega⟩,rfl,by rw[w64 (by omega)];simp,.inl rfl⟩
  ·rw[hb]at zv;exact⟨⟨z.i+1,z.acc⟩,⟨⟨⟨by simp only;omega,by simp only;omega⟩,zv⟩,by simp only;omega⟩,rfl,by rw[w64 (by omega)];simp,.inl rfl⟩
 ·have hj:rs.length<=z.i:=by have:=R6 hj;omega
  rw[List.drop_eq_nil_of_le hj]at zv;have zv:z.acc=R:=Option.some.inj zv;rw[QKa,zv];exact hK
def QP8:Ctr
 | [.x true xs,.x true ys]=>some fun K=> ∃(a:Qx) (L0:QZ) (L1:QZ) (x:Rat) (y:Rat) (rs:List (RtV×RtV)) (R:List (RtV×RtV)),xs=JU a/\ys=[.r x 100000,.r y 100000]/\QU4 a L0 L1 x y rs R K
 | _=>none
theorem ok_iIn:QI 42 QP8:=by
 refine okL Tryz.func42 fun l T hT K hK=> ?_
 unfold QP8 at hT;split at hT<;>cases hT
 obtain⟨a,L0,L1,x,y,rs,R,rfl,rfl,hK⟩:=hK;exact spL (QV QP7 Vu Qo) QN Tryz.func42 (QZV _ _ _ _ _ _ _ K hK)
def QZW:LC:=(42,QP8)::QTi
noncomputable def QaH:Qc:=mkT QZW Uo X4
end Go.Proofs
namespace Go.Proofs
open Go Go.Eng
theorem QP9 {q p:List Rat}{x y:Rat}{second:List Sp}(h2: ∀t∈second,t.lo<=t.hi): ∀{l:List Sp} {acc R:List (RtV×RtV)},Ju q p x y second l acc=some R->(∀t∈l,t.lo<=t.hi)->(∀r∈acc,(r.1.p=q/\r.1.s.lo<=r.1.s.hi)/\r.2.p=p/\r.2.s.lo<=r.2.s.hi)->
  R.length=acc.length+l.length/\ ∀r∈R,(r.1.p=q/\r.1.s.lo<=r.1.s.hi)/\r.2.p=p/\r.2.s.lo<=r.2.s.hi:=by
 intro l;induction l with
 | nil=>intro acc R h _ ha;cases h;exact⟨by simp,ha⟩
 | cons s l ih=>
  intro acc R h hl ha;have h1:=hl s (by simp);have key: ∀{t:Sp},t.lo<=t.hi->Ju q p x y second l (acc++[(⟨q,s⟩,⟨p,t⟩)])=some R->R.length=acc.length+(s::l).length/\ ∀r∈R,(r.1.p=q/\r.1.s.lo<=r.1.s.hi)/\r.2.p=p/\r.2.s.lo<=r.2.s.hi:=fun ht h=>by
   obtain⟨k1,k2⟩:=ih h (fun t ht=>hl t (by simp[ht])) (fun r hr=>by
    rcases Zk.1 hr with hr | hr
    ·exact ha r hr
    ·simp at hr;subst hr;exact⟨⟨rfl,h1⟩,rfl,ht⟩)
   exact⟨by rw[k1];simp;omega,k2⟩
  rw[Ju]at h;cases hb:Nat.beq second.length 2 with
  | true=>
   rw[hb]at h;obtain⟨n,_,h⟩:=bind_some h;cases hn:decide (0<n)with
   | true=>rw[hn]at h;exact key (HL h2 1) h
   | false=>rw[hn]at h;exact key (HL h2 0) h
  | false=>rw[hb]at h;exact key (HL h2 0) h
theorem QGb {l m x y:Rat}{R:List (RtV×RtV)}(h:YW l m x y=some R):R.length<=1000/\ ∀r∈R,(r.1.p.length=3/\r.1.s.lo<=r.1.s.hi)/\r.2.p.length=3/\r.2.s.lo<=r.2.s.hi:=by
 obtain⟨far,p,q,first,second,⟨_,hp⟩,h⟩:=QGa h;rcases h with⟨_,rfl⟩ | ⟨_,hq,r1,r2,_,h⟩
 ·simp
 ·obtain⟨k1,k2⟩:=QP9 (Kh r2).2 h (Kh r1).2 (by simp);have fl:=(Kh r1).1;have pl:p.length=3:=by
   unfold Gn at hp;obtain⟨_,_,hp⟩:=bind_some hp;obtain⟨_,_,hp⟩:=bind_some hp;obtain⟨_,_,hp⟩:=bind_some hp;obtain⟨_,_,hp⟩:=bind_some hp;obtain⟨_,_,hp⟩:=bind_some hp;obtain⟨_,_,hp⟩:=bind_some hp;cases hp;rfl
  have ql:q.length=3:=by
   unfold Gp at hq;obtain⟨_,_,hq⟩:=bind_some hq;obtain⟨_,_,hq⟩:=bind_some hq;obtain⟨_,_,hq⟩:=bind_some hq;obtain⟨_,_,hq⟩:=bind_some hq;obtain⟨_,_,hq⟩:=bind_some hq;obtain⟨_,_,hq⟩:=bind_some hq;obtain⟨_,_,hq⟩:=bind_some hq;obtain⟨_,_,hq⟩:=bind_some hq;obtain⟨_,_,hq⟩:=bind_some hq;obtain⟨_,_,hq⟩:=bind_some hq;cases hq;rfl
  refine⟨by rw[k1];simp;exact fl,fun r hr=> ?_⟩;obtain⟨⟨e1,e2⟩,e3,e4⟩:=k2 r hr;exact⟨⟨by rw[e1,ql],e2⟩,by rw[e3,pl],e4⟩
theorem QTk {a b c d:Rat}: ∀{l acc R:List (RtV×RtV)},inF a b c d l acc=some R->R.length<=acc.length+l.length/\ ∀r∈R,r∈acc∨r∈l:=by
 intro l;induction l with
 | nil=>intro acc R h;cases h;exact⟨by simp,fun r hr=> .inl hr⟩
 | cons s l ih=>
  intro acc R h;rw[inF]at h;obtain⟨A,_,h⟩:=bind_some h;have skip:inF a b c d l acc=some R->R.length<=acc.length+(s::l).length/\ ∀r∈R,r∈acc∨r∈s::l:=fun h=>by
   obtain⟨k1,k2⟩:=ih h;exact⟨by simp;omega,fun r hr=>(k2 r hr).imp id (fun h=>by simp[h])⟩
  cases A with
  | false=>exact skip h
  | true=>
   simp only[R7]at h;obtain⟨B,_,h⟩:=bind_some h;cases B with
   | false=>exact skip h
   | true=>
    obtain⟨k1,k2⟩:=ih h;refine⟨by simp at k1⊢;omega,fun r hr=> ?_⟩;rcases k2 r hr with hr | hr
    ·rcases Zk.1 hr with hr | hr
     ·exact .inl hr
     ·simp at hr;subst hr;exact .inr (by simp)
    ·exact .inr (by simp[hr])
theorem QZ4 {W:World}{O:Nat->Prop}{ρ:Env}{x y:Rat}{n m n' m':Nat}(h1:n<=n')(h2:m<=m'){v:Value}(h:ConcV W O ρ (.x true [.r x n,.r y m]) v):ConcV W O ρ (.x true [.r x n',.r y m']) v:=by
 obtain⟨vals,h3,h4⟩:=h;cases h3 with | r b1 h3=>cases h3 with | r b2 h3=>exact⟨_,.r (b1.mono h1) (.r (b2.mono h2) h3),h4⟩
def QJF:Ctr
 | [.x true xs,.x true [.r x n,.r y m]]=>some fun K=> ∃(a:Qx) (L0 L1:QZ) (rs R:List (RtV×RtV)),xs=JU a/\((a.links[0]? =some L0/\a.links[1]? =some L1)/\n<=100000/\m<=100000)/\(YW L0.len L1.len x y=some rs/\inF L0.lo L0.hi L1.lo L1.hi rs []=some R)/\K (sP R)
 | _=>none
theorem QTl:QI 42 QJF:=by
 refine⟨ok_iIn.enter,fun l T hT K hK=> ?_⟩;unfold QJF at hT;split at hT
 ·rename_i xs x n y m;cases hT
  obtain⟨a,L0,L1,rs,R,rfl,⟨hl,hn,hm⟩,⟨hs,hR⟩,hK⟩:=hK;obtain⟨s1,s2⟩:=QGb hs;refine Eng.Spec.args (ok_iIn.sound [.x true (JU a),.x true [.r x 100000,.r y 100000]] _ rfl K ⟨a,L0,L1,x,y,rs,R,rfl,rfl,⟨⟨hl,s1,fun r hr=> ?_⟩,hs,hR⟩,hK⟩) fun w O vals hc=> ?_
  ·obtain⟨⟨e1,_⟩,e2,_⟩:=s2 r hr;exact⟨by omega,by omega⟩
  ·cases hc with
   | cons h1 h2=>cases h2 with
    | cons h2 h3=>exact .cons h1 (.cons (QZ4 hn hm h2) h3)
 ·cases hT
def QTm:LC:=(42,QJF)::QTi
theorem QQA:QG QTm:= .cons QTl QP7
def Vv (a:Qx):FrV:=⟨a.x,a.y,a.half,a.t⟩
def QZX:LC:=QTm
noncomputable def QaI:Qc:=mkT QZX Uo X4
end Go.Proofs
