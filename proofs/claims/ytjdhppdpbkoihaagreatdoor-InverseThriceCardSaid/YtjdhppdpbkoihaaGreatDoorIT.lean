/- sturm: split, Roots. -/
import Derived.Test.YtjdhppdpbkoihaaGreatDoorIS
open List renaming map → Za, length_set → Zh, getElem?_eq_getElem → Zj, getElem?_set_self → Zk, take → Zn
open Int renaming ofNat → Zb, ofNat_eq_natCast → Zf
open Go.Eng.Ch renaming r → Zc
open Go.IntKind renaming i64 → Zd
open Nat renaming le_refl → Ze, lt_succ_self → Zg, eq_of_beq_eq_true → Zl, zero_add → Zm
open Go.Value renaming slice → Zi
namespace Go.Proofs
open Go Go.Eng
def WQ (l:List Sp):Blk:= .row 64 6 (l.map (spN 100000))
structure GM where
 k:Nat
 m:Rat
 b:Rat
structure G7 (c:List (List Rat))(k:Nat)(out out':List Sp)(s:Sp)(x:GM):Prop where
 mid:Vs s=some x.m
 rest: ∃t,KC c x.m x.k x.b=some t/\ ∃o,XM c k out ⟨s.lo,t.lo⟩=some o/\XM c k (o++[⟨x.m,x.m⟩]) ⟨t.hi,s.hi⟩=some out'
def QZN (s:Sp):Blk:= .box 64 [.r s.lo 100000,.r s.hi 100000]
def rBx (x:Rat):Blk:= .box 26 [.r x 100000]
def QML (c:List (List Rat))(k:Nat)(s:Sp)(out':List Sp):LI:=fun _=> .inv ⟨GM,fun x=>⟨[(0,sC c),(1,.x false [.v (.slice none 0 0)]),(5,.x false [.p 5 0]),(8,.x false [.p 8 0]),(9,.x false [.p 9 0])],[(5,QZN s),(8,rBx x.m),(9,rBx x.b)]⟩,G7 c k [] out' s,fun x=>x.k,fun _=>0⟩
def QMM (c:List (List Rat))(k:Nat)(s:Sp)(out out':List Sp):LI:=fun _=> .inv ⟨GM,fun x=>⟨[(0,sC c),(1,.x false [.w 1000 0 out.length]),(5,.x false [.p 5 0]),(8,.x false [.p 8 0]),(9,.x false [.p 9 0])],[(1000,WQ out),(5,QZN s),(8,rBx x.m),(9,rBx x.b)]⟩,G7 c k out out' s,fun x=>x.k,fun _=>0⟩
def QTU (c:List (List Rat))(k:Nat)(out out':List Sp)(s:Sp):Prop:=(((1<=c.length/\c.length<=200000)/\ ∀p∈c,p.length<=1000)/\out'.length<=1000000)/\XM c k out s=some out'
def HI (k:Nat):Xl:=fun as0 H d=>match as0 with
 | [.x false [.s 1 xs],.x false [o],.x true ys]=>match o with
  | .v (.slice none 0 0)=>match H d with
   | none=>some fun K=> ∃(c:List (List Rat)) (s:Sp) (out':List Sp),xs=chN c/\ys=[.r s.lo 100000,.r s.hi 100000]/\QTU c k [] out' s/\K (.x false [.w d 0 out'.length]) (upd H d (some (WQ out')))
   | some _=>none
  | .w j z n=>match z with
   | 0=>match H j,H d with
    | some (.row t 6 zs),none=>bif t.beq 64 then some fun K=> ∃(c:List (List Rat)) (s:Sp) (out out':List Sp),xs=chN c/\ys=[.r s.lo 100000,.r s.hi 100000]/\zs=out.map (spN 100000)/\n=out.length/\QTU c k out out' s/\K (.x false [.w d 0 out'.length]) (upd (upd H j (some .dead)) d (some (WQ out')))else none
    | _,_=>none
   | _+1=>none
  | _=>none
 | _=>none
def Msp (k:Nat):List (Nat×Xl):=(59,HI k)::WO
noncomputable def Tsp (k:Nat):Qc:=mkT QC7 (Msp k) X4
def QKO:OT:=fun id=>bif id.beq 8 then([0,1,2,3,4,5,6,8,9,10,11,7,12,13],[[],[],[],[],[3],[],[4,3,5],[1,2,6,4,3,5],[],[],[9],[8,10,9],[0,7,1,2,6,4,3,5,11,8,10,9],[12,0,7,1,2,6,4,3,5,11,8,10,9]])else bif id.beq 10 then([0,1,2,3,4,5,6],[[],[],[1],[1,2],[3,1,2],[0,4,3,1,2],[5,0,4,3,1,2]])else bif id.beq 11 then([0,1,3,4,7,2,5,6,8],[[],[],[0,1],[],[],[3,4,2,0,1],[2,0,1,5,3,4],[],[7,6,2,0,1,5,3,4]])else bif id.beq 13 then([0,1,2,3,4,5,6,8,7,9,10,11,12],[[],[],[],[2],[],[4],[3,2,5,4],[0,1,6,3,2,5,4],[],[8,7,0,1,6,3,2,5,4],[9,8,7,0,1,6,3,2,5,4],[7,0,1,6,3,2,5,4,10,9,8],[11,7,0,1,6,3,2,5,4,10,9,8]])else([],[])
theorem UF {c:List (List Rat)}: ∀{k:Nat} {out o:List Sp} {s:Sp},XM c k out s=some o->out.length<=o.length:=by
 intro k;induction k with
 | zero=>intro out o s h;cases h
 | succ k ih=>
  intro out o s h;rw[XM]at h;obtain⟨n,hn,h⟩:=bind_some h;cases hb:n==0 with
  | true=>rw[hb]at h;cases h;exact Ze _
  | false=>
   rw[hb]at h;cases hb2:n==1 with
   | true=>rw[hb2]at h;cases h;simp
   | false=>
    rw[hb2]at h;simp only[R8]at h;obtain⟨m,hm,h⟩:=bind_some h;obtain⟨z,hz,h⟩:=bind_some h;cases z with
    | false=>
     obtain⟨o1,h1,h⟩:=bind_some h;exact Nat.le_trans (ih h1) (ih h)
    | true=>
     obtain⟨b,hb0,h⟩:=bind_some h;obtain⟨t,ht,h⟩:=bind_some h;obtain⟨o1,ho,h⟩:=bind_some h;have k1:=ih ho;have k2:=ih h;simp at k2;omega
theorem QI5 {o:List Sp}{s:Sp}:Zn o.length (Za (spN 100000) o)++[[Zc s.lo 100000,Zc s.hi 100000]]=Za (spN 100000) (o++[s]):=by
 rw[List.take_of_length_le (by simp),List.map_append];rfl
set_option maxRecDepth 100000 in
set_option maxHeartbeats 1000000 in
theorem QTV (c:List (List Rat))(k:Nat)(s:Sp)(out':List Sp)(h:QTU c (k+1) [] out' s):QM (Xy (X:=Unit) (Tsp k) QKO (QML c k s out') Tryz.f59 [sC c,.x false [.v (.slice none 0 0)],.x true [.r s.lo 100000,.r s.hi 100000]] [] (fun _=>True) (fun _=>⟨[(6,.x false [.w 0 0 out'.length])],[(0,WQ out')]⟩)):=by
 refine HV ((∃(c_1:List (List Rat)),∃(s_1:Sp),∃(R:Int),chN c=chN c_1/\[Zc s.lo 100000,Zc s.hi 100000]=[Zc s_1.lo 100000,Zc s_1.hi 100000]/\(((1<=c_1.length/\c_1.length<=200000)/\∀(p:List Rat),p∈c_1->p.length<=1000)/\YF c_1 s_1=some R)/\bif R==0 then ∃(_x:Unit),True/\Zi none 0 0=Zi none 0 0/\0=0/\out'.length=0/\Za (spN 100000) out'=[]/\True else bif R==1 then(1*80<=140737488355328/\1<=9223372036854775807)/\∃(_x:Unit),True/\0=0/\1=out'.length/\64=64/\6=6/\([[Zc s.lo 100000,Zc s.hi 100000]]=Za (spN 100000) out'∨QC [[Zc s.lo 100000,Zc s.hi 100000]] (Za (spN 100000) out'))/\True else ∃(s_2:Sp),[Zc s.lo 100000,Zc s.hi 100000]=[Zc s_2.lo 100000,Zc s_2.hi 100000]/\True/\∃(R:Rat),Vs s_2=some R/\∃(c_2:List (List Rat)),∃(R_1:Bool),chN c=chN c_2/\(((1<=c_2.length/\100000<=100000)/\∀(p:List Rat),p∈c_2->p.length<=1000)/\YQ c_2 R=some R_1)/\bif !R_1 then ∃(c_3:List (List Rat)),∃(s_3:Sp),∃(out'_1:List Sp),chN c=chN c_3/\[Zc s.lo 100000,Zc R 100000]=[Zc s_3.lo 100000,Zc s_3.hi 100000]/\((((1<=c_3.length/\c_3.length<=200000)/\∀(p:List Rat),p∈c_3->p.length<=1000)/\out'_1.length<=1000000)/\XM c_3 k [] s_3=some out'_1)/\∃(c_4:List (List Rat)),∃(s_4:Sp),∃(out:List Sp),∃(out'_2:List Sp),chN c=chN c_4/\[Zc R 100000,Zc s.hi 100000]=[Zc s_4.lo 100000,Zc s_4.hi 100000]/\Za (spN 100000) out'_1=Za (spN 100000) out/\out'_1.length=out.length/\((((1<=c_4.length/\c_4.length<=200000)/\∀(p:List Rat),p∈c_4->p.length<=1000)/\out'_2.length<=1000000)/\XM c_4 k out s_4=some out'_2)/\∃(_x:Unit),True/\0=0/\out'_2.length=out'.length/\64=64/\6=6/\(Za (spN 100000) out'_2=Za (spN 100000) out'∨QC (Za (spN 100000) out'_2) (Za (spN 100000) out'))/\True else 200001<=4294967296/\∃(r:Rat),W2 s.hi R=some r/\(∃(x:GM),(G7 c k [] out' s x/\OfNat.ofNat 0=0)/\1=1/\chN c=chN c/\Zi none 0 0=Zi none 0 0/\0=0/\0=0/\0=0/\64=64/\s.lo=s.lo/\100000<=100000/\s.hi=s.hi/\100000<=100000/\26=26/\R=x.m/\100000<=100000/\26=26/\r=x.b/\100000<=100000/\True)/\∀(x:GM),G7 c k [] out' s x->OfNat.ofNat 0=0->((-9223372036854775808:Int)<=0/\(0:Int)<9223372036854775808)/\((-9223372036854775808:Int)<=1/\(1:Int)<9223372036854775808)/\∃(s_3:Sp),[Zc (↑(0:Int)) 100000,Zc (↑(1:Int)) 100000]=[Zc s_3.lo 100000,Zc s_3.hi 100000]/\True/\∃(R:Rat),Vs s_3=some R/\200000<=4294967296/\∃(r:Rat),YV x.b R=some r/\200001<=4294967296/\∃(r_1:Rat),W2 x.m r=some r_1/\200001<=4294967296/\∃(r_2:Rat),Wr x.m r=some r_2/\∃(c_3:List (List Rat)),∃(s_4:Sp),∃(R:Int),chN c=chN c_3/\[Zc r_1 100000,Zc r_2 100000]=[Zc s_4.lo 100000,Zc s_4.hi 100000]/\(((1<=c_3.length/\c_3.length<=200000)/\∀(p:List Rat),p∈c_3->p.length<=1000)/\YF c_3 s_4=some R)/\bif R==1 then ∃(c_4:List (List Rat)),∃(R:Bool),chN c=chN c_4/\(((1<=c_4.length/\100000<=100000)/\∀(p:List Rat),p∈c_4->p.length<=1000)/\YQ c_4 r_1=some R)/\bif !R then ∃(c_5:List (List Rat)),∃(R:Bool),chN c=chN c_5/\(((1<=c_5.length/\100000<=100000)/\∀(p:List Rat),p∈c_5->p.length<=1000)/\YQ c_5 r_2=some R)/\bif !R then ∃(c_6:List (List Rat)),∃(s_5:Sp),∃(out'_1:List Sp),chN c=chN c_6/\[Zc s.lo 100000,Zc r_1 100000]=[Zc s_5.lo 100000,Zc s_5.hi 100000]/\((((1<=c_6.length/\c_6.length<=200000)/\∀(p:List Rat),p∈c_6->p.length<=1000)/\out'_1.length<=1000000)/\XM c_6 k [] s_5=some out'_1)/\100000<=2000000000/\((out'_1.length+1)*80<=140737488355328/\out'_1.length+1<=9223372036854775807)/\∃(c_7:List (List Rat)),∃(s_6:Sp),∃(out:List Sp),∃(out'_2:List Sp),chN c=chN c_7/\[Zc r_2 100000,Zc s.hi 100000]=[Zc s_6.lo 100000,Zc s_6.hi 100000]/\Zn out'_1.length (Za (spN 100000) out'_1)++[[Zc x.m 100000,Zc x.m 100000]]=Za (spN 100000) out/\out'_1.length+1=out.length/\((((1<=c_7.length/\c_7.length<=200000)/\∀(p:List Rat),p∈c_7->p.length<=1000)/\out'_2.length<=1000000)/\XM c_7 k out s_6=some out'_2)/\∃(_x:Unit),True/\0=0/\out'_2.length=out'.length/\64=64/\6=6/\(Za (spN 100000) out'_2=Za (spN 100000) out'∨QC (Za (spN 100000) out'_2) (Za (spN 100000) out'))/\True else ∃(x':GM),(G7 c k [] out' s x'/\OfNat.ofNat 0=0/\x'.k<x.k)/\1=1/\chN c=chN c/\Zi none 0 0=Zi none 0 0/\0=0/\0=0/\0=0/\64=64/\s.lo=s.lo/\100000<=100000/\s.hi=s.hi/\100000<=100000/\26=26/\x.m=x'.m/\100000<=100000/\26=26/\r=x'.b/\100000<=100000/\True else ∃(x':GM),(G7 c k [] out' s x'/\OfNat.ofNat 0=0/\x'.k<x.k)/\1=1/\chN c=chN c/\Zi none 0 0=Zi none 0 0/\0=0/\0=0/\0=0/\64=64/\s.lo=s.lo/\100000<=100000/\s.hi=s.hi/\100000<=100000/\26=26/\x.m=x'.m/\100000<=100000/\26=26/\r=x'.b/\100000<=100000/\True else ∃(x':GM),(G7 c k [] out' s x'/\OfNat.ofNat 0=0/\x'.k<x.k)/\1=1/\chN c=chN c/\Zi none 0 0=Zi none 0 0/\0=0/\0=0/\0=0/\64=64/\s.lo=s.lo/\100000<=100000/\s.hi=s.hi/\100000<=100000/\26=26/\x.m=x'.m/\100000<=100000/\26=26/\r=x'.b/\100000<=100000/\True)) ?_
 simp only[R0,R1,Ze,R4];obtain⟨⟨hk,hl⟩,h⟩:=h;rw[XM]at h;obtain⟨n,hn,h⟩:=bind_some h;refine⟨c,s,n,rfl,rfl,⟨hk,hn⟩,QF (fun hb=> ?_) (fun hb=>QF (fun hb2=> ?_) (fun hb2=> ?_))⟩
 ·rw[hb]at h;cases h
  exact⟨(),rfl,rfl⟩
 ·rw[hb,hb2]at h;cases h
  exact⟨⟨by omega,by omega⟩,(),rfl,.inl rfl⟩
 ·rw[hb,hb2]at h;simp only[R8]at h;obtain⟨m,hm,h⟩:=bind_some h;obtain⟨z,hz,h⟩:=bind_some h;refine⟨s,rfl,m,hm,c,z,rfl,⟨⟨hk.1.1,hk.2⟩,hz⟩,?_⟩;cases z with
  | false=>
   simp only[R8]at h;obtain⟨o,ho,h⟩:=bind_some h;have l1:=UF h;exact⟨c,⟨s.lo,m⟩,o,rfl,rfl,⟨⟨hk,by omega⟩,ho⟩,c,⟨m,s.hi⟩,o,out',rfl,rfl,rfl,rfl,⟨⟨hk,hl⟩,h⟩,(),rfl,.inl rfl⟩
  | true=>
   simp only[R7]at h;obtain⟨b,hb0,h⟩:=bind_some h;obtain⟨t,ht,h⟩:=bind_some h;obtain⟨o,ho,h⟩:=bind_some h;refine⟨by omega,b,hb0,⟨⟨FU,m,b⟩,⟨hm,t,ht,o,ho,h⟩,rfl,rfl⟩,fun x hx=> ?_⟩;obtain⟨xm,t,ht,o,ho,h⟩:=hx;obtain⟨xk,m',b'⟩:=x;simp only at xm ht ho h;cases xk with
   | zero=>cases ht
   | succ k'=>
    rw[KC]at ht;obtain⟨hh,h1,ht⟩:=bind_some ht;obtain⟨bb,h2,ht⟩:=bind_some ht;obtain⟨l,h3,ht⟩:=bind_some ht;obtain⟨u,h4,ht⟩:=bind_some ht;obtain⟨n',h5,ht⟩:=bind_some ht;refine⟨by omega,by omega,⟨_,_⟩,rfl,hh,h1,by omega,bb,h2,by omega,l,h3,by omega,u,h4,c,⟨l,u⟩,n',rfl,rfl,⟨hk,h5⟩,QF (fun hb=> ?_) (fun hb=> ?_)⟩
    ·rw[hb]at ht;simp only[R7]at ht;obtain⟨z1,h6,ht⟩:=bind_some ht;refine⟨c,z1,rfl,⟨⟨hk.1.1,hk.2⟩,h6⟩,?_⟩;cases z1 with
     | true=>exact⟨⟨k',m',bb⟩,⟨⟨xm,t,ht,o,ho,h⟩,Zg k'⟩,rfl,rfl⟩
     | false=>
      simp only[R8]at ht;obtain⟨z2,h7,ht⟩:=bind_some ht;refine⟨c,z2,rfl,⟨⟨hk.1.1,hk.2⟩,h7⟩,?_⟩;cases z2 with
      | true=>exact⟨⟨k',m',bb⟩,⟨⟨xm,t,ht,o,ho,h⟩,Zg k'⟩,rfl,rfl⟩
      | false=>
       cases ht
       have l1:=UF h;have l2:(o++[(⟨m',m'⟩:Sp)]).length=o.length+1:=by simp
       exact⟨c,⟨s.lo,l⟩,o,rfl,rfl,⟨⟨hk,by omega⟩,ho⟩,by omega,⟨by omega,by omega⟩,c,⟨u,s.hi⟩,o++[⟨m',m'⟩],out',rfl,rfl,QI5 (s:=⟨m',m'⟩),l2.symm,⟨⟨hk,hl⟩,h⟩,(),rfl,.inl rfl⟩
    ·rw[hb]at ht;exact⟨⟨k',m',bb⟩,⟨⟨xm,t,ht,o,ho,h⟩,Zg k'⟩,rfl,rfl⟩
set_option maxRecDepth 100000 in
set_option maxHeartbeats 1000000 in
theorem QTW (c:List (List Rat))(k:Nat)(s:Sp)(out out':List Sp)(h:QTU c (k+1) out out' s):QM (Xy (X:=Unit) (Tsp k) QKO (QMM c k s out out') Tryz.f59 [sC c,.x false [.w 1000 0 out.length],.x true [.r s.lo 100000,.r s.hi 100000]] [(1000,WQ out)] (fun _=>True) (fun _=>⟨[(6,.x false [.w 500 0 out'.length])],[(1000,.dead),(500,WQ out')]⟩)):=by
 refine HV ((∃(c_1:List (List Rat)),∃(s_1:Sp),∃(R:Int),chN c=chN c_1/\[Zc s.lo 100000,Zc s.hi 100000]=[Zc s_1.lo 100000,Zc s_1.hi 100000]/\(((1<=c_1.length/\c_1.length<=200000)/\∀(p:List Rat),p∈c_1->p.length<=1000)/\YF c_1 s_1=some R)/\bif R==0 then ∃(_x:Unit),True/\0=0/\out.length=out'.length/\64=64/\6=6/\(Za (spN 100000) out=Za (spN 100000) out'∨QC (Za (spN 100000) out) (Za (spN 100000) out'))/\True else bif R==1 then((out.length+1)*80<=140737488355328/\out.length+1<=9223372036854775807)/\∃(_x:Unit),True/\0=0/\out.length+1=out'.length/\64=64/\6=6/\(Zn out.length (Za (spN 100000) out)++[[Zc s.lo 100000,Zc s.hi 100000]]=Za (spN 100000) out'∨QC (Zn out.length (Za (spN 100000) out)++[[Zc s.lo 100000,Zc s.hi 100000]]) (Za (spN 100000) out'))/\True else ∃(s_2:Sp),[Zc s.lo 100000,Zc s.hi 100000]=[Zc s_2.lo 100000,Zc s_2.hi 100000]/\True/\∃(R:Rat),Vs s_2=some R/\∃(c_2:List (List Rat)),∃(R_1:Bool),chN c=chN c_2/\(((1<=c_2.length/\100000<=100000)/\∀(p:List Rat),p∈c_2->p.length<=1000)/\YQ c_2 R=some R_1)/\bif !R_1 then ∃(c_3:List (List Rat)),∃(s_3:Sp),∃(out_1:List Sp),∃(out'_1:List Sp),chN c=chN c_3/\[Zc s.lo 100000,Zc R 100000]=[Zc s_3.lo 100000,Zc s_3.hi 100000]/\Za (spN 100000) out=Za (spN 100000) out_1/\out.length=out_1.length/\((((1<=c_3.length/\c_3.length<=200000)/\∀(p:List Rat),p∈c_3->p.length<=1000)/\out'_1.length<=1000000)/\XM c_3 k out_1 s_3=some out'_1)/\∃(c_4:List (List Rat)),∃(s_4:Sp),∃(out:List Sp),∃(out'_2:List Sp),chN c=chN c_4/\[Zc R 100000,Zc s.hi 100000]=[Zc s_4.lo 100000,Zc s_4.hi 100000]/\Za (spN 100000) out'_1=Za (spN 100000) out/\out'_1.length=out.length/\((((1<=c_4.length/\c_4.length<=200000)/\∀(p:List Rat),p∈c_4->p.length<=1000)/\out'_2.length<=1000000)/\XM c_4 k out s_4=some out'_2)/\∃(_x:Unit),True/\0=0/\out'_2.length=out'.length/\64=64/\6=6/\(Za (spN 100000) out'_2=Za (spN 100000) out'∨QC (Za (spN 100000) out'_2) (Za (spN 100000) out'))/\True else 200001<=4294967296/\∃(r:Rat),W2 s.hi R=some r/\(∃(x:GM),(G7 c k out out' s x/\OfNat.ofNat 0=0)/\1=1/\chN c=chN c/\0=0/\out.length=out.length/\0=0/\0=0/\0=0/\64=64/\6=6/\(Za (spN 100000) out=Za (spN 100000) out∨QC (Za (spN 100000) out) (Za (spN 100000) out))/\64=64/\s.lo=s.lo/\100000<=100000/\s.hi=s.hi/\100000<=100000/\26=26/\R=x.m/\100000<=100000/\26=26/\r=x.b/\100000<=100000/\True)/\∀(x:GM),G7 c k out out' s x->OfNat.ofNat 0=0->((-9223372036854775808:Int)<=0/\(0:Int)<9223372036854775808)/\((-9223372036854775808:Int)<=1/\(1:Int)<9223372036854775808)/\∃(s_3:Sp),[Zc (↑(0:Int)) 100000,Zc (↑(1:Int)) 100000]=[Zc s_3.lo 100000,Zc s_3.hi 100000]/\True/\∃(R:Rat),Vs s_3=some R/\200000<=4294967296/\∃(r:Rat),YV x.b R=some r/\200001<=4294967296/\∃(r_1:Rat),W2 x.m r=some r_1/\200001<=4294967296/\∃(r_2:Rat),Wr x.m r=some r_2/\∃(c_3:List (List Rat)),∃(s_4:Sp),∃(R:Int),chN c=chN c_3/\[Zc r_1 100000,Zc r_2 100000]=[Zc s_4.lo 100000,Zc s_4.hi 100000]/\(((1<=c_3.length/\c_3.length<=200000)/\∀(p:List Rat),p∈c_3->p.length<=1000)/\YF c_3 s_4=some R)/\bif R==1 then ∃(c_4:List (List Rat)),∃(R:Bool),chN c=chN c_4/\(((1<=c_4.length/\100000<=100000)/\∀(p:List Rat),p∈c_4->p.length<=1000)/\YQ c_4 r_1=some R)/\bif !R then ∃(c_5:List (List Rat)),∃(R:Bool),chN c=chN c_5/\(((1<=c_5.length/\100000<=100000)/\∀(p:List Rat),p∈c_5->p.length<=1000)/\YQ c_5 r_2=some R)/\bif !R then ∃(c_6:List (List Rat)),∃(s_5:Sp),∃(out_1:List Sp),∃(out'_1:List Sp),chN c=chN c_6/\[Zc s.lo 100000,Zc r_1 100000]=[Zc s_5.lo 100000,Zc s_5.hi 100000]/\Za (spN 100000) out=Za (spN 100000) out_1/\out.length=out_1.length/\((((1<=c_6.length/\c_6.length<=200000)/\∀(p:List Rat),p∈c_6->p.length<=1000)/\out'_1.length<=1000000)/\XM c_6 k out_1 s_5=some out'_1)/\100000<=2000000000/\((out'_1.length+1)*80<=140737488355328/\out'_1.length+1<=9223372036854775807)/\∃(c_7:List (List Rat)),∃(s_6:Sp),∃(out:List Sp),∃(out'_2:List Sp),chN c=chN c_7/\[Zc r_2 100000,Zc s.hi 100000]=[Zc s_6.lo 100000,Zc s_6.hi 100000]/\Zn out'_1.length (Za (spN 100000) out'_1)++[[Zc x.m 100000,Zc x.m 100000]]=Za (spN 100000) out/\out'_1.length+1=out.length/\((((1<=c_7.length/\c_7.length<=200000)/\∀(p:List Rat),p∈c_7->p.length<=1000)/\out'_2.length<=1000000)/\XM c_7 k out s_6=some out'_2)/\∃(_x:Unit),True/\0=0/\out'_2.length=out'.length/\64=64/\6=6/\(Za (spN 100000) out'_2=Za (spN 100000) out'∨QC (Za (spN 100000) out'_2) (Za (spN 100000) out'))/\True else ∃(x':GM),(G7 c k out out' s x'/\OfNat.ofNat 0=0/\x'.k<x.k)/\1=1/\chN c=chN c/\0=0/\out.length=out.length/\0=0/\0=0/\0=0/\64=64/\6=6/\(Za (spN 100000) out=Za (spN 100000) out∨QC (Za (spN 100000) out) (Za (spN 100000) out))/\64=64/\s.lo=s.lo/\100000<=100000/\s.hi=s.hi/\100000<=100000/\26=26/\x.m=x'.m/\100000<=100000/\26=26/\r=x'.b/\100000<=100000/\True else ∃(x':GM),(G7 c k out out' s x'/\OfNat.ofNat 0=0/\x'.k<x.k)/\1=1/\chN c=chN c/\0=0/\out.length=out.length/\0=0/\0=0/\0=0/\64=64/\6=6/\(Za (spN 100000) out=Za (spN 100000) out∨QC (Za (spN 100000) out) (Za (spN 100000) out))/\64=64/\s.lo=s.lo/\100000<=100000/\s.hi=s.hi/\100000<=100000/\26=26/\x.m=x'.m/\100000<=100000/\26=26/\r=x'.b/\100000<=100000/\True else ∃(x':GM),(G7 c k out out' s x'/\OfNat.ofNat 0=0/\x'.k<x.k)/\1=1/\chN c=chN c/\0=0/\out.length=out.length/\0=0/\0=0/\0=0/\64=64/\6=6/\(Za (spN 100000) out=Za (spN 100000) out∨QC (Za (spN 100000) out) (Za (spN 100000) out))/\64=64/\s.lo=s.lo/\100000<=100000/\s.hi=s.hi/\100000<=100000/\26=26/\x.m=x'.m/\100000<=100000/\26=26/\r=x'.b/\100000<=100000/\True)) ?_
 simp only[R0,R1,Ze,R4,R2];obtain⟨⟨hk,hl⟩,h⟩:=h;rw[XM]at h;obtain⟨n,hn,h⟩:=bind_some h;refine⟨c,s,n,rfl,rfl,⟨hk,hn⟩,QF (fun hb=> ?_) (fun hb=>QF (fun hb2=> ?_) (fun hb2=> ?_))⟩
 ·rw[hb]at h;cases h
  exact⟨(),rfl,.inl rfl⟩
 ·rw[hb,hb2]at h;cases h
  exact⟨⟨by simp at hl;omega,by simp at hl;omega⟩,(),by simp,.inl QI5⟩
 ·rw[hb,hb2]at h;simp only[R8]at h;obtain⟨m,hm,h⟩:=bind_some h;obtain⟨z,hz,h⟩:=bind_some h;refine⟨s,rfl,m,hm,c,z,rfl,⟨⟨hk.1.1,hk.2⟩,hz⟩,?_⟩;cases z with
  | false=>
   simp only[R8]at h;obtain⟨o,ho,h⟩:=bind_some h;have l1:=UF h;exact⟨c,⟨s.lo,m⟩,out,o,rfl,rfl,rfl,rfl,⟨⟨hk,by omega⟩,ho⟩,c,⟨m,s.hi⟩,o,out',rfl,rfl,rfl,rfl,⟨⟨hk,hl⟩,h⟩,(),rfl,.inl rfl⟩
  | true=>
   simp only[R7]at h;obtain⟨b,hb0,h⟩:=bind_some h;obtain⟨t,ht,h⟩:=bind_some h;obtain⟨o,ho,h⟩:=bind_some h;refine⟨by omega,b,hb0,⟨⟨FU,m,b⟩,⟨hm,t,ht,o,ho,h⟩,rfl,rfl⟩,fun x hx=> ?_⟩;obtain⟨xm,t,ht,o,ho,h⟩:=hx;obtain⟨xk,m',b'⟩:=x;simp only at xm ht ho h;cases xk with
   | zero=>cases ht
   | succ k'=>
    rw[KC]at ht;obtain⟨hh,h1,ht⟩:=bind_some ht;obtain⟨bb,h2,ht⟩:=bind_some ht;obtain⟨l,h3,ht⟩:=bind_some ht;obtain⟨u,h4,ht⟩:=bind_some ht;obtain⟨n',h5,ht⟩:=bind_some ht;refine⟨by omega,by omega,⟨_,_⟩,rfl,hh,h1,by omega,bb,h2,by omega,l,h3,by omega,u,h4,c,⟨l,u⟩,n',rfl,rfl,⟨hk,h5⟩,QF (fun hb=> ?_) (fun hb=> ?_)⟩
    ·rw[hb]at ht;simp only[R7]at ht;obtain⟨z1,h6,ht⟩:=bind_some ht;refine⟨c,z1,rfl,⟨⟨hk.1.1,hk.2⟩,h6⟩,?_⟩;cases z1 with
     | true=>exact⟨⟨k',m',bb⟩,⟨⟨xm,t,ht,o,ho,h⟩,Zg k'⟩,rfl,rfl⟩
     | false=>
      simp only[R8]at ht;obtain⟨z2,h7,ht⟩:=bind_some ht;refine⟨c,z2,rfl,⟨⟨hk.1.1,hk.2⟩,h7⟩,?_⟩;cases z2 with
      | true=>exact⟨⟨k',m',bb⟩,⟨⟨xm,t,ht,o,ho,h⟩,Zg k'⟩,rfl,rfl⟩
      | false=>
       cases ht
       have l1:=UF h;have l2:(o++[(⟨m',m'⟩:Sp)]).length=o.length+1:=by simp
       exact⟨c,⟨s.lo,l⟩,out,o,rfl,rfl,rfl,rfl,⟨⟨hk,by omega⟩,ho⟩,by omega,⟨by omega,by omega⟩,c,⟨u,s.hi⟩,o++[⟨m',m'⟩],out',rfl,rfl,QI5 (s:=⟨m',m'⟩),l2.symm,⟨⟨hk,hl⟩,h⟩,(),rfl,.inl rfl⟩
    ·rw[hb]at ht;exact⟨⟨k',m',bb⟩,⟨⟨xm,t,ht,o,ho,h⟩,Zg k'⟩,rfl,rfl⟩
theorem QMN {H:HP}{k d:Nat}{b b':Blk}(hk:H k=some b)(hd:H d=none):XS [(1000,k),(500,d)] (QP [(1000,Blk.dead),(500,b')]) H=upd (upd H k (some .dead)) d (some b'):=by
 have dk:d≠k:=fun h=>by subst h;rw[hk]at hd;cases hd
 funext j;unfold XS;simp only[lkB];cases h:j.beq k with
 | true=>
  have:=Zl h;subst this;rw[QY _ _ (fun h=>dk h.symm),QT];rfl
 | false=>
  have hjk:j≠k:=fun e=>by subst e;simp at h
  simp only[R8];cases h2:j.beq d with
  | true=>
   have:=Zl h2;subst this;rw[QT];rfl
  | false=>
   have:j≠d:=fun e=>by subst e;simp at h2
   rw[QY _ _ this,QY _ _ hjk];rfl
theorem QPn: ∀k,Xz 59 (HI k):=by
 intro k;induction k with
 | zero=>
  refine⟨Qf Tryz.func59 (by kernel_rfl),fun l H d T hT K hK=> ?_⟩;exfalso;unfold HI at hT;split at hT
  ·split at hT
   ·split at hT
    ·cases hT;obtain⟨c,s,out',_,_,h,_⟩:=hK;cases h.2
    ·cases hT
   ·split at hT
    ·split at hT
     ·rename_i t zs _ _;cases hb:t.beq 64 with
      | false=>rw[hb]at hT;cases hT
      | true=>rw[hb]at hT;cases hT;obtain⟨c,s,out,out',_,_,_,_,h,_⟩:=hK;cases h.2
     ·cases hT
    ·cases hT
   ·cases hT
  ·cases hT
 | succ k ih=>
  have hT':XP (Tsp k):=QV QAM (CtrMsOK.cons ih Xt) Qo;refine⟨Qf Tryz.func59 (by kernel_rfl),fun l H d T hT K hK=> ?_⟩;unfold HI at hT;split at hT
  ·split at hT
   ·split at hT
    ·rename_i hd;cases hT
     obtain⟨c,s,out',rfl,rfl,h,hK⟩:=hK;exact KV hT' QN Tryz.func59 (by kernel_rfl) (by kernel_rfl) (by rfl) rfl hd rfl (QTV c k s out' h) (by rw[QBh];exact hK)
    ·cases hT
   ·split at hT
    ·split at hT
     ·rename_i _ j _ _ _ _ t zs e1 hd;cases hb:t.beq 64 with
      | false=>rw[hb]at hT;cases hT
      | true=>
       rw[hb]at hT;cases hT
       have ht:=Zl hb;subst ht;obtain⟨c,s,out,out',rfl,rfl,rfl,rfl,h,hK⟩:=hK;refine Xe (R:=[(1000,j)]) (N:=[(500,d)]) (Hl:=[(1000,WQ out)]) hT' QN Tryz.func59 (by kernel_rfl) (by kernel_rfl) (by rfl)
        (as0:=[sC c,.x false [.w 1000 0 out.length],.x true [.r s.lo 100000,.r s.hi 100000]]) ?_ (UT e1 rfl rfl) rfl (by simp) (by simp) (fun q hq=>by simp at hq;subst hq;exact hd) (fun x=>⟨fun q hq=> ?_,fun q hq b hb=> ?_⟩) (QTW c k s out out' h) (fun x hx=>⟨_,rfl,?_⟩)
       ·simp[YZ,YO,X6,lkB,sC]
       ·simp at hq;subst hq;exact fun h=>by have h':some Blk.dead=none:=h;cases h'
       ·simp at hq;rcases hq with rfl | rfl
        ·have h':some Blk.dead=some b:=hb;cases h';rfl
        ·have h':some (WQ out')=some b:=hb;cases h';rfl
       ·show K _ (XS [(1000,j),(500,d)] (QP [(1000,Blk.dead),(500,WQ out')]) H)
        rw[QMN (b:=WQ out) e1 hd];exact hK
     ·cases hT
    ·cases hT
   ·cases hT
  ·cases hT
def Uo:List (Nat×Xl):=(59,HI FU)::WO
theorem Vu:XU Uo:= .cons (QPn FU) Xt
theorem QBs {p:List Rat}{R:List Sp}(h:Jt p=some R): ∃c m out,Xg p=some c/\Y4 (c.getD 0 []) 1=some m/\XM c FU [] ⟨-m,m⟩=some out/\out.length<=1000/\Xn c (out.length-1) 1 out=some R:=by
 unfold Jt at h;obtain⟨c,hc,h⟩:=bind_some h;obtain⟨m,hm,h⟩:=bind_some h;obtain⟨out,ho,h⟩:=bind_some h;cases hb:Nat.ble out.length 1000 with
 | true=>rw[hb]at h;exact⟨c,m,out,hc,hm,ho,Nat.le_of_ble_eq_true hb,h⟩
 | false=>rw[hb]at h;cases h
theorem spD {l:List Sp}{i:Nat}{t:Sp}(h:l[i]? =some t):l.getD i s0=t:=by rw[List.getD_eq_getElem?_getD,h];rfl
theorem QZO {ts:List Sp}{i:Nat}{t:Sp}(h:ts[i]? =some t):ldE (ts.map (spN 100000)) i 3 3=some [.r t.hi 100000]:=by
 simp only[ldE,List.getElem?_map,h];rfl
theorem QZP {ts:List Sp}{i:Nat}{t:Sp}(h:ts[i]? =some t):ldE (ts.map (spN 100000)) i 0 3=some [.r t.lo 100000]:=by
 simp only[ldE,List.getElem?_map,h];rfl
theorem QKP {a b:Rat}:Xk a b<0↔a<b:=by
 unfold Xk;by_cases h:a<b
 ·rw[if_pos h];exact⟨fun _=>h,fun _=>by omega⟩
 ·rw[if_neg h];refine⟨fun h2=> ?_,fun h2=>absurd h2 h⟩;split at h2<;>omega
theorem QGX {l:List Sp}{i:Nat}{t:Sp}(h:l[i]? =some t):l.set i t=l:=by
 apply List.ext_getElem?
 intro j;by_cases e:i=j
 ·subst e;have:=(List.getElem?_eq_some_iff.1 h).1;rw[Zk this,h]
 ·rw[List.getElem?_set_ne e]
theorem QTX {l:List Sp}{i j:Nat}{a b a' b':Sp}(h:i≠j):(l.set i a).set j b=((((l.set i a').set j b').set i a).set j b):=by
 rw[List.set_comm _ _ h.symm,List.set_set,List.set_comm _ _ h,List.set_set];exact List.set_comm _ _ h.symm
theorem QI6 {c:List (List Rat)}: ∀{k i:Nat} {o R:List Sp},Xn c k i o=some R->R.length=o.length:=by
 intro k;induction k with
 | zero=>intro i o R h;cases h;rfl
 | succ k ih=>
  intro i o R h;rw[Xn]at h;obtain⟨r,_,h⟩:=bind_some h;rw[ih h,Zh,Zh]
structure RoX where
 kk:Nat
 k:Nat
 i:Nat
 s:Rat
 out:List Sp
 r:Sp×Sp
def QI7 (c:List (List Rat))(p0:List Rat)(m:Rat)(R:List Sp):LI:=fun id=>
 bif id.beq 6 then .inv ⟨RoX,fun e=>⟨[(4,sC c),(6,.x false [.p 6 0]),(22,sR 100000 p0),(23,iA .i64 p0.length),(24,iA .i64 e.i)],[(6,rBx e.s)]⟩,fun e=>e.i<=p0.length/\Y4 (p0.drop e.i) e.s=some m,fun e=>p0.length-e.i,fun _=>0⟩
 else bif id.beq 12 then .inv ⟨RoX,fun e=>⟨[(4,sC c),(9,.x false [.w 500 0 e.out.length]),(10,iA .i64 e.i)],[(500,WQ e.out)]⟩,fun e=>((1<=e.i/\e.k=e.out.length-e.i)/\e.out.length<=1000000/\e.i<=1000001)/\Xn c e.k e.i e.out=some R,fun e=>e.k,fun _=>0⟩
 else .inv ⟨RoX,fun e=>⟨[(4,sC c),(9,.x false [.w 500 0 e.out.length]),(10,iA .i64 e.i)],[(500,WQ e.out)]⟩,fun e=>((1<=e.i/\e.k+1+e.i=e.out.length)/\e.out.length<=1000000)/\J4 c e.kk (e.out.getD (e.i-1) s0) (e.out.getD e.i s0)=some e.r/\Xn c e.k (e.i+1) ((e.out.set (e.i-1) e.r.1).set e.i e.r.2)=some R,fun e=>e.kk,fun e=>e.k+1⟩
def Gt (p:List Rat)(c:List (List Rat))(m:Rat)(_out:List Sp)(R:List Sp)(K:AV->Prop):Prop:=QU (mkT QC7 Uo X4) (oF Tryz.f27) (QI7 c (c.getD 0 []) m R) Tryz.f27 [sR 100000 p] K
theorem QBt (p:List Rat)(c:List (List Rat))(m:Rat)(out:List Sp)(R:List Sp)(K:AV->Prop):Gt p c m out R K=(∃(p_1:List Rat)(R_1:List (List Rat)),lR 100000 p=lR 100000 p_1/\(p_1.length<=1000/\Xg p_1=some R_1)/\((-9223372036854775808:Int)<=1/\(1:Int)<9223372036854775808)/\((0:Int)<=0/\0<Zb (chN R_1).length)/\∃(ys:List (List Ch)),ldE (chN R_1) 0 0 1=some [Ch.s 3 ys]/\(∃(x:RoX),((x.i<=(c.getD 0 []).length/\Y4 (List.drop x.i (c.getD 0 [])) x.s=some m)/\OfNat.ofNat 0=0)/\1=1/\chN R_1=chN c/\0=0/\3=3/\ys=lR 100000 (c.getD 0 [])/\Zb ys.length=Zb (c.getD 0 []).length/\0=Zb x.i/\26=26/\↑(1:Int)=x.s/\100000<=100000/\True)/\∀(x:RoX),x.i<=(c.getD 0 []).length/\Y4 (List.drop x.i (c.getD 0 [])) x.s=some m->OfNat.ofNat 0=0->bif decide (Zb x.i<Zb (c.getD 0 []).length)then(0<=Zb x.i/\Zb x.i<Zb (lR 100000 (c.getD 0 [])).length)/\∃(q:Rat)(n:Nat),ldE (lR 100000 (c.getD 0 [])) (Zb x.i).toNat 0 3=some [Zc q n]/\n<=100000/\200001<=4294967296/\∃(r:Rat),Wr x.s (QX q)=some r/\∃(x':RoX),((x'.i<=(c.getD 0 []).length/\Y4 (List.drop x'.i (c.getD 0 [])) x'.s=some m)/\OfNat.ofNat 0=0/\(c.getD 0 []).length-x'.i<(c.getD 0 []).length-x.i)/\1=1/\chN c=chN c/\0=0/\3=3/\lR 100000 (c.getD 0 [])=lR 100000 (c.getD 0 [])/\Zb (c.getD 0 []).length=Zb (c.getD 0 []).length/\Zd.wrap (Zb x.i+1)=Zb x'.i/\26=26/\r=x'.s/\100000<=100000/\True else 100000<=100000/\∃(c_1:List (List Rat))(s:Sp)(out':List Sp),chN c=chN c_1/\[Zc (-x.s) 100000,Zc x.s 100000]=[Zc s.lo 100000,Zc s.hi 100000]/\((((1<=c_1.length/\c_1.length<=200000)/\∀(p:List Rat),p∈c_1->p.length<=1000)/\out'.length<=1000000)/\XM c_1 100000 [] s=some out')/\(∃(x:RoX),((((1<=x.i/\x.k=x.out.length-x.i)/\x.out.length<=1000000/\x.i<=1000001)/\Xn c x.k x.i x.out=some R)/\OfNat.ofNat 0=0)/\1=1/\chN c=chN c/\0=0/\out'.length=x.out.length/\1=Zb x.i/\64=64/\6=6/\(Za (spN 100000) out'=Za (spN 100000) x.out∨QC (Za (spN 100000) out') (Za (spN 100000) x.out))/\True)/\∀(x:RoX),((1<=x.i/\x.k=x.out.length-x.i)/\x.out.length<=1000000/\x.i<=1000001)/\Xn c x.k x.i x.out=some R->OfNat.ofNat 0=0->bif decide (Zb x.i<Zb x.out.length)then(∃(x_1:RoX),((((1<=x_1.i/\x_1.k+1+x_1.i=x_1.out.length)/\x_1.out.length<=1000000)/\J4 c x_1.kk (x_1.out.getD (x_1.i-1) s0) (x_1.out.getD x_1.i s0)=some x_1.r/\Xn c x_1.k (x_1.i+1) ((x_1.out.set (x_1.i-1) x_1.r.fst).set x_1.i x_1.r.snd)=some R)/\x_1.k+1=x.k)/\1=1/\chN c=chN c/\0=0/\x.out.length=x_1.out.length/\Zb x.i=Zb x_1.i/\64=64/\6=6/\(Za (spN 100000) x.out=Za (spN 100000) x_1.out∨QC (Za (spN 100000) x.out) (Za (spN 100000) x_1.out))/\True)/\∀(x_1:RoX),((1<=x_1.i/\x_1.k+1+x_1.i=x_1.out.length)/\x_1.out.length<=1000000)/\J4 c x_1.kk (x_1.out.getD (x_1.i-1) s0) (x_1.out.getD x_1.i s0)=some x_1.r/\Xn c x_1.k (x_1.i+1) ((x_1.out.set (x_1.i-1) x_1.r.fst).set x_1.i x_1.r.snd)=some R->x_1.k+1=x.k->(0<=Zd.wrap (Zb x_1.i-1)/\Zd.wrap (Zb x_1.i-1)<Zb x_1.out.length)/\∃(q:Rat)(n:Nat),ldE (Za (spN 100000) x_1.out) (0+(Zd.wrap (Zb x_1.i-1)).toNat) 3 3=some [Zc q n]/\(0<=Zb x_1.i/\Zb x_1.i<Zb x_1.out.length)/\∃(q_1:Rat)(n_1:Nat),ldE (Za (spN 100000) x_1.out) (0+(Zb x_1.i).toNat) 0 3=some [Zc q_1 n_1]/\n+n_1<=4294967296/\bif decide (Xk q q_1≥0)then(0<=Zd.wrap (Zb x_1.i-1)/\Zd.wrap (Zb x_1.i-1)<Zb x_1.out.length)/\∃(q:Rat)(n:Nat)(q_2:Rat)(n_2:Nat),ldE (Za (spN 100000) x_1.out) (0+(Zd.wrap (Zb x_1.i-1)).toNat) 0 6=some [Zc q n,Zc q_2 n_2]/\(0<=Zb x_1.i/\Zb x_1.i<Zb x_1.out.length)/\∃(q_3:Rat)(n_3:Nat)(q_4:Rat)(n_4:Nat),ldE (Za (spN 100000) x_1.out) (0+(Zb x_1.i).toNat) 0 6=some [Zc q_3 n_3,Zc q_4 n_4]/\∃(c_2:List (List Rat))(s:Sp)(R_2:Sp),chN c=chN c_2/\[Zc q n,Zc q_2 n_2]=[Zc s.lo 100000,Zc s.hi 100000]/\(((1<=c_2.length/\c_2.length<=200000)/\∀(p:List Rat),p∈c_2->p.length<=1000)/\J3 c_2 s=some R_2)/\∃(c_3:List (List Rat))(s:Sp)(R_3:Sp),chN c=chN c_3/\[Zc q_3 n_3,Zc q_4 n_4]=[Zc s.lo 100000,Zc s.hi 100000]/\(((1<=c_3.length/\c_3.length<=200000)/\∀(p:List Rat),p∈c_3->p.length<=1000)/\J3 c_3 s=some R_3)/\(0<=Zd.wrap (Zb x_1.i-1)/\Zd.wrap (Zb x_1.i-1)<Zb x_1.out.length)/\0+(Zd.wrap (Zb x_1.i-1)).toNat<(Za (spN 100000) x_1.out).length/\(0<=Zb x_1.i/\Zb x_1.i<Zb x_1.out.length)/\0+(Zb x_1.i).toNat<((Za (spN 100000) x_1.out).set (0+(Zd.wrap (Zb x_1.i-1)).toNat) [Zc R_2.lo 100000,Zc R_2.hi 100000]).length/\∃(x':RoX),((((1<=x'.i/\x'.k+1+x'.i=x'.out.length)/\x'.out.length<=1000000)/\J4 c x'.kk (x'.out.getD (x'.i-1) s0) (x'.out.getD x'.i s0)=some x'.r/\Xn c x'.k (x'.i+1) ((x'.out.set (x'.i-1) x'.r.fst).set x'.i x'.r.snd)=some R)/\x'.k+1=x.k/\x'.kk<x_1.kk)/\1=1/\chN c=chN c/\0=0/\x_1.out.length=x'.out.length/\Zb x_1.i=Zb x'.i/\64=64/\6=6/\(((Za (spN 100000) x_1.out).set (0+(Zd.wrap (Zb x_1.i-1)).toNat) [Zc R_2.lo 100000,Zc R_2.hi 100000]).set (0+(Zb x_1.i).toNat) [Zc R_3.lo 100000,Zc R_3.hi 100000]=Za (spN 100000) x'.out∨QC (((Za (spN 100000) x_1.out).set (0+(Zd.wrap (Zb x_1.i-1)).toNat) [Zc R_2.lo 100000,Zc R_2.hi 100000]).set (0+(Zb x_1.i).toNat) [Zc R_3.lo 100000,Zc R_3.hi 100000]) (Za (spN 100000) x'.out))/\True else ∃(x':RoX),((((1<=x'.i/\x'.k=x'.out.length-x'.i)/\x'.out.length<=1000000/\x'.i<=1000001)/\Xn c x'.k x'.i x'.out=some R)/\OfNat.ofNat 0=0/\x'.k<x.k)/\1=1/\chN c=chN c/\0=0/\x_1.out.length=x'.out.length/\Zd.wrap (Zb x_1.i+1)=Zb x'.i/\64=64/\6=6/\(Za (spN 100000) x_1.out=Za (spN 100000) x'.out∨QC (Za (spN 100000) x_1.out) (Za (spN 100000) x'.out))/\True else K (AV.t [(false,[Ch.s 6 (Zn x.out.length (List.drop 0 (Za (spN 100000) x.out)))]),(false,[Ch.v (Value.int Zd 0)])])):=by kernel_rfl
theorem QPo (p:List Rat)(c:List (List Rat))(m:Rat)(out:List Sp)(R:List Sp)(hc:((p.length<=1000/\out.length<=1000)/\Xg p=some c)/\(Y4 (c.getD 0 []) 1=some m/\XM c FU [] ⟨-m,m⟩=some out/\Xn c (out.length-1) 1 out=some R))(K:AV->Prop)(hK:K (.t [(false,[.s 6 (R.map (spN 100000))]),(false,[.v (.int .i64 0)])])):QM (Gt p c m out R K):=by
  refine⟨?_⟩;rw[QBt];try simp only[Zf,R0,R1,Zm,Ze,R4]
  obtain⟨⟨⟨hl,hol⟩,hc⟩,hm,ho,hR⟩:=hc;have hk:=QBk hc;obtain⟨q0,hq0,hg⟩:=QZJ hk.1.1;have hp0:=hk.2 q0 (List.mem_of_getElem? hq0);rw[hg]at hm⊢;refine⟨p,c,rfl,⟨hl,hc⟩,⟨by omega,by omega⟩,⟨Int.le_refl _,by rw[QBj];omega⟩,lR 100000 q0,QGS hq0,⟨⟨0,0,0,1,[],(s0,s0)⟩,⟨Nat.zero_le _,hm⟩,rfl,rfl,by rw[X5],rfl,rfl⟩,fun x ⟨x1,xv⟩=>QF (fun hj=> ?_) (fun hj=> ?_)⟩
  · have hj:x.i<q0.length:=by have:=R5 hj;omega
    obtain⟨q,hq⟩: ∃q,q0[x.i]? =some q:=⟨_,Zj (by omega)⟩
    have ed:q0.drop x.i=q::q0.drop (x.i+1):=by
      rw[List.drop_eq_getElem_cons hj];congr 1;rw[Zj hj]at hq;exact Option.some.inj hq
    rw[ed,Y4]at xv;obtain⟨u,hu,xv⟩:=bind_some xv;exact⟨⟨by omega,by rw[X5];omega⟩,q,100000,by rw[Int.toNat_natCast];exact JJ hq,by omega,by omega,u,hu,⟨0,0,x.i+1,u,[],(s0,s0)⟩,⟨⟨by simp only;omega,xv⟩,by simp only;omega⟩,by rw[w64 (by omega)];simp,rfl⟩
  · have hj:q0.length<=x.i:=by have:=R6 hj;omega
    rw[List.drop_eq_nil_of_le hj]at xv;have xs:x.s=m:=Option.some.inj xv;rw[xs];refine⟨c,⟨-m,m⟩,out,rfl,rfl,⟨⟨hk,by omega⟩,ho⟩,⟨⟨0,out.length-1,1,0,out,(s0,s0)⟩,⟨⟨⟨Ze _,rfl⟩,by simp only;omega,by simp only;omega⟩,hR⟩,rfl,rfl,.inl rfl⟩,fun y ⟨⟨⟨y1,y2⟩,y3,y4⟩,yv⟩=>QF (fun hj=> ?_) (fun hj=> ?_)⟩
    · have hj:y.i<y.out.length:=by have:=R5 hj;omega
      obtain⟨k,hk'⟩: ∃k,y.k=k+1:=⟨y.k-1,by omega⟩;rw[hk',Xn]at yv;obtain⟨r,hr,yv⟩:=bind_some yv;refine⟨⟨⟨FU,k,y.i,0,y.out,r⟩,⟨⟨⟨⟨y1,by simp only;omega⟩,y3⟩,hr,yv⟩,hk'.symm⟩,rfl,rfl,.inl rfl⟩,fun z ⟨⟨⟨z1,z2⟩,z3⟩,zv,zw⟩ hz=> ?_⟩;obtain⟨s,hs⟩: ∃s,z.out[z.i-1]? =some s:=⟨_,Zj (by omega)⟩
      obtain⟨t,ht⟩: ∃t,z.out[z.i]? =some t:=⟨_,Zj (by omega)⟩
      have ew:Zd.wrap ((z.i:Int)-1)=((z.i-1:Nat):Int):=by rw[w64 (by omega)];omega
      rw[spD hs,spD ht]at zv;rw[ew];simp only[Int.toNat_natCast];refine⟨⟨by omega,by omega⟩,s.hi,100000,QZO hs,⟨by omega,by omega⟩,t.lo,100000,QZP ht,by omega,QF (fun hb=> ?_) (fun hb=> ?_)⟩
      · have hb:t.lo<=s.hi:=Rat.not_lt.1 fun e=>by have:=R5 hb;have:=QKP.2 e;omega
        cases hkk:z.kk with
        | zero=>rw[hkk]at zv;cases zv
        | succ kk=>
          rw[hkk,J4,decide_eq_true hb]at zv;simp only[R7]at zv;obtain⟨s',h1,zv⟩:=bind_some zv;obtain⟨t',h2,zv⟩:=bind_some zv;have l1:(z.i-1)<z.out.length:=by omega
          refine⟨⟨by omega,by omega⟩,s.lo,100000,s.hi,100000,QGK hs,⟨by omega,by omega⟩,t.lo,100000,t.hi,100000,QGK ht,c,s,s',rfl,rfl,⟨hk,h1⟩,c,t,t',rfl,rfl,⟨hk,h2⟩,⟨by omega,by omega⟩,by rw[List.length_map];omega,⟨by omega,by omega⟩,by rw[Zh,List.length_map];omega,⟨kk,z.k,z.i,0,(z.out.set (z.i-1) s').set z.i t',z.r⟩,⟨⟨⟨⟨z1,by simp only[Zh];omega⟩,by simp only[Zh];omega⟩,?_,?_⟩,hz,by simp only;omega⟩,by simp only[Zh],rfl,.inl ?_⟩
          · simp only;rw[spD (t:=s') (by rw[List.getElem?_set_ne (by omega),Zk (by omega)]),spD (t:=t') (by rw[Zk (by rw[Zh];omega)])];exact zv
          · simp only;rw[<-QTX (by omega:z.i-1≠z.i)];exact zw
          · rw[List.map_set,List.map_set];rfl
      · have hb : ¬ t.lo ≤ s.hi := fun e => by have := R6 hb; have : ¬ Xk s.hi t.lo < 0 := fun k => by have := QKP.1 k; grind
                                               omega
        cases hkk:z.kk with
        | zero=>rw[hkk]at zv;cases zv
        | succ kk=>
          rw[hkk,J4,decide_eq_false hb]at zv;have er:(s,t)=z.r:=Option.some.inj zv;rw[<-er,QGX hs,QGX ht]at zw;exact⟨⟨0,z.k,z.i+1,0,z.out,(s0,s0)⟩,⟨⟨⟨⟨by simp only;omega,by simp only;omega⟩,z3,by simp only;omega⟩,zw⟩,by simp only;omega⟩,rfl,by rw[w64 (by omega)];simp,.inl rfl⟩
    · have hj:y.out.length<=y.i:=by have:=R6 hj;omega
      have:y.k=0:=by omega
      rw[this]at yv;have yv:y.out=R:=Option.some.inj yv;rw[List.drop_zero,List.take_of_length_le (by simp),yv];exact hK
def HJ:Ctr
 | [.x false [.s 3 xs]]=>some fun K=> ∃(p:List Rat) (c:List (List Rat)) (m:Rat) (out:List Sp) (R:List Sp),xs=lR 100000 p/\(((p.length<=1000/\out.length<=1000)/\Xg p=some c)/\(Y4 (c.getD 0 []) 1=some m/\XM c FU [] ⟨-m,m⟩=some out/\Xn c (out.length-1) 1 out=some R))/\(K (.t [(false,[.s 6 (R.map (spN 100000))]),(false,[.v (.int .i64 0)])]))
 | _=>none
theorem QMO:QI 27 HJ:=by
 refine okL Tryz.func27 fun l T hT K hK=> ?_
 unfold HJ at hT;split at hT<;>cases hT
 obtain⟨p,c,m,out,R,rfl,hc,hK⟩:=hK;exact spL (QV QAM Vu Qo) QN Tryz.func27 (QPo _ _ _ _ _ hc K hK)
def QZQ:LC:=(27,HJ)::QC7
noncomputable def QaD:Qc:=mkT QZQ Uo X4
end Go.Proofs
namespace Go.Proofs
open Go Go.Eng
def QC8 (r:RtV):List Ch:=[.s 3 (lR 100000 r.p),.r r.s.lo 100000,.r r.s.hi 100000]
theorem QI8 {s:Sp}{m:Rat}(h:Vs s=some m):m=(s.lo+s.hi)/2:=by
 unfold Vs at h;obtain⟨a,h1,h2⟩:=bind_some h;have e1:=(JH.1 h1).2;have e2:=(JH.1 h2).2;subst e1;rw[<-e2,show QGN=1/2 by decide+kernel];grind
theorem GN {c:List (List Rat)}{s t:Sp}(h:J3 c s=some t)(ho:s.lo<=s.hi):t.lo<=t.hi:=by
 unfold J3 at h;obtain⟨m,hm,h⟩:=bind_some h;obtain⟨z,_,h⟩:=bind_some h;have e:=QI8 hm;cases z with
 | true=>cases h;exact Rat.le_refl
 | false=>
  simp only[R8]at h;obtain⟨n,_,h⟩:=bind_some h;cases hb:n==1 with
  | true=>rw[hb]at h;cases h;show s.lo<=m;grind
  | false=>rw[hb]at h;cases h;show m<=s.hi;grind
theorem QMP {c:List (List Rat)}{w:Rat}: ∀{k:Nat} {s t:Sp},Ke c w k s=some t->s.lo<=s.hi->t.lo<=t.hi:=by
 intro k;induction k with
 | zero=>intro s t h;cases h
 | succ k ih=>
  intro s t h ho;rw[Ke]at h;obtain⟨d,_,h⟩:=bind_some h;cases hb:decide (w<d)with
  | true=>rw[hb]at h;obtain⟨s',h1,h⟩:=bind_some h;exact ih h (GN h1 ho)
  | false=>rw[hb]at h;cases h;exact ho
theorem QBu {r R:RtV}{den:Int}(h:JB r den=some R)(ho:r.s.lo<=r.s.hi):R.p=r.p/\R.s.lo<=R.s.hi:=by
 unfold JB at h;obtain⟨s,hs,h⟩:=bind_some h;cases h
 unfold Gl at hs;obtain⟨c,_,hs⟩:=bind_some hs;obtain⟨n,_,hs⟩:=bind_some hs;refine⟨rfl,?_⟩;cases hb:n==1 with
 | true=>rw[hb]at hs;exact QMP hs ho
 | false=>rw[hb]at hs;cases hs
def QBv (r:RtV)(den:Int)(_R:RtV)(K:AV->Prop):Prop:=QU QU3 (oF Tryz.f86) noL Tryz.f86 [.x true [.s 3 (lR 100000 r.p),.r r.s.lo 100000,.r r.s.hi 100000],iA .i64 den] K
theorem QCR (r:RtV)(den:Int)(R:RtV)(K:AV->Prop):QBv r den R K=(((((-9223372036854775808:Int)<=1/\(1:Int)<9223372036854775808)/\ -9223372036854775808<=den/\den<9223372036854775808)/\(↑den:Rat)≠OfNat.ofNat 0)/\∃(p:List Rat)(c:List (List Rat))(s:Sp)(w:Rat)(R:Sp),lR 100000 r.p=lR 100000 p/\[Zc r.s.lo 100000,Zc r.s.hi 100000]=[Zc s.lo 100000,Zc s.hi 100000]/\[Zc ((↑(1:Int):Rat)/(↑den:Rat)) 100000]=[Zc w 100000]/\(((p.length<=1000/\s.lo<=s.hi)/\Xg p=some c)/\OfNat.ofNat 0<w/\Gl p s w=some R)/\K (AV.x true [Ch.s 3 (lR 100000 r.p),Zc R.lo 100000,Zc R.hi 100000])):=by kernel_rfl
theorem QTY (r:RtV)(den:Int)(R:RtV)(hc:((r.p.length<=1000/\r.s.lo<=r.s.hi)/\1<=den/\den<9223372036854775808)/\(JB r den=some R))(K:AV->Prop)(hK:K (.x true (QC8 R))):QM (QBv r den R K):=by
 refine⟨?_⟩;rw[QCR];try simp only[Zf,R0,R1,Zm,Ze,R4,R2,R3]
 obtain⟨⟨⟨hl,ho⟩,hd,hd2⟩,hR⟩:=hc;unfold JB at hR;obtain⟨s,hs,hR⟩:=bind_some hR;cases hR
 have hs2:=hs;unfold Gl at hs2;obtain⟨c,hc,_⟩:=bind_some hs2;have h0:(0:Rat)<((1:Int):Rat)/(den:Rat):=by
  have:(0:Rat)<(den:Rat):=Rat.intCast_pos.2 (by omega);rw[Rat.div_def];exact Rat.mul_pos (by decide) (Rat.inv_pos.2 this)
 have hn:(den:Rat)≠0:=fun e=>by have:=Rat.intCast_eq_zero_iff.1 e;omega
 exact⟨⟨⟨by omega,by omega⟩,hn⟩,r.p,c,r.s,_,s,rfl,rfl,rfl,⟨⟨⟨hl,ho⟩,hc⟩,h0,hs⟩,hK⟩
def QAN:Ctr
 | [.x true xs,.x false [.v (.int .i64 den)]]=>some fun K=> ∃(r:RtV) (R:RtV),xs=QC8 r/\(((r.p.length<=1000/\r.s.lo<=r.s.hi)/\1<=den/\den<9223372036854775808)/\(JB r den=some R))/\(K (.x true (QC8 R)))
 | _=>none
theorem QGY:QI 86 QAN:=by
 refine okL Tryz.func86 fun l T hT K hK=> ?_
 unfold QAN at hT;split at hT<;>cases hT
 obtain⟨r,R,rfl,hc,hK⟩:=hK;exact spL QTT QN Tryz.func86 (QTY _ _ _ hc K hK)
def QPp:LC:=(86,QAN)::QC7
theorem QKQ:QG QPp:= .cons QGY QAM
def HK (r:RtV)(lo:Rat)(a:Nat)(hi:Rat)(b:Nat)(_R:Bool)(K:AV->Prop):Prop:=QU (mkT QPp WO X4) (oF Tryz.f84) noL Tryz.f84 [.x true [.s 3 (lR 100000 r.p),.r r.s.lo 100000,.r r.s.hi 100000],rA lo a,rA hi b] K
theorem G8 (r:RtV)(lo:Rat)(a:Nat)(hi:Rat)(b:Nat)(R:Bool)(K:AV->Prop):HK r lo a hi b R K=((100000<=100000/\a<=100000)/\(100000<=100000/\b<=100000)/\200000<=4294967296/\bif decide (Xk (XL r.s.lo lo) (Q9 r.s.hi hi)>0)then K (AV.x false [Ch.v (Value.bool false)])else ∃(p:List Rat)(s:Sp)(R:Int),lR 100000 r.p=lR 100000 p/\[Zc (XL r.s.lo lo) 100000,Zc (Q9 r.s.hi hi) 100000]=[Zc s.lo 100000,Zc s.hi 100000]/\((p.length<=1000/\s.lo<=s.hi)/\J5 p s=some R)/\K (AV.x false [Ch.v (Value.bool (R==1))])):=by kernel_rfl
theorem QMQ (r:RtV)(lo:Rat)(a:Nat)(hi:Rat)(b:Nat)(R:Bool)(hc:(r.p.length<=1000/\a<=100000/\b<=100000)/\(XY r lo hi=some R))(K:AV->Prop)(hK:K (.x false [.v (.bool R)])):QM (HK r lo a hi b R K):=by
 refine⟨?_⟩;rw[G8];try simp only[R0,Ze]
 obtain⟨⟨hl,ha,hb⟩,hR⟩:=hc;unfold XY at hR;refine⟨ha,hb,by omega,QF (fun h=> ?_) (fun h=> ?_)⟩
 ·have e: ¬XL r.s.lo lo<=Q9 r.s.hi hi:=fun e=>by have:=R5 h;have:=(J2 _ _).2 e;omega
  rw[decide_eq_false e]at hR;cases hR
  exact hK
 ·have e:XL r.s.lo lo<=Q9 r.s.hi hi:=(J2 _ _).1 (by have:=R6 h;omega);rw[decide_eq_true e]at hR;obtain⟨n,hn,hR⟩:=bind_some hR;cases hR
  exact⟨r.p,⟨XL r.s.lo lo,Q9 r.s.hi hi⟩,n,rfl,rfl,⟨⟨hl,e⟩,hn⟩,hK⟩
def GO:Ctr
 | [.x true xs,.x true [.r lo a],.x true [.r hi b]]=>some fun K=> ∃(r:RtV) (R:Bool),xs=QC8 r/\((r.p.length<=1000/\a<=100000/\b<=100000)/\(XY r lo hi=some R))/\(K (.x false [.v (.bool R)]))
 | _=>none
theorem QI9:QI 84 GO:=by
 refine okL Tryz.func84 fun l T hT K hK=> ?_
 unfold GO at hT;split at hT<;>cases hT
 obtain⟨r,R,rfl,hc,hK⟩:=hK;exact spL (QV QKQ Xt Qo) QN Tryz.func84 (QMQ _ _ _ _ _ _ hc K hK)
def QPq:LC:=(84,GO)::QPp
theorem QKR:QG QPq:= .cons QI9 QKQ
structure SdX where
 k:Nat
 den:Int
 r:RtV
def QMR (_x y m _R:Rat)(n:Int):LI:=fun _=> .inv ⟨SdX,fun e=>⟨[(2,.x false [.p 2 0]),(5,.x false [.w 500 0 3]),(6,iA .i64 e.den)],[(2,.box 91 (QC8 e.r)),(500,JY 100000 [y,m,-y])]⟩,fun e=>(e.r.p.length<=1000/\e.r.s.lo<=e.r.s.hi)/\(e.k<=15/\e.den=((16^(16-e.k):Nat):Int))/\KD [y,m,-y] e.k e.den e.r=some n,fun e=>e.k,fun _=>0⟩
abbrev QKS (r:RtV)(x:Rat)(y:Rat)(m:Rat)(n:Int)(K:AV->Prop):Prop:=((r.p.length<=1000/\r.s.lo<=r.s.hi)/\(YV (((-2:Int)):Rat) x=some m/\KD [y,m,-y] 15 16 r=some n))/\(K (iA .i64 n))
set_option maxHeartbeats 1000000 in
theorem QTZ (r:RtV)(x:Rat)(y:Rat)(m:Rat)(n:Int)(K:AV->Prop)(hK:QKS r x y m n K):QM (QU (mkT QPq WO X4) (oF Tryz.f117) (QMR x y m 0 n) Tryz.f117 [.x true [.s 3 (lR 100000 r.p),.r r.s.lo 100000,.r r.s.hi 100000],.x true [.r x 100000,.r y 100000]] K):=by
 obtain⟨hc,hK⟩:=hK;refine HV ((((-9223372036854775808:Int)<= -2/\(-2:Int)<9223372036854775808)/\200000<=4294967296/\∃(r_1:Rat),YV (↑(-2:Int)) x=some r_1/\100000<=100000/\(∃(x:SdX),(((x.r.p.length<=1000/\x.r.s.lo<=x.r.s.hi)/\(x.k<=15/\x.den=Zb (16^(16-x.k)))/\KD [y,m,-y] x.k x.den x.r=some n)/\OfNat.ofNat 0=0)/\0=0/\0=0/\3=3/\16=x.den/\91=91/\3=3/\lR 100000 r.p=lR 100000 x.r.p/\r.s.lo=x.r.s.lo/\100000<=100000/\r.s.hi=x.r.s.hi/\100000<=100000/\26=26/\3=3/\([[Zc y 100000],[Zc r_1 100000],[Zc (-y) 100000]]=[[Zc y 100000],[Zc m 100000],[Zc (-y) 100000]]∨QC [[Zc y 100000],[Zc r_1 100000],[Zc (-y) 100000]] [[Zc y 100000],[Zc m 100000],[Zc (-y) 100000]])/\True)/\∀(x:SdX),(x.r.p.length<=1000/\x.r.s.lo<=x.r.s.hi)/\(x.k<=15/\x.den=Zb (16^(16-x.k)))/\KD [y,m,-y] x.k x.den x.r=some n->OfNat.ofNat 0=0->∃(p:List Rat),∃(s:Sp),∃(R:Int),[[Zc y 100000],[Zc m 100000],[Zc (-y) 100000]]=lR 100000 p/\[Zc x.r.s.lo 100000,Zc x.r.s.hi 100000]=[Zc s.lo 100000,Zc s.hi 100000]/\((p.length<=1000/\s.lo<=s.hi)/\J5 p s=some R)/\bif R==0 then ∃(p:List Rat),∃(r:Rat),[[Zc y 100000],[Zc m 100000],[Zc (-y) 100000]]=lR 100000 p/\((p.length<=1000/\100000<=100000)/\X7 p x.r.s.lo=some r)/\100000<=4294967296/\K (AV.x false [Ch.v (Value.int Zd (Qa r))])else ∃(r:RtV),∃(R:RtV),[Ch.s 3 (lR 100000 x.r.p),Zc x.r.s.lo 100000,Zc x.r.s.hi 100000]=[Ch.s 3 (lR 100000 r.p),Zc r.s.lo 100000,Zc r.s.hi 100000]/\(((r.p.length<=1000/\r.s.lo<=r.s.hi)/\1<=x.den/\x.den<9223372036854775808)/\JB r x.den=some R)/\∃(x':SdX),(((x'.r.p.length<=1000/\x'.r.s.lo<=x'.r.s.hi)/\(x'.k<=15/\x'.den=Zb (16^(16-x'.k)))/\KD [y,m,-y] x'.k x'.den x'.r=some n)/\OfNat.ofNat 0=0/\x'.k<x.k)/\0=0/\0=0/\3=3/\Zd.wrap (x.den*16)=x'.den/\91=91/\3=3/\lR 100000 R.p=lR 100000 x'.r.p/\R.s.lo=x'.r.s.lo/\100000<=100000/\R.s.hi=x'.r.s.hi/\100000<=100000/\26=26/\3=3/\([[Zc y 100000],[Zc m 100000],[Zc (-y) 100000]]=[[Zc y 100000],[Zc m 100000],[Zc (-y) 100000]]∨QC [[Zc y 100000],[Zc m 100000],[Zc (-y) 100000]] [[Zc y 100000],[Zc m 100000],[Zc (-y) 100000]])/\True)) ?_
 try simp only[Zf,R0,R1,Ze,R4,R2]
 obtain⟨⟨hl,ho⟩,hm,hR⟩:=hc;refine⟨by omega,by omega,m,hm,⟨⟨15,16,r⟩,⟨⟨hl,ho⟩,⟨Ze _,by show(16:Int)=((16^(16-15):Nat):Int);decide⟩,hR⟩,rfl,rfl,rfl,rfl,.inl rfl⟩,fun e ⟨⟨e1,e2⟩,⟨e3,e4⟩,ev⟩=> ?_⟩;obtain⟨k,den,r1⟩:=e;simp only at e1 e2 e3 e4 ev;cases k with
 | zero=>cases ev
 | succ k=>
  rw[KD]at ev;obtain⟨N,hN,ev⟩:=bind_some ev;refine⟨[y,m,-y],r1.s,N,rfl,rfl,⟨⟨by simp,e2⟩,hN⟩,QF (fun hb=> ?_) (fun hb=> ?_)⟩
  ·rw[hb]at ev;obtain⟨z,hz,ev⟩:=bind_some ev;cases ev
   exact⟨[y,m,-y],z,rfl,⟨by simp,hz⟩,by omega,hK⟩
  ·rw[hb]at ev;obtain⟨r2,h2,ev⟩:=bind_some ev;obtain⟨f1,f2⟩:=QBu h2 e2;have p1:1<=(16:Nat)^(16-(k+1)):=Nat.pow_pos (by decide);have p2:(16:Nat)^(16-(k+1))<=16^15:=Nat.pow_le_pow_right (by decide) (by omega);have p3:(16:Nat)^15=1152921504606846976:=by decide
   have k1:k≠0:=fun e=>by subst e;cases ev
   have p4:(16:Nat)^(16-k)=16^(16-(k+1))*16:=by rw[<-Nat.pow_succ];congr 1;omega
   have p5:(16:Nat)^(16-k)<=16^15:=Nat.pow_le_pow_right (by decide) (by omega);have ed:den*16=((16^(16-k):Nat):Int):=by rw[e4,p4];push_cast;rfl
   refine⟨r1,r2,rfl,⟨⟨⟨e1,e2⟩,?_,?_⟩,h2⟩,⟨k,den*16,r2⟩,⟨⟨⟨by simp only;rw[f1];exact e1,f2⟩,⟨by simp only;omega,ed⟩,ev⟩,Zg k⟩,?_,rfl,rfl,rfl⟩
   ·show 1<=den;rw[e4];rw[p3]at p2;generalize (16:Nat)^(16-(k+1))=z at*;omega
   ·show den<9223372036854775808;rw[e4];rw[p3]at p2;generalize (16:Nat)^(16-(k+1))=z at*;omega
   ·simp only;rw[w64 (by rw[ed];rw[p3]at p5;generalize (16:Nat)^(16-k)=z at*;omega)]
def QEg:Ctr
 | [.x true xs,.x true ys]=>some fun K=> ∃(r:RtV) (x:Rat) (y:Rat) (m:Rat) (n:Int),xs=QC8 r/\ys=[.r x 100000,.r y 100000]/\QKS r x y m n K
 | _=>none
theorem QPr:QI 117 QEg:=by
 refine okL Tryz.func117 fun l T hT K hK=> ?_
 unfold QEg at hT;split at hT<;>cases hT
 obtain⟨r,x,y,m,n,rfl,rfl,hK⟩:=hK;exact spL (QV QKR Xt Qo) QN Tryz.func117 (QTZ _ _ _ _ _ K hK)
def QPs:LC:=(117,QEg)::QPq
theorem QKT:QG QPs:= .cons QPr QKR
abbrev QKU (x:Rat)(a:Nat)(y:Rat)(b:Nat)(u:Rat)(c:Nat)(v:Rat)(d:Nat)(K:AV->Prop):Prop:=((a<=100000/\b<=100000/\c<=100000/\d<=100000))/\(∃p,YV x u=some p/\ ∃q,YV y v=some q/\ ∃s,Wr p q=some s/\K (rA s 100000))
theorem QTa (x:Rat)(a:Nat)(y:Rat)(b:Nat)(u:Rat)(c:Nat)(v:Rat)(d:Nat)(K:AV->Prop)(hK:QKU x a y b u c v d K):QM (QU (mkT QPs WO X4) (oF Tryz.f147) noL Tryz.f147 [.x true [.r x a,.r y b],.x true [.r u c,.r v d]] K):=by
 obtain⟨hc,hK⟩:=hK;refine HV ((a+c<=4294967296/\∃(r:Rat),YV x u=some r/\b+d<=4294967296/\∃(r_1:Rat),YV y v=some r_1/\200001<=4294967296/\∃(r_2:Rat),Wr r r_1=some r_2/\K (AV.x true [Zc r_2 100000]))) ?_
 try simp only[Zf,R0,R1,Zm,Ze,R4,R2,R3]
 obtain⟨p,hp,q,hq,s,hs,hK⟩:=hK;obtain⟨h1,h2,h3,h4⟩:=hc;exact⟨by omega,p,hp,by omega,q,hq,by omega,s,hs,hK⟩
def QEh:Ctr
 | [.x true [.r x a,.r y b],.x true [.r u c,.r v d]]=>some fun K=>QKU x a y b u c v d K
 | _=>none
theorem QPt:QI 147 QEh:=by
 refine okL Tryz.func147 fun l T hT K hK=> ?_
 unfold QEh at hT;split at hT<;>cases hT
 exact spL (QV QKT Xt Qo) QN Tryz.func147 (QTa _ _ _ _ _ _ _ _ K hK)
def QPu:LC:=(147,QEh)::QPs
theorem QKV:QG QPu:= .cons QPt QKT
theorem QTb (x:Rat)(a:Nat)(y:Rat)(b:Nat)(hc:(a<=100000/\b<=100000))(K:AV->Prop)(hK: ∃s,Kf x y=some s/\K (rA s 100000)):QM (QU (mkT QPu WO X4) (oF Tryz.f115) noL Tryz.f115 [.x true [.r x a,.r y b]] K):=by
 refine HV (((a<=100000/\b<=100000/\a<=100000/\b<=100000)/\∃(p:Rat),YV x x=some p/\∃(q:Rat),YV y y=some q/\∃(s:Rat),Wr p q=some s/\K (AV.x true [Zc s 100000]))) ?_
 try simp only[Zf,R0,R1,Zm,Ze,R4,R2,R3]
 obtain⟨s,hs,hK⟩:=hK;unfold Kf at hs;obtain⟨p,hp,hs⟩:=bind_some hs;obtain⟨q,hq,hs⟩:=bind_some hs;exact⟨⟨hc.1,hc.2,hc.1,hc.2⟩,p,hp,q,hq,s,hs,hK⟩
def QEi:Ctr
 | [.x true [.r x a,.r y b]]=>some fun K=>((a<=100000/\b<=100000))/\(∃s,Kf x y=some s/\K (rA s 100000))
 | _=>none
theorem QPv:QI 115 QEi:=by
 refine okL Tryz.func115 fun l T hT K hK=> ?_
 unfold QEi at hT;split at hT<;>cases hT
 obtain⟨hc,hK⟩:=hK;exact spL (QV QKV Xt Qo) QN Tryz.func115 (QTb _ _ _ _ hc K hK)
def QPw:LC:=(115,QEi)::QPu
theorem QKW:QG QPw:= .cons QPv QKV
theorem QZR (x:Rat)(a:Nat)(hc:(a<=100000))(K:AV->Prop)(hK: ∃s,sqZ x=some s/\K (rA s 100000)):QM (QU (mkT QPw WO X4) (oF Tryz.f116) noL Tryz.f116 [rA x a] K):=by
 refine HV ((a+a<=4294967296/\∃(r:Rat),YV x x=some r/\K (AV.x true [Zc r 100000]))) ?_
 try simp only[Zf,R0,R1,Zm,Ze,R4,R2,R3]
 obtain⟨s,hs,hK⟩:=hK;exact⟨by omega,s,hs,hK⟩
def QPx:Ctr
 | [.x true [.r x a]]=>some fun K=>((a<=100000))/\(∃s,sqZ x=some s/\K (rA s 100000))
 | _=>none
theorem QXJ:QI 116 QPx:=by
 refine okL Tryz.func116 fun l T hT K hK=> ?_
 unfold QPx at hT;split at hT<;>cases hT
 obtain⟨hc,hK⟩:=hK;exact spL (QV QKW Xt Qo) QN Tryz.func116 (QZR _ _ hc K hK)
def QPy:LC:=(116,QPx)::QPw
noncomputable def QaE:Qc:=mkT QPy WO X4
theorem QTc:QG QPy:= .cons QXJ QKW
end Go.Proofs
