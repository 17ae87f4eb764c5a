/- sturm: split, Roots. -/
import Derived.Test.YtjdhppdpbkoihaaGreatDoorIS
open List renaming map → Za, getElem?_eq_getElem → Zf, length_set → Zh, getElem?_set_self → Zi, take → Zl
open Int renaming ofNat → Zb
open Go.Eng.Ch renaming r → Zc
open Go.IntKind renaming i64 → Zd
open Go.Value renaming slice → Ze
open Nat renaming lt_succ_self → Zg, eq_of_beq_eq_true → Zj, le_refl → Zk
namespace Go.Proofs
open Go Go.Eng
def JU (l:List Sp):Blk:= .row 64 6 (l.map (spN 100000))
structure UT where
 k:Nat
 m:Rat
 b:Rat
structure Uv (c:List (List Rat))(k:Nat)(out out':List Sp)(s:Sp)(x:UT):Prop where
 mid:Uu s=some x.m
 rest: ∃t,GQ c x.m x.k x.b=some t/\ ∃o,XH c k out ⟨s.lo,t.lo⟩=some o/\XH c k (o++[⟨x.m,x.m⟩]) ⟨t.hi,s.hi⟩=some out'
def QUm (s:Sp):Blk:= .box 64 [.r s.lo 100000,.r s.hi 100000]
def rBx (x:Rat):Blk:= .box 26 [.r x 100000]
def QIT (c:List (List Rat))(k:Nat)(s:Sp)(out':List Sp):LI:=fun _=> .inv ⟨UT,fun x=>⟨[(0,sC c),(1,.x false [.v (.slice none 0 0)]),(5,.x false [.p 5 0]),(8,.x false [.p 8 0]),(9,.x false [.p 9 0])],[(5,QUm s),(8,rBx x.m),(9,rBx x.b)]⟩,Uv c k [] out' s,fun x=>x.k,fun _=>0⟩
def QIU (c:List (List Rat))(k:Nat)(s:Sp)(out out':List Sp):LI:=fun _=> .inv ⟨UT,fun x=>⟨[(0,sC c),(1,.x false [.w 1000 0 out.length]),(5,.x false [.p 5 0]),(8,.x false [.p 8 0]),(9,.x false [.p 9 0])],[(1000,JU out),(5,QUm s),(8,rBx x.m),(9,rBx x.b)]⟩,Uv c k out out' s,fun x=>x.k,fun _=>0⟩
def QOn (c:List (List Rat))(k:Nat)(out out':List Sp)(s:Sp):Prop:=(((1<=c.length/\c.length<=200000)/\ ∀p∈c,p.length<=1000)/\out'.length<=1000000)/\XH c k out s=some out'
def Vq (k:Nat):Xi:=fun as0 H d=>match as0 with
 | [.x false [.s 1 xs],.x false [o],.x true ys]=>match o with
  | .v (.slice none 0 0)=>match H d with
   | none=>some fun K=> ∃(c:List (List Rat)) (s:Sp) (out':List Sp),xs=chN c/\ys=[.r s.lo 100000,.r s.hi 100000]/\QOn c k [] out' s/\K (.x false [.w d 0 out'.length]) (upd H d (some (JU out')))
   | some _=>none
  | .w j z n=>match z with
   | 0=>match H j,H d with
    | some (.row t 6 zs),none=>bif t.beq 64 then some fun K=> ∃(c:List (List Rat)) (s:Sp) (out out':List Sp),xs=chN c/\ys=[.r s.lo 100000,.r s.hi 100000]/\zs=out.map (spN 100000)/\n=out.length/\QOn c k out out' s/\K (.x false [.w d 0 out'.length]) (upd (upd H j (some .dead)) d (some (JU out')))else none
    | _,_=>none
   | _+1=>none
  | _=>none
 | _=>none
def Msp (k:Nat):List (Nat×Xi):=(59,Vq k)::Wr
noncomputable def Tsp (k:Nat):QY:=mkT QAj (Msp k) X4
def QGq:OT:=fun id=>bif id.beq 8 then([0,1,2,3,4,5,6,8,9,10,11,7,12,13],[[],[],[],[],[3],[],[4,3,5],[1,2,6,4,3,5],[],[],[9],[8,10,9],[0,7,1,2,6,4,3,5,11,8,10,9],[12,0,7,1,2,6,4,3,5,11,8,10,9]])else bif id.beq 10 then([0,1,2,3,4,5,6],[[],[],[1],[1,2],[3,1,2],[0,4,3,1,2],[5,0,4,3,1,2]])else bif id.beq 11 then([0,1,3,4,7,2,5,6,8],[[],[],[0,1],[],[],[3,4,2,0,1],[2,0,1,5,3,4],[],[7,6,2,0,1,5,3,4]])else bif id.beq 13 then([0,1,2,3,4,5,6,8,7,9,10,11,12],[[],[],[],[2],[],[4],[3,2,5,4],[0,1,6,3,2,5,4],[],[8,7,0,1,6,3,2,5,4],[9,8,7,0,1,6,3,2,5,4],[7,0,1,6,3,2,5,4,10,9,8],[11,7,0,1,6,3,2,5,4,10,9,8]])else([],[])
theorem Kp {c:List (List Rat)}: ∀{k:Nat} {out o:List Sp} {s:Sp},XH c k out s=some o->out.length<=o.length:=by
 intro k;induction k with
 | zero=>intro out o s h;cases h
 | succ k ih=>
  intro out o s h;rw[XH]at h;obtain⟨n,hn,h⟩:=bind_some h;cases hb:n==0 with
  | true=>rw[hb]at h;cases h;exact Zk _
  | false=>
   rw[hb]at h;cases hb2:n==1 with
   | true=>rw[hb2]at h;cases h;simp
   | false=>
    rw[hb2]at h;simp only[R8]at h;obtain⟨m,hm,h⟩:=bind_some h;obtain⟨z,hz,h⟩:=bind_some h;cases z with
    | false=>
     obtain⟨o1,h1,h⟩:=bind_some h;exact Nat.le_trans (ih h1) (ih h)
    | true=>
     obtain⟨b,hb0,h⟩:=bind_some h;obtain⟨t,ht,h⟩:=bind_some h;obtain⟨o1,ho,h⟩:=bind_some h;have k1:=ih ho;have k2:=ih h;simp at k2;omega
theorem QFr {o:List Sp}{s:Sp}:Zl o.length (Za (spN 100000) o)++[[Zc s.lo 100000,Zc s.hi 100000]]=Za (spN 100000) (o++[s]):=by
 rw[List.take_of_length_le (by simp),List.map_append];rfl
set_option maxRecDepth 100000 in
set_option maxHeartbeats 1000000 in
theorem QOo (c:List (List Rat))(k:Nat)(s:Sp)(out':List Sp)(h:QOn c (k+1) [] out' s):QN (Y5 (X:=Unit) (Tsp k) QGq (QIT c k s out') Tryz.f59 [sC c,.x false [.v (.slice none 0 0)],.x true [.r s.lo 100000,.r s.hi 100000]] [] (fun _=>True) (fun _=>⟨[(6,.x false [.w 0 0 out'.length])],[(0,JU out')]⟩)):=by
 refine HV ((∃(c_1:List (List Rat)),∃(s_1:Sp),∃(R:Int),chN c=chN c_1/\[Zc s.lo 100000,Zc s.hi 100000]=[Zc s_1.lo 100000,Zc s_1.hi 100000]/\(((1<=c_1.length/\c_1.length<=200000)/\∀(p:List Rat),p∈c_1->p.length<=1000)/\Jt c_1 s_1=some R)/\bif R==0 then ∃(_x:Unit),True/\Ze none 0 0=Ze none 0 0/\0=0/\out'.length=0/\Za (spN 100000) out'=[]/\True else bif R==1 then(1*80<=140737488355328/\1<=9223372036854775807)/\∃(_x:Unit),True/\0=0/\1=out'.length/\64=64/\6=6/\([[Zc s.lo 100000,Zc s.hi 100000]]=Za (spN 100000) out'∨QE [[Zc s.lo 100000,Zc s.hi 100000]] (Za (spN 100000) out'))/\True else ∃(s_2:Sp),[Zc s.lo 100000,Zc s.hi 100000]=[Zc s_2.lo 100000,Zc s_2.hi 100000]/\True/\∃(R:Rat),Uu s_2=some R/\∃(c_2:List (List Rat)),∃(R_1:Bool),chN c=chN c_2/\(((1<=c_2.length/\100000<=100000)/\∀(p:List Rat),p∈c_2->p.length<=1000)/\JY c_2 R=some R_1)/\bif !R_1 then ∃(c_3:List (List Rat)),∃(s_3:Sp),∃(out'_1:List Sp),chN c=chN c_3/\[Zc s.lo 100000,Zc R 100000]=[Zc s_3.lo 100000,Zc s_3.hi 100000]/\((((1<=c_3.length/\c_3.length<=200000)/\∀(p:List Rat),p∈c_3->p.length<=1000)/\out'_1.length<=1000000)/\XH c_3 k [] s_3=some out'_1)/\∃(c_4:List (List Rat)),∃(s_4:Sp),∃(out:List Sp),∃(out'_2:List Sp),chN c=chN c_4/\[Zc R 100000,Zc s.hi 100000]=[Zc s_4.lo 100000,Zc s_4.hi 100000]/\Za (spN 100000) out'_1=Za (spN 100000) out/\out'_1.length=out.length/\((((1<=c_4.length/\c_4.length<=200000)/\∀(p:List Rat),p∈c_4->p.length<=1000)/\out'_2.length<=1000000)/\XH c_4 k out s_4=some out'_2)/\∃(_x:Unit),True/\0=0/\out'_2.length=out'.length/\64=64/\6=6/\(Za (spN 100000) out'_2=Za (spN 100000) out'∨QE (Za (spN 100000) out'_2) (Za (spN 100000) out'))/\True else 200001<=4294967296/\∃(r:Rat),QB5 s.hi R=some r/\(∃(x:UT),(Uv c k [] out' s x/\OfNat.ofNat 0=0)/\1=1/\chN c=chN c/\Ze none 0 0=Ze none 0 0/\0=0/\0=0/\0=0/\64=64/\s.lo=s.lo/\100000<=100000/\s.hi=s.hi/\100000<=100000/\26=26/\R=x.m/\100000<=100000/\26=26/\r=x.b/\100000<=100000/\True)/\∀(x:UT),Uv c k [] out' s x->OfNat.ofNat 0=0->((-9223372036854775808:Int)<=0/\(0:Int)<9223372036854775808)/\((-9223372036854775808:Int)<=1/\(1:Int)<9223372036854775808)/\∃(s_3:Sp),[Zc (↑(0:Int)) 100000,Zc (↑(1:Int)) 100000]=[Zc s_3.lo 100000,Zc s_3.hi 100000]/\True/\∃(R:Rat),Uu s_3=some R/\200000<=4294967296/\∃(r:Rat),Ur x.b R=some r/\200001<=4294967296/\∃(r_1:Rat),QB5 x.m r=some r_1/\200001<=4294967296/\∃(r_2:Rat),Gz x.m r=some r_2/\∃(c_3:List (List Rat)),∃(s_4:Sp),∃(R:Int),chN c=chN c_3/\[Zc r_1 100000,Zc r_2 100000]=[Zc s_4.lo 100000,Zc s_4.hi 100000]/\(((1<=c_3.length/\c_3.length<=200000)/\∀(p:List Rat),p∈c_3->p.length<=1000)/\Jt c_3 s_4=some R)/\bif R==1 then ∃(c_4:List (List Rat)),∃(R:Bool),chN c=chN c_4/\(((1<=c_4.length/\100000<=100000)/\∀(p:List Rat),p∈c_4->p.length<=1000)/\JY c_4 r_1=some R)/\bif !R then ∃(c_5:List (List Rat)),∃(R:Bool),chN c=chN c_5/\(((1<=c_5.length/\100000<=100000)/\∀(p:List Rat),p∈c_5->p.length<=1000)/\JY c_5 r_2=some R)/\bif !R then ∃(c_6:List (List Rat)),∃(s_5:Sp),∃(out'_1:List Sp),chN c=chN c_6/\[Zc s.lo 100000,Zc r_1 100000]=[Zc s_5.lo 100000,Zc s_5.hi 100000]/\((((1<=c_6.length/\c_6.length<=200000)/\∀(p:List Rat),p∈c_6->p.length<=1000)/\out'_1.length<=1000000)/\XH c_6 k [] s_5=some out'_1)/\100000<=2000000000/\((out'_1.length+1)*80<=140737488355328/\out'_1.length+1<=9223372036854775807)/\∃(c_7:List (List Rat)),∃(s_6:Sp),∃(out:List Sp),∃(out'_2:List Sp),chN c=chN c_7/\[Zc r_2 100000,Zc s.hi 100000]=[Zc s_6.lo 100000,Zc s_6.hi 100000]/\Zl out'_1.length (Za (spN 100000) out'_1)++[[Zc x.m 100000,Zc x.m 100000]]=Za (spN 100000) out/\out'_1.length+1=out.length/\((((1<=c_7.length/\c_7.length<=200000)/\∀(p:List Rat),p∈c_7->p.length<=1000)/\out'_2.length<=1000000)/\XH c_7 k out s_6=some out'_2)/\∃(_x:Unit),True/\0=0/\out'_2.length=out'.length/\64=64/\6=6/\(Za (spN 100000) out'_2=Za (spN 100000) out'∨QE (Za (spN 100000) out'_2) (Za (spN 100000) out'))/\True else ∃(x':UT),(Uv c k [] out' s x'/\OfNat.ofNat 0=0/\x'.k<x.k)/\1=1/\chN c=chN c/\Ze none 0 0=Ze none 0 0/\0=0/\0=0/\0=0/\64=64/\s.lo=s.lo/\100000<=100000/\s.hi=s.hi/\100000<=100000/\26=26/\x.m=x'.m/\100000<=100000/\26=26/\r=x'.b/\100000<=100000/\True else ∃(x':UT),(Uv c k [] out' s x'/\OfNat.ofNat 0=0/\x'.k<x.k)/\1=1/\chN c=chN c/\Ze none 0 0=Ze none 0 0/\0=0/\0=0/\0=0/\64=64/\s.lo=s.lo/\100000<=100000/\s.hi=s.hi/\100000<=100000/\26=26/\x.m=x'.m/\100000<=100000/\26=26/\r=x'.b/\100000<=100000/\True else ∃(x':UT),(Uv c k [] out' s x'/\OfNat.ofNat 0=0/\x'.k<x.k)/\1=1/\chN c=chN c/\Ze none 0 0=Ze none 0 0/\0=0/\0=0/\0=0/\64=64/\s.lo=s.lo/\100000<=100000/\s.hi=s.hi/\100000<=100000/\26=26/\x.m=x'.m/\100000<=100000/\26=26/\r=x'.b/\100000<=100000/\True)) ?_
 simp only[R0,R1,Zk,R4];obtain⟨⟨hk,hl⟩,h⟩:=h;rw[XH]at h;obtain⟨n,hn,h⟩:=bind_some h;refine⟨c,s,n,rfl,rfl,⟨hk,hn⟩,QG (fun hb=> ?_) (fun hb=>QG (fun hb2=> ?_) (fun hb2=> ?_))⟩
 ·rw[hb]at h;cases h
  exact⟨(),rfl,rfl⟩
 ·rw[hb,hb2]at h;cases h
  exact⟨⟨by omega,by omega⟩,(),rfl,.inl rfl⟩
 ·rw[hb,hb2]at h;simp only[R8]at h;obtain⟨m,hm,h⟩:=bind_some h;obtain⟨z,hz,h⟩:=bind_some h;refine⟨s,rfl,m,hm,c,z,rfl,⟨⟨hk.1.1,hk.2⟩,hz⟩,?_⟩;cases z with
  | false=>
   simp only[R8]at h;obtain⟨o,ho,h⟩:=bind_some h;have l1:=Kp h;exact⟨c,⟨s.lo,m⟩,o,rfl,rfl,⟨⟨hk,by omega⟩,ho⟩,c,⟨m,s.hi⟩,o,out',rfl,rfl,rfl,rfl,⟨⟨hk,hl⟩,h⟩,(),rfl,.inl rfl⟩
  | true=>
   simp only[R7]at h;obtain⟨b,hb0,h⟩:=bind_some h;obtain⟨t,ht,h⟩:=bind_some h;obtain⟨o,ho,h⟩:=bind_some h;refine⟨by omega,b,hb0,⟨⟨FU,m,b⟩,⟨hm,t,ht,o,ho,h⟩,rfl,rfl⟩,fun x hx=> ?_⟩;obtain⟨xm,t,ht,o,ho,h⟩:=hx;obtain⟨xk,m',b'⟩:=x;simp only at xm ht ho h;cases xk with
   | zero=>cases ht
   | succ k'=>
    rw[GQ]at ht;obtain⟨hh,h1,ht⟩:=bind_some ht;obtain⟨bb,h2,ht⟩:=bind_some ht;obtain⟨l,h3,ht⟩:=bind_some ht;obtain⟨u,h4,ht⟩:=bind_some ht;obtain⟨n',h5,ht⟩:=bind_some ht;refine⟨by omega,by omega,⟨_,_⟩,rfl,hh,h1,by omega,bb,h2,by omega,l,h3,by omega,u,h4,c,⟨l,u⟩,n',rfl,rfl,⟨hk,h5⟩,QG (fun hb=> ?_) (fun hb=> ?_)⟩
    ·rw[hb]at ht;simp only[R7]at ht;obtain⟨z1,h6,ht⟩:=bind_some ht;refine⟨c,z1,rfl,⟨⟨hk.1.1,hk.2⟩,h6⟩,?_⟩;cases z1 with
     | true=>exact⟨⟨k',m',bb⟩,⟨⟨xm,t,ht,o,ho,h⟩,Zg k'⟩,rfl,rfl⟩
     | false=>
      simp only[R8]at ht;obtain⟨z2,h7,ht⟩:=bind_some ht;refine⟨c,z2,rfl,⟨⟨hk.1.1,hk.2⟩,h7⟩,?_⟩;cases z2 with
      | true=>exact⟨⟨k',m',bb⟩,⟨⟨xm,t,ht,o,ho,h⟩,Zg k'⟩,rfl,rfl⟩
      | false=>
       cases ht
       have l1:=Kp h;have l2:(o++[(⟨m',m'⟩:Sp)]).length=o.length+1:=by simp
       exact⟨c,⟨s.lo,l⟩,o,rfl,rfl,⟨⟨hk,by omega⟩,ho⟩,by omega,⟨by omega,by omega⟩,c,⟨u,s.hi⟩,o++[⟨m',m'⟩],out',rfl,rfl,QFr (s:=⟨m',m'⟩),l2.symm,⟨⟨hk,hl⟩,h⟩,(),rfl,.inl rfl⟩
    ·rw[hb]at ht;exact⟨⟨k',m',bb⟩,⟨⟨xm,t,ht,o,ho,h⟩,Zg k'⟩,rfl,rfl⟩
set_option maxRecDepth 100000 in
set_option maxHeartbeats 1000000 in
theorem QOp (c:List (List Rat))(k:Nat)(s:Sp)(out out':List Sp)(h:QOn c (k+1) out out' s):QN (Y5 (X:=Unit) (Tsp k) QGq (QIU c k s out out') Tryz.f59 [sC c,.x false [.w 1000 0 out.length],.x true [.r s.lo 100000,.r s.hi 100000]] [(1000,JU out)] (fun _=>True) (fun _=>⟨[(6,.x false [.w 500 0 out'.length])],[(1000,.dead),(500,JU out')]⟩)):=by
 refine HV ((∃(c_1:List (List Rat)),∃(s_1:Sp),∃(R:Int),chN c=chN c_1/\[Zc s.lo 100000,Zc s.hi 100000]=[Zc s_1.lo 100000,Zc s_1.hi 100000]/\(((1<=c_1.length/\c_1.length<=200000)/\∀(p:List Rat),p∈c_1->p.length<=1000)/\Jt c_1 s_1=some R)/\bif R==0 then ∃(_x:Unit),True/\0=0/\out.length=out'.length/\64=64/\6=6/\(Za (spN 100000) out=Za (spN 100000) out'∨QE (Za (spN 100000) out) (Za (spN 100000) out'))/\True else bif R==1 then((out.length+1)*80<=140737488355328/\out.length+1<=9223372036854775807)/\∃(_x:Unit),True/\0=0/\out.length+1=out'.length/\64=64/\6=6/\(Zl out.length (Za (spN 100000) out)++[[Zc s.lo 100000,Zc s.hi 100000]]=Za (spN 100000) out'∨QE (Zl out.length (Za (spN 100000) out)++[[Zc s.lo 100000,Zc s.hi 100000]]) (Za (spN 100000) out'))/\True else ∃(s_2:Sp),[Zc s.lo 100000,Zc s.hi 100000]=[Zc s_2.lo 100000,Zc s_2.hi 100000]/\True/\∃(R:Rat),Uu s_2=some R/\∃(c_2:List (List Rat)),∃(R_1:Bool),chN c=chN c_2/\(((1<=c_2.length/\100000<=100000)/\∀(p:List Rat),p∈c_2->p.length<=1000)/\JY c_2 R=some R_1)/\bif !R_1 then ∃(c_3:List (List Rat)),∃(s_3:Sp),∃(out_1:List Sp),∃(out'_1:List Sp),chN c=chN c_3/\[Zc s.lo 100000,Zc R 100000]=[Zc s_3.lo 100000,Zc s_3.hi 100000]/\Za (spN 100000) out=Za (spN 100000) out_1/\out.length=out_1.length/\((((1<=c_3.length/\c_3.length<=200000)/\∀(p:List Rat),p∈c_3->p.length<=1000)/\out'_1.length<=1000000)/\XH c_3 k out_1 s_3=some out'_1)/\∃(c_4:List (List Rat)),∃(s_4:Sp),∃(out:List Sp),∃(out'_2:List Sp),chN c=chN c_4/\[Zc R 100000,Zc s.hi 100000]=[Zc s_4.lo 100000,Zc s_4.hi 100000]/\Za (spN 100000) out'_1=Za (spN 100000) out/\out'_1.length=out.length/\((((1<=c_4.length/\c_4.length<=200000)/\∀(p:List Rat),p∈c_4->p.length<=1000)/\out'_2.length<=1000000)/\XH c_4 k out s_4=some out'_2)/\∃(_x:Unit),True/\0=0/\out'_2.length=out'.length/\64=64/\6=6/\(Za (spN 100000) out'_2=Za (spN 100000) out'∨QE (Za (spN 100000) out'_2) (Za (spN 100000) out'))/\True else 200001<=4294967296/\∃(r:Rat),QB5 s.hi R=some r/\(∃(x:UT),(Uv c k out out' s x/\OfNat.ofNat 0=0)/\1=1/\chN c=chN c/\0=0/\out.length=out.length/\0=0/\0=0/\0=0/\64=64/\6=6/\(Za (spN 100000) out=Za (spN 100000) out∨QE (Za (spN 100000) out) (Za (spN 100000) out))/\64=64/\s.lo=s.lo/\100000<=100000/\s.hi=s.hi/\100000<=100000/\26=26/\R=x.m/\100000<=100000/\26=26/\r=x.b/\100000<=100000/\True)/\∀(x:UT),Uv c k out out' s x->OfNat.ofNat 0=0->((-9223372036854775808:Int)<=0/\(0:Int)<9223372036854775808)/\((-9223372036854775808:Int)<=1/\(1:Int)<9223372036854775808)/\∃(s_3:Sp),[Zc (↑(0:Int)) 100000,Zc (↑(1:Int)) 100000]=[Zc s_3.lo 100000,Zc s_3.hi 100000]/\True/\∃(R:Rat),Uu s_3=some R/\200000<=4294967296/\∃(r:Rat),Ur x.b R=some r/\200001<=4294967296/\∃(r_1:Rat),QB5 x.m r=some r_1/\200001<=4294967296/\∃(r_2:Rat),Gz x.m r=some r_2/\∃(c_3:List (List Rat)),∃(s_4:Sp),∃(R:Int),chN c=chN c_3/\[Zc r_1 100000,Zc r_2 100000]=[Zc s_4.lo 100000,Zc s_4.hi 100000]/\(((1<=c_3.length/\c_3.length<=200000)/\∀(p:List Rat),p∈c_3->p.length<=1000)/\Jt c_3 s_4=some R)/\bif R==1 then ∃(c_4:List (List Rat)),∃(R:Bool),chN c=chN c_4/\(((1<=c_4.length/\100000<=100000)/\∀(p:List Rat),p∈c_4->p.length<=1000)/\JY c_4 r_1=some R)/\bif !R then ∃(c_5:List (List Rat)),∃(R:Bool),chN c=chN c_5/\(((1<=c_5.length/\100000<=100000)/\∀(p:List Rat),p∈c_5->p.length<=1000)/\JY c_5 r_2=some R)/\bif !R then ∃(c_6:List (List Rat)),∃(s_5:Sp),∃(out_1:List Sp),∃(out'_1:List Sp),chN c=chN c_6/\[Zc s.lo 100000,Zc r_1 100000]=[Zc s_5.lo 100000,Zc s_5.hi 100000]/\Za (spN 100000) out=Za (spN 100000) out_1/\out.length=out_1.length/\((((1<=c_6.length/\c_6.length<=200000)/\∀(p:List Rat),p∈c_6->p.length<=1000)/\out'_1.length<=1000000)/\XH c_6 k out_1 s_5=some out'_1)/\100000<=2000000000/\((out'_1.length+1)*80<=140737488355328/\out'_1.length+1<=9223372036854775807)/\∃(c_7:List (List Rat)),∃(s_6:Sp),∃(out:List Sp),∃(out'_2:List Sp),chN c=chN c_7/\[Zc r_2 100000,Zc s.hi 100000]=[Zc s_6.lo 100000,Zc s_6.hi 100000]/\Zl out'_1.length (Za (spN 100000) out'_1)++[[Zc x.m 100000,Zc x.m 100000]]=Za (spN 100000) out/\out'_1.length+1=out.length/\((((1<=c_7.length/\c_7.length<=200000)/\∀(p:List Rat),p∈c_7->p.length<=1000)/\out'_2.length<=1000000)/\XH c_7 k out s_6=some out'_2)/\∃(_x:Unit),True/\0=0/\out'_2.length=out'.length/\64=64/\6=6/\(Za (spN 100000) out'_2=Za (spN 100000) out'∨QE (Za (spN 100000) out'_2) (Za (spN 100000) out'))/\True else ∃(x':UT),(Uv c k out out' s x'/\OfNat.ofNat 0=0/\x'.k<x.k)/\1=1/\chN c=chN c/\0=0/\out.length=out.length/\0=0/\0=0/\0=0/\64=64/\6=6/\(Za (spN 100000) out=Za (spN 100000) out∨QE (Za (spN 100000) out) (Za (spN 100000) out))/\64=64/\s.lo=s.lo/\100000<=100000/\s.hi=s.hi/\100000<=100000/\26=26/\x.m=x'.m/\100000<=100000/\26=26/\r=x'.b/\100000<=100000/\True else ∃(x':UT),(Uv c k out out' s x'/\OfNat.ofNat 0=0/\x'.k<x.k)/\1=1/\chN c=chN c/\0=0/\out.length=out.length/\0=0/\0=0/\0=0/\64=64/\6=6/\(Za (spN 100000) out=Za (spN 100000) out∨QE (Za (spN 100000) out) (Za (spN 100000) out))/\64=64/\s.lo=s.lo/\100000<=100000/\s.hi=s.hi/\100000<=100000/\26=26/\x.m=x'.m/\100000<=100000/\26=26/\r=x'.b/\100000<=100000/\True else ∃(x':UT),(Uv c k out out' s x'/\OfNat.ofNat 0=0/\x'.k<x.k)/\1=1/\chN c=chN c/\0=0/\out.length=out.length/\0=0/\0=0/\0=0/\64=64/\6=6/\(Za (spN 100000) out=Za (spN 100000) out∨QE (Za (spN 100000) out) (Za (spN 100000) out))/\64=64/\s.lo=s.lo/\100000<=100000/\s.hi=s.hi/\100000<=100000/\26=26/\x.m=x'.m/\100000<=100000/\26=26/\r=x'.b/\100000<=100000/\True)) ?_
 simp only[R0,R1,Zk,R4,R2];obtain⟨⟨hk,hl⟩,h⟩:=h;rw[XH]at h;obtain⟨n,hn,h⟩:=bind_some h;refine⟨c,s,n,rfl,rfl,⟨hk,hn⟩,QG (fun hb=> ?_) (fun hb=>QG (fun hb2=> ?_) (fun hb2=> ?_))⟩
 ·rw[hb]at h;cases h
  exact⟨(),rfl,.inl rfl⟩
 ·rw[hb,hb2]at h;cases h
  exact⟨⟨by simp at hl;omega,by simp at hl;omega⟩,(),by simp,.inl QFr⟩
 ·rw[hb,hb2]at h;simp only[R8]at h;obtain⟨m,hm,h⟩:=bind_some h;obtain⟨z,hz,h⟩:=bind_some h;refine⟨s,rfl,m,hm,c,z,rfl,⟨⟨hk.1.1,hk.2⟩,hz⟩,?_⟩;cases z with
  | false=>
   simp only[R8]at h;obtain⟨o,ho,h⟩:=bind_some h;have l1:=Kp h;exact⟨c,⟨s.lo,m⟩,out,o,rfl,rfl,rfl,rfl,⟨⟨hk,by omega⟩,ho⟩,c,⟨m,s.hi⟩,o,out',rfl,rfl,rfl,rfl,⟨⟨hk,hl⟩,h⟩,(),rfl,.inl rfl⟩
  | true=>
   simp only[R7]at h;obtain⟨b,hb0,h⟩:=bind_some h;obtain⟨t,ht,h⟩:=bind_some h;obtain⟨o,ho,h⟩:=bind_some h;refine⟨by omega,b,hb0,⟨⟨FU,m,b⟩,⟨hm,t,ht,o,ho,h⟩,rfl,rfl⟩,fun x hx=> ?_⟩;obtain⟨xm,t,ht,o,ho,h⟩:=hx;obtain⟨xk,m',b'⟩:=x;simp only at xm ht ho h;cases xk with
   | zero=>cases ht
   | succ k'=>
    rw[GQ]at ht;obtain⟨hh,h1,ht⟩:=bind_some ht;obtain⟨bb,h2,ht⟩:=bind_some ht;obtain⟨l,h3,ht⟩:=bind_some ht;obtain⟨u,h4,ht⟩:=bind_some ht;obtain⟨n',h5,ht⟩:=bind_some ht;refine⟨by omega,by omega,⟨_,_⟩,rfl,hh,h1,by omega,bb,h2,by omega,l,h3,by omega,u,h4,c,⟨l,u⟩,n',rfl,rfl,⟨hk,h5⟩,QG (fun hb=> ?_) (fun hb=> ?_)⟩
    ·rw[hb]at ht;simp only[R7]at ht;obtain⟨z1,h6,ht⟩:=bind_some ht;refine⟨c,z1,rfl,⟨⟨hk.1.1,hk.2⟩,h6⟩,?_⟩;cases z1 with
     | true=>exact⟨⟨k',m',bb⟩,⟨⟨xm,t,ht,o,ho,h⟩,Zg k'⟩,rfl,rfl⟩
     | false=>
      simp only[R8]at ht;obtain⟨z2,h7,ht⟩:=bind_some ht;refine⟨c,z2,rfl,⟨⟨hk.1.1,hk.2⟩,h7⟩,?_⟩;cases z2 with
      | true=>exact⟨⟨k',m',bb⟩,⟨⟨xm,t,ht,o,ho,h⟩,Zg k'⟩,rfl,rfl⟩
      | false=>
       cases ht
       have l1:=Kp h;have l2:(o++[(⟨m',m'⟩:Sp)]).length=o.length+1:=by simp
       exact⟨c,⟨s.lo,l⟩,out,o,rfl,rfl,rfl,rfl,⟨⟨hk,by omega⟩,ho⟩,by omega,⟨by omega,by omega⟩,c,⟨u,s.hi⟩,o++[⟨m',m'⟩],out',rfl,rfl,QFr (s:=⟨m',m'⟩),l2.symm,⟨⟨hk,hl⟩,h⟩,(),rfl,.inl rfl⟩
    ·rw[hb]at ht;exact⟨⟨k',m',bb⟩,⟨⟨xm,t,ht,o,ho,h⟩,Zg k'⟩,rfl,rfl⟩
theorem QIV {H:HP}{k d:Nat}{b b':Blk}(hk:H k=some b)(hd:H d=none):XI [(1000,k),(500,d)] (QR [(1000,Blk.dead),(500,b')]) H=upd (upd H k (some .dead)) d (some b'):=by
 have dk:d≠k:=fun h=>by subst h;rw[hk]at hd;cases hd
 funext j;unfold XI;simp only[lkB];cases h:j.beq k with
 | true=>
  have:=Zj h;subst this;rw[QV _ _ (fun h=>dk h.symm),QM];rfl
 | false=>
  have hjk:j≠k:=fun e=>by subst e;simp at h
  simp only[R8];cases h2:j.beq d with
  | true=>
   have:=Zj h2;subst this;rw[QM];rfl
  | false=>
   have:j≠d:=fun e=>by subst e;simp at h2
   rw[QV _ _ this,QV _ _ hjk];rfl
theorem QLm: ∀k,KM 59 (Vq k):=by
 intro k;induction k with
 | zero=>
  refine⟨Qg Tryz.func59 (by kernel_rfl),fun l H d T hT K hK=> ?_⟩;exfalso;unfold Vq at hT;split at hT
  ·split at hT
   ·split at hT
    ·cases hT;obtain⟨c,s,out',_,_,h,_⟩:=hK;cases h.2
    ·cases hT
   ·split at hT
    ·split at hT
     ·rename_i t zs _ _;cases hb:t.beq 64 with
      | false=>rw[hb]at hT;cases hT
      | true=>rw[hb]at hT;cases hT;obtain⟨c,s,out,out',_,_,_,_,h,_⟩:=hK;cases h.2
     ·cases hT
    ·cases hT
   ·cases hT
  ·cases hT
 | succ k ih=>
  have hT':XM (Tsp k):=QW QCD (CtrMsOK.cons ih YK) Q0;refine⟨Qg Tryz.func59 (by kernel_rfl),fun l H d T hT K hK=> ?_⟩;unfold Vq at hT;split at hT
  ·split at hT
   ·split at hT
    ·rename_i hd;cases hT
     obtain⟨c,s,out',rfl,rfl,h,hK⟩:=hK;exact Ke hT' QO Tryz.func59 (by kernel_rfl) (by kernel_rfl) (by rfl) rfl hd rfl (QOo c k s out' h) (by rw[GU];exact hK)
    ·cases hT
   ·split at hT
    ·split at hT
     ·rename_i _ j _ _ _ _ t zs e1 hd;cases hb:t.beq 64 with
      | false=>rw[hb]at hT;cases hT
      | true=>
       rw[hb]at hT;cases hT
       have ht:=Zj hb;subst ht;obtain⟨c,s,out,out',rfl,rfl,rfl,rfl,h,hK⟩:=hK;refine Xf (R:=[(1000,j)]) (N:=[(500,d)]) (Hl:=[(1000,JU out)]) hT' QO Tryz.func59 (by kernel_rfl) (by kernel_rfl) (by rfl)
        (as0:=[sC c,.x false [.w 1000 0 out.length],.x true [.r s.lo 100000,.r s.hi 100000]]) ?_ (QAO e1 rfl rfl) rfl (by simp) (by simp) (fun q hq=>by simp at hq;subst hq;exact hd) (fun x=>⟨fun q hq=> ?_,fun q hq b hb=> ?_⟩) (QOp c k s out out' h) (fun x hx=>⟨_,rfl,?_⟩)
       ·simp[JW,JV,JM,lkB,sC]
       ·simp at hq;subst hq;exact fun h=>by have h':some Blk.dead=none:=h;cases h'
       ·simp at hq;rcases hq with rfl | rfl
        ·have h':some Blk.dead=some b:=hb;cases h';rfl
        ·have h':some (JU out')=some b:=hb;cases h';rfl
       ·show K _ (XI [(1000,j),(500,d)] (QR [(1000,Blk.dead),(500,JU out')]) H)
        rw[QIV (b:=JU out) e1 hd];exact hK
     ·cases hT
    ·cases hT
   ·cases hT
  ·cases hT
def QFs:List (Nat×Xi):=(59,Vq FU)::Wr
theorem QFt:Xx QFs:= .cons (QLm FU) YK
theorem QLn {p:List Rat}{R:List Sp}(h:GR p=some R): ∃c m out,Ju p=some c/\KU (c.getD 0 []) 1=some m/\XH c FU [] ⟨-m,m⟩=some out/\out.length<=1000/\YJ c (out.length-1) 1 out=some R:=by
 unfold GR at h;obtain⟨c,hc,h⟩:=bind_some h;obtain⟨m,hm,h⟩:=bind_some h;obtain⟨out,ho,h⟩:=bind_some h;cases hb:Nat.ble out.length 1000 with
 | true=>rw[hb]at h;exact⟨c,m,out,hc,hm,ho,Nat.le_of_ble_eq_true hb,h⟩
 | false=>rw[hb]at h;cases h
theorem spD {l:List Sp}{i:Nat}{t:Sp}(h:l[i]? =some t):l.getD i s0=t:=by rw[List.getD_eq_getElem?_getD,h];rfl
theorem QUn {ts:List Sp}{i:Nat}{t:Sp}(h:ts[i]? =some t):ldE (ts.map (spN 100000)) i 3 3=some [.r t.hi 100000]:=by
 simp only[ldE,List.getElem?_map,h];rfl
theorem QUo {ts:List Sp}{i:Nat}{t:Sp}(h:ts[i]? =some t):ldE (ts.map (spN 100000)) i 0 3=some [.r t.lo 100000]:=by
 simp only[ldE,List.getElem?_map,h];rfl
theorem QGr {a b:Rat}:JD a b<0↔a<b:=by
 unfold JD;by_cases h:a<b
 ·rw[if_pos h];exact⟨fun _=>h,fun _=>by omega⟩
 ·rw[if_neg h];refine⟨fun h2=> ?_,fun h2=>absurd h2 h⟩;split at h2<;>omega
theorem QDj {l:List Sp}{i:Nat}{t:Sp}(h:l[i]? =some t):l.set i t=l:=by
 apply List.ext_getElem?
 intro j;by_cases e:i=j
 ·subst e;have:=(List.getElem?_eq_some_iff.1 h).1;rw[Zi this,h]
 ·rw[List.getElem?_set_ne e]
theorem QOq {l:List Sp}{i j:Nat}{a b a' b':Sp}(h:i≠j):(l.set i a).set j b=((((l.set i a').set j b').set i a).set j b):=by
 rw[List.set_comm _ _ h.symm,List.set_set,List.set_comm _ _ h,List.set_set];exact List.set_comm _ _ h.symm
structure RoX where
 kk:Nat
 k:Nat
 i:Nat
 s:Rat
 out:List Sp
 r:Sp×Sp
def QFu (c:List (List Rat))(p0:List Rat)(m:Rat)(R:List Sp):LI:=fun id=>
 bif id.beq 6 then .inv ⟨RoX,fun e=>⟨[(4,sC c),(6,.x false [.p 6 0]),(22,sR 100000 p0),(23,iA .i64 p0.length),(24,iA .i64 e.i)],[(6,rBx e.s)]⟩,fun e=>e.i<=p0.length/\KU (p0.drop e.i) e.s=some m,fun e=>p0.length-e.i,fun _=>0⟩
 else bif id.beq 12 then .inv ⟨RoX,fun e=>⟨[(4,sC c),(9,.x false [.w 500 0 e.out.length]),(10,iA .i64 e.i)],[(500,JU e.out)]⟩,fun e=>((1<=e.i/\e.k=e.out.length-e.i)/\e.out.length<=1000000/\e.i<=1000001)/\YJ c e.k e.i e.out=some R,fun e=>e.k,fun _=>0⟩
 else .inv ⟨RoX,fun e=>⟨[(4,sC c),(9,.x false [.w 500 0 e.out.length]),(10,iA .i64 e.i)],[(500,JU e.out)]⟩,fun e=>((1<=e.i/\e.k+1+e.i=e.out.length)/\e.out.length<=1000000)/\KV c e.kk (e.out.getD (e.i-1) s0) (e.out.getD e.i s0)=some e.r/\YJ c e.k (e.i+1) ((e.out.set (e.i-1) e.r.1).set e.i e.r.2)=some R,fun e=>e.kk,fun e=>e.k+1⟩
def Ul (p:List Rat)(c:List (List Rat))(m:Rat)(_out:List Sp)(R:List Sp)(K:AV->Prop):Prop:=QU (mkT QAj QFs X4) (oF Tryz.f27) (QFu c (c.getD 0 []) m R) Tryz.f27 [sR 100000 p] K
theorem Gc (p:List Rat)(c:List (List Rat))(m:Rat)(out:List Sp)(R:List Sp)(K:AV->Prop):Ul p c m out R K=(∃(p_1:List Rat)(R_1:List (List Rat)),lR 100000 p=lR 100000 p_1/\(p_1.length<=1000/\Ju p_1=some R_1)/\((-9223372036854775808:Int)<=1/\(1:Int)<9223372036854775808)/\((0:Int)<=0/\0<Zb (chN R_1).length)/\∃(ys:List (List Ch)),ldE (chN R_1) 0 0 1=some [Ch.s 3 ys]/\(∃(x:RoX),((x.i<=(c.getD 0 []).length/\KU (List.drop x.i (c.getD 0 [])) x.s=some m)/\OfNat.ofNat 0=0)/\1=1/\chN R_1=chN c/\0=0/\3=3/\ys=lR 100000 (c.getD 0 [])/\Zb ys.length=Zb (c.getD 0 []).length/\0=Zb x.i/\26=26/\↑(1:Int)=x.s/\100000<=100000/\True)/\∀(x:RoX),x.i<=(c.getD 0 []).length/\KU (List.drop x.i (c.getD 0 [])) x.s=some m->OfNat.ofNat 0=0->bif decide (Zb x.i<Zb (c.getD 0 []).length)then(0<=Zb x.i/\Zb x.i<Zb (lR 100000 (c.getD 0 [])).length)/\∃(q:Rat)(n:Nat),ldE (lR 100000 (c.getD 0 [])) (Zb x.i).toNat 0 3=some [Zc q n]/\n<=100000/\200001<=4294967296/\∃(r:Rat),Gz x.s (Wq q)=some r/\∃(x':RoX),((x'.i<=(c.getD 0 []).length/\KU (List.drop x'.i (c.getD 0 [])) x'.s=some m)/\OfNat.ofNat 0=0/\(c.getD 0 []).length-x'.i<(c.getD 0 []).length-x.i)/\1=1/\chN c=chN c/\0=0/\3=3/\lR 100000 (c.getD 0 [])=lR 100000 (c.getD 0 [])/\Zb (c.getD 0 []).length=Zb (c.getD 0 []).length/\Zd.wrap (Zb x.i+1)=Zb x'.i/\26=26/\r=x'.s/\100000<=100000/\True else 100000<=100000/\∃(c_1:List (List Rat))(s:Sp)(out':List Sp),chN c=chN c_1/\[Zc (-x.s) 100000,Zc x.s 100000]=[Zc s.lo 100000,Zc s.hi 100000]/\((((1<=c_1.length/\c_1.length<=200000)/\∀(p:List Rat),p∈c_1->p.length<=1000)/\out'.length<=1000000)/\XH c_1 100000 [] s=some out')/\(∃(x:RoX),((((1<=x.i/\x.k=x.out.length-x.i)/\x.out.length<=1000000/\x.i<=1000001)/\YJ c x.k x.i x.out=some R)/\OfNat.ofNat 0=0)/\1=1/\chN c=chN c/\0=0/\out'.length=x.out.length/\1=Zb x.i/\64=64/\6=6/\(Za (spN 100000) out'=Za (spN 100000) x.out∨QE (Za (spN 100000) out') (Za (spN 100000) x.out))/\True)/\∀(x:RoX),((1<=x.i/\x.k=x.out.length-x.i)/\x.out.length<=1000000/\x.i<=1000001)/\YJ c x.k x.i x.out=some R->OfNat.ofNat 0=0->bif decide (Zb x.i<Zb x.out.length)then(∃(x_1:RoX),((((1<=x_1.i/\x_1.k+1+x_1.i=x_1.out.length)/\x_1.out.length<=1000000)/\KV c x_1.kk (x_1.out.getD (x_1.i-1) s0) (x_1.out.getD x_1.i s0)=some x_1.r/\YJ c x_1.k (x_1.i+1) ((x_1.out.set (x_1.i-1) x_1.r.fst).set x_1.i x_1.r.snd)=some R)/\x_1.k+1=x.k)/\1=1/\chN c=chN c/\0=0/\x.out.length=x_1.out.length/\Zb x.i=Zb x_1.i/\64=64/\6=6/\(Za (spN 100000) x.out=Za (spN 100000) x_1.out∨QE (Za (spN 100000) x.out) (Za (spN 100000) x_1.out))/\True)/\∀(x_1:RoX),((1<=x_1.i/\x_1.k+1+x_1.i=x_1.out.length)/\x_1.out.length<=1000000)/\KV c x_1.kk (x_1.out.getD (x_1.i-1) s0) (x_1.out.getD x_1.i s0)=some x_1.r/\YJ c x_1.k (x_1.i+1) ((x_1.out.set (x_1.i-1) x_1.r.fst).set x_1.i x_1.r.snd)=some R->x_1.k+1=x.k->(0<=Zd.wrap (Zb x_1.i-1)/\Zd.wrap (Zb x_1.i-1)<Zb x_1.out.length)/\∃(q:Rat)(n:Nat),ldE (Za (spN 100000) x_1.out) (0+(Zd.wrap (Zb x_1.i-1)).toNat) 3 3=some [Zc q n]/\(0<=Zb x_1.i/\Zb x_1.i<Zb x_1.out.length)/\∃(q_1:Rat)(n_1:Nat),ldE (Za (spN 100000) x_1.out) (0+(Zb x_1.i).toNat) 0 3=some [Zc q_1 n_1]/\n+n_1<=4294967296/\bif decide (JD q q_1≥0)then(0<=Zd.wrap (Zb x_1.i-1)/\Zd.wrap (Zb x_1.i-1)<Zb x_1.out.length)/\∃(q:Rat)(n:Nat)(q_2:Rat)(n_2:Nat),ldE (Za (spN 100000) x_1.out) (0+(Zd.wrap (Zb x_1.i-1)).toNat) 0 6=some [Zc q n,Zc q_2 n_2]/\(0<=Zb x_1.i/\Zb x_1.i<Zb x_1.out.length)/\∃(q_3:Rat)(n_3:Nat)(q_4:Rat)(n_4:Nat),ldE (Za (spN 100000) x_1.out) (0+(Zb x_1.i).toNat) 0 6=some [Zc q_3 n_3,Zc q_4 n_4]/\∃(c_2:List (List Rat))(s:Sp)(R_2:Sp),chN c=chN c_2/\[Zc q n,Zc q_2 n_2]=[Zc s.lo 100000,Zc s.hi 100000]/\(((1<=c_2.length/\c_2.length<=200000)/\∀(p:List Rat),p∈c_2->p.length<=1000)/\VL c_2 s=some R_2)/\∃(c_3:List (List Rat))(s:Sp)(R_3:Sp),chN c=chN c_3/\[Zc q_3 n_3,Zc q_4 n_4]=[Zc s.lo 100000,Zc s.hi 100000]/\(((1<=c_3.length/\c_3.length<=200000)/\∀(p:List Rat),p∈c_3->p.length<=1000)/\VL c_3 s=some R_3)/\(0<=Zd.wrap (Zb x_1.i-1)/\Zd.wrap (Zb x_1.i-1)<Zb x_1.out.length)/\0+(Zd.wrap (Zb x_1.i-1)).toNat<(Za (spN 100000) x_1.out).length/\(0<=Zb x_1.i/\Zb x_1.i<Zb x_1.out.length)/\0+(Zb x_1.i).toNat<((Za (spN 100000) x_1.out).set (0+(Zd.wrap (Zb x_1.i-1)).toNat) [Zc R_2.lo 100000,Zc R_2.hi 100000]).length/\∃(x':RoX),((((1<=x'.i/\x'.k+1+x'.i=x'.out.length)/\x'.out.length<=1000000)/\KV c x'.kk (x'.out.getD (x'.i-1) s0) (x'.out.getD x'.i s0)=some x'.r/\YJ c x'.k (x'.i+1) ((x'.out.set (x'.i-1) x'.r.fst).set x'.i x'.r.snd)=some R)/\x'.k+1=x.k/\x'.kk<x_1.kk)/\1=1/\chN c=chN c/\0=0/\x_1.out.length=x'.out.length/\Zb x_1.i=Zb x'.i/\64=64/\6=6/\(((Za (spN 100000) x_1.out).set (0+(Zd.wrap (Zb x_1.i-1)).toNat) [Zc R_2.lo 100000,Zc R_2.hi 100000]).set (0+(Zb x_1.i).toNat) [Zc R_3.lo 100000,Zc R_3.hi 100000]=Za (spN 100000) x'.out∨QE (((Za (spN 100000) x_1.out).set (0+(Zd.wrap (Zb x_1.i-1)).toNat) [Zc R_2.lo 100000,Zc R_2.hi 100000]).set (0+(Zb x_1.i).toNat) [Zc R_3.lo 100000,Zc R_3.hi 100000]) (Za (spN 100000) x'.out))/\True else ∃(x':RoX),((((1<=x'.i/\x'.k=x'.out.length-x'.i)/\x'.out.length<=1000000/\x'.i<=1000001)/\YJ c x'.k x'.i x'.out=some R)/\OfNat.ofNat 0=0/\x'.k<x.k)/\1=1/\chN c=chN c/\0=0/\x_1.out.length=x'.out.length/\Zd.wrap (Zb x_1.i+1)=Zb x'.i/\64=64/\6=6/\(Za (spN 100000) x_1.out=Za (spN 100000) x'.out∨QE (Za (spN 100000) x_1.out) (Za (spN 100000) x'.out))/\True else K (AV.t [(false,[Ch.s 6 (Zl x.out.length (List.drop 0 (Za (spN 100000) x.out)))]),(false,[Ch.v (Value.int Zd 0)])])):=by kernel_rfl
theorem QLo (p:List Rat)(c:List (List Rat))(m:Rat)(out:List Sp)(R:List Sp)(hc:((p.length<=1000/\out.length<=1000)/\Ju p=some c)/\(KU (c.getD 0 []) 1=some m/\XH c FU [] ⟨-m,m⟩=some out/\YJ c (out.length-1) 1 out=some R))(K:AV->Prop)(hK:K (.t [(false,[.s 6 (R.map (spN 100000))]),(false,[.v (.int .i64 0)])])):QN (Ul p c m out R K):=by
  refine⟨?_⟩;rw[Gc];try simp only[Int.ofNat_eq_natCast,R0,R1,Nat.zero_add,Zk,R4]
  obtain⟨⟨⟨hl,hol⟩,hc⟩,hm,ho,hR⟩:=hc;have hk:=QLV hc;obtain⟨q0,hq0,hg⟩:=QUi hk.1.1;have hp0:=hk.2 q0 (List.mem_of_getElem? hq0);rw[hg]at hm⊢;refine⟨p,c,rfl,⟨hl,hc⟩,⟨by omega,by omega⟩,⟨Int.le_refl _,by rw[GW];omega⟩,lR 100000 q0,QDf hq0,⟨⟨0,0,0,1,[],(s0,s0)⟩,⟨Nat.zero_le _,hm⟩,rfl,rfl,by rw[Xc],rfl,rfl⟩,fun x ⟨x1,xv⟩=>QG (fun hj=> ?_) (fun hj=> ?_)⟩
  · have hj:x.i<q0.length:=by have:=R5 hj;omega
    obtain⟨q,hq⟩: ∃q,q0[x.i]? =some q:=⟨_,Zf (by omega)⟩
    have ed:q0.drop x.i=q::q0.drop (x.i+1):=by
      rw[List.drop_eq_getElem_cons hj];congr 1;rw[Zf hj]at hq;exact Option.some.inj hq
    rw[ed,KU]at xv;obtain⟨u,hu,xv⟩:=bind_some xv;exact⟨⟨by omega,by rw[Xc];omega⟩,q,100000,by rw[Int.toNat_natCast];exact YC hq,by omega,by omega,u,hu,⟨0,0,x.i+1,u,[],(s0,s0)⟩,⟨⟨by simp only;omega,xv⟩,by simp only;omega⟩,by rw[w64 (by omega)];simp,rfl⟩
  · have hj:q0.length<=x.i:=by have:=R6 hj;omega
    rw[List.drop_eq_nil_of_le hj]at xv;have xs:x.s=m:=Option.some.inj xv;rw[xs];refine⟨c,⟨-m,m⟩,out,rfl,rfl,⟨⟨hk,by omega⟩,ho⟩,⟨⟨0,out.length-1,1,0,out,(s0,s0)⟩,⟨⟨⟨Zk _,rfl⟩,by simp only;omega,by simp only;omega⟩,hR⟩,rfl,rfl,.inl rfl⟩,fun y ⟨⟨⟨y1,y2⟩,y3,y4⟩,yv⟩=>QG (fun hj=> ?_) (fun hj=> ?_)⟩
    · have hj:y.i<y.out.length:=by have:=R5 hj;omega
      obtain⟨k,hk'⟩: ∃k,y.k=k+1:=⟨y.k-1,by omega⟩;rw[hk',YJ]at yv;obtain⟨r,hr,yv⟩:=bind_some yv;refine⟨⟨⟨FU,k,y.i,0,y.out,r⟩,⟨⟨⟨⟨y1,by simp only;omega⟩,y3⟩,hr,yv⟩,hk'.symm⟩,rfl,rfl,.inl rfl⟩,fun z ⟨⟨⟨z1,z2⟩,z3⟩,zv,zw⟩ hz=> ?_⟩;obtain⟨s,hs⟩: ∃s,z.out[z.i-1]? =some s:=⟨_,Zf (by omega)⟩
      obtain⟨t,ht⟩: ∃t,z.out[z.i]? =some t:=⟨_,Zf (by omega)⟩
      have ew:Zd.wrap ((z.i:Int)-1)=((z.i-1:Nat):Int):=by rw[w64 (by omega)];omega
      rw[spD hs,spD ht]at zv;rw[ew];simp only[Int.toNat_natCast];refine⟨⟨by omega,by omega⟩,s.hi,100000,QUn hs,⟨by omega,by omega⟩,t.lo,100000,QUo ht,by omega,QG (fun hb=> ?_) (fun hb=> ?_)⟩
      · have hb:t.lo<=s.hi:=Rat.not_lt.1 fun e=>by have:=R5 hb;have:=QGr.2 e;omega
        cases hkk:z.kk with
        | zero=>rw[hkk]at zv;cases zv
        | succ kk=>
          rw[hkk,KV,decide_eq_true hb]at zv;simp only[R7]at zv;obtain⟨s',h1,zv⟩:=bind_some zv;obtain⟨t',h2,zv⟩:=bind_some zv;have l1:(z.i-1)<z.out.length:=by omega
          refine⟨⟨by omega,by omega⟩,s.lo,100000,s.hi,100000,QPq hs,⟨by omega,by omega⟩,t.lo,100000,t.hi,100000,QPq ht,c,s,s',rfl,rfl,⟨hk,h1⟩,c,t,t',rfl,rfl,⟨hk,h2⟩,⟨by omega,by omega⟩,by rw[List.length_map];omega,⟨by omega,by omega⟩,by rw[Zh,List.length_map];omega,⟨kk,z.k,z.i,0,(z.out.set (z.i-1) s').set z.i t',z.r⟩,⟨⟨⟨⟨z1,by simp only[Zh];omega⟩,by simp only[Zh];omega⟩,?_,?_⟩,hz,by simp only;omega⟩,by simp only[Zh],rfl,.inl ?_⟩
          · simp only;rw[spD (t:=s') (by rw[List.getElem?_set_ne (by omega),Zi (by omega)]),spD (t:=t') (by rw[Zi (by rw[Zh];omega)])];exact zv
          · simp only;rw[<-QOq (by omega:z.i-1≠z.i)];exact zw
          · rw[List.map_set,List.map_set];rfl
      · have hb : ¬ t.lo ≤ s.hi := fun e => by have := R6 hb; have : ¬ JD s.hi t.lo < 0 := fun k => by have := QGr.1 k; grind
                                               omega
        cases hkk:z.kk with
        | zero=>rw[hkk]at zv;cases zv
        | succ kk=>
          rw[hkk,KV,decide_eq_false hb]at zv;have er:(s,t)=z.r:=Option.some.inj zv;rw[<-er,QDj hs,QDj ht]at zw;exact⟨⟨0,z.k,z.i+1,0,z.out,(s0,s0)⟩,⟨⟨⟨⟨by simp only;omega,by simp only;omega⟩,z3,by simp only;omega⟩,zw⟩,by simp only;omega⟩,rfl,by rw[w64 (by omega)];simp,.inl rfl⟩
    · have hj:y.out.length<=y.i:=by have:=R6 hj;omega
      have:y.k=0:=by omega
      rw[this]at yv;have yv:y.out=R:=Option.some.inj yv;rw[List.drop_zero,List.take_of_length_le (by simp),yv];exact hK
def Vr:Ctr
 | [.x false [.s 3 xs]]=>some fun K=> ∃(p:List Rat) (c:List (List Rat)) (m:Rat) (out:List Sp) (R:List Sp),xs=lR 100000 p/\(((p.length<=1000/\out.length<=1000)/\Ju p=some c)/\(KU (c.getD 0 []) 1=some m/\XH c FU [] ⟨-m,m⟩=some out/\YJ c (out.length-1) 1 out=some R))/\(K (.t [(false,[.s 6 (R.map (spN 100000))]),(false,[.v (.int .i64 0)])]))
 | _=>none
theorem QIW:QH 27 Vr:=by
 refine okL Tryz.func27 fun l T hT K hK=> ?_
 unfold Vr at hT;split at hT<;>cases hT
 obtain⟨p,c,m,out,R,rfl,hc,hK⟩:=hK;exact spL (QW QCD QFt Q0) QO Tryz.func27 (QLo _ _ _ _ _ hc K hK)
def QUp:LC:=(27,Vr)::QAj
noncomputable def QVL:QY:=mkT QUp QFs X4
end Go.Proofs
namespace Go.Proofs
open Go Go.Eng
def QPy:LC:=QAj
theorem QOr:QC QPy:=QCD
def QPz:LC:=QPy
theorem QOs:QC QPz:=QOr
def QP0:LC:=QPz
theorem QOt:QC QP0:=QOs
def QP1:LC:=QP0
theorem QOu:QC QP1:=QOt
def QP2:LC:=QP1
theorem QOv:QC QP2:=QOu
def QLp:LC:=QP2
noncomputable def QVM:QY:=mkT QLp Wr X4
theorem QOw:QC QLp:=QOv
end Go.Proofs
