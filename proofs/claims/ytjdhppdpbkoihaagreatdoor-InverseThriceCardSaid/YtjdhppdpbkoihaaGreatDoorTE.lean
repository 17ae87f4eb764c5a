/- InverseThrice: its closure, IndexFunc, ContainsFunc. -/
import Derived.Test.YtjdhppdpbkoihaaGreatDoorTH
import Derived.Test.YtjdhppdpbkoihaaGreatDoorCG
open Int renaming ofNat → Za, ofNat_eq_natCast → Zd
open Nat renaming eq_of_beq_eq_true → Zb
open List renaming map → Zc
namespace Go.Proofs
open Go Go.Eng
structure BTF (x y t:Rat):Prop where
  x:Bd 500 x
  y:Bd 500 y
  t:Bd 500 t
def QEn:Ctr
 | [.x true xs,.x true [.r x _n,.r y _m,.v (.bool h),.r t _o]]=>some fun K=> ∃(a:Qx) (L0 L1 L2:QZ) (F:FrV) (X Y:Rat) (rs R:List (RtV×RtV)) (O:List (List Sp)),xs=JU a/\((Qy a/\a.links=[L0,L1,L2])/\BTF x y t/\(h=true->t=0))/\((F=Xp a ⟨x,y,h,t⟩/\X=W3 L2 F/\Y=Ww L2 F)/\(YW L0.len L1.len X Y=some rs/\inF L0.lo L0.hi L1.lo L1.hi rs []=some R)/\HM (thQ L0 L1 F X Y) L2.lo L2.hi R []=some O)/\
   (O=[]->K (.t [(false,[.v (.slice none 0 0)]),(false,[.v (.int .i64 17)])]))/\(O≠[]->K (.t [(false,[.s 1 (O.map XC)]),(false,[.v (.int .i64 0)])]))
 | _=>none
theorem QXN {W:World}{O:Nat->Prop}{ρ:Env}{x y t:Rat}{n m o n' m' o':Nat}{c:Ch}{u:Value}(hc:c= .v u)(h1:Bd n' x)(h2:Bd m' y)(h3:Bd o' t){v:Value}(h:ConcV W O ρ (.x true [.r x n,.r y m,c,.r t o]) v):ConcV W O ρ (.x true [.r x n',.r y m',c,.r t o']) v:=by
 subst hc;obtain⟨vals,h4,h5⟩:=h;cases h4 with | r b1 h4=>cases h4 with | r b2 h4=>cases h4 with | v e1 h4=>cases h4 with | r b3 h4=>exact⟨_,.r h1 (.r h2 (.v e1 (.r h3 h4))),h5⟩
theorem QQO:QI 15 QEn:=by
 refine⟨ok_iThree.enter,fun l T hT K hK=> ?_⟩;unfold QEn at hT;split at hT
 ·rename_i xs x n y m h t o;cases hT
  obtain⟨a,L0,L1,L2,F,X,Y,rs,R,O,rfl,⟨hg,hx,hh⟩,hs,hK⟩:=hK;refine Eng.Spec.args (ok_iThree.sound [.x true (JU a),.x true [.r x 500,.r y 500,.v (.bool h),.r t 500]] _ rfl K ⟨a,L0,L1,L2,F,X,Y,rs,R,O,rfl,⟨⟨hg,⟨Nat.le_refl _,Nat.le_refl _⟩,Nat.le_refl _,hh⟩,hs⟩,hK⟩) fun w O vals hc=> ?_
  cases hc with
  | cons h1 h2=>cases h2 with
   | cons h2 h3=>exact .cons h1 (.cons (QXN rfl hx.x hx.y hx.t h2) h3)
 ·cases hT
def qBx (qs:List Rat):Blk:= .box 56 [.s 3 (lR 63 qs)]
def HO (o:List Sp)(qs:List Rat):Bool:=Qm (o.getD 0 s0) (qs.getD 0 0)&&Qm (o.getD 1 s0) (qs.getD 1 0)&&Qm (o.getD 2 s0) (qs.getD 2 0)
def ok3 (o:List Sp):Prop:=o.length=3/\ ∀s∈o,s.lo<=s.hi
def QEo:Xl:=fun as0 H _=>match as0 with
 | [.x false [.s 6 ys],.x false [.p m o]]=>match o with
  | 0=>match H m with
   | some (.box t [.s 3 zs])=>bif t.beq 56 then some fun K=> ∃(s:List Sp) (qs:List Rat),zs=lR 63 qs/\ys=VH s/\ok3 s/\qs.length=3/\K (.x false [.v (.bool (HO s qs))]) H else none
   | _=>none
  | _+1=>none
 | _=>none
def QTs (O:List (List Sp))(qs:List Rat):Prop:=(qs.length=3/\O.length<=1000)/\(∀o∈O,ok3 o)/\ ∃o∈O,HO o qs=true
def QEp:Xl:=fun as0 H _=>match as0 with
 | [.x false [.s 1 ys],.x false [.f fid [m]]]=>match H m with
  | some (.box t [.s 3 zs])=>bif t.beq 56&&fid.beq 23 then some fun K=> ∃(O:List (List Sp)) (qs:List Rat),zs=lR 63 qs/\ys=O.map XC/\QTs O qs/\ ∀i:Nat,i<=1000->K (iA .i64 i) H else none
  | _=>none
 | _=>none
def QEq:Xl:=fun as0 H _=>match as0 with
 | [.x false [.s 1 ys],.x false [.f fid [m]]]=>match H m with
  | some (.box t [.s 3 zs])=>bif t.beq 56&&fid.beq 23 then some fun K=> ∃(O:List (List Sp)) (qs:List Rat),zs=lR 63 qs/\ys=O.map XC/\QTs O qs/\K (.x false [.v (.bool true)]) H else none
  | _=>none
 | _=>none
def QQP:LC:=(16,UB)::(17,QJ4)::(18,QJs)::  (20,HD)::(21,QEN)::(15,QEn)::(24,QBe)::QTm
def QXO:List (Nat×Xl):=(23,QEo)::Uo
def QXP:List (Nat×Xl):=(48,QEp)::QXO
def QZd:List (Nat×Xl):=(22,QEq)::QXP
def QQQ (O:List (List Sp))(qs:List Rat):LI:=fun _=> .inv ⟨Nat,fun i=>⟨[(0,.x false [.s 1 (O.map XC)]),(1,.x false [.f 23 [1000]]),(7,iA .i64 O.length),(8,iA .i64 i)],[(1000,qBx qs)]⟩,fun i=>i<=O.length/\ ∃o∈O.drop i,HO o qs=true,fun i=>O.length-i,fun _=>0⟩
theorem QTt {O:List (List Sp)}{i:Nat}{o:List Sp}(h:O[i]? =some o):ldE (O.map XC) i 0 1=some (XC o):=by
 simp only[ldE,List.getElem?_map,h];rfl
theorem QXQ (s:List Sp)(qs:List Rat)(hs:ok3 s)(hq:qs.length=3):QM (Xy (X:=Unit) (mkT QQP Uo X4) (oF Tryz.f23) noL Tryz.f23 [.x false [.s 6 (VH s)],.x false [.p 1000 0]] [(1000,qBx qs)] (fun _=>True) (fun _=>⟨[(3,.x false [.v (.bool (HO s qs))])],[(1000,qBx qs)]⟩)):=by
 refine HV ((bif Za (VH s).length==3 then((0:Int)<=0/\0<Za (VH s).length)/\∃(q:Rat),∃(n:Nat),∃(q_1:Rat),∃(n_1:Nat),ldE (VH s) 0 0 6=some [Ch.r q n,Ch.r q_1 n_1]/\((0:Int)<=0/\0<Za (lR 63 qs).length)/\∃(q_2:Rat),∃(n_2:Nat),ldE (lR 63 qs) 0 0 3=some [Ch.r q_2 n_2]/\(n+n_1+n_2<=4294967290/\q<=q_1)/\bif Qm (Sp.mk q q_1) q_2 then((0:Int)<=1/\1<Za (VH s).length)/\∃(q:Rat),∃(n:Nat),∃(q_3:Rat),∃(n_3:Nat),ldE (VH s) 1 0 6=some [Ch.r q n,Ch.r q_3 n_3]/\((0:Int)<=1/\1<Za (lR 63 qs).length)/\∃(q_4:Rat),∃(n_4:Nat),ldE (lR 63 qs) 1 0 3=some [Ch.r q_4 n_4]/\(n+n_3+n_4<=4294967290/\q<=q_3)/\bif Qm (Sp.mk q q_3) q_4 then((0:Int)<=2/\2<Za (VH s).length)/\∃(q:Rat),∃(n:Nat),∃(q_5:Rat),∃(n_5:Nat),ldE (VH s) 2 0 6=some [Ch.r q n,Ch.r q_5 n_5]/\((0:Int)<=2/\2<Za (lR 63 qs).length)/\∃(q_6:Rat),∃(n_6:Nat),ldE (lR 63 qs) 2 0 3=some [Ch.r q_6 n_6]/\(n+n_5+n_6<=4294967290/\q<=q_5)/\∃(_x:Unit),True/\Qm (Sp.mk q q_5) q_6=HO s qs/\56=56/\3=3/\lR 63 qs=lR 63 qs/\True else ∃(_x:Unit),True/\false=HO s qs/\56=56/\3=3/\lR 63 qs=lR 63 qs/\True else ∃(_x:Unit),True/\false=HO s qs/\56=56/\3=3/\lR 63 qs=lR 63 qs/\True else ∃(_x:Unit),True/\false=HO s qs/\56=56/\3=3/\lR 63 qs=lR 63 qs/\True)) ?_
 simp only[Zd,R0,R1];match s,qs,hs,hq with
 | [a,b,c],[p,q,r],hs,_=>
  have h1:=hs.2 a (by simp);have h2:=hs.2 b (by simp);have h3:=hs.2 c (by simp);refine QF (fun _=>⟨⟨by omega,by simp[VH]⟩,a.lo,100000,a.hi,100000,rfl,⟨by omega,by simp[lR]⟩,p,63,rfl,⟨by omega,h1⟩,QF (fun k1=>⟨⟨by omega,by simp[VH]⟩,b.lo,100000,b.hi,100000,rfl,⟨by omega,by simp[lR]⟩,q,63,rfl,⟨by omega,h2⟩,QF (fun k2=>⟨⟨by omega,by simp[VH]⟩,c.lo,20000000,c.hi,20000000,rfl,⟨by omega,by simp[lR]⟩,r,63,rfl,⟨by omega,h3⟩,(),?_⟩) (fun k2=>⟨(),?_⟩)⟩) (fun k1=>⟨(),?_⟩)⟩) (fun h=>by cases h)
  ·show _=(Qm a p&&Qm b q&&Qm c r)
   have k1:Qm a p=true:=k1;have k2:Qm b q=true:=k2;rw[k1,k2];rfl
  ·show _=(Qm a p&&Qm b q&&Qm c r)
   have k2:Qm b q=false:=k2;rw[k2,Bool.and_false];rfl
  ·show _=(Qm a p&&Qm b q&&Qm c r)
   have k1:Qm a p=false:=k1;rw[k1];rfl
theorem QXR (O:List (List Sp))(qs:List Rat)(hc:QTs O qs):QM (Xy (X:=Nat) (mkT QQP QXO X4) (oF Tryz.f48) (QQQ O qs) Tryz.f48 [.x false [.s 1 (O.map XC)],.x false [.f 23 [1000]]] [(1000,qBx qs)] (fun i=>i<=1000) (fun i=>⟨[(4,iA .i64 i)],[(1000,qBx qs)]⟩)):=by
 refine HV (((∃(x:Nat),((x<=O.length/\∃(o:List Sp),List.Mem o (List.drop x O)/\HO o qs=true)/\OfNat.ofNat 0=0)/\1=1/\Zc XC O=Zc XC O/\23=23/\Za (Zc XC O).length=Za O.length/\0=Za x/\56=56/\3=3/\lR 63 qs=lR 63 qs/\True)/\∀(x:Nat),(x<=O.length/\∃(o:List Sp),o∈List.drop x O/\HO o qs=true)->OfNat.ofNat 0=0->bif decide (Za x<Za O.length)then(0<=Za x/\Za x<Za (Zc XC O).length)/\∃(ys:List (List Ch)),ldE (Zc XC O) (Za x).toNat 0 1=some [Ch.s 6 ys]/\∃(s:List Sp),∃(qs_1:List Rat),lR 63 qs=lR 63 qs_1/\ys=VH s/\(s.length=3/\∀(s_1:Sp),s_1∈s->s_1.lo<=s_1.hi)/\qs_1.length=3/\bif HO s qs_1 then ∃(x_1:Nat),x_1<=1000/\Za x=Za x_1/\56=56/\3=3/\lR 63 qs=lR 63 qs/\True else ∃(x':Nat),((x'<=O.length/\∃(o:List Sp),List.Mem o (List.drop x' O)/\HO o qs=true)/\OfNat.ofNat 0=0/\O.length-x'<O.length-x)/\1=1/\Zc XC O=Zc XC O/\23=23/\Za O.length=Za O.length/\IntKind.i64.wrap (Za x+1)=Za x'/\56=56/\3=3/\lR 63 qs=lR 63 qs/\True else ∃(x:Nat),x<=1000/\ -1=Za x/\56=56/\3=3/\lR 63 qs=lR 63 qs/\True)) ?_
 simp only[Zd,R0,R1,R4];obtain⟨⟨hq,hl⟩,ho,w,hw,hw2⟩:=hc;have rl:(O.map XC).length=O.length:=by rw[List.length_map]
 refine⟨⟨0,⟨by omega,w,by rw[List.drop_zero];exact hw,hw2⟩,by rw[rl],rfl⟩,fun x hx=>QF (fun hp=> ?_) (fun hp=> ?_)⟩
 ·have hp:x<O.length:=by have:=R5 hp;omega
  obtain⟨o,ho2⟩: ∃o,O[x]? =some o:=⟨_,List.getElem?_eq_getElem hp⟩
  refine⟨⟨by omega,by rw[rl];omega⟩,VH o,by rw[Int.toNat_natCast];exact QTt ho2,o,qs,rfl,rfl,ho o (List.mem_of_getElem? ho2),hq,QF (fun _=>⟨x,by omega,rfl⟩) (fun h=>⟨x+1,⟨⟨by omega,?_⟩,by omega⟩,by rw[w64 (by omega)];simp⟩)⟩;obtain⟨v,hv,hv2⟩:=hx.2;rw[List.drop_eq_getElem_cons hp]at hv;rcases List.mem_cons.1 hv with rfl | hv
  ·rw[List.getElem?_eq_getElem hp]at ho2;rw[Option.some.inj ho2]at hv2;rw[hv2]at h;cases h
  ·exact⟨v,hv,hv2⟩
 ·exfalso;have hp:=R6 hp;obtain⟨v,hv,hv2⟩:=hx.2;rw[List.drop_eq_nil_of_le (by omega)]at hv;cases hv
theorem QXS (O:List (List Sp))(qs:List Rat)(hc:QTs O qs):QM (Xy (X:=Unit) (mkT QQP QXP X4) (oF Tryz.f22) noL Tryz.f22 [.x false [.s 1 (O.map XC)],.x false [.f 23 [1000]]] [(1000,qBx qs)] (fun _=>True) (fun _=>⟨[(4,.x false [.v (.bool true)])],[(1000,qBx qs)]⟩)):=by
 refine HV ((∃(O_1:List (List Sp)),∃(qs_1:List Rat),lR 63 qs=lR 63 qs_1/\Zc XC O=Zc XC O_1/\((qs_1.length=3/\O_1.length<=1000)/\(∀(o:List Sp),o∈O_1->o.length=3/\∀(s:Sp),s∈o->s.lo<=s.hi)/\∃(o:List Sp),List.Mem o O_1/\HO o qs_1=true)/\∀(i:Nat),i<=1000->∃(_x:Unit),True/\decide (Za i≥0)=true/\56=56/\3=3/\lR 63 qs=lR 63 qs/\True)) ?_
 simp only[Zd,R0,R1];exact⟨O,qs,rfl,rfl,hc,fun i hi=>⟨(),by simp⟩⟩
end Go.Proofs
namespace Go.Proofs
open Go Go.Eng
theorem QJJ {H:HP}{k:Nat}{b:Blk}(hk:H k=some b)(hr: ∀f,Uf f b=some b):YS [(1000,k)] (QP [(1000,b)]) H=H:=by
 funext j;unfold YS;simp only[lkB];cases h:j.beq k with
 | true=>
  have:=Zb h;subst this;simp[QP,rdB,hr,hk]
 | false=>rfl
theorem QJK {H:HP}{k:Nat}{b:Blk}(hk:H k=some b)(hl:XW (some b)=true)(hr: ∀f,Uf f b=some b):US [(1000,k)] H (QP [(1000,b)]):=
 .mk' rfl (by simp) (by simp) fun p hp=>by simp at hp;subst hp;exact⟨b,b,rfl,hk,hl,hr _⟩
theorem QB5 {f:Nat->Option Nat}{qs:List Rat}:Uf f (qBx qs)=some (qBx qs):=by
 simp only[Uf,qBx,X6]
theorem QXT {k:Nat}{qs:List Rat}:(∀p∈[((1000:Nat),k)],QP [(1000,qBx qs)] p.1≠none)/\ ∀p∈[((1000:Nat),k)]++[],∀b,QP [(1000,qBx qs)] p.1=some b-> ∃b0,Uf (lkA ([((1000:Nat),k)]++[])) b=some b0:=by
 refine⟨fun p hp=> ?_,fun p hp b hb=> ?_⟩
 ·simp at hp;subst hp;exact fun h=>by have h':some (qBx qs)=none:=h;cases h'
 ·simp at hp;subst hp;have h':some (qBx qs)=some b:=hb;cases h';exact⟨_,QB5⟩
theorem QEr:QG QQP:= .cons QBd (.cons QOc (.cons QOD (.cons QC5 (.cons QJ8 (.cons QQO (.cons QEV QQA))))))
theorem QQR:Xz 23 QEo:=by
 refine⟨Qf Tryz.func23 (by kernel_rfl),fun l H d T hT K hK=> ?_⟩;unfold QEo at hT;split at hT
 ·rename_i ys m o;split at hT
  ·split at hT
   ·rename_i t zs e1;cases hb:t.beq 56 with
    | false=>rw[hb]at hT;cases hT
    | true=>
     rw[hb]at hT;have ht:=Zb hb;subst ht;cases hT
     obtain⟨s,qs,rfl,rfl,hs,hq,hK⟩:=hK;refine Hx (R:=[(1000,m)]) (N:=[]) (Hl:=[(1000,qBx qs)]) (QV QEr Vu Qo) QN Tryz.func23 (by kernel_rfl) (by kernel_rfl) (by rfl)
      (as0:=[.x false [.s 6 (VH s)],.x false [.p 1000 0]]) ?_ (QJK e1 rfl fun _=>QB5) rfl (by simp) (by simp) (fun _ h=>by cases h) (fun _=>QXT) (QXQ s qs hs hq) (fun _ _=>⟨_,rfl,?_⟩)
     ·simp[YZ,YO,X6,lkB]
     ·show K _ (YS [(1000,m)] (QP [(1000,qBx qs)]) H)
      rw[QJJ (b:=qBx qs) e1 fun _=>QB5];exact hK
   ·cases hT
  ·cases hT
 ·cases hT
theorem QQS:XU QXO:= .cons QQR Vu
theorem QQT:Xz 48 QEp:=by
 refine⟨Qf Tryz.func48 (by kernel_rfl),fun l H d T hT K hK=> ?_⟩;unfold QEp at hT;split at hT
 ·rename_i ys fid m;split at hT
  ·rename_i t zs e1;cases hb:t.beq 56&&fid.beq 23 with
   | false=>rw[hb]at hT;cases hT
   | true=>
    rw[hb]at hT;cases hT
    simp only[Bool.and_eq_true]at hb;have ht:=Zb hb.1;have hf:=Zb hb.2;subst ht;subst hf;obtain⟨O,qs,rfl,rfl,hc,hK⟩:=hK;refine Hx (R:=[(1000,m)]) (N:=[]) (Hl:=[(1000,qBx qs)]) (QV QEr QQS Qo) QN Tryz.func48 (by kernel_rfl) (by kernel_rfl) (by rfl)
     (as0:=[.x false [.s 1 (O.map XC)],.x false [.f 23 [1000]]]) ?_ (QJK e1 rfl fun _=>QB5) rfl (by simp) (by simp) (fun _ h=>by cases h) (fun _=>QXT) (QXR O qs hc) (fun i hi=>⟨_,rfl,?_⟩)
    ·simp[YZ,YO,X6,QA0,lkB]
    ·show K _ (YS [(1000,m)] (QP [(1000,qBx qs)]) H)
     rw[QJJ (b:=qBx qs) e1 fun _=>QB5];exact hK i hi
  ·cases hT
 ·cases hT
theorem QQU:XU QXP:= .cons QQT QQS
theorem QQV:Xz 22 QEq:=by
 refine⟨Qf Tryz.func22 (by kernel_rfl),fun l H d T hT K hK=> ?_⟩;unfold QEq at hT;split at hT
 ·rename_i ys fid m;split at hT
  ·rename_i t zs e1;cases hb:t.beq 56&&fid.beq 23 with
   | false=>rw[hb]at hT;cases hT
   | true=>
    rw[hb]at hT;cases hT
    simp only[Bool.and_eq_true]at hb;have ht:=Zb hb.1;have hf:=Zb hb.2;subst ht;subst hf;obtain⟨O,qs,rfl,rfl,hc,hK⟩:=hK;refine Hx (R:=[(1000,m)]) (N:=[]) (Hl:=[(1000,qBx qs)]) (QV QEr QQU Qo) QN Tryz.func22 (by kernel_rfl) (by kernel_rfl) (by rfl)
     (as0:=[.x false [.s 1 (O.map XC)],.x false [.f 23 [1000]]]) ?_ (QJK e1 rfl fun _=>QB5) rfl (by simp) (by simp) (fun _ h=>by cases h) (fun _=>QXT) (QXS O qs hc) (fun _ _=>⟨_,rfl,?_⟩)
    ·simp[YZ,YO,X6,QA0,lkB]
    ·show K _ (YS [(1000,m)] (QP [(1000,qBx qs)]) H)
     rw[QJJ (b:=qBx qs) e1 fun _=>QB5];exact hK
  ·cases hT
 ·cases hT
theorem QXU:XU QZd:= .cons QQV QQU
def frS:FrV:=⟨mkRat 6 1,mkRat 0 1,false,mkRat 0 1⟩
def thS:FrV:=Xp (YK [3,4,1]) frS
set_option maxRecDepth 100000 in
theorem QJL:((YW (Xi 3).len (Xi 4).len (W3 (Xi 1) thS) (Ww (Xi 1) thS)).bind fun rs=>(inF (Xi 3).lo (Xi 3).hi (Xi 4).lo (Xi 4).hi rs []).bind fun R=>(HM (thQ (Xi 3) (Xi 4) thS (W3 (Xi 1) thS) (Ww (Xi 1) thS)) (Xi 1).lo (Xi 1).hi R []).map List.length)=some 2:=by decide+kernel
end Go.Proofs
