/- InverseFinds: its closure, IndexFunc, ContainsFunc. -/
import Derived.Test.YtnbkdgmgbaangaaGreatDoorIF
open Int renaming ofNat → Za, ofNat_eq_natCast → Ze
open Nat renaming eq_of_beq_eq_true → Zb, zero_add → Zi, le_refl → Zj
open Rat renaming intCast_le_intCast → Zc, mkRat_eq_div → Zh
open List renaming map → Zd
open Go.Value renaming bool → Zf, string → Zg
namespace Go.Proofs
open Go Go.Eng
def qBx (qs:List Rat):Blk:= .box 41 [.s 3 (lR 63 qs)]
def Hw (o:List Sp)(qs:List Rat):Bool:=WD (o.getD 0 s0) (qs.getD 0 0)&&WD (o.getD 1 s0) (qs.getD 1 0)
def ok2 (o:List Sp):Prop:=o.length=2/\ ∀s∈o,s.lo<=s.hi
def Jh (O:List (List Sp)):List (List Ch):=O.map Jg
def QGf:Xh:=fun as0 H _=>match as0 with
 | [.x false [.s 6 ys],.x false [.p m o]]=>match o with
  | 0=>match H m with
   | some (.box t [.s 3 zs])=>bif t.beq 41 then some fun K=> ∃(s:List Sp) (qs:List Rat),zs=lR 63 qs/\ys=s.map (spN 100000)/\ok2 s/\qs.length=2/\K (.x false [.v (.bool (Hw s qs))]) H else none
   | _=>none
  | _+1=>none
 | _=>none
def QWT (O:List (List Sp))(qs:List Rat):Prop:=(qs.length=2/\O.length<=1000)/\(∀o∈O,ok2 o)/\ ∃o∈O,Hw o qs=true
def QGg:Xh:=fun as0 H _=>match as0 with
 | [.x false [.s 1 ys],.x false [.f fid [m]]]=>match H m with
  | some (.box t [.s 3 zs])=>bif t.beq 41&&fid.beq 40 then some fun K=> ∃(O:List (List Sp)) (qs:List Rat),zs=lR 63 qs/\ys=Jh O/\QWT O qs/\ ∀i:Nat,i<=1000->K (iA .i64 i) H else none
  | _=>none
 | _=>none
def QGh:Xh:=fun as0 H _=>match as0 with
 | [.x false [.s 1 ys],.x false [.f fid [m]]]=>match H m with
  | some (.box t [.s 3 zs])=>bif t.beq 41&&fid.beq 40 then some fun K=> ∃(O:List (List Sp)) (qs:List Rat),zs=lR 63 qs/\ys=Jh O/\QWT O qs/\K (.x false [.v (.bool true)]) H else none
  | _=>none
 | _=>none
def QSQ:List (Nat×Ctr):=(36,Vo)::(37,Kb)::(38,G5)::(16,Uu)::(29,QF7)::(30,G8)::(41,QGD)::QSE
def Qap:List (Nat×Xh):=(40,QGf)::Hr
def Qaq:List (Nat×Xh):=(95,QGg)::Qap
def Qdd:List (Nat×Xh):=(39,QGh)::Qaq
noncomputable def Qde:QU:=mkT QSQ Hr X4
noncomputable def Qdf:QU:=mkT QSQ Qap X4
noncomputable def Qdg:QU:=mkT QSQ Qaq X4
noncomputable def Qdh:QU:=mkT QSQ Qdd X4
def QWU:OT:=fun id=>bif id.beq 1 then([0,1,2,3,4,5,6,7,8,9,10,11,12,13,14,15,16,17,18,19,20,21],[[],[0],[1,0],[2,1,0],[3,2,1,0],[4,3,2,1,0],[5,4,3,2,1,0],[3,2,1,0],[7,3,2,1,0],[8,7,3,2,1,0],[6,5,4,3,2,1,0,9,8,7],[3,2,1,0,10,6,5,4,9,8,7],[11,3,2,1,0,10,6,5,4,9,8,7],[12,11,3,2,1,0,10,6,5,4,9,8,7],[13,12,11,3,2,1,0,10,6,5,4,9,8,7],[14,13,12,11,3,2,1,0,10,6,5,4,9,8,7],[12,11,3,2,1,0,10,6,5,4,9,8,7],[16,12,11,3,2,1,0,10,6,5,4,9,8,7],[17,16,12,11,3,2,1,0,10,6,5,4,9,8,7],[15,14,13,12,11,3,2,1,0,10,6,5,4,9,8,7,18,17,16],[12,11,3,2,1,0,10,6,5,4,9,8,7,19,15,14,13,18,17,16],[20,12,11,3,2,1,0,10,6,5,4,9,8,7,19,15,14,13,18,17,16]])else([],[])
def QEW (s:List Sp)(qs:List Rat):Prop:=Xu (X:=Unit) Qde QWU noL Tryz.f40 [.x false [.s 6 (s.map (spN 100000))],.x false [.p 1000 0]] [(1000,qBx qs)] (fun _=>True) (fun _=>⟨[(3,.x false [.v (.bool (Hw s qs))])],[(1000,qBx qs)]⟩)
theorem QGi (s:List Sp)(qs:List Rat):QEW s qs=(bif Za (Zd (spN 100000) s).length==2 then((0:Int)<=0/\0<Za (Zd (spN 100000) s).length)/\∃(q:Rat)(n:Nat)(q_1:Rat)(n_1:Nat),ldE (Zd (spN 100000) s) 0 0 6=some [Ch.r q n,Ch.r q_1 n_1]/\((0:Int)<=0/\0<Za (lR 63 qs).length)/\∃(q_2:Rat)(n_2:Nat),ldE (lR 63 qs) 0 0 3=some [Ch.r q_2 n_2]/\(n+n_1+n_2<=4294967290/\q<=q_1)/\bif WD (Sp.mk q q_1) q_2 then((0:Int)<=1/\1<Za (Zd (spN 100000) s).length)/\∃(q:Rat)(n:Nat)(q_3:Rat)(n_3:Nat),ldE (Zd (spN 100000) s) 1 0 6=some [Ch.r q n,Ch.r q_3 n_3]/\((0:Int)<=1/\1<Za (lR 63 qs).length)/\∃(q_4:Rat)(n_4:Nat),ldE (lR 63 qs) 1 0 3=some [Ch.r q_4 n_4]/\(n+n_3+n_4<=4294967290/\q<=q_3)/\∃(x:Unit),True/\WD (Sp.mk q q_3) q_4=Hw s qs/\41=41/\3=3/\lR 63 qs=lR 63 qs/\True else ∃(x:Unit),True/\false=Hw s qs/\41=41/\3=3/\lR 63 qs=lR 63 qs/\True else ∃(x:Unit),True/\false=Hw s qs/\41=41/\3=3/\lR 63 qs=lR 63 qs/\True):=by kernel_rfl
def QSR (O:List (List Sp))(qs:List Rat):LI:=fun _=> .inv ⟨Nat,fun i=>⟨[(0,.x false [.s 1 (Jh O)]),(1,.x false [.f 40 [1000]]),(7,iA .i64 O.length),(8,iA .i64 i)],[(1000,qBx qs)]⟩,fun i=>i<=O.length/\ ∃o∈O.drop i,Hw o qs=true,fun i=>O.length-i,fun _=>0⟩
def QWV:OT:=fun _=>([],[])
def QEX (O:List (List Sp))(qs:List Rat):Prop:=Xu (X:=Nat) Qdf QWV (QSR O qs) Tryz.f95 [.x false [.s 1 (Jh O)],.x false [.f 40 [1000]]] [(1000,qBx qs)] (fun i=>i<=1000) (fun i=>⟨[(4,iA .i64 i)],[(1000,qBx qs)]⟩)
theorem QGj (O:List (List Sp))(qs:List Rat):QEX O qs=((∃(x:Nat),((x<=O.length/\∃(o:List Sp),List.Mem o (List.drop x O)/\Hw o qs=true)/\OfNat.ofNat 0=0)/\1=1/\Jh O=Jh O/\40=40/\Za (Jh O).length=Za O.length/\0=Za x/\41=41/\3=3/\lR 63 qs=lR 63 qs/\True)/\∀(x:Nat),(x<=O.length/\∃(o:List Sp),o∈List.drop x O/\Hw o qs=true)->OfNat.ofNat 0=0->bif decide (Za x<Za O.length)then(0<=Za x/\Za x<Za (Jh O).length)/\∃(ys:List (List Ch)),ldE (Jh O) (Za x).toNat 0 1=some [Ch.s 6 ys]/\∃(s:List Sp)(qs_1:List Rat),lR 63 qs=lR 63 qs_1/\ys=Zd (spN 100000) s/\(s.length=2/\∀(s_1:Sp),s_1∈s->s_1.lo<=s_1.hi)/\qs_1.length=2/\bif Hw s qs_1 then ∃(x_1:Nat),x_1<=1000/\Za x=Za x_1/\41=41/\3=3/\lR 63 qs=lR 63 qs/\True else ∃(x':Nat),((x'<=O.length/\∃(o:List Sp),List.Mem o (List.drop x' O)/\Hw o qs=true)/\OfNat.ofNat 0=0/\O.length-x'<O.length-x)/\1=1/\Jh O=Jh O/\40=40/\Za O.length=Za O.length/\IntKind.i64.wrap (Za x+1)=Za x'/\41=41/\3=3/\lR 63 qs=lR 63 qs/\True else ∃(x:Nat),x<=1000/\ -1=Za x/\41=41/\3=3/\lR 63 qs=lR 63 qs/\True):=by kernel_rfl
def QWW:OT:=fun _=>([],[])
def QEY (O:List (List Sp))(qs:List Rat):Prop:=Xu (X:=Unit) Qdg QWW noL Tryz.f39 [.x false [.s 1 (Jh O)],.x false [.f 40 [1000]]] [(1000,qBx qs)] (fun _=>True) (fun _=>⟨[(4,.x false [.v (.bool true)])],[(1000,qBx qs)]⟩)
theorem QGk (O:List (List Sp))(qs:List Rat):QEY O qs=(∃(O_1:List (List Sp))(qs_1:List Rat),lR 63 qs=lR 63 qs_1/\Jh O=Jh O_1/\((qs_1.length=2/\O_1.length<=1000)/\(∀(o:List Sp),o∈O_1->o.length=2/\∀(s:Sp),s∈o->s.lo<=s.hi)/\∃(o:List Sp),List.Mem o O_1/\Hw o qs_1=true)/\∀(i:Nat),i<=1000->∃(x:Unit),True/\decide (Za i≥0)=true/\41=41/\3=3/\lR 63 qs=lR 63 qs/\True):=by kernel_rfl
theorem Qar (s:List Sp)(qs:List Rat)(hs:ok2 s)(hq:qs.length=2):QR (QEW s qs):=by
 refine⟨?_⟩;rw[QGi];simp only[Ze,R0,R1,Zi,Zj,R4,R2,R3];match s,qs,hs,hq with
 | [a,b],[p,q],hs,_=>
  have h1:=hs.2 a (by simp);have h2:=hs.2 b (by simp);refine QF (fun _=>⟨by simp,a.lo,100000,a.hi,100000,rfl,by simp[lR],p,63,rfl,⟨by omega,h1⟩,QF (fun h3=>⟨by simp,b.lo,100000,b.hi,100000,rfl,by simp[lR],q,63,rfl,⟨by omega,h2⟩,(),?_⟩) (fun h3=>⟨(),?_⟩)⟩) (fun h=>by cases h)
  ·show _=(WD a p&&WD b q)
   have h3:WD a p=true:=h3;rw[h3];rfl
  ·show _=(WD a p&&WD b q)
   have h3:WD a p=false:=h3;rw[h3];rfl
theorem Qas (O:List (List Sp))(qs:List Rat)(hc:QWT O qs):QR (QEX O qs):=by
 refine⟨?_⟩;rw[QGj];simp only[Ze,R0,R1,Zi,Zj,R4,R2,R3];obtain⟨⟨hq,hl⟩,ho,w,hw,hw2⟩:=hc;have rl:(Jh O).length=O.length:=by unfold Jh;rw[List.length_map]
 refine⟨⟨0,⟨by omega,w,by rw[List.drop_zero];exact hw,hw2⟩,by rw[rl],rfl⟩,fun x hx=>QF (fun hp=> ?_) (fun hp=> ?_)⟩
 ·have hp:x<O.length:=by have:=R5 hp;omega
  obtain⟨o,ho2⟩: ∃o,O[x]? =some o:=⟨_,List.getElem?_eq_getElem hp⟩
  refine⟨⟨by omega,by rw[rl];omega⟩,o.map (spN 100000),by rw[Int.toNat_natCast];exact Qal ho2,o,qs,rfl,rfl,ho o (List.mem_of_getElem? ho2),hq,QF (fun _=>⟨x,by omega,rfl⟩) (fun h=>⟨x+1,⟨⟨by omega,?_⟩,by omega⟩,by rw[w64 (by omega)];simp⟩)⟩;obtain⟨v,hv,hv2⟩:=hx.2;rw[List.drop_eq_getElem_cons hp]at hv;rcases List.mem_cons.1 hv with rfl | hv
  ·rw[List.getElem?_eq_getElem hp]at ho2;rw[Option.some.inj ho2]at hv2;rw[hv2]at h;cases h
  ·exact⟨v,hv,hv2⟩
 ·exfalso;have hp:=R6 hp;obtain⟨v,hv,hv2⟩:=hx.2;rw[List.drop_eq_nil_of_le (by omega)]at hv;cases hv
theorem Qat (O:List (List Sp))(qs:List Rat)(hc:QWT O qs):QR (QEY O qs):=by
 refine⟨?_⟩;rw[QGk];simp only[Ze,R0,R1,Zi,Zj,R4,R2,R3];exact⟨O,qs,rfl,rfl,hc,fun i hi=>⟨(),by simp⟩⟩
end Go.Proofs
namespace Go.Proofs
open Go Go.Eng
theorem QLL {H:HP}{k:Nat}{b:Blk}(hk:H k=some b)(hr: ∀f,UF f b=some b):YJ [(1000,k)] (QO [(1000,b)]) H=H:=by
 funext j;unfold YJ;simp only[lkB];cases h:j.beq k with
 | true=>
  have:=Zb h;subst this;simp[QO,rdB,hr,hk]
 | false=>rfl
theorem QLM {H:HP}{k:Nat}{b:Blk}(hk:H k=some b)(hl:XN (some b)=true)(hr: ∀f,UF f b=some b):V0 [(1000,k)] H (QO [(1000,b)]):=
 .mk' rfl (by simp) (by simp) fun p hp=>by simp at hp;subst hp;exact⟨b,b,rfl,hk,hl,hr _⟩
theorem QCR {f:Nat->Option Nat}{qs:List Rat}:UF f (qBx qs)=some (qBx qs):=by
 simp only[UF,qBx,Xt]
theorem Qau {k:Nat}{qs:List Rat}:(∀p∈[((1000:Nat),k)],QO [(1000,qBx qs)] p.1≠none)/\ ∀p∈[((1000:Nat),k)]++[],∀b,QO [(1000,qBx qs)] p.1=some b-> ∃b0,UF (lkA ([((1000:Nat),k)]++[])) b=some b0:=by
 refine⟨fun p hp=> ?_,fun p hp b hb=> ?_⟩
 ·simp at hp;subst hp;exact fun h=>by have h':some (qBx qs)=none:=h;cases h'
 ·simp at hp;subst hp;have h':some (qBx qs)=some b:=hb;cases h';exact⟨_,QCR⟩
theorem QGl:CtrsOK Tryz.prog QH QG QSQ:= .cons QLK (.cons GN (.cons QQ0 (.cons QEL (.cons QLv (.cons QIi (.cons QLx QLF))))))
theorem Qav:QM Tryz.prog QH QG Qde:=QY QGl UO Qp
theorem QSS:Xj Tryz.prog QH QG 40 QGf:=by
 refine⟨QJ Tryz.func40 (by kernel_rfl),fun l H d T hT K hK=> ?_⟩;unfold QGf at hT;split at hT
 ·rename_i ys m o;split at hT
  ·split at hT
   ·rename_i t zs e1;cases hb:t.beq 41 with
    | false=>rw[hb]at hT;cases hT
    | true=>
     rw[hb]at hT;have ht:=Zb hb;subst ht;cases hT
     obtain⟨s,qs,rfl,rfl,hs,hq,hK⟩:=hK;refine Hb (R:=[(1000,m)]) (N:=[]) (Hl:=[(1000,qBx qs)]) Qav QP Tryz.func40 (by kernel_rfl) (by kernel_rfl) (by rfl)
      (as0:=[.x false [.s 6 (s.map (spN 100000))],.x false [.p 1000 0]]) ?_ (QLM e1 rfl fun _=>QCR) rfl (by simp) (by simp) (fun _ h=>by cases h) (fun _=>Qau) (Qar s qs hs hq) (fun _ _=>⟨_,rfl,?_⟩)
     ·simp[YO,YC,Xt,lkB]
     ·show K _ (YJ [(1000,m)] (QO [(1000,qBx qs)]) H)
      rw[QLL (b:=qBx qs) e1 fun _=>QCR];exact hK
   ·cases hT
  ·cases hT
 ·cases hT
theorem QST:CtrMsOK Tryz.prog QH QG Qap:= .cons QSS UO
theorem Qaw:QM Tryz.prog QH QG Qdf:=QY QGl QST Qp
theorem QSU:Xj Tryz.prog QH QG 95 QGg:=by
 refine⟨QJ Tryz.func95 (by kernel_rfl),fun l H d T hT K hK=> ?_⟩;unfold QGg at hT;split at hT
 ·rename_i ys fid m;split at hT
  ·rename_i t zs e1;cases hb:t.beq 41&&fid.beq 40 with
   | false=>rw[hb]at hT;cases hT
   | true=>
    rw[hb]at hT;cases hT
    simp only[Bool.and_eq_true]at hb;have ht:=Zb hb.1;have hf:=Zb hb.2;subst ht;subst hf;obtain⟨O,qs,rfl,rfl,hc,hK⟩:=hK;refine Hb (R:=[(1000,m)]) (N:=[]) (Hl:=[(1000,qBx qs)]) Qaw QP Tryz.func95 (by kernel_rfl) (by kernel_rfl) (by rfl)
     (as0:=[.x false [.s 1 (Jh O)],.x false [.f 40 [1000]]]) ?_ (QLM e1 rfl fun _=>QCR) rfl (by simp) (by simp) (fun _ h=>by cases h) (fun _=>Qau) (Qas O qs hc) (fun i hi=>⟨_,rfl,?_⟩)
    ·simp[YO,YC,Xt,QAi,lkB]
    ·show K _ (YJ [(1000,m)] (QO [(1000,qBx qs)]) H)
     rw[QLL (b:=qBx qs) e1 fun _=>QCR];exact hK i hi
  ·cases hT
 ·cases hT
theorem QSV:CtrMsOK Tryz.prog QH QG Qaq:= .cons QSU QST
theorem Qax:QM Tryz.prog QH QG Qdg:=QY QGl QSV Qp
theorem QSW:Xj Tryz.prog QH QG 39 QGh:=by
 refine⟨QJ Tryz.func39 (by kernel_rfl),fun l H d T hT K hK=> ?_⟩;unfold QGh at hT;split at hT
 ·rename_i ys fid m;split at hT
  ·rename_i t zs e1;cases hb:t.beq 41&&fid.beq 40 with
   | false=>rw[hb]at hT;cases hT
   | true=>
    rw[hb]at hT;cases hT
    simp only[Bool.and_eq_true]at hb;have ht:=Zb hb.1;have hf:=Zb hb.2;subst ht;subst hf;obtain⟨O,qs,rfl,rfl,hc,hK⟩:=hK;refine Hb (R:=[(1000,m)]) (N:=[]) (Hl:=[(1000,qBx qs)]) Qax QP Tryz.func39 (by kernel_rfl) (by kernel_rfl) (by rfl)
     (as0:=[.x false [.s 1 (Jh O)],.x false [.f 40 [1000]]]) ?_ (QLM e1 rfl fun _=>QCR) rfl (by simp) (by simp) (fun _ h=>by cases h) (fun _=>Qau) (Qat O qs hc) (fun _ _=>⟨_,rfl,?_⟩)
    ·simp[YO,YC,Xt,QAi,lkB]
    ·show K _ (YJ [(1000,m)] (QO [(1000,qBx qs)]) H)
     rw[QLL (b:=qBx qs) e1 fun _=>QCR];exact hK
  ·cases hT
 ·cases hT
theorem Qay:CtrMsOK Tryz.prog QH QG Qdd:= .cons QSW QSV
theorem Qaz:QM Tryz.prog QH QG Qdh:=QY QGl Qay Qp
def QSX:OT:=fun _=>([],[])
def QCS (l m:List Int)(K:AV->Prop):Prop:=QW Qdh QSX noL Tryz.f5 [.x false [.s 1 (ints l)],.x false [.s 1 (ints m)]] K
theorem QDN (l:List Int)(m:List Int)(K:AV->Prop):QCS l m K=(True/\True/\∃(l_1:List Int),ints l=ints l_1/\l_1.length*8<=140737488351232/\∀(a:Qs),Made a/\1<=a.links.length->a.links.length=2->∃(a_3:Qs)(l:List Int),[Ch.v (Zg a.name),Ch.r a.x 63,Ch.r a.y 63,Ch.v (Zf a.half),Ch.r a.t 63,Ch.s 16 (Zd QN a.links)]=[Ch.v (Zg a_3.name),Ch.r a_3.x 63,Ch.r a_3.y 63,Ch.v (Zf a_3.half),Ch.r a_3.t 63,Ch.s 16 (Zd QN a_3.links)]/\ints m=ints l/\(Qt a_3/\l.length<=9223372036854775807)/\∀(qs:List Rat),(∀(i:Nat) (L:Qh) (q:Rat),a_3.links[i]?=some L->qs[i]?=some q->(L.lo<=q/\q<=L.hi)/\∃(r:Int),(0<=r/\r<=8)/\q=J1 L.lo L.hi r)->qs.length=a_3.links.length->∃(a_6:Qs)(b:Nat)(qs_1:List Rat),[Ch.v (Zg a.name),Ch.r a.x 63,Ch.r a.y 63,Ch.v (Zf a.half),Ch.r a.t 63,Ch.s 16 (Zd QN a.links)]=[Ch.v (Zg a_6.name),Ch.r a_6.x 63,Ch.r a_6.y 63,Ch.v (Zf a_6.half),Ch.r a_6.t 63,Ch.s 16 (Zd QN a_6.links)]/\lR 63 qs=lR b qs_1/\(Qt a_6/\b<=400/\qs_1.length=a_6.links.length)/\∀(n:Nat) (f:FrV),n<=120000000->(Y4 (KA a_6) a_6.links qs_1)[a_6.links.length]?=some f->∃(a_9:Qs)(L0:Qh)(L1:Qh)(rs:List (RtV×RtV))(R:List (RtV×RtV))(O:List (List Sp)),[Ch.v (Zg a.name),Ch.r a.x 63,Ch.r a.y 63,Ch.v (Zf a.half),Ch.r a.t 63,Ch.s 16 (Zd QN a.links)]=[Ch.v (Zg a_9.name),Ch.r a_9.x 63,Ch.r a_9.y 63,Ch.v (Zf a_9.half),Ch.r a_9.t 63,Ch.s 16 (Zd QN a_9.links)]/\((Qt a_9/\a_9.links=[L0,L1])/\BT f.x/\BT f.y)/\((YN L0.len L1.len (QCP a_9 f.x f.y) (QCQ a_9 f.x f.y)=some rs/\inF L0.lo L0.hi L1.lo L1.hi rs []=some R)/\Vu R []=some O)/\(O=[]->K (AV.x false [Ch.v (Zf false)]))/\(O≠[]->∃(O_1:List (List Sp))(qs_2:List Rat),lR 63 qs=lR 63 qs_2/\Zd Jg O=Jh O_1/\((qs_2.length=2/\O_1.length<=1000)/\(∀(o:List Sp),o∈O_1->o.length=2/\∀(s:Sp),s∈o->s.lo<=s.hi)/\∃(o:List Sp),List.Mem o O_1/\Hw o qs_2=true)/\K (AV.x false [Ch.v (Zf true)]))):=by kernel_rfl
theorem QIk {L:Qh}(h:MadeLink L): ∃u:Int,(2<=u/\u<=5)/\2*L.len=(u:Rat):=by
 obtain⟨r,i,j,s,b,tri,hr,_,_,_,_,rfl⟩:=h;refine⟨2+r,by omega,?_⟩;show 2*mkRat (4+2*r) 4=_
 rw[Zh];push_cast;grind
theorem QIl {L:Qh}(h:MadeLink L){k:Int}(hk:0<=k/\k<=8): ∃p:Int,(-48<=p/\p<=48)/\24*J1 L.lo L.hi k=(p:Rat):=by
 obtain⟨r,i,j,s,b,tri,hr,hi,hj,_,_,rfl⟩:=h;refine⟨8*(-1-i)+(2+i+j)*k,?_,?_⟩
 ·have:k=0∨k=1∨k=2∨k=3∨k=4∨k=5∨k=6∨k=7∨k=8:=by omega
  rcases this with rfl | rfl | rfl | rfl | rfl | rfl | rfl | rfl | rfl<;>omega
 ·rw[QHP];show 24*(mkRat (-1-i) 3+(mkRat (1+j) 3-mkRat (-1-i) 3)*((k:Rat)/8))=_
  rw[Zh,Zh];push_cast;grind
theorem QSY {l:Rat}{u:Int}(h:2*l=(u:Rat))(hu:2<=u/\u<=5):Bd 3 l/\1<=l:=by
 have h2:(2:Rat)<=(u:Rat):=by exact_mod_cast hu.1
 refine⟨?_,by grind⟩;have e:l=(u:Rat)/((2:Int):Rat):=by
  have:((2:Int):Rat)=2:=rfl;rw[this,<-h];grind
 rw[e];exact Vk (D:=2) (by omega) (by omega) (by omega)
theorem U8 {q:Rat}(h:Xk q):Bd 20 q:=⟨by have:=h.1;omega,by have:=h.2;omega⟩
theorem Qdi {t:Rat}(h:Bd 20 t):Bd 100 (Q3 false t)/\Bd 100 (Q0 false t):=by
 have b1:Bd 1 (1:Rat):=⟨by decide,by decide⟩;have t2:=Qu h h;have d:=X9 b1 t2;have n:=Xo t;have hz:1+t*t≠0:=by grind
 exact⟨(XT (Jr b1 t2) d hz).mono (by omega),(XT (X9 h h) d hz).mono (by omega)⟩
theorem QWX (a:Qs)(x y:Rat):x=a.x+(Q3 a.half a.t*QCP a x y-Q0 a.half a.t*QCQ a x y)/\y=a.y+(Q0 a.half a.t*QCP a x y+Q3 a.half a.t*QCQ a x y):=by
  unfold QCP QCQ QWJ WA QFt QFu;simp only[(QGd _ _).1,(QGd _ _).2];have e:=cs1 a.half a.t;generalize Q3 a.half a.t=c at*;generalize Q0 a.half a.t=s at*;constructor<;>grind
theorem QWY (l m:List Int)(hl:l.length*8<=140737488351232)(hm:m.length<=9223372036854775807)(K:AV->Prop)(hK:K (.x false [.v (.bool true)])):QR (QCS l m K):=by
 refine⟨?_⟩;rw[QDN];simp only[Ze,R0,R1,Zi,Zj,R4,R2,R3];refine⟨l,rfl,hl,fun a ha hn=> ?_⟩;have hg:=MadeA.good ha;obtain⟨L0,L1,hL⟩: ∃L0 L1,a.links=[L0,L1]:=by
  match h:a.links,hn with
  | [x,y],_=>exact⟨x,y,rfl⟩
 refine⟨a,m,rfl,rfl,⟨hg,hm⟩,fun qs hq hql=> ?_⟩;rw[hL]at hql;obtain⟨t0,t1,rfl⟩: ∃t0 t1,qs=[t0,t1]:=by
  match qs,hql with
  | [x,y],_=>exact⟨x,y,rfl⟩
 refine⟨a,63,[t0,t1],rfl,rfl,⟨hg,by omega,by rw[hL];rfl⟩,fun n f _ hf=> ?_⟩;rw[hL]at hf;obtain⟨ex,ey⟩:=QWS hf;have m0:=ha.1.links L0 (by rw[hL];simp);have m1:=ha.1.links L1 (by rw[hL];simp);obtain⟨⟨a0,b0⟩,k0,hk0,e0⟩:=hq 0 L0 t0 (by rw[hL];rfl) rfl;obtain⟨⟨a1,b1⟩,k1,hk1,e1⟩:=hq 1 L1 t1 (by rw[hL];rfl) rfl;obtain⟨u,hu,el⟩:=QIk m0;obtain⟨v,hv,em⟩:=QIk m1;obtain⟨p,hp,ep⟩:=QIl m0 hk0;obtain⟨q,hqq,eq⟩:=QIl m1 hk1;rw[<-e0]at ep;rw[<-e1]at eq;obtain⟨bl,l1⟩:=QSY el hu;obtain⟨bm,l2⟩:=QSY em hv;have S:=Qan (by grind) (by grind) ex ey;obtain⟨hx,hy,bx,by'⟩:=Qao el em hu hv ep eq hp hqq ex ey
 have ht:t1=0∨1/24<=QZ t1/\QZ t1<=2:=by
  have c1:((-48:Int):Rat)<=(q:Rat):=Zc.2 hqq.1;have c2:(q:Rat)<=((48:Int):Rat):=Zc.2 hqq.2;have z1:((-48:Int):Rat)= -48:=rfl;have z2:((48:Int):Rat)=48:=rfl;rcases Int.lt_trichotomy q 0 with h | h | h
  ·right;have c3:(q:Rat)<=((-1:Int):Rat):=Zc.2 (by omega);have z3:((-1:Int):Rat)= -1:=rfl;rcases VX t1 with⟨e,_⟩ | ⟨e,_⟩<;>rw[e]<;>constructor<;>grind
  ·left;subst h;have z3:((0:Int):Rat)=0:=rfl;grind
  ·right;have c3:((1:Int):Rat)<=(q:Rat):=Zc.2 (by omega);have z3:((1:Int):Rat)=1:=rfl;rcases VX t1 with⟨e,_⟩ | ⟨e,_⟩<;>rw[e]<;>constructor<;>grind
 have s0:=(hg.links L0 (by rw[hL];simp)).small;have s1:=(hg.links L1 (by rw[hL];simp)).small;have up: ∀{z:Rat},Xk z->Bd 20000 z:=fun h=>(U8 h).mono (by omega);obtain⟨rs,R,O,r1,r2,r3,r4,_,⟨sa,sb,r5,r6,r7⟩,r8⟩:=S.two ⟨bl,bm,bx,by'⟩ l2 hx hy ht ⟨⟨up s0.2.1,up s0.2.2.1⟩,up s1.2.1,up s1.2.2.1⟩ ⟨a0,b0⟩ ⟨a1,b1⟩;obtain⟨fx,fy⟩:=QWX a f.x f.y;have hh:=ha.1.half;rw[hh]at fx fy;obtain⟨c1,c2⟩:=Qdi (U8 hg.small.2.2);have bfx:BT f.x:=⟨by rw[fx];exact(X9 (U8 hg.small.1) (Jr (Qu c1 bx) (Qu c2 by'))).mono (by omega)⟩;have bfy:BT f.y:=⟨by rw[fy];exact(X9 (U8 hg.small.2.1) (X9 (Qu c2 bx) (Qu c1 by'))).mono (by omega)⟩
 refine⟨a,L0,L1,rs,R,O,rfl,⟨⟨hg,hL⟩,bfx,bfy⟩,⟨⟨r1,r2⟩,r3⟩,fun h=> ?_,fun _=>⟨O,[t0,t1],rfl,rfl,⟨⟨rfl,by omega⟩,fun o ho=> ?_,[sa,sb],r5,?_⟩,hK⟩⟩
 ·rw[h]at r5;cases r5
 ·obtain⟨a,b,r0,r1,rfl,h1,h2,_⟩:=r8 o ho;refine⟨rfl,fun s hs=> ?_⟩;simp at hs;rcases hs with rfl | rfl
  ·exact Rat.le_trans h1.1 h1.2
  ·exact Rat.le_trans h2.1 h2.2
 ·show(WD sa t0&&WD sb t1)=true
  unfold WD;simp[r6,r7]
theorem QLN (l m:List Int)(hl:l.length*8<=140737488351232)(_: ∀n∈l,-9223372036854775808<=n/\n<9223372036854775808)(hm:m.length<=9223372036854775807):Eng.Spec Tryz.prog QH QG 5 [.x false [.s 1 (ints l)],.x false [.s 1 (ints m)]] (fun av=>av= .x false [.v (.bool true)]):=
 QI Qaz QP Tryz.func5 (by kernel_rfl) (by kernel_rfl) (by rfl) (QWY l m hl hm _ rfl)
end Go.Proofs
