/- Box, Boxes, within; ForeContains, ForeNarrow. -/
import Derived.Test.YtfhfenokfkenoaaGreatDoorPC
open Go.Eng.Ch renaming r → Za
open Int renaming ofNat → Zb
open List renaming map → Zc, take → Zd, take_of_length_le → Ze, getElem?_append_right → Zf, getElem?_map → Zg, length_map → Zh
namespace Go.Proofs
open Go Go.Eng
def bxL (n:Nat)(l:LoV):List Ch:=[.r l.x.lo n,.r l.y.lo n,.r l.x.hi n,.r l.y.hi n]
structure BxX where
 ls:List LoV
 l:LoV
 i:Nat
structure BxI (a:ArmV)(ts:List Sp)(x:BxX):Prop where
 eq:x.ls++[x.l]=XI (Xe a) a.links ts
 len:x.ls.length=a.links.length
 le:x.i<=a.links.length+1
def Wg (a:ArmV)(ls:List LoV)(l:LoV):List (List Ch):=ls.map (loN 42100000)++[loN (lb a.links.length) l]
def QMw (a:ArmV)(ts:List Sp):LI:=fun _=> .inv ⟨BxX,fun x=>⟨[(7,iA .i64 0),(8,.x false [.w 500 0 x.i]),(17,.x false [.s 24 (Wg a x.ls x.l)]),(18,iA .i64 (a.links.length+1:Nat)),(19,iA .i64 x.i)],
 [(500,.row 93 12 (((x.ls++[x.l]).take x.i).map (bxL 42100000)))]⟩,BxI a ts,fun x=>a.links.length+1-x.i,fun _=>0⟩
theorem QBx (a:ArmV)(ls:List LoV)(l:LoV):(Wg a ls l).length=ls.length+1:=by simp[Wg]
theorem QJV {a:ArmV}{ls:List LoV}{l y:LoV}{i:Nat}(ha:a.links.length<=3)(h:(ls++[l])[i]? =some y): ∃m,m<=42100000/\ldE (Wg a ls l) i 0 24=some (loN m y):=by
 have key: ∃m,m<=42100000/\(Wg a ls l)[i]? =some (loN m y):=by
  unfold Wg;by_cases hi:i<ls.length
  ·rw[List.getElem?_append_left hi]at h;exact⟨42100000,Nat.le_refl _,by rw[List.getElem?_append_left (by simpa using hi),Zg,h];rfl⟩
  ·rw[Zf (by omega)]at h;have:i-ls.length=0:=by
    have:=(List.getElem?_eq_some_iff.1 h).1;simp at this;omega
   rw[this]at h;cases h
   exact⟨lb a.links.length,QY5 ha,by rw[Zf (by simp;omega),Zh,this];rfl⟩
 obtain⟨m,hm,hk⟩:=key;exact⟨m,hm,by simp only[ldE,hk];rfl⟩
theorem Qbq {n:Nat}{us:List LoV}{i:Nat}{u:LoV}(h:us[i]? =some u):ldE (us.map (bxL n)) i 0 12=some (bxL n u):=by
 simp only[ldE,Zg,h];rfl
theorem QUb {m N:Nat}(ls:List LoV)(l:LoV)(h:m<=N):QE (ls.map (bxL N)++[bxL m l]) ((ls++[l]).map (bxL N)):=by
 rw[List.map_append];refine QBo ?_ ⟨.r h (.r h (.r h (.r h .nil))),rfl⟩
 refine⟨rfl,fun i x y hx hy=> ?_⟩;rw[hx]at hy;cases hy
 simp only[Zg,Option.map_eq_some_iff]at hx;obtain⟨q,_,rfl⟩:=hx;have r:=Nat.le_refl N;exact⟨.r r (.r r (.r r (.r r .nil))),rfl⟩
theorem QZG (l:LoV)(n:Nat)(_hc:True)(K:AV->Prop)(hK:K (.x true (bxL n l))):QK (QN Qbp (oF Tryz.f98) noL Tryz.f98 [.x true (loN n l)] K):=by
 refine HV ((K (AV.x true [Za l.x.lo n,Za l.y.lo n,Za l.x.hi n,Za l.y.hi n]))) ?_
 try simp only[Int.ofNat_eq_natCast,R0,R1,Nat.zero_add,Nat.le_refl,R4,R2,R3]
 exact hK
def QJW:Ctr
 | [.x true xs]=>some fun K=> ∃(l:LoV) (n:Nat),xs=loN n l/\(True)/\(K (.x true (bxL n l)))
 | _=>none
theorem QUc:QI 98 QJW:=by
 refine okL Tryz.func98 fun l T hT K hK=> ?_
 unfold QJW at hT;split at hT<;>cases hT
 obtain⟨l,n,rfl,hc,hK⟩:=hK;exact spL QZF QM Tryz.func98 (QZG _ _ hc K hK)
def QZH:LC:=(98,QJW)::QZE
theorem QQR:QG QZH:= .cons QUc QQQ
def G0 (a:ArmV)(B:Nat)(ts:List Sp)(_qs:List Rat)(K:AV->Prop):Prop:=QN (mkT QZH M79 X4) (oF Tryz.f43) (QMw a ts) Tryz.f43 [WN a,.x false [.s 6 (ts.map (spN B))]] K
theorem QBy (a:ArmV)(B:Nat)(ts:List Sp)(qs:List Rat)(K:AV->Prop):G0 a B ts qs K=(∃(a_1:ArmV)(B_1:Nat)(ts_1:List Sp)(qs:List Rat),[Ch.v (Value.string a.name),Za a.x 63,Za a.y 63,Ch.v (Value.bool a.half),Za a.t 63,Ch.s 16 (Zc QC a.links)]=[Ch.v (Value.string a_1.name),Za a_1.x 63,Za a_1.y 63,Ch.v (Value.bool a_1.half),Za a_1.t 63,Ch.s 16 (Zc QC a_1.links)]/\Zc (spN B) ts=Zc (spN B_1) ts_1/\(QX a_1/\(B_1<=100000/\ts_1.length=a_1.links.length)/\ts_1.length=qs.length/\∀(i:Nat) (t:Sp) (q:Rat),ts_1[i]?=some t->qs[i]?=some q->t.lo<=q/\q<=t.hi)/\∀(ls:List LoV) (l:LoV),ls++[l]=XI (Xe a_1) a_1.links ts_1->ls.length=a_1.links.length->(∃(x:BxX),(BxI a ts x/\OfNat.ofNat 0=0)/\(0:Int)=0/\Value.slice none 0 0=Value.slice none 0 0/\0=0/\x.i=0/\24=24/\Zc (loN 42100000) ls++[[Za l.x.lo (lb a_1.links.length),Za l.x.hi (lb a_1.links.length),Za l.y.lo (lb a_1.links.length),Za l.y.hi (lb a_1.links.length),Za l.c.lo (lb a_1.links.length),Za l.c.hi (lb a_1.links.length),Za l.s.lo (lb a_1.links.length),Za l.s.hi (lb a_1.links.length)]]=Wg a x.ls x.l/\Zb (Zc (loN 42100000) ls++[[Za l.x.lo (lb a_1.links.length),Za l.x.hi (lb a_1.links.length),Za l.y.lo (lb a_1.links.length),Za l.y.hi (lb a_1.links.length),Za l.c.lo (lb a_1.links.length),Za l.c.hi (lb a_1.links.length),Za l.s.lo (lb a_1.links.length),Za l.s.hi (lb a_1.links.length)]]).length=Zb (a.links.length+1)/\0=Zb x.i/\Zc (bxL 42100000) (Zd x.i (x.ls++[x.l]))=[]/\True)/\∀(x:BxX),BxI a ts x->OfNat.ofNat 0=0->bif decide (Zb x.i<Zb (a.links.length+1))then(0<=Zb x.i/\Zb x.i<Zb (Wg a x.ls x.l).length)/\∃(q:Rat)(n:Nat)(q_1:Rat)(n_1:Nat)(q_2:Rat)(n_2:Nat)(q_3:Rat)(n_3:Nat)(q_4:Rat)(n_4:Nat)(q_5:Rat)(n_5:Nat)(q_6:Rat)(n_6:Nat)(q_7:Rat)(n_7:Nat),ldE (Wg a x.ls x.l) (Zb x.i).toNat 0 24=some [Za q n,Za q_1 n_1,Za q_2 n_2,Za q_3 n_3,Za q_4 n_4,Za q_5 n_5,Za q_6 n_6,Za q_7 n_7]/\∃(l:LoV)(n_8:Nat),[Za q n,Za q_1 n_1,Za q_2 n_2,Za q_3 n_3,Za q_4 n_4,Za q_5 n_5,Za q_6 n_6,Za q_7 n_7]=[Za l.x.lo n_8,Za l.x.hi n_8,Za l.y.lo n_8,Za l.y.hi n_8,Za l.c.lo n_8,Za l.c.hi n_8,Za l.s.lo n_8,Za l.s.hi n_8]/\True/\((x.i+1)*160<=140737488355328/\x.i+1<=9223372036854775807)/\∃(x':BxX),(BxI a ts x'/\OfNat.ofNat 0=0/\a.links.length+1-x'.i<a.links.length+1-x.i)/\(0:Int)=0/\0=0/\x.i+1=x'.i/\24=24/\Wg a x.ls x.l=Wg a x'.ls x'.l/\Zb (a.links.length+1)=Zb (a.links.length+1)/\IntKind.i64.wrap (Zb x.i+1)=Zb x'.i/\93=93/\12=12/\(Zd x.i (Zc (bxL 42100000) (Zd x.i (x.ls++[x.l])))++[[Za l.x.lo n_8,Za l.y.lo n_8,Za l.x.hi n_8,Za l.y.hi n_8]]=Zc (bxL 42100000) (Zd x'.i (x'.ls++[x'.l]))∨QE (Zd x.i (Zc (bxL 42100000) (Zd x.i (x.ls++[x.l])))++[[Za l.x.lo n_8,Za l.y.lo n_8,Za l.x.hi n_8,Za l.y.hi n_8]]) (Zc (bxL 42100000) (Zd x'.i (x'.ls++[x'.l]))))/\True else K (AV.t [(false,[Ch.s 12 (Zd x.i (List.drop 0 (Zc (bxL 42100000) (Zd x.i (x.ls++[x.l])))))]),(false,[Ch.v (Value.int IntKind.i64 0)])])):=by kernel_rfl
theorem QQS (a:ArmV)(B:Nat)(ts:List Sp)(qs:List Rat)(hc:(QX a)/\(B<=100000/\ts.length=a.links.length)/\(HasQ ts qs))(K:AV->Prop)(hK:K (.t [(false,[.s 12 ((XI (Xe a) a.links ts).map (bxL 42100000))]),(false,[.v (.int .i64 0)])])):QK (G0 a B ts qs K):=by
 refine⟨?_⟩;rw[QBy];try simp only[Int.ofNat_eq_natCast,R0,R1,R4]
 obtain⟨hg,⟨hB,hts⟩,hq⟩:=hc;have hn:=hg.n;refine⟨a,B,ts,qs,rfl,rfl,⟨hg,⟨hB,hts⟩,hq⟩,fun ls l he hl=>⟨⟨⟨ls,l,0⟩,⟨he,hl,by simp⟩,rfl,rfl,by simp[hl],rfl,rfl⟩,fun x hx=>QF (fun hp=> ?_) (fun hp=> ?_)⟩⟩
 ·have hp:x.i<a.links.length+1:=by have:=R5 hp;omega
  have hxl:=hx.len;obtain⟨y,hy⟩: ∃y,(x.ls++[x.l])[x.i]? =some y:=⟨_,List.getElem?_eq_getElem (by simp;omega)⟩
  obtain⟨m,hm,ld⟩:=QJV hn.2 hy;refine⟨by rw[QBx];omega,_,_,_,_,_,_,_,_,_,_,_,_,_,_,_,_,by rw[Int.toNat_natCast];exact ld,y,m,rfl,by omega,⟨x.ls,x.l,x.i+1⟩,⟨⟨hx.eq,hx.len,hp⟩,by simp only;omega⟩,rfl,rfl,by rw[w64 (by omega)];simp,.inr ?_⟩;rw[Ze (by rw[Zh,List.length_take];omega),List.take_add_one,hy];exact QUb _ y hm
 ·have hp:x.i=a.links.length+1:=by have:=R6 hp;have:=hx.le;omega
  have hxl:=hx.len;rw[List.drop_zero,Ze (by rw[Zh,List.length_take];omega),Ze (by simp;omega),hx.eq];exact hK
def HY:Ctr
 | [.x true xs,.x false [.s 6 ys]]=>some fun K=> ∃(a:ArmV) (B:Nat) (ts:List Sp) (qs:List Rat),xs=Xi a/\ys=ts.map (spN B)/\((QX a)/\(B<=100000/\ts.length=a.links.length)/\(HasQ ts qs))/\(K (.t [(false,[.s 12 ((XI (Xe a) a.links ts).map (bxL 42100000))]),(false,[.v (.int .i64 0)])]))
 | _=>none
theorem QDU:QI 43 HY:=by
 refine okL Tryz.func43 fun l T hT K hK=> ?_
 unfold HY at hT;split at hT<;>cases hT
 obtain⟨a,B,ts,qs,rfl,rfl,hc,hK⟩:=hK;exact spL (QP QQR XN Qg) QM Tryz.func43 (QQS _ _ _ _ hc K hK)
def Qbr:LC:=(43,HY)::QZH
theorem QZI:QG Qbr:= .cons QDU QQR
def Qbs:LC:=Qbr
theorem QZJ:QG Qbs:=QZI
def QQT:LC:=Qbs
noncomputable def Qbt:QZ:=mkT QQT M79 X4
theorem QEz:QG QQT:=QZJ
theorem QZK:XL Qbt:=QP QEz XN Qg
end Go.Proofs
