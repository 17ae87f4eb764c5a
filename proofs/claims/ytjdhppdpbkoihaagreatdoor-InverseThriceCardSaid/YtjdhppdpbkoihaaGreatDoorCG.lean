/- Configurations in eighths of the limits: conf, Conf. -/
import Derived.Test.YtjdhppdpbkoihaaGreatDoorA1
open Go.IntKind renaming i64 → Za
open Int renaming ofNat → Zb
open List renaming map → Zc, length_map → Zd, length_append → Ze, length_cons → Zf, length_nil → Zg
namespace Go.Proofs
open Go Go.Eng
def QSx (a:Qx)(qs:List Rat):Prop:= ∀(i:Nat) (L:QZ) (q:Rat),a.links[i]? =some L->qs[i]? =some q->(L.lo<=q/\q<=L.hi)/\ ∃r:Int,(0<=r/\r<=8)/\q=WG L.lo L.hi r
def QO4 (ls:List QZ)(qs:List Rat):Prop:=qs.length<=ls.length/\ ∀(i:Nat) (L:QZ) (q:Rat),ls[i]? =some L->qs[i]? =some q->(L.lo<=q/\q<=L.hi)/\ ∃r:Int,(0<=r/\r<=8)/\q=WG L.lo L.hi r
def QMB (a:Qx)(l:List Int):LI:=fun _=> .inv ⟨CfX,cfS a,fun x=>QO4 a.links x.qs/\x.l.length<=l.length,fun x=>a.links.length-x.qs.length,fun _=>0⟩
set_option maxHeartbeats 1000000 in
theorem QSy (a:Qx)(l:List Int)(ha:Qy a)(hl:l.length<=9223372036854775807):QM (Xy (X:=CfX) T47 (oF Tryz.f46) (QMB a l) Tryz.f46 [Ka a,.x false [.p 1000 0]] [(1000,stB l)] (fun x=>(QO4 a.links x.qs/\x.qs.length=a.links.length)/\x.l.length<=l.length) (fun x=>⟨[(4,.x false [.w 500 0 x.qs.length])],[(1000,stB x.l),(500,JY 63 x.qs)]⟩)):=by
 refine HV (((∃(x:CfX),(((x.qs.length<=a.links.length/\∀(i:Nat) (L:QZ) (q:Rat),a.links[i]?=some L->x.qs[i]?=some q->(L.lo<=q/\q<=L.hi)/\∃(r:Int),(0<=r/\r<=8)/\q=WG L.lo L.hi r)/\x.l.length<=l.length)/\OfNat.ofNat 0=0)/\0=0/\Value.slice none 0 0=Value.slice none 0 0/\0=0/\x.qs.length=0/\16=16/\Zc QH a.links=Zc QH a.links/\Zb (Zc QH a.links).length=Zb a.links.length/\0=Zb x.qs.length/\102=102/\1=1/\ints l=ints x.l/\Zc (fun(q:Rat)=>[Ch.r q 63]) x.qs=[]/\True)/\∀(x:CfX),(x.qs.length<=a.links.length/\∀(i:Nat) (L:QZ) (q:Rat),a.links[i]?=some L->x.qs[i]?=some q->(L.lo<=q/\q<=L.hi)/\∃(r:Int),(0<=r/\r<=8)/\q=WG L.lo L.hi r)/\x.l.length<=l.length->OfNat.ofNat 0=0->bif decide (Zb x.qs.length<Zb a.links.length)then(0<=Zb x.qs.length/\Zb x.qs.length<Zb (Zc QH a.links).length)/\∃(q:Rat),∃(n:Nat),∃(q_1:Rat),∃(n_1:Nat),∃(q_2:Rat),∃(n_2:Nat),∃(q_3:Rat),∃(n_3:Nat),∃(q_4:Rat),∃(n_4:Nat),∃(ys:List (List Ch)),ldE (Zc QH a.links) (Zb x.qs.length).toNat 0 16=some [Ch.r q n,Ch.r q_1 n_1,Ch.r q_2 n_2,Ch.r q_3 n_3,Ch.r q_4 n_4,Ch.s 6 ys]/\(q_1.num.natAbs<1000000000/\q_1.den<1000000000)/\(q_2.num.natAbs<1000000000/\q_2.den<1000000000)/\∃(l_1:List Int),ints x.l=ints l_1/\((1:Int)<=9/\(9:Int)<9223372036854775808)/\l_1.length<=9223372036854775807/\∀(r:Int) (l':List Int),0<=r/\r<9->l'.length<=l_1.length->((-9223372036854775808<Za.wrap (Za.wrap (Za.wrap (8*q_1.num)*Zb q_2.den)+Za.wrap (Za.wrap (Za.wrap (q_2.num*Zb q_1.den)-Za.wrap (q_1.num*Zb q_2.den))*r))/\Za.wrap (Za.wrap (Za.wrap (8*q_1.num)*Zb q_2.den)+Za.wrap (Za.wrap (Za.wrap (q_2.num*Zb q_1.den)-Za.wrap (q_1.num*Zb q_2.den))*r))<9223372036854775808)/\0<Za.wrap (Za.wrap (8*Zb q_1.den)*Zb q_2.den)/\Za.wrap (Za.wrap (8*Zb q_1.den)*Zb q_2.den)<9223372036854775808)/\((x.qs.length+1)*40<=140737488355328/\x.qs.length+1<=9223372036854775807)/\∃(x':CfX),(((x'.qs.length<=a.links.length/\∀(i:Nat) (L:QZ) (q:Rat),a.links[i]?=some L->x'.qs[i]?=some q->(L.lo<=q/\q<=L.hi)/\∃(r:Int),(0<=r/\r<=8)/\q=WG L.lo L.hi r)/\x'.l.length<=l.length)/\OfNat.ofNat 0=0/\a.links.length-x'.qs.length<a.links.length-x.qs.length)/\0=0/\0=0/\x.qs.length+1=x'.qs.length/\16=16/\Zc QH a.links=Zc QH a.links/\Zb a.links.length=Zb a.links.length/\Za.wrap (Zb x.qs.length+1)=Zb x'.qs.length/\102=102/\1=1/\ints l'=ints x'.l/\26=26/\3=3/\(List.take x.qs.length (Zc (fun(q:Rat)=>[Ch.r q 63]) x.qs)++[[Ch.r (mkRat (Za.wrap (Za.wrap (Za.wrap (8*q_1.num)*Zb q_2.den)+Za.wrap (Za.wrap (Za.wrap (q_2.num*Zb q_1.den)-Za.wrap (q_1.num*Zb q_2.den))*r))) (Za.wrap (Za.wrap (8*Zb q_1.den)*Zb q_2.den)).toNat) 63]]=Zc (fun(q:Rat)=>[Ch.r q 63]) x'.qs∨QC (List.take x.qs.length (Zc (fun(q:Rat)=>[Ch.r q 63]) x.qs)++[[Ch.r (mkRat (Za.wrap (Za.wrap (Za.wrap (8*q_1.num)*Zb q_2.den)+Za.wrap (Za.wrap (Za.wrap (q_2.num*Zb q_1.den)-Za.wrap (q_1.num*Zb q_2.den))*r))) (Za.wrap (Za.wrap (8*Zb q_1.den)*Zb q_2.den)).toNat) 63]]) (Zc (fun(q:Rat)=>[Ch.r q 63]) x'.qs))/\True else ∃(x_1:CfX),(((x_1.qs.length<=a.links.length/\∀(i:Nat) (L:QZ) (q:Rat),a.links[i]?=some L->x_1.qs[i]?=some q->(L.lo<=q/\q<=L.hi)/\∃(r:Int),(0<=r/\r<=8)/\q=WG L.lo L.hi r)/\x_1.qs.length=a.links.length)/\x_1.l.length<=l.length)/\0=0/\x.qs.length=x_1.qs.length/\102=102/\1=1/\ints x.l=ints x_1.l/\26=26/\3=3/\(Zc (fun(q:Rat)=>[Ch.r q 63]) x.qs=Zc (fun(q:Rat)=>[Ch.r q 63]) x_1.qs∨QC (Zc (fun(q:Rat)=>[Ch.r q 63]) x.qs) (Zc (fun(q:Rat)=>[Ch.r q 63]) x_1.qs))/\True)) ?_
 simp only[Int.ofNat_eq_natCast,R0,R1,R4];have hn:=ha.n;refine⟨⟨⟨[],l⟩,⟨⟨by simp,fun i L q _ h=>by simp at h⟩,by simp⟩,rfl,by simp,rfl,rfl,rfl⟩,fun x hx=>QF (fun hp=> ?_) (fun hp=> ?_)⟩
 ·obtain⟨⟨h1,h2⟩,h3⟩:=hx;have hp:x.qs.length<a.links.length:=by have:=R5 hp;omega
  obtain⟨L,hL⟩: ∃L,a.links[x.qs.length]? =some L:=⟨_,List.getElem?_eq_getElem hp⟩
  have hg:=ha.links L (List.mem_of_getElem? hL);obtain⟨_,s2,s3,_⟩:=hg.small;have d2:=L.lo.den_nz;have d3:=L.hi.den_nz;refine⟨by rw[Zd];omega,_,_,_,_,_,_,_,_,_,_,_,UA (by simpa using hL),⟨by have:=s2.1;omega,by have:=s2.2;omega⟩,⟨by have:=s3.1;omega,by have:=s3.2;omega⟩,x.l,rfl,by omega,by omega,fun r l' hr hl'=> ?_⟩;obtain⟨w1,w2,w3,w4⟩:=QBc (n:=L.lo.num) (d:=L.lo.den) (m:=L.hi.num) (e:=L.hi.den) (r:=r) s2.1 (by have:=s2.2;omega) s3.1 (by have:=s3.2;omega) (by omega);rw[w1,w2];have hq:=Gc (k:=r) (Rat.le_of_lt hg.lim) (by omega);refine⟨⟨w3,w4⟩,by omega,⟨x.qs++[WG L.lo L.hi r],l'⟩,⟨⟨⟨by simp only[Ze,Zf,Zg];omega,fun i M q hM hi=> ?_⟩,by simp only;omega⟩,by simp only[Ze,Zf,Zg];omega⟩,by simp,by rw[w64 (by omega)];simp,rfl,.inl ?_⟩
  ·by_cases e:i<x.qs.length
   ·rw[List.getElem?_append_left e]at hi;exact h2 i M q hM hi
   ·have hlt:=(List.getElem?_eq_some_iff.1 hi).1;simp only[Ze,Zf,Zg]at hlt;have e':i=x.qs.length:=by omega
    subst e';rw[hL]at hM;cases hM
    simp at hi;subst hi;exact⟨hq,r,by omega,rfl⟩
  ·rw[List.take_of_length_le (by rw[Zd];exact Nat.le_refl _),List.map_append];simp only[List.map_cons,List.map_nil];unfold WG;have e:(8*(L.lo.den:Int)*(L.hi.den:Int)).toNat=8*L.lo.den*L.hi.den:=by
    rw[show(8*(L.lo.den:Int)*(L.hi.den:Int))=((8*L.lo.den*L.hi.den:Nat):Int)by simp];exact Int.toNat_natCast _
   rw[e]
 ·obtain⟨⟨h1,h2⟩,h3⟩:=hx;have hp:=R6 hp;exact⟨x,⟨⟨⟨h1,h2⟩,by omega⟩,h3⟩,rfl,rfl,.inl rfl⟩
def QEY:Xl:=fun as0 H d=>match as0 with
 | [.x true xs,.x false [.p k o]]=>match o with
  | 0=>match H k with
   | some (.box t [.s 1 zs])=>match H d with
    | none=>bif t.beq 102 then
     some fun K=> ∃a l,xs=JU a/\zs=ints l/\Qy a/\l.length<=9223372036854775807/\ ∀(qs:List Rat) (l':List Int),QSx a qs->qs.length=a.links.length->l'.length<=l.length->
      K (.x false [.w d 0 qs.length]) (XS [(1000,k),(500,d)] (QP [(1000,stB l'),(500,JY 63 qs)]) H)
     else none
    | some _=>none
   | _=>none
  | _+1=>none
 | _=>none
theorem QO5:Xz 46 QEY:=by
 refine⟨Qf Tryz.func46 (by kernel_rfl),fun l H d T hT K hK=> ?_⟩;unfold QEY at hT;split at hT
 ·rename_i xs k o;split at hT
  ·split at hT
   ·rename_i t zs e1;split at hT
    ·rename_i hd;cases hb:t.beq 102 with
     | false=>rw[hb]at hT;cases hT
     | true=>
      rw[hb]at hT;cases hT
      have ht:=Nat.eq_of_beq_eq_true hb;subst ht;obtain⟨a,l,rfl,rfl,ha,hl,hK⟩:=hK;refine Xe (R:=[(1000,k)]) (N:=[(500,d)]) (Hl:=[(1000,stB l)]) QUh QN Tryz.func46 (by kernel_rfl) (by kernel_rfl) (by rfl)
       (as0:=[Ka a,.x false [.p 1000 0]]) ?_ (UT e1 rfl rfl) rfl (by simp) (by simp) (fun p hp=>by simp at hp;subst hp;exact hd) (fun x=>⟨fun p hp=> ?_,fun p hp b hb=> ?_⟩) (QSy a l ha hl) (fun x hx=> ?_)
      ·simp[YZ,YO,X6,lkB,Ka,JU]
      ·simp at hp;subst hp;exact fun h=>by have h':some (stB _)=none:=h;cases h'
      ·simp at hp;rcases hp with rfl | rfl
       ·have h':some (stB _)=some b:=hb;cases h';rfl
       ·have h':some (JY _ _)=some b:=hb;cases h';rfl
      ·exact⟨_,rfl,hK _ _ (hx.1.1.2) hx.1.2 hx.2⟩
    ·cases hT
   ·cases hT
  ·cases hT
 ·cases hT
def QSz:List (Nat×Xl):=(46,QEY)::M33
theorem QIk:XU QSz:= .cons QO5 WV
theorem QO6 (a:Qx)(l:List Int)(hc:(Qy a)/\(l.length<=9223372036854775807))(K:AV->Prop)(hK: ∀qs:List Rat,QSx a qs->qs.length=a.links.length->K (sR 63 qs)):QM (QU (mkT L47 QSz X4) (oF Tryz.f20) noL Tryz.f20 [Ka a,.x false [.s 1 (ints l)]] K):=by
 refine HV ((∃(a_1:Qx),∃(l_1:List Int),[Ch.v (Value.string a.name),Ch.r a.x 63,Ch.r a.y 63,Ch.v (Value.bool a.half),Ch.r a.t 63,Ch.s 16 (Zc QH a.links)]=[Ch.v (Value.string a_1.name),Ch.r a_1.x 63,Ch.r a_1.y 63,Ch.v (Value.bool a_1.half),Ch.r a_1.t 63,Ch.s 16 (Zc QH a_1.links)]/\ints l=ints l_1/\Qy a_1/\l_1.length<=9223372036854775807/\∀(qs:List Rat) (l':List Int),(∀(i:Nat) (L:QZ) (q:Rat),a_1.links[i]?=some L->qs[i]?=some q->(L.lo<=q/\q<=L.hi)/\∃(r:Int),(0<=r/\r<=8)/\q=WG L.lo L.hi r)->qs.length=a_1.links.length->l'.length<=l_1.length->K (AV.x false [Ch.s 3 (List.take qs.length (List.drop 0 (Zc (fun(q:Rat)=>[Ch.r q 63]) qs)))]))) ?_
 try simp only[Int.ofNat_eq_natCast,R0,R1,Nat.zero_add,Nat.le_refl,R4,R2,R3]
 refine⟨a,l,rfl,rfl,hc.1,hc.2,fun qs l' hf hl _=> ?_⟩;have:=hK qs hf hl;rw[List.drop_zero,List.take_of_length_le (by rw[Zd];exact Nat.le_refl _)];exact this
def HD:Ctr
 | [.x true xs,.x false [.s 1 ys]]=>some fun K=> ∃(a:Qx) (l:List Int),xs=JU a/\ys=ints l/\((Qy a)/\(l.length<=9223372036854775807))/\(∀qs:List Rat,QSx a qs->qs.length=a.links.length->K (sR 63 qs))
 | _=>none
theorem QC5:QI 20 HD:=by
 refine okL Tryz.func20 fun l T hT K hK=> ?_
 unfold HD at hT;split at hT<;>cases hT
 obtain⟨a,l,rfl,rfl,hc,hK⟩:=hK;exact spL (QV QGF QIk Qo) QN Tryz.func20 (QO6 _ _ hc K hK)
def QS0:LC:=(20,HD)::L47
noncomputable def QZG:Qc:=mkT QS0 QSz X4
theorem QO7:QG QS0:= .cons QC5 QGF
theorem QW0:XP QZG:=QV QO7 QIk Qo
end Go.Proofs
namespace Go.Proofs
open Go Go.Eng
theorem QO8 (ls:List QZ)(h:ls≠[])(hl:ls.length<=3):QM (Xy (X:=Unit) QZG (oF Tryz.f45) noL Tryz.f45 [.x false [.s 16 (ls.map QH)]] [] (fun _=>True) (fun _=>⟨[(2,.x false [.w 0 0 ls.length])],[(0,UW ls)]⟩)):=by
 refine HV ((Zc QH ls≠[]/\((0+(Zc QH ls).length)*224<=140737488355328/\0+(Zc QH ls).length<=9223372036854775807)/\∃(_x:Unit),True/\0=0/\0+(Zc QH ls).length=ls.length/\55=55/\16=16/\(Zc QH ls=Zc QH ls∨QC (Zc QH ls) (Zc QH ls))/\True)) ?_
 simp only[R0,R1,Nat.zero_add,R2];rw[Zd];exact⟨fun e=>h (by simpa using e),by omega,(),rfl⟩
def QBf:Xl:=fun as0 H d=>match as0 with
 | [.x false [.s 16 xs]]=>match H d with
  | none=>some fun K=> ∃ls:List QZ,xs=ls.map QH/\ls≠[]/\ls.length<=3/\K (.x false [.w d 0 ls.length]) (XS [(0,d)] (QP [(0,UW ls)]) H)
  | some _=>none
 | _=>none
theorem QMC:Xz 45 QBf:=by
 refine⟨Qf Tryz.func45 (by kernel_rfl),fun l H d T hT K hK=> ?_⟩;unfold QBf at hT;split at hT
 ·split at hT
  ·rename_i hd;cases hT
   obtain⟨ls,rfl,h0,hl,hK⟩:=hK;exact KV QW0 QN Tryz.func45 (by kernel_rfl) (by kernel_rfl) (by rfl) (by rfl) hd (by kernel_rfl) (QO8 ls h0 hl) hK
  ·cases hT
 ·cases hT
def QW1:List (Nat×Xl):=(45,QBf)::QSz
theorem QW2:XU QW1:= .cons QMC QIk
def QS1:Ctr
 | [.x false [.s 1 xs]]=>some fun K=> ∃(l:List Int),xs=ints l/\((l.length*8<=140737488351232))/\(∀a:Qx,MadeA a->a.links.length=2->K (Ka a))
 | _=>none
def QZ3:LC:=(19,QS1)::QS0
noncomputable def QaP:Qc:=mkT QZ3 QW1 X4
end Go.Proofs
