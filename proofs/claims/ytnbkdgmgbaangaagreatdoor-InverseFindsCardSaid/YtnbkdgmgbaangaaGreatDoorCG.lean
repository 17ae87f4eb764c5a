/- Configurations in eighths of the limits: conf, Conf. -/
import Derived.Test.YtnbkdgmgbaangaaGreatDoorA1
open Go.IntKind renaming i64 → Za
open Int renaming ofNat → Zb, ofNat_eq_natCast → Zf
open List renaming map → Zc, take_of_length_le → Zd, length_map → Ze, length_cons → Zg, take → Zh, length_append → Zi, length_nil → Zj
namespace Go.Proofs
open Go Go.Eng
def QZw (a:Qs)(qs:List Rat):Prop:= ∀(i:Nat) (L:Qh) (q:Rat),a.links[i]? =some L->qs[i]? =some q->(L.lo<=q/\q<=L.hi)/\ ∃r:Int,(0<=r/\r<=8)/\q=J1 L.lo L.hi r
def QQt (ls:List Qh)(qs:List Rat):Prop:=qs.length<=ls.length/\ ∀(i:Nat) (L:Qh) (q:Rat),ls[i]? =some L->qs[i]? =some q->(L.lo<=q/\q<=L.hi)/\ ∃r:Int,(0<=r/\r<=8)/\q=J1 L.lo L.hi r
def QNt (a:Qs)(l:List Int):LI:=fun _=> .inv ⟨CfX,cfS a,fun x=>QQt a.links x.qs/\x.l.length<=l.length,fun x=>a.links.length-x.qs.length,fun _=>0⟩
def QQu:OT:=fun _=>([],[])
def QBq (a:Qs)(l:List Int):Prop:=Xu (X:=CfX) T47 QQu (QNt a l) Tryz.f67 [Ww a,.x false [.p 1000 0]] [(1000,stB l)] (fun x=>(QQt a.links x.qs/\x.qs.length=a.links.length)/\x.l.length<=l.length) (fun x=>⟨[(4,.x false [.w 500 0 x.qs.length])],[(1000,stB x.l),(500,JL 63 x.qs)]⟩)
theorem QC5 (a:Qs)(l:List Int):QBq a l=((∃(x:CfX),(((x.qs.length<=a.links.length/\∀(i:Nat) (L:Qh) (q:Rat),a.links[i]?=some L->x.qs[i]?=some q->(L.lo<=q/\q<=L.hi)/\∃(r:Int),(0<=r/\r<=8)/\q=J1 L.lo L.hi r)/\x.l.length<=l.length)/\OfNat.ofNat 0=0)/\0=0/\Value.slice none 0 0=Value.slice none 0 0/\0=0/\x.qs.length=0/\16=16/\Zc QN a.links=Zc QN a.links/\Zb (Zc QN a.links).length=Zb a.links.length/\0=Zb x.qs.length/\38=38/\1=1/\ints l=ints x.l/\Zc (fun(q:Rat)=>[Ch.r q 63]) x.qs=[]/\True)/\∀(x:CfX),(x.qs.length<=a.links.length/\∀(i:Nat) (L:Qh) (q:Rat),a.links[i]?=some L->x.qs[i]?=some q->(L.lo<=q/\q<=L.hi)/\∃(r:Int),(0<=r/\r<=8)/\q=J1 L.lo L.hi r)/\x.l.length<=l.length->OfNat.ofNat 0=0->bif decide (Zb x.qs.length<Zb a.links.length)then(0<=Zb x.qs.length/\Zb x.qs.length<Zb (Zc QN a.links).length)/\∃(q:Rat)(n:Nat)(q_1:Rat)(n_1:Nat)(q_2:Rat)(n_2:Nat)(q_3:Rat)(n_3:Nat)(q_4:Rat)(n_4:Nat)(ys:List (List Ch)),ldE (Zc QN a.links) (Zb x.qs.length).toNat 0 16=some [Ch.r q n,Ch.r q_1 n_1,Ch.r q_2 n_2,Ch.r q_3 n_3,Ch.r q_4 n_4,Ch.s 6 ys]/\(q_1.num.natAbs<1000000000/\q_1.den<1000000000)/\(q_2.num.natAbs<1000000000/\q_2.den<1000000000)/\∃(l_1:List Int),ints x.l=ints l_1/\((1:Int)<=9/\(9:Int)<9223372036854775808)/\l_1.length<=9223372036854775807/\∀(r:Int) (l':List Int),0<=r/\r<9->l'.length<=l_1.length->((-9223372036854775808<Za.wrap (Za.wrap (Za.wrap (8*q_1.num)*Zb q_2.den)+Za.wrap (Za.wrap (Za.wrap (q_2.num*Zb q_1.den)-Za.wrap (q_1.num*Zb q_2.den))*r))/\Za.wrap (Za.wrap (Za.wrap (8*q_1.num)*Zb q_2.den)+Za.wrap (Za.wrap (Za.wrap (q_2.num*Zb q_1.den)-Za.wrap (q_1.num*Zb q_2.den))*r))<9223372036854775808)/\0<Za.wrap (Za.wrap (8*Zb q_1.den)*Zb q_2.den)/\Za.wrap (Za.wrap (8*Zb q_1.den)*Zb q_2.den)<9223372036854775808)/\((x.qs.length+1)*40<=140737488355328/\x.qs.length+1<=9223372036854775807)/\∃(x':CfX),(((x'.qs.length<=a.links.length/\∀(i:Nat) (L:Qh) (q:Rat),a.links[i]?=some L->x'.qs[i]?=some q->(L.lo<=q/\q<=L.hi)/\∃(r:Int),(0<=r/\r<=8)/\q=J1 L.lo L.hi r)/\x'.l.length<=l.length)/\OfNat.ofNat 0=0/\a.links.length-x'.qs.length<a.links.length-x.qs.length)/\0=0/\0=0/\x.qs.length+1=x'.qs.length/\16=16/\Zc QN a.links=Zc QN a.links/\Zb a.links.length=Zb a.links.length/\Za.wrap (Zb x.qs.length+1)=Zb x'.qs.length/\38=38/\1=1/\ints l'=ints x'.l/\25=25/\3=3/\(Zh x.qs.length (Zc (fun(q:Rat)=>[Ch.r q 63]) x.qs)++[[Ch.r (mkRat (Za.wrap (Za.wrap (Za.wrap (8*q_1.num)*Zb q_2.den)+Za.wrap (Za.wrap (Za.wrap (q_2.num*Zb q_1.den)-Za.wrap (q_1.num*Zb q_2.den))*r))) (Za.wrap (Za.wrap (8*Zb q_1.den)*Zb q_2.den)).toNat) 63]]=Zc (fun(q:Rat)=>[Ch.r q 63]) x'.qs∨QC (Zh x.qs.length (Zc (fun(q:Rat)=>[Ch.r q 63]) x.qs)++[[Ch.r (mkRat (Za.wrap (Za.wrap (Za.wrap (8*q_1.num)*Zb q_2.den)+Za.wrap (Za.wrap (Za.wrap (q_2.num*Zb q_1.den)-Za.wrap (q_1.num*Zb q_2.den))*r))) (Za.wrap (Za.wrap (8*Zb q_1.den)*Zb q_2.den)).toNat) 63]]) (Zc (fun(q:Rat)=>[Ch.r q 63]) x'.qs))/\True else ∃(x_1:CfX),(((x_1.qs.length<=a.links.length/\∀(i:Nat) (L:Qh) (q:Rat),a.links[i]?=some L->x_1.qs[i]?=some q->(L.lo<=q/\q<=L.hi)/\∃(r:Int),(0<=r/\r<=8)/\q=J1 L.lo L.hi r)/\x_1.qs.length=a.links.length)/\x_1.l.length<=l.length)/\0=0/\x.qs.length=x_1.qs.length/\38=38/\1=1/\ints x.l=ints x_1.l/\25=25/\3=3/\(Zc (fun(q:Rat)=>[Ch.r q 63]) x.qs=Zc (fun(q:Rat)=>[Ch.r q 63]) x_1.qs∨QC (Zc (fun(q:Rat)=>[Ch.r q 63]) x.qs) (Zc (fun(q:Rat)=>[Ch.r q 63]) x_1.qs))/\True):=by kernel_rfl
theorem QU3 (a:Qs)(l:List Int)(ha:Qt a)(hl:l.length<=9223372036854775807):QR (QBq a l):=by
 refine⟨?_⟩;rw[QC5];simp only[Zf,R0,R1,Nat.zero_add,Nat.le_refl,R4,R2,R3];have hn:=ha.n;refine⟨⟨⟨[],l⟩,⟨⟨by simp,fun i L q _ h=>by simp at h⟩,by simp⟩,rfl,by simp,rfl,rfl,rfl⟩,fun x hx=>QF (fun hp=> ?_) (fun hp=> ?_)⟩
 ·obtain⟨⟨h1,h2⟩,h3⟩:=hx;have hp:x.qs.length<a.links.length:=by have:=R5 hp;omega
  obtain⟨L,hL⟩: ∃L,a.links[x.qs.length]? =some L:=⟨_,List.getElem?_eq_getElem hp⟩
  have hg:=ha.links L (List.mem_of_getElem? hL);obtain⟨_,s2,s3,_⟩:=hg.small;have d2:=L.lo.den_nz;have d3:=L.hi.den_nz;refine⟨by rw[Ze];omega,_,_,_,_,_,_,_,_,_,_,_,Vi (by simpa using hL),⟨by have:=s2.1;omega,by have:=s2.2;omega⟩,⟨by have:=s3.1;omega,by have:=s3.2;omega⟩,x.l,rfl,by omega,by omega,fun r l' hr hl'=> ?_⟩;obtain⟨w1,w2,w3,w4⟩:=QBf (n:=L.lo.num) (d:=L.lo.den) (m:=L.hi.num) (e:=L.hi.den) (r:=r) s2.1 (by have:=s2.2;omega) s3.1 (by have:=s3.2;omega) (by omega);rw[w1,w2];have hq:=H7 (k:=r) (Rat.le_of_lt hg.lim) (by omega);refine⟨⟨w3,w4⟩,by omega,⟨x.qs++[J1 L.lo L.hi r],l'⟩,⟨⟨⟨by simp only[Zi,Zg,Zj];omega,fun i M q hM hi=> ?_⟩,by simp only;omega⟩,by simp only[Zi,Zg,Zj];omega⟩,by simp,by rw[w64 (by omega)];simp,rfl,.inl ?_⟩
  ·by_cases e:i<x.qs.length
   ·rw[List.getElem?_append_left e]at hi;exact h2 i M q hM hi
   ·have hlt:=(List.getElem?_eq_some_iff.1 hi).1;simp only[Zi,Zg,Zj]at hlt;have e':i=x.qs.length:=by omega
    subst e';rw[hL]at hM;cases hM
    simp at hi;subst hi;exact⟨hq,r,by omega,rfl⟩
  ·rw[Zd (by rw[Ze];exact Nat.le_refl _),List.map_append];simp only[List.map_cons,List.map_nil];unfold J1;have e:(8*(L.lo.den:Int)*(L.hi.den:Int)).toNat=8*L.lo.den*L.hi.den:=by
    rw[show(8*(L.lo.den:Int)*(L.hi.den:Int))=((8*L.lo.den*L.hi.den:Nat):Int)by simp];exact Int.toNat_natCast _
   rw[e]
 ·obtain⟨⟨h1,h2⟩,h3⟩:=hx;have hp:=R6 hp;exact⟨x,⟨⟨⟨h1,h2⟩,by omega⟩,h3⟩,rfl,rfl,.inl rfl⟩
def QGE:Xh:=fun as0 H d=>match as0 with
 | [.x true xs,.x false [.p k o]]=>match o with
  | 0=>match H k with
   | some (.box t [.s 1 zs])=>match H d with
    | none=>bif t.beq 38 then
     some fun K=> ∃a l,xs=Jc a/\zs=ints l/\Qt a/\l.length<=9223372036854775807/\ ∀(qs:List Rat) (l':List Int),QZw a qs->qs.length=a.links.length->l'.length<=l.length->
      K (.x false [.w d 0 qs.length]) (XL [(1000,k),(500,d)] (QO [(1000,stB l'),(500,JL 63 qs)]) H)
     else none
    | some _=>none
   | _=>none
  | _+1=>none
 | _=>none
theorem QQv:Xj Tryz.prog QH QG 67 QGE:=by
 refine⟨QJ Tryz.func67 (by kernel_rfl),fun l H d T hT K hK=> ?_⟩;unfold QGE at hT;split at hT
 ·rename_i xs k o;split at hT
  ·split at hT
   ·rename_i t zs e1;split at hT
    ·rename_i hd;cases hb:t.beq 38 with
     | false=>rw[hb]at hT;cases hT
     | true=>
      rw[hb]at hT;cases hT
      have ht:=Nat.eq_of_beq_eq_true hb;subst ht;obtain⟨a,l,rfl,rfl,ha,hl,hK⟩:=hK;refine XX (R:=[(1000,k)]) (N:=[(500,d)]) (Hl:=[(1000,stB l)]) QW7 QP Tryz.func67 (by kernel_rfl) (by kernel_rfl) (by rfl)
       (as0:=[Ww a,.x false [.p 1000 0]]) ?_ (V3 e1 rfl rfl) rfl (by simp) (by simp) (fun p hp=>by simp at hp;subst hp;exact hd) (fun x=>⟨fun p hp=> ?_,fun p hp b hb=> ?_⟩) (QU3 a l ha hl) (fun x hx=> ?_)
      ·simp[YO,YC,Xt,lkB,Ww,Jc]
      ·simp at hp;subst hp;exact fun h=>by have h':some (stB _)=none:=h;cases h'
      ·simp at hp;rcases hp with rfl | rfl
       ·have h':some (stB _)=some b:=hb;cases h';rfl
       ·have h':some (JL _ _)=some b:=hb;cases h';rfl
      ·exact⟨_,rfl,hK _ _ (hx.1.1.2) hx.1.2 hx.2⟩
    ·cases hT
   ·cases hT
  ·cases hT
 ·cases hT
def QU4:List (Nat×Xh):=(67,QGE)::M33
noncomputable def Qc2:QU:=mkT L47 QU4 X4
theorem QKk:CtrMsOK Tryz.prog QH QG QU4:= .cons QQv WC
theorem QZx:QM Tryz.prog QH QG Qc2:=QY QID QKk Qp
def QNu:OT:=fun _=>([],[])
def GO (a:Qs)(l:List Int)(K:AV->Prop):Prop:=QW Qc2 QNu noL Tryz.f16 [Ww a,.x false [.s 1 (ints l)]] K
theorem QBr (a:Qs)(l:List Int)(K:AV->Prop):GO a l K=(∃(a_1:Qs)(l_1:List Int),[Ch.v (Value.string a.name),Ch.r a.x 63,Ch.r a.y 63,Ch.v (Value.bool a.half),Ch.r a.t 63,Ch.s 16 (Zc QN a.links)]=[Ch.v (Value.string a_1.name),Ch.r a_1.x 63,Ch.r a_1.y 63,Ch.v (Value.bool a_1.half),Ch.r a_1.t 63,Ch.s 16 (Zc QN a_1.links)]/\ints l=ints l_1/\Qt a_1/\l_1.length<=9223372036854775807/\∀(qs:List Rat) (l':List Int),(∀(i:Nat) (L:Qh) (q:Rat),a_1.links[i]?=some L->qs[i]?=some q->(L.lo<=q/\q<=L.hi)/\∃(r:Int),(0<=r/\r<=8)/\q=J1 L.lo L.hi r)->qs.length=a_1.links.length->l'.length<=l_1.length->K (AV.x false [Ch.s 3 (Zh qs.length (List.drop 0 (Zc (fun(q:Rat)=>[Ch.r q 63]) qs)))])):=by kernel_rfl
theorem QQw (a:Qs)(l:List Int)(hc:(Qt a)/\(l.length<=9223372036854775807))(K:AV->Prop)(hK: ∀qs:List Rat,QZw a qs->qs.length=a.links.length->K (sR 63 qs)):QR (GO a l K):=by
 refine⟨?_⟩;rw[QBr];try simp only[Zf,R0,R1,Nat.zero_add,Nat.le_refl,R4,R2,R3]
 refine⟨a,l,rfl,rfl,hc.1,hc.2,fun qs l' hf hl _=> ?_⟩;have:=hK qs hf hl;rw[List.drop_zero,Zd (by rw[Ze];exact Nat.le_refl _)];exact this
def Uu:Ctr:=fun as0=>match as0 with
 | [.x true xs,.x false [.s 1 ys]]=>some fun K=> ∃(a:Qs) (l:List Int),xs=Jc a/\ys=ints l/\((Qt a)/\(l.length<=9223372036854775807))/\(∀qs:List Rat,QZw a qs->qs.length=a.links.length->K (sR 63 qs))
 | _=>none
theorem QEL:CtrOK Tryz.prog QH QG 16 Uu:=by
 refine⟨QJ Tryz.func16 (by kernel_rfl),fun l T hT K hK=> ?_⟩;unfold Uu at hT;split at hT
 ·cases hT
  obtain⟨a,l,rfl,rfl,hc,hK⟩:=hK;exact QI QZx QP Tryz.func16 (by kernel_rfl) (by kernel_rfl) (by rfl) (QQw _ _ hc K hK)
 ·cases hT
def QU5:List (Nat×Ctr):=(16,Uu)::L47
noncomputable def Qc3:QU:=mkT QU5 QU4 X4
theorem QQx:CtrsOK Tryz.prog QH QG QU5:= .cons QEL QID
theorem QZy:QM Tryz.prog QH QG Qc3:=QY QQx QKk Qp
end Go.Proofs
namespace Go.Proofs
open Go Go.Eng
def GP (ls:List Qh):Prop:=Xu (X:=Unit) Qc3 noO noL Tryz.f82 [.x false [.s 16 (ls.map QN)]] [] (fun _=>True) (fun _=>⟨[(2,.x false [.w 0 0 ls.length])],[(0,QBR ls)]⟩)
theorem QBs (ls:List Qh):GP ls=(Zc QN ls≠[]/\((0+(Zc QN ls).length)*224<=140737488355328/\0+(Zc QN ls).length<=9223372036854775807)/\∃(x:Unit),True/\0=0/\0+(Zc QN ls).length=ls.length/\63=63/\16=16/\(Zc QN ls=Zc QN ls∨QC (Zc QN ls) (Zc QN ls))/\True):=by kernel_rfl
theorem QQy (ls:List Qh)(h:ls≠[])(hl:ls.length<=3):QR (GP ls):=by
 refine⟨?_⟩;rw[QBs];simp only[Zf,R0,R1,Nat.zero_add,Nat.le_refl,R4,R2,R3];rw[Ze];exact⟨fun e=>h (by simpa using e),by omega,(),rfl⟩
def QBt:Xh:=fun as0 H d=>match as0 with
 | [.x false [.s 16 xs]]=>match H d with
  | none=>some fun K=> ∃ls:List Qh,xs=ls.map QN/\ls≠[]/\ls.length<=3/\K (.x false [.w d 0 ls.length]) (XL [(0,d)] (QO [(0,QBR ls)]) H)
  | some _=>none
 | _=>none
theorem QNv:Xj Tryz.prog QH QG 82 QBt:=by
 refine⟨QJ Tryz.func82 (by kernel_rfl),fun l H d T hT K hK=> ?_⟩;unfold QBt at hT;split at hT
 ·split at hT
  ·rename_i hd;cases hT
   obtain⟨ls,rfl,h0,hl,hK⟩:=hK;exact W5 QZy QP Tryz.func82 (by kernel_rfl) (by kernel_rfl) (by rfl) (by rfl) hd (by kernel_rfl) (QQy ls h0 hl) hK
  ·cases hT
 ·cases hT
def QZz:List (Nat×Xh):=(82,QBt)::QU4
noncomputable def Qc4:QU:=mkT QU5 QZz X4
theorem QZ0:CtrMsOK Tryz.prog QH QG QZz:= .cons QNv QKk
theorem QZ1:QM Tryz.prog QH QG Qc4:=QY QQx QZ0 Qp
def QQz:OT:=fun id=>bif id.beq 3 then([0,1,3,4,2,5,6,7,8],[[],[0],[1,0],[],[3],[2,1,0,4,3],[5,2,1,0,4,3],[0,1,2,3,4,5,6],[7,0,1,2,3,4,5,6]])else([],[])
def QBu (l:List Int)(K:AV->Prop):Prop:=QW Qc4 QQz noL Tryz.f38 [.x false [.s 1 (ints l)]] K
theorem QC6 (l:List Int)(K:AV->Prop):QBu l K=(∃(l_1:List Int),ints l=ints l_1/\l_1.length<=9223372036854775807/\∀(a:Qs),Made a/\1<=a.links.length->((3+(ints l).length)*8<=140737488355328/\3+(ints l).length<=9223372036854775807)/\∃(l_2:List Int),Zh (3+(ints l).length) ([Ch.v (Value.int Za 0)]::[Ch.v (Value.int Za 0)]::[Ch.v (Value.int Za 2)]::ints l)=ints l_2/\l_2.length<=9223372036854775807/\∀(a_2:Qs),Made a_2/\1<=a_2.links.length->∃(ls:List Qh),Zc QN a.links=Zc QN ls/\ls≠[]/\ls.length<=3/\((ls.length+(Zc QN a_2.links).length)*224<=140737488355328/\ls.length+(Zc QN a_2.links).length<=9223372036854775807)/\((0:Int)<=0/\(0:Int)<=2/\2<=Zb (ls.length+(Zc QN a_2.links).length))/\K (AV.x true [Ch.v (Value.string a.name),Ch.r a.x 63,Ch.r a.y 63,Ch.v (Value.bool a.half),Ch.r a.t 63,Ch.s 16 (Zh 2 (List.drop 0 (Zh ls.length (Zc QN ls)++Zc QN a_2.links)))])):=by kernel_rfl
theorem QU6 (l:List Int)(hc:(l.length*8<=140737488351232))(K:AV->Prop)(hK: ∀a:Qs,MadeA a->a.links.length=2->K (Ww a)):QR (QBu l K):=by
 refine⟨?_⟩;rw[QC6];try simp only[Zf,R0,R1,Nat.zero_add,Nat.le_refl,R4,R2,R3]
 refine⟨l,rfl,by omega,fun a ha=>⟨by rw[QBP];omega,0::0::2::l,Zd (by simp[ints];omega),by simp only[Zg];omega,fun a2 ha2=> ?_⟩⟩;have g1:=MadeA.good ha;have g2:=MadeA.good ha2;have n1:=g1.n;have n2:=g2.n;refine⟨a.links,rfl,fun e=>by rw[e]at n1;simp at n1,n1.2,by rw[Ze];omega,by rw[Ze];omega,?_⟩;have:=hK ⟨a.name,a.x,a.y,a.half,a.t,(a.links++a2.links).take 2⟩ ⟨⟨ha.1.name,ha.1.x,ha.1.y,ha.1.half,ha.1.t,by simp;omega,fun L hL=>(List.mem_append.1 (List.mem_of_mem_take hL)).elim (ha.1.links L) (ha2.1.links L)⟩,by simp;omega⟩ (by simp;omega);rw[show Zh a.links.length (Zc QN a.links)=Zc QN a.links from Zd (by simp),List.drop_zero,<-List.map_append,<-List.map_take]
 exact this
def G5:Ctr:=fun as0=>match as0 with
 | [.x false [.s 1 xs]]=>some fun K=> ∃(l:List Int),xs=ints l/\((l.length*8<=140737488351232))/\(∀a:Qs,MadeA a->a.links.length=2->K (Ww a))
 | _=>none
theorem QQ0:CtrOK Tryz.prog QH QG 38 G5:=by
 refine⟨QJ Tryz.func38 (by kernel_rfl),fun l T hT K hK=> ?_⟩;unfold G5 at hT;split at hT
 ·cases hT
  obtain⟨l,rfl,hc,hK⟩:=hK;exact QI QZ1 QP Tryz.func38 (by kernel_rfl) (by kernel_rfl) (by rfl) (QU6 _ hc K hK)
 ·cases hT
def Qdy:List (Nat×Ctr):=(38,G5)::QU5
noncomputable def QeG:QU:=mkT Qdy QZz X4
end Go.Proofs
