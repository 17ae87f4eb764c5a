/- InverseThrice: the law. -/
import Derived.Test.YtjdhppdpbkoihaaGreatDoorTE
import Derived.Test.YtjdhppdpbkoihaaGreatDoorTL
open List renaming map → Za, length_map → Zg, take → Zh
open Go.Value renaming bool → Zb, string → Zc, int → Zf
open Go.Eng.Ch renaming r → Zd, v → Ze
namespace Go.Proofs
open Go Go.Eng
def QQo (a:Qx)(k:Nat):List Ch:=[.v (.string a.name),.r a.x 63,.r a.y 63,.v (.bool a.half),.r a.t 63,.w k 0 2]
structure QT4 (a:Qx)(ls:List QZ):Prop where
 made:MadeA a
 two:a.links.length=2
 two':ls.take 2=a.links
 n:ls.length<=16
def QB9:Xl:=fun as0 H d=>match as0 with
 | [.x false [.s 1 xs]]=>match H d with
  | none=>some fun K=> ∃l:List Int,xs=ints l/\l.length*8<=140737488351232/\ ∀(a:Qx) ls,QT4 a ls->K (.x true (QQo a d)) (XS [(0,d)] (QP [(2,.box 48 (QQo a 0)),(0,UW ls)]) H)
  | some _=>none
 | _=>none
def QZm:List (Nat×Xl):=(19,QB9)::QZd
theorem QT5 (l:List Int)(hl:l.length*8<=140737488351232):QM (Xy (X:=Qx×List QZ) (mkT QS0 QW1 X4) (oF Tryz.f19) noL Tryz.f19 [.x false [.s 1 (ints l)]] [] (fun x=>QT4 x.1 x.2) (fun x=>⟨[(2,.x false [.p 2 0])],[(2,.box 48 (QQo x.1 0)),(0,UW x.2)]⟩)):=by
 refine HV ((∃(l_1:List Int),ints l=ints l_1/\l_1.length<=9223372036854775807/\∀(a:Qx),Made a/\1<=a.links.length->((3+(ints l).length)*8<=140737488355328/\3+(ints l).length<=9223372036854775807)/\∃(l_2:List Int),Zh (3+(ints l).length) ([Ze (Zf IntKind.i64 0)]::[Ze (Zf IntKind.i64 0)]::[Ze (Zf IntKind.i64 2)]::ints l)=ints l_2/\l_2.length<=9223372036854775807/\∀(a_2:Qx),Made a_2/\1<=a_2.links.length->∃(ls:List QZ),Za QH a.links=Za QH ls/\ls≠[]/\ls.length<=3/\((ls.length+(Za QH a_2.links).length)*224<=140737488355328/\ls.length+(Za QH a_2.links).length<=9223372036854775807)/\((0:Int)<=0/\(0:Int)<=2/\2<=Int.ofNat (ls.length+(Za QH a_2.links).length))/\∃(x:Qx×List QZ),QT4 x.fst x.snd/\0=0/\48=48/\a.name=x.fst.name/\a.x=x.fst.x/\63<=63/\a.y=x.fst.y/\63<=63/\a.half=x.fst.half/\a.t=x.fst.t/\63<=63/\0=0/\2=2/\55=55/\16=16/\(Zh ls.length (Za QH ls)++Za QH a_2.links=Za QH x.snd∨QC (Zh ls.length (Za QH ls)++Za QH a_2.links) (Za QH x.snd))/\True)) ?_
 simp only[Int.ofNat_eq_natCast,R0,R1,Nat.le_refl];refine⟨l,rfl,by omega,fun a ha=>⟨by rw[QBW];omega,0::0::2::l,List.take_of_length_le (by simp[ints];omega),by simp only[List.length_cons];omega,fun a2 ha2=> ?_⟩⟩;have n1:=(MadeA.good ha).n;have n2:=(MadeA.good ha2).n;refine⟨a.links,rfl,fun e=>by rw[e]at n1;simp at n1,n1.2,by rw[Zg];omega,⟨by omega,by omega,by rw[Zg];omega⟩,(⟨a.name,a.x,a.y,a.half,a.t,(a.links++a2.links).take 2⟩,a.links++a2.links),⟨⟨⟨ha.1.name,ha.1.x,ha.1.y,ha.1.half,ha.1.t,by simp;omega,fun L hL=>(List.mem_append.1 (List.mem_of_mem_take hL)).elim (ha.1.links L) (ha2.1.links L)⟩,by simp;omega⟩,by simp;omega,rfl,by simp;omega⟩,rfl,rfl,rfl,rfl,rfl,.inl ?_⟩
 rw[List.take_of_length_le (by simp),List.map_append]
theorem QMf:Xz 19 QB9:=by
 refine⟨Qf Tryz.func19 (by kernel_rfl),fun l H d T hT K hK=> ?_⟩;unfold QB9 at hT;split at hT
 ·split at hT
  ·rename_i hd;cases hT
   obtain⟨l,rfl,hl,hK⟩:=hK;refine Xe (R:=[]) (N:=[(0,d)]) (QV QO7 QW2 Qo) QN Tryz.func19 (by kernel_rfl) (by kernel_rfl) (by rfl) rfl .nil rfl (by simp) (by simp) (fun p hp=>by simp at hp;subst hp;exact hd) (fun x=>⟨(fun _ h=>by cases h),fun p hp b hb=> ?_⟩) (QT5 l hl) (fun x hx=> ?_)
   ·simp at hp;subst hp;have hb:some (UW x.2)=some b:=hb;cases hb;rfl
   ·exact⟨_,rfl,hK x.1 x.2 hx⟩
  ·cases hT
 ·cases hT
theorem QXv:XU QZm:= .cons QMf QXU
def Md3 (a:Qx):Prop:= ∃(a0:Qx) (L0 L1:QZ),MadeA a0/\a0.links=[L0,L1]/\a=⟨a0.name,a0.x,a0.y,a0.half,a0.t,[L0,L1,L0]⟩
def QJS (m:List Int):LI:=fun id=>bif id.beq 6 then .cutf [39] ⟨Qx,fun a=>⟨[(1,.x false [.s 1 (ints m)]),(7,.x false [.p 7 0])],[(7,.box 48 (JU a))]⟩,Md3,fun _=>0,fun _=>0⟩else .no
theorem QT6:Jr (Xi 4):=by
 have hp:=HB (show QC2 (Xi 4).shape=true by decide+kernel);refine⟨⟨?_,?_,?_,?_,?_⟩,?_,?_,?_,?_,hp,fun p hp=> ?_⟩
 ·exact Q4 (by omega) (by decide)
 ·exact Q4 (by decide) (by decide)
 ·exact Q4 (by decide) (by decide)
 ·exact Q4 (by decide) (by decide)
 ·exact Q4 (by decide) (by decide)
 ·exact YE (by omega) (by decide)
 ·show mkRat (-2) 1<mkRat 2 1
  decide+kernel
 ·exact YE (by decide) (by decide)
 ·exact YE (by decide) (by decide)
 ·have c: ∀x y:Int,x.natAbs<=1000000->y.natAbs<=1000000->Xx (pt1 x y).1/\Xx (pt1 x y).2:=fun x y hx hy=>⟨Q4 hx (by decide),Q4 hy (by decide)⟩;simp only[Xi,List.mem_cons,List.not_mem_nil,or_false]at hp;rcases hp with rfl | rfl | rfl | rfl<;>exact c _ _ (by omega) (by omega)
theorem QMg:Qy (YK [3,4,1]):=by
 have g:=QGH (ns:=[3]) (by simp) (by simp);refine⟨g.name,by simp[YK],g.small,g.half,fun L hL=> ?_⟩;have hL:L=Xi 3∨L=Xi 4∨L=Xi 1:=by simpa [YK]using hL
 rcases hL with rfl | rfl | rfl
 ·exact Un (by simp)
 ·exact QT6
 ·exact Un (by simp)
theorem QXw:BTF (mkRat 6 1) (mkRat 0 1) (mkRat 0 1):=by
 have b:Bd 5 (mkRat 6 1)/\Bd 5 (mkRat 0 1):=⟨⟨by decide+kernel,by decide+kernel⟩,by decide+kernel,by decide+kernel⟩;exact⟨b.1.mono (by omega),b.2.mono (by omega),b.2.mono (by omega)⟩
set_option maxHeartbeats 1000000 in
theorem QQp (l m:List Int)(hl:l.length*8<=140737488351232)(hm:m.length<=9223372036854775807)(K:AV->Prop)(hK:K (.x false [.v (.bool true)])):QM (QU (mkT QQP QZm X4) (oF Tryz.f4) (QJS m) Tryz.f4 [.x false [.s 1 (ints l)],.x false [.s 1 (ints m)]] K):=by
 refine HV ((∃(ns:List Int),[[Ze (Zf IntKind.i64 3)],[Ze (Zf IntKind.i64 4)],[Ze (Zf IntKind.i64 1)]]=ints ns/\(ns.length<=3/\∀(n:Int),n∈ns->1<=n/\n<=1000)/\(((-9223372036854775808:Int)<6/\(6:Int)<9223372036854775808)/\(-9223372036854775808:Int)<0/\(0:Int)<9223372036854775808)/\(((-9223372036854775808:Int)<0/\(0:Int)<9223372036854775808)/\(0:Int)<1/\(1:Int)<9223372036854775808)/\∃(a:Qx),∃(L0:QZ),∃(L1:QZ),∃(L2:QZ),∃(F:FrV),∃(X:Rat),∃(Y:Rat),∃(rs:List (RtV×RtV)),∃(R:List (RtV×RtV)),∃(O:List (List Sp)),[Ze (Zc (YK ns).name),Zd (YK ns).x 63,Zd (YK ns).y 63,Ze (Zb false),Zd (YK ns).t 63,Ch.s 16 (Za QH (YK ns).links)]=[Ze (Zc a.name),Zd a.x 63,Zd a.y 63,Ze (Zb a.half),Zd a.t 63,Ch.s 16 (Za QH a.links)]/\((Qy a/\a.links=[L0,L1,L2])/\BTF (mkRat 6 1,mkRat 0 1).fst (mkRat 6 1,mkRat 0 1).snd (mkRat 0 1)/\(false=true->mkRat 0 1=OfNat.ofNat 0))/\((F=Xp a (FrV.mk (mkRat 6 1,mkRat 0 1).fst (mkRat 6 1,mkRat 0 1).snd false (mkRat 0 1))/\X=W3 L2 F/\Y=Ww L2 F)/\(YW L0.len L1.len X Y=some rs/\inF L0.lo L0.hi L1.lo L1.hi rs []=some R)/\HM (thQ L0 L1 F X Y) L2.lo L2.hi R []=some O)/\(O=[]->K (AV.x false [Ze (Zb false)]))/\(O≠[]->bif Int.ofNat (Za XC O).length !=2 then K (AV.x false [Ze (Zb false)])else ∃(l_1:List Int),ints l=ints l_1/\l_1.length*8<=140737488351232/\∀(a:Qx) (ls:List QZ),QT4 a ls->(((0:Int)<=0/\(0:Int)<2)/\∃(q:Rat),∃(n:Nat),∃(q_1:Rat),∃(n_1:Nat),∃(q_2:Rat),∃(n_2:Nat),∃(q_3:Rat),∃(n_3:Nat),∃(q_4:Rat),∃(n_4:Nat),∃(ys:List (List Ch)),ldE (Za QH ls) 0 0 16=some [Zd q n,Zd q_1 n_1,Zd q_2 n_2,Zd q_3 n_3,Zd q_4 n_4,Ch.s 6 ys]/\((2+1)*224<=140737488355328/\2+1<=9223372036854775807)/\∃(x:Qx),((∃(a0:Qx),∃(L0:QZ),∃(L1:QZ),(Made a0/\1<=a0.links.length)/\a0.links=[L0,L1]/\x=Qx.mk a0.name a0.x a0.y a0.half a0.t [L0,L1,L0])/\OfNat.ofNat 0=0)/\1=1/\ints m=ints m/\0=0/\48=48/\a.name=x.name/\a.x=x.x/\63<=63/\a.y=x.y/\63<=63/\a.half=x.half/\a.t=x.t/\63<=63/\16=16/\Zh (2+1) (List.drop 0 (Zh 2 (Za QH ls)++[[Zd q n,Zd q_1 n_1,Zd q_2 n_2,Zd q_3 n_3,Zd q_4 n_4,Ch.s 6 ys]]))=Za QH x.links/\True)/\∀(x:Qx),Md3 x->OfNat.ofNat 0=0->∃(a:Qx),∃(l:List Int),[Ze (Zc x.name),Zd x.x 63,Zd x.y 63,Ze (Zb x.half),Zd x.t 63,Ch.s 16 (Za QH x.links)]=[Ze (Zc a.name),Zd a.x 63,Zd a.y 63,Ze (Zb a.half),Zd a.t 63,Ch.s 16 (Za QH a.links)]/\ints m=ints l/\(Qy a/\l.length<=9223372036854775807)/\∀(qs:List Rat),(∀(i:Nat) (L:QZ) (q:Rat),a.links[i]?=some L->qs[i]?=some q->(L.lo<=q/\q<=L.hi)/\∃(r:Int),(0<=r/\r<=8)/\q=WG L.lo L.hi r)->qs.length=a.links.length->∃(a:Qx),∃(b:Nat),∃(qs_1:List Rat),[Ze (Zc x.name),Zd x.x 63,Zd x.y 63,Ze (Zb x.half),Zd x.t 63,Ch.s 16 (Za QH x.links)]=[Ze (Zc a.name),Zd a.x 63,Zd a.y 63,Ze (Zb a.half),Zd a.t 63,Ch.s 16 (Za QH a.links)]/\lR 63 qs=lR b qs_1/\(Qy a/\b<=400/\qs_1.length=a.links.length)/\∀(n:Nat) (f:FrV),n<=120000000->(JW (Vq a) a.links qs_1)[a.links.length]?=some f->∃(a:Qx),∃(L0:QZ),∃(L1:QZ),∃(L2:QZ),∃(F:FrV),∃(X:Rat),∃(Y:Rat),∃(rs:List (RtV×RtV)),∃(R:List (RtV×RtV)),∃(O:List (List Sp)),[Ze (Zc x.name),Zd x.x 63,Zd x.y 63,Ze (Zb x.half),Zd x.t 63,Ch.s 16 (Za QH x.links)]=[Ze (Zc a.name),Zd a.x 63,Zd a.y 63,Ze (Zb a.half),Zd a.t 63,Ch.s 16 (Za QH a.links)]/\((Qy a/\a.links=[L0,L1,L2])/\BTF f.x f.y f.t/\(f.h=true->f.t=OfNat.ofNat 0))/\((F=Xp a (FrV.mk f.x f.y f.h f.t)/\X=W3 L2 F/\Y=Ww L2 F)/\(YW L0.len L1.len X Y=some rs/\inF L0.lo L0.hi L1.lo L1.hi rs []=some R)/\HM (thQ L0 L1 F X Y) L2.lo L2.hi R []=some O)/\(O=[]->K (AV.x false [Ze (Zb false)]))/\(O≠[]->∃(O_1:List (List Sp)),∃(qs_2:List Rat),lR 63 qs=lR 63 qs_2/\Za XC O=Za XC O_1/\((qs_2.length=3/\O_1.length<=1000)/\(∀(o:List Sp),o∈O_1->o.length=3/\∀(s:Sp),s∈o->s.lo<=s.hi)/\∃(o:List Sp),List.Mem o O_1/\HO o qs_2=true)/\K (AV.x false [Ze (Zb true)]))))) ?_
 simp only[Int.ofNat_eq_natCast,R0,R1,Nat.le_refl,R4];have e:=QJL;obtain⟨rs,h1,e⟩:=Option.bind_eq_some_iff.1 e;obtain⟨R,h2,e⟩:=Option.bind_eq_some_iff.1 e;obtain⟨O,h3,e⟩:=Option.map_eq_some_iff.1 e;have good:Qy (YK [3,4,1]):=QMg;refine⟨[3,4,1],rfl,⟨by simp,by simp⟩,⟨by omega,by omega⟩,⟨by omega,by omega⟩,YK [3,4,1],Xi 3,Xi 4,Xi 1,thS,W3 (Xi 1) thS,Ww (Xi 1) thS,rs,R,O,rfl,⟨⟨good,rfl⟩,QXw,fun h=>nomatch h⟩,⟨⟨rfl,rfl,rfl⟩,⟨h1,h2⟩,h3⟩,(fun h=>by rw[h]at e;cases e),fun _=>QF (fun hb=> ?_) (fun _=> ?_)⟩
 ·rw[Zg,e]at hb;cases hb
 refine⟨l,rfl,hl,fun a ls hV=> ?_⟩;obtain⟨ha,hn,h2',hls⟩:=hV;obtain⟨L0,L1,hL⟩: ∃L0 L1,a.links=[L0,L1]:=by
  match h:a.links,hn with
  | [x,y],_=>exact⟨x,y,rfl⟩
 obtain⟨rest,rfl⟩: ∃rest,ls=L0::L1::rest:=by
  rw[hL]at h2';match ls,h2' with
  | x::y::t,h=>simp at h;obtain⟨rfl,rfl⟩:=h;exact⟨t,rfl⟩
 refine⟨⟨⟨by omega,by omega⟩,_,_,_,_,_,_,_,_,_,_,_,rfl,⟨by omega,by omega⟩,_,⟨a,L0,L1,ha,hL,rfl⟩,rfl,rfl,rfl,rfl,rfl,rfl⟩,fun x hx=> ?_⟩;obtain⟨a0,M0,M1,ha0,hL0,ex⟩:=hx;have hxl:x.links=[M0,M1,M0]:=by rw[ex]
 have hgx:Qy x:=by
  have hg0:=MadeA.good ha0;rw[ex];exact⟨hg0.name,by simp,hg0.small,hg0.half,fun L hm=>hg0.links L (by rw[hL0];simp at hm;simp;rcases hm with h | h | h<;>simp[h])⟩
 refine⟨x,m,rfl,rfl,⟨hgx,hm⟩,fun qs hq hql=> ?_⟩;rw[hxl]at hql;obtain⟨t0,t1,t2,rfl⟩: ∃t0 t1 t2,qs=[t0,t1,t2]:=by
  match qs,hql with
  | [x,y,z],_=>exact⟨x,y,z,rfl⟩
 refine⟨x,63,[t0,t1,t2],rfl,rfl,⟨hgx,by omega,by rw[hxl];rfl⟩,fun n f _ hf=> ?_⟩;rw[hxl]at hf;obtain⟨_,⟨b1,b2,b3⟩,ok,rs',R',O',r1,r2,r3,r4,sa,sb,sc,r5,r6,r7,r8⟩:=QJR ha0 hL0 ex hq hf;refine⟨x,M0,M1,M0,Xp x f,W3 M0 (Xp x f),Ww M0 (Xp x f),rs',R',O',rfl,⟨⟨hgx,hxl⟩,⟨b1,b2,b3⟩,ok⟩,⟨⟨rfl,rfl,rfl⟩,r1,r2⟩,fun h=> ?_,fun _=>⟨O',[t0,t1,t2],rfl,rfl,⟨⟨rfl,r3⟩,fun o ho=> ?_,[sa,sb,sc],r5,?_⟩,hK⟩⟩
 ·rw[h]at r5;cases r5
 ·obtain⟨u,v,w,rfl,h1,h2,h3⟩:=r4 o ho;refine⟨rfl,fun s hs=> ?_⟩;simp at hs;rcases hs with rfl | rfl | rfl
  ·exact h1
  ·exact h2
  ·exact h3
 ·show(Qm sa t0&&Qm sb t1&&Qm sc t2)=true
  rw[We.2 r6,We.2 r7,We.2 r8];rfl
theorem QGn (l m:List Int)(hl:l.length*8<=140737488351232)(_: ∀n∈l,-9223372036854775808<=n/\n<9223372036854775808)(hm:m.length<=9223372036854775807):Eng.Spec Tryz.prog QFt QCO 4 [.x false [.s 1 (ints l)],.x false [.s 1 (ints m)]] (fun av=>av= .x false [.v (.bool true)]):=
 Ql (QV QEr QXv Qo) QN Tryz.func4 (by kernel_rfl) (by kernel_rfl) (by rfl) (QQp l m hl hm _ rfl)
end Go.Proofs
