/- InverseFinds: its parts. -/
import Derived.Test.YtfhfenokfkenoaaGreatDoorIU
import Derived.Test.YtfhfenokfkenoaaGreatDoorCG
import Derived.Test.YtfhfenokfkenoaaGreatDoorQF
namespace Go.Proofs
open Go Go.Eng
structure BT (x:Rat):Prop where
  bd:Bd 20000 x
def QAy:Ctr
 | [.x true xs,.x true [.r x n,.r y m]]=>some fun K=> ∃(a:Qs) (L0 L1:Qw) (rs R:List (RtV×RtV)) (O:List (List Sp)),xs=WH a/\((Q7 a/\a.links=[L0,L1])/\BT x/\BT y)/\((Xg L0.len L1.len (YZ a x y) (Y0 a x y)=some rs/\inF L0.lo L0.hi L1.lo L1.hi rs []=some R)/\VC R []=some O)/\
   (O=[]->K (.t [(false,[.v (.slice none 0 0)]),(false,[.v (.int .i64 17)])]))/\(O≠[]->K (.t [(false,[.s 1 (O.map Xl)]),(false,[.v (.int .i64 0)])]))
 | _=>none
theorem QeF {W:World}{O:Nat->Prop}{ρ:Env}{x y:Rat}{n m n' m':Nat}(h1:Bd n' x)(h2:Bd m' y){v:Value}(h:ConcV W O ρ (.x true [.r x n,.r y m]) v):ConcV W O ρ (.x true [.r x n',.r y m']) v:=by
 obtain⟨vals,h3,h4⟩:=h;cases h3 with | r b1 h3=>cases h3 with | r b2 h3=>exact⟨_,.r h1 (.r h2 h3),h4⟩
theorem QJ4:QI 27 QAy:=by
 refine⟨ok_iTwo.enter,fun l T hT K hK=> ?_⟩;unfold QAy at hT;split at hT
 ·rename_i xs x n y m;cases hT
  obtain⟨a,L0,L1,rs,R,O,rfl,⟨hg,hx,hy⟩,hs,hK⟩:=hK;refine Eng.Spec.args (ok_iTwo.sound [.x true (WH a),.x true [.r x 20000,.r y 20000]] _ rfl K ⟨a,L0,L1,rs,R,O,rfl,⟨⟨hg,Nat.le_refl _,Nat.le_refl _⟩,hs⟩,hK⟩) fun w O vals hc=> ?_
  cases hc with
  | cons h1 h2=>cases h2 with
   | cons h2 h3=>exact .cons h1 (.cons (QeF hx.bd hy.bd h2) h3)
 ·cases hT
def QeG:List (Nat×Ctr):=(27,QAy)::(34,V0)::(35,QNZ)::QUj
noncomputable def QhB:QR:=mkT QeG QAe X4
theorem QeH:QH QeG:= .cons QJ4 (.cons QCV (.cons QSO QMx))
theorem QeI:QJ QhB:=QU QeH GY Ql
theorem QeJ {O:List (List Sp)}{i:Nat}{o:List Sp}(h:O[i]? =some o):ldE (O.map Xl) i 0 1=some (Xl o):=by
 simp only[ldE,List.getElem?_map,h];rfl
theorem QJ5:(((Xg (JC 3).len (JC 4).len (YZ (XM [3,4]) (pt1 5 0).1 (pt1 5 0).2) (Y0 (XM [3,4]) (pt1 5 0).1 (pt1 5 0).2)).bind fun rs=>(inF (JC 3).lo (JC 3).hi (JC 4).lo (JC 4).hi rs []).bind fun R=>VC R []).map (·.map List.length))=some [2,2]:=by decide+kernel
theorem QeK:Jj (JC 4):=by
 have hp:=HD (show QE8 (JC 4).shape=true by decide+kernel);refine⟨⟨?_,?_,?_,?_,?_⟩,?_,?_,?_,?_,hp,fun p hp=> ?_⟩
 ·exact Q1 (by omega) (by decide)
 ·exact Q1 (by decide) (by decide)
 ·exact Q1 (by decide) (by decide)
 ·exact Q1 (by decide) (by decide)
 ·exact Q1 (by decide) (by decide)
 ·exact X7 (by omega) (by decide)
 ·show mkRat (-2) 1<mkRat 2 1
  decide+kernel
 ·exact X7 (by decide) (by decide)
 ·exact X7 (by decide) (by decide)
 ·have c: ∀x y:Int,x.natAbs<=1000000->y.natAbs<=1000000->Xj (pt1 x y).1/\Xj (pt1 x y).2:=fun x y hx hy=>⟨Q1 hx (by decide),Q1 hy (by decide)⟩;simp only[JC,List.mem_cons,List.not_mem_nil,or_false]at hp;rcases hp with rfl | rfl | rfl | rfl<;>exact c _ _ (by omega) (by omega)
theorem QUu:Q7 (XM [3,4]):=by
 have g:=G8 (ns:=[3]) (by simp) (by simp);refine⟨g.name,by simp[XM],g.small,g.half,fun L hL=> ?_⟩;have hL:L=JC 3∨L=JC 4:=by simpa [XM]using hL
 rcases hL with rfl | rfl
 ·exact QCU (by simp)
 ·exact QeK
theorem QhC:BT (pt1 5 0).1/\BT (pt1 5 0).2:=by
 constructor
 ·exact⟨Bd.mono (n:=5) (by omega) ⟨by decide+kernel,by decide+kernel⟩⟩
 ·exact⟨Bd.mono (n:=5) (by omega) ⟨by decide+kernel,by decide+kernel⟩⟩
def QM3:OT:=fun _=>([],[])
def He  (K:AV->Prop):Prop:=QS QhB QM3 noL Tryz.f41 [] K
theorem QAg (K:AV->Prop):He K=(∃(ns:List Int),[[Ch.v (Value.int IntKind.i64 3)],[Ch.v (Value.int IntKind.i64 4)]]=ints ns/\(ns.length<=3/\∀(n:Int),n∈ns->1<=n/\n<=1000)/\(((-9223372036854775808:Int)<5/\(5:Int)<9223372036854775808)/\(-9223372036854775808:Int)<0/\(0:Int)<9223372036854775808)/\∃(a:Qs)(L0:Qw)(L1:Qw)(rs:List (RtV×RtV))(R:List (RtV×RtV))(O:List (List Sp)),[Ch.v (Value.string (XM ns).name),Ch.r (XM ns).x 63,Ch.r (XM ns).y 63,Ch.v (Value.bool false),Ch.r (XM ns).t 63,Ch.s 16 (List.map QN (XM ns).links)]=[Ch.v (Value.string a.name),Ch.r a.x 63,Ch.r a.y 63,Ch.v (Value.bool a.half),Ch.r a.t 63,Ch.s 16 (List.map QN a.links)]/\((Q7 a/\a.links=[L0,L1])/\BT (mkRat 5 1,mkRat 0 1).fst/\BT (mkRat 5 1,mkRat 0 1).snd)/\((Xg L0.len L1.len (YZ a (mkRat 5 1,mkRat 0 1).fst (mkRat 5 1,mkRat 0 1).snd) (Y0 a (mkRat 5 1,mkRat 0 1).fst (mkRat 5 1,mkRat 0 1).snd)=some rs/\inF L0.lo L0.hi L1.lo L1.hi rs []=some R)/\VC R []=some O)/\(O=[]->K (AV.x false [Ch.v (Value.bool false)]))/\(O≠[]->bif Int.ofNat (List.map Xl O).length==2 then((0:Int)<=0/\0<Int.ofNat (List.map Xl O).length)/\∃(ys:List (List Ch)),ldE (List.map Xl O) 0 0 1=some [Ch.s 6 ys]/\bif Int.ofNat ys.length==2 then((0:Int)<=1/\1<Int.ofNat (List.map Xl O).length)/\∃(ys:List (List Ch)),ldE (List.map Xl O) 1 0 1=some [Ch.s 6 ys]/\K (AV.x false [Ch.v (Value.bool (Int.ofNat ys.length==2))])else K (AV.x false [Ch.v (Value.bool false)])else K (AV.x false [Ch.v (Value.bool false)]))):=by kernel_rfl
theorem QQF  (hc:True)(K:AV->Prop)(hK:K (.x false [.v (.bool true)])):QO (He  K):=by
 refine⟨?_⟩;rw[QAg];try simp only[Int.ofNat_eq_natCast,R0,R1,Nat.zero_add,Nat.le_refl,R4,R2,R3]
 have e:=QJ5;obtain⟨O,h,e⟩:=Option.map_eq_some_iff.1 e;obtain⟨rs,h1,h⟩:=Option.bind_eq_some_iff.1 h;obtain⟨R,h2,h3⟩:=Option.bind_eq_some_iff.1 h;obtain⟨o1,o2,rfl⟩: ∃o1 o2,O=[o1,o2]:=by
  have hl:O.length=2:=by simpa using congrArg List.length e
  match O,hl with
  | [o1,o2],_=>exact⟨o1,o2,rfl⟩
 simp at e;obtain⟨l1,l2⟩:=e;have good:Q7 (XM [3,4]):=QUu;refine⟨[3,4],rfl,⟨by simp,by simp⟩,by omega,XM [3,4],JC 3,JC 4,rs,R,[o1,o2],rfl,⟨⟨good,rfl⟩,QhC⟩,⟨⟨h1,h2⟩,h3⟩,fun h=>by simp at h,fun _=>QG (fun _=>⟨by simp,o1.map (spN 100000),rfl,QG (fun _=>⟨by simp,o2.map (spN 100000),rfl,?_⟩) (fun h=> ?_)⟩) (fun h=> ?_)⟩
 ·rw[List.length_map,l2];exact hK
 ·rw[List.length_map,l1]at h;cases h
 ·cases h
def V9:Ctr
 | []=>some fun K=>(True)/\(K (.x false [.v (.bool true)]))
 | _=>none
theorem QM4:QI 41 V9:=by
 refine⟨QK Tryz.func41 (by kernel_rfl),fun l T hT K hK=> ?_⟩;unfold V9 at hT;split at hT
 ·cases hT
  obtain⟨hc,hK⟩:=hK;exact QF QeI QP Tryz.func41 (by kernel_rfl) (by kernel_rfl) (by rfl) (QQF  hc K hK)
 ·cases hT
def QhD:List (Nat×Ctr):=(41,V9)::QeG
noncomputable def Qhy:QR:=mkT QhD QAe X4
end Go.Proofs
namespace Go.Proofs
open Go Go.Eng
theorem Gh (h:Bool)(t:Rat):Qt h (-t)=Qt h t/\Qd h (-t)= -Qd h t:=by
 unfold Qt Qd;have e:(1:Rat)+ -t* -t=1+t*t:=by grind
 have e2:(1:Rat)- -t* -t=1-t*t:=by grind
 cases h with
 | true=>exact⟨rfl,show(0:Rat)= -0 by decide⟩
 | false=>
  simp only[R8];rw[e,e2];refine⟨rfl,?_⟩;rw[Rat.div_def,Rat.div_def];grind
theorem QN5:Qt false 0=1/\Qd false 0=0:=by decide+kernel
theorem QUv (t:Rat):Qt false t*(1+t*t)=1-t*t/\Qd false t*(1+t*t)=2*t:=by
 have n:=Qx t;unfold Qt Qd;simp only[R8];have:1+t*t≠0:=by grind
 rw[Rat.div_mul_cancel this,Rat.div_mul_cancel this];exact⟨rfl,by grind⟩
theorem QZP {a:Qs}{L0 L1:Qw}{t0 t1:Rat}{f:FrV}(hf:(YG (WT a) [L0,L1] [t0,t1])[2]? =some f):
    YZ a f.x f.y=L0.len*Qt false t0+L1.len*(Qt false t0*Qt false t1-Qd false t0*Qd false t1)/\Y0 a f.x f.y=L0.len*Qd false t0+L1.len*(Qd false t0*Qt false t1+Qt false t0*Qd false t1):=by
  have hf:some (XZ (XZ (XZ (XZ (WT a) ⟨0,0,false,t0⟩) ⟨L0.len,0,false,0⟩) ⟨0,0,false,t1⟩) ⟨L1.len,0,false,0⟩)=some f:=hf;obtain rfl:=Option.some.inj hf;unfold YZ Y0 QUl J6 HG HH XZ WT;simp only;unfold HG HH;simp only[(QNa _ _ _ _).1,(QNa _ _ _ _).2,(Gh _ _).1,(Gh _ _).2,QN5.1,QN5.2];have e:=cs1 a.half a.t;generalize Qt a.half a.t=c at*;generalize Qd a.half a.t=s at*;generalize Qt false t0=c0 at*;generalize Qd false t0=s0 at*;generalize Qt false t1=c1 at*;generalize Qd false t1=s1 at*;constructor<;>grind
theorem QUw (h:Bool)(t:Rat): -1<=Qt h t/\Qt h t<=1/\ -1<=Qd h t/\Qd h t<=1:=by
 have e:=cs1 h t;generalize Qt h t=c at*;generalize Qd h t=s at*;have a:=Qx c;have b:=Qx s;have key: ∀z:Rat,z*z<=1-> -1<=z/\z<=1:=fun z hz=>by
  constructor
  ·refine Rat.not_lt.1 fun k=> ?_
   have:=Rat.mul_pos (a:= -1-z) (b:=1-z) (by grind) (by grind);grind
  ·refine Rat.not_lt.1 fun k=> ?_
   have:=Rat.mul_pos (a:=z-1) (b:=1+z) (by grind) (by grind);grind
 obtain⟨k1,k2⟩:=key c (by grind);obtain⟨k3,k4⟩:=key s (by grind);exact⟨k1,k2,k3,k4⟩
end Go.Proofs
namespace Go.Proofs
open Go Go.Eng
theorem QJ6 {L:Qw}(h:MadeLink L): ∃u:Int,(2<=u/\u<=5)/\2*L.len=(u:Rat):=by
 obtain⟨r,i,j,s,b,tri,hr,_,_,_,_,rfl⟩:=h;refine⟨2+r,by omega,?_⟩;show 2*mkRat (4+2*r) 4=_
 rw[Rat.mkRat_eq_div];push_cast;grind
theorem QUx {l:Rat}{u:Int}(h:2*l=(u:Rat))(hu:2<=u/\u<=5):Bd 3 l/\1<=l:=by
 have h2:(2:Rat)<=(u:Rat):=by exact_mod_cast hu.1
 refine⟨?_,by grind⟩;have e:l=(u:Rat)/((2:Int):Rat):=by
  have:((2:Int):Rat)=2:=rfl;rw[this,<-h];grind
 rw[e];exact Kz (D:=2) (by omega) (by omega) (by omega)
theorem QUy {q:Rat}(h:Xj q):Bd 20 q:=⟨by have:=h.1;omega,by have:=h.2;omega⟩
theorem QN6 (a:Qs)(x y:Rat):x=a.x+(Qt a.half a.t*YZ a x y-Qd a.half a.t*Y0 a x y)/\y=a.y+(Qd a.half a.t*YZ a x y+Qt a.half a.t*Y0 a x y):=by
  unfold YZ Y0 QUl J6 HG HH;simp only[(Gh _ _).1,(Gh _ _).2];have e:=cs1 a.half a.t;generalize Qt a.half a.t=c at*;generalize Qd a.half a.t=s at*;constructor<;>grind
end Go.Proofs
