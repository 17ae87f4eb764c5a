/- The sample arm; the length of an arm. -/
import Derived.Test.YtfhfenokfkenoaaGreatDoorA1
open ByteArray renaming mk → Za
open Array renaming mk → Zb
open Int renaming ofNat → Zc
open Go.Eng.Ch renaming r → Zd
open List renaming map → Ze, take → Zf, length_map → Zg
namespace Go.Proofs
open Go Go.Eng
def pt1 (x y:Int):Rat×Rat:=(mkRat x 1,mkRat y 1)
def UB (n:Int):Qf:=⟨mkRat n 1,mkRat (-2) 1,mkRat 2 1,mkRat 1 4,mkRat 1 10,[pt1 0 (-1),pt1 n (-1),pt1 n 1,pt1 0 1]⟩
def Xi (ns:List Int):ArmV:=⟨QOo,mkRat 0 1,mkRat 0 1,false,mkRat 0 1,ns.map UB⟩
structure SmX where
 i:Nat
 ls:List Qf
theorem QPB {l:List Int}{i:Nat}{n:Int}(h:l[i]? =some n):ldE (ints l) i 0 1=some [.v (.int .i64 n)]:=by
 simp only[ldE,ints,List.getElem?_map,h];rfl
theorem QMD:([3,2,5,1]:List Int).all (fun n=>Uv (UB n).shape)=true:=by decide+kernel
theorem QIj {n:Int}(h:n∈([3,2,5,1]:List Int)):J6 (UB n):=by
 have hp:=Wi (List.all_eq_true.1 QMD n h);have hn:1<=n/\n<=1000:=by simp at h;omega
 refine⟨⟨?_,?_,?_,?_,?_⟩,?_,?_,?_,?_,hp,fun p hp=> ?_⟩
 ·exact XQ (by omega) (by decide)
 ·exact XQ (by decide) (by decide)
 ·exact XQ (by decide) (by decide)
 ·exact XQ (by decide) (by decide)
 ·exact XQ (by decide) (by decide)
 ·exact JJ (by omega) (by decide)
 ·show mkRat (-2) 1<mkRat 2 1
  decide+kernel
 ·exact JJ (by decide) (by decide)
 ·exact JJ (by decide) (by decide)
 ·have c: ∀x y:Int,x.natAbs<=1000000->y.natAbs<=1000000->X1 (pt1 x y).1/\X1 (pt1 x y).2:=fun x y hx hy=>⟨XQ hx (by decide),XQ hy (by decide)⟩;simp only[UB,List.mem_cons,List.not_mem_nil,or_false]at hp;rcases hp with rfl | rfl | rfl | rfl<;>exact c _ _ (by omega) (by omega)
theorem QGS {ns:List Int}(h1:1<=ns.length/\ns.length<=3)(h2: ∀n∈ns,n∈([3,2,5,1]:List Int)):QJ (Xi ns):=by
 refine⟨QKF,by simpa [Xi]using h1,⟨?_,?_,?_⟩,fun h=>Bool.noConfusion h,fun L hL=> ?_⟩
 ·exact XQ (by decide) (by decide)
 ·exact XQ (by decide) (by decide)
 ·exact XQ (by decide) (by decide)
 ·obtain⟨n,hn,rfl⟩:=List.mem_map.1 hL;exact QIj (h2 n hn)
abbrev QV3 (x y:Int)(K:AV->Prop):Prop:=(((-9223372036854775808<x/\x<9223372036854775808)/\ -9223372036854775808<y/\y<9223372036854775808))/\(K (.x true (Xl (pt1 x y))))
theorem QaN (x y:Int)(K:AV->Prop)(hK:QV3 x y K):QM (QR T49 (oF Tryz.f35) noL Tryz.f35 [iA .i64 x,iA .i64 y] K):=by
 obtain⟨hc,hK⟩:=hK;refine HV ((((-9223372036854775808<x/\x<9223372036854775808)/\(0:Int)<1/\(1:Int)<9223372036854775808)/\((-9223372036854775808<y/\y<9223372036854775808)/\(0:Int)<1/\(1:Int)<9223372036854775808)/\K (AV.x true [Zd (mkRat x 1) 63,Zd (mkRat y 1) 63]))) ?_
 try simp only[Int.ofNat_eq_natCast,R0,R1,Nat.zero_add,Nat.le_refl,R4,R2,R3]
 exact⟨by omega,by omega,hK⟩
def QPC:Ctr
 | [.x false [.v (.int .i64 x)],.x false [.v (.int .i64 y)]]=>some fun K=>QV3 x y K
 | _=>none
theorem QXW:QI 35 QPC:=by
 refine okL Tryz.func35 fun l T hT K hK=> ?_
 unfold QPC at hT;split at hT<;>cases hT
 exact spL QV2 QK Tryz.func35 (QaN _ _ K hK)
def L50:LC:=(35,QPC)::L49
theorem QV4:QG L50:= .cons QXW QO4
set_option maxHeartbeats 1000000 in
theorem QME (ns:List Int)(hc:(ns.length<=3)/\(∀n∈ns,1<=n/\n<=1000))(K:AV->Prop)(hK:K (J5 (Xi ns))):QM (QR (mkT L50 M48 X4) (oF Tryz.f34) (fun _=> .inv ⟨SmX,fun x=>⟨[(2,.x false [.p 2 0]),(3,.x false [.p 3 0]),(11,.x false [.s 1 (ints ns)]),(12,iA .i64 ns.length),(13,iA .i64 x.i)],[(2,.box 34 QKC),(3,.box 34 [.v (.string QOo),.r (mkRat 0 1) 63,.r (mkRat 0 1) 63,.v (.bool false),.r (mkRat 0 1) 63,.w 500 0 x.ls.length]),(500,QGO x.ls)]⟩,fun x=>x.ls=(ns.take x.i).map UB/\x.i<=ns.length,fun x=>ns.length-x.i,fun _=>0⟩) Tryz.f34 [.x false [.s 1 (ints ns)]] K):=by
 refine HV (((((-9223372036854775808:Int)<0/\(0:Int)<9223372036854775808)/\(-9223372036854775808:Int)<0/\(0:Int)<9223372036854775808)/\(((-9223372036854775808:Int)<0/\(0:Int)<9223372036854775808)/\(0:Int)<1/\(1:Int)<9223372036854775808)/\(∃(x:SmX),((x.ls=Ze UB (Zf x.i ns)/\x.i<=ns.length)/\OfNat.ofNat 0=0)/\0=0/\0=0/\1=1/\ints ns=ints ns/\Zc (ints ns).length=Zc ns.length/\0=Zc x.i/\34=34/\Za (Zb [])=Za (Zb [])/\false=false/\Za (Zb [])=Za (Zb [])/\Za (Zb [])=Za (Zb [])/\false=false/\Za (Zb [])=Za (Zb [])/\Za (Zb [])=Za (Zb [])/\false=false/\false=false/\Za (Zb [])=Za (Zb [])/\Za (Zb [])=Za (Zb [])/\Value.slice none 0 0=Value.slice none 0 0/\34=34/\Za (Zb [OfNat.ofNat 111,OfNat.ofNat 110,OfNat.ofNat 101])=Za (Zb [OfNat.ofNat 111,OfNat.ofNat 110,OfNat.ofNat 101])/\(mkRat 0 1,mkRat 0 1).fst=mkRat 0 1/\63<=63/\(mkRat 0 1,mkRat 0 1).snd=mkRat 0 1/\63<=63/\false=false/\mkRat 0 1=mkRat 0 1/\63<=63/\Value.slice none 0 0=Value.slice none 0 0/\0=0/\x.ls.length=0/\Ze QB x.ls=[]/\True)/\∀(x:SmX),x.ls=Ze UB (Zf x.i ns)/\x.i<=ns.length->OfNat.ofNat 0=0->bif decide (Zc x.i<Zc ns.length)then(0<=Zc x.i/\Zc x.i<Zc (ints ns).length)/\∃(d:Int),ldE (ints ns) (Zc x.i).toNat 0 1=some [Ch.v (Value.int IntKind.i64 d)]/\((-9223372036854775808<d/\d<9223372036854775808)/\(0:Int)<1/\(1:Int)<9223372036854775808)/\(((-9223372036854775808:Int)< -2/\(-2:Int)<9223372036854775808)/\(0:Int)<1/\(1:Int)<9223372036854775808)/\(((-9223372036854775808:Int)<2/\(2:Int)<9223372036854775808)/\(0:Int)<1/\(1:Int)<9223372036854775808)/\(((-9223372036854775808:Int)<1/\(1:Int)<9223372036854775808)/\(0:Int)<4/\(4:Int)<9223372036854775808)/\(((-9223372036854775808:Int)<1/\(1:Int)<9223372036854775808)/\(0:Int)<10/\(10:Int)<9223372036854775808)/\(((-9223372036854775808:Int)<0/\(0:Int)<9223372036854775808)/\(-9223372036854775808:Int)< -1/\(-1:Int)<9223372036854775808)/\((-9223372036854775808<d/\d<9223372036854775808)/\(-9223372036854775808:Int)< -1/\(-1:Int)<9223372036854775808)/\((-9223372036854775808<d/\d<9223372036854775808)/\(-9223372036854775808:Int)<1/\(1:Int)<9223372036854775808)/\(((-9223372036854775808:Int)<0/\(0:Int)<9223372036854775808)/\(-9223372036854775808:Int)<1/\(1:Int)<9223372036854775808)/\((x.ls.length+1)*224<=140737488355328/\x.ls.length+1<=9223372036854775807)/\∃(x':SmX),((x'.ls=Ze UB (Zf x'.i ns)/\x'.i<=ns.length)/\OfNat.ofNat 0=0/\ns.length-x'.i<ns.length-x.i)/\0=0/\0=0/\1=1/\ints ns=ints ns/\Zc ns.length=Zc ns.length/\IntKind.i64.wrap (Zc x.i+1)=Zc x'.i/\34=34/\Za (Zb [])=Za (Zb [])/\false=false/\Za (Zb [])=Za (Zb [])/\Za (Zb [])=Za (Zb [])/\false=false/\Za (Zb [])=Za (Zb [])/\Za (Zb [])=Za (Zb [])/\false=false/\false=false/\Za (Zb [])=Za (Zb [])/\Za (Zb [])=Za (Zb [])/\Value.slice none 0 0=Value.slice none 0 0/\34=34/\Za (Zb [OfNat.ofNat 111,OfNat.ofNat 110,OfNat.ofNat 101])=Za (Zb [OfNat.ofNat 111,OfNat.ofNat 110,OfNat.ofNat 101])/\mkRat 0 1=mkRat 0 1/\63<=63/\mkRat 0 1=mkRat 0 1/\63<=63/\false=false/\mkRat 0 1=mkRat 0 1/\63<=63/\0=0/\x.ls.length+1=x'.ls.length/\63=63/\16=16/\(Zf x.ls.length (Ze QB x.ls)++[[Zd (mkRat d 1) 63,Zd (mkRat (-2) 1) 63,Zd (mkRat 2 1) 63,Zd (mkRat 1 4) 63,Zd (mkRat 1 10) 63,Ch.s 6 [[Zd (mkRat 0 1,mkRat (-1) 1).fst 63,Zd (mkRat 0 1,mkRat (-1) 1).snd 63],[Zd (mkRat d 1,mkRat (-1) 1).fst 63,Zd (mkRat d 1,mkRat (-1) 1).snd 63],[Zd (mkRat d 1,mkRat 1 1).fst 63,Zd (mkRat d 1,mkRat 1 1).snd 63],[Zd (mkRat 0 1,mkRat 1 1).fst 63,Zd (mkRat 0 1,mkRat 1 1).snd 63]]]]=Ze QB x'.ls∨QC (Zf x.ls.length (Ze QB x.ls)++[[Zd (mkRat d 1) 63,Zd (mkRat (-2) 1) 63,Zd (mkRat 2 1) 63,Zd (mkRat 1 4) 63,Zd (mkRat 1 10) 63,Ch.s 6 [[Zd (mkRat 0 1,mkRat (-1) 1).fst 63,Zd (mkRat 0 1,mkRat (-1) 1).snd 63],[Zd (mkRat d 1,mkRat (-1) 1).fst 63,Zd (mkRat d 1,mkRat (-1) 1).snd 63],[Zd (mkRat d 1,mkRat 1 1).fst 63,Zd (mkRat d 1,mkRat 1 1).snd 63],[Zd (mkRat 0 1,mkRat 1 1).fst 63,Zd (mkRat 0 1,mkRat 1 1).snd 63]]]]) (Ze QB x'.ls))/\True else K (AV.x true [Ch.v (Value.string (Za (Zb [OfNat.ofNat 111,OfNat.ofNat 110,OfNat.ofNat 101]))),Zd (mkRat 0 1) 63,Zd (mkRat 0 1) 63,Ch.v (Value.bool false),Zd (mkRat 0 1) 63,Ch.s 16 (Zf x.ls.length (List.drop 0 (Ze QB x.ls)))]))) ?_
 try simp only[Int.ofNat_eq_natCast,R0,R1,Nat.le_refl,R4]
 obtain⟨h1,h2⟩:=hc;have hl:(ints ns).length=ns.length:=Qw ns;simp only[hl];refine⟨by omega,by omega,⟨⟨0,[]⟩,⟨rfl,by simp only;omega⟩,trivial,rfl,rfl,rfl⟩,fun x hx=> ?_⟩;obtain⟨i,ls⟩:=x;obtain⟨hls,hi⟩:=hx;simp only at hls hi⊢;refine QF (fun hp=> ?_) (fun hp=> ?_)
 ·have hp:i<ns.length:=by have:=R5 hp;omega
  obtain⟨n,hn⟩: ∃n,ns[i]? =some n:=⟨_,List.getElem?_eq_getElem hp⟩
  have hb:=h2 n (List.mem_of_getElem? hn);have hll:ls.length<=3:=by rw[hls,Zg,List.length_take];omega
  refine⟨by omega,n,QPB (by simpa using hn),by omega,by omega,by omega,by omega,by omega,by omega,by omega,by omega,by omega,by omega,⟨i+1,ls++[UB n]⟩,⟨⟨by rw[hls,List.take_add_one,hn,List.map_append];rfl,by simp only;omega⟩,by simp only;omega⟩,by rw[w64 (by omega)];simp,by simp,.inl ?_⟩;rw[List.take_of_length_le (by rw[Zg];exact Nat.le_refl _),List.map_append];rfl
 ·have hp:i=ns.length:=by have:=R6 hp;omega
  subst hp;rw[List.take_length]at hls;rw[List.drop_zero,List.take_of_length_le (by rw[Zg];exact Nat.le_refl _),hls];exact hK
def Hs:Ctr
 | [.x false [.s 1 xs]]=>some fun K=> ∃(ns:List Int),xs=ints ns/\((ns.length<=3)/\(∀n∈ns,1<=n/\n<=1000))/\(K (J5 (Xi ns)))
 | _=>none
theorem QIk:QI 34 Hs:=by
 refine okL Tryz.func34 fun l T hT K hK=> ?_
 unfold Hs at hT;split at hT<;>cases hT
 obtain⟨ns,rfl,hc,hK⟩:=hK;exact spL (QW QV4 GX Qg) QK Tryz.func34 (QME _ hc K hK)
def L51:LC:=(34,Hs)::L50
theorem QaO:QG L51:= .cons QIk QV4
def L52:LC:=L51
noncomputable def T52:QZ:=mkT L52 M48 X4
theorem QPD:QG L52:=QaO
theorem QPE:Q7 T52:=QW QPD GX Qg
end Go.Proofs
