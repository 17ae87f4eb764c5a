/- The sample arm; the length of an arm. -/
import Derived.Test.YtfhfenokfkenoaaGreatDoorA1
open ByteArray renaming mk → Za
open Array renaming mk → Zb
open Int renaming ofNat → Zc
open Go.Eng.Ch renaming r → Zd
open List renaming map → Ze, take → Zf, length_map → Zg
namespace Go.Proofs
open Go Go.Eng
def pt1 (x y:Int):Rat×Rat:=(mkRat x 1,mkRat y 1)
def JC (n:Int):Qw:=⟨mkRat n 1,mkRat (-2) 1,mkRat 2 1,mkRat 1 4,mkRat 1 10,[pt1 0 (-1),pt1 n (-1),pt1 n 1,pt1 0 1]⟩
def XM (ns:List Int):Qs:=⟨QR4,mkRat 0 1,mkRat 0 1,false,mkRat 0 1,ns.map JC⟩
structure SmX where
 i:Nat
 ls:List Qw
theorem QSN {l:List Int}{i:Nat}{n:Int}(h:l[i]? =some n):ldE (ints l) i 0 1=some [.v (.int .i64 n)]:=by
 simp only[ldE,ints,List.getElem?_map,h];rfl
theorem QPY:([3,2,5,1]:List Int).all (fun n=>QE8 (JC n).shape)=true:=by decide+kernel
theorem QCU {n:Int}(h:n∈([3,2,5,1]:List Int)):Jj (JC n):=by
 have hp:=HD (List.all_eq_true.1 QPY n h);have hn:1<=n/\n<=1000:=by simp at h;omega
 refine⟨⟨?_,?_,?_,?_,?_⟩,?_,?_,?_,?_,hp,fun p hp=> ?_⟩
 ·exact Q1 (by omega) (by decide)
 ·exact Q1 (by decide) (by decide)
 ·exact Q1 (by decide) (by decide)
 ·exact Q1 (by decide) (by decide)
 ·exact Q1 (by decide) (by decide)
 ·exact X7 (by omega) (by decide)
 ·show mkRat (-2) 1<mkRat 2 1
  decide+kernel
 ·exact X7 (by decide) (by decide)
 ·exact X7 (by decide) (by decide)
 ·have c: ∀x y:Int,x.natAbs<=1000000->y.natAbs<=1000000->Xj (pt1 x y).1/\Xj (pt1 x y).2:=fun x y hx hy=>⟨Q1 hx (by decide),Q1 hy (by decide)⟩;simp only[JC,List.mem_cons,List.not_mem_nil,or_false]at hp;rcases hp with rfl | rfl | rfl | rfl<;>exact c _ _ (by omega) (by omega)
theorem G8 {ns:List Int}(h1:1<=ns.length/\ns.length<=3)(h2: ∀n∈ns,n∈([3,2,5,1]:List Int)):Q7 (XM ns):=by
 refine⟨QNY,by simpa [XM]using h1,⟨?_,?_,?_⟩,fun h=>Bool.noConfusion h,fun L hL=> ?_⟩
 ·exact Q1 (by decide) (by decide)
 ·exact Q1 (by decide) (by decide)
 ·exact Q1 (by decide) (by decide)
 ·obtain⟨n,hn,rfl⟩:=List.mem_map.1 hL;exact QCU (h2 n hn)
def Qb1:OT:=fun _=>([],[])
def QJJ (x y:Int)(K:AV->Prop):Prop:=QS T49 Qb1 noL Tryz.f35 [iA .i64 x,iA .i64 y] K
theorem QJK (x:Int)(y:Int)(K:AV->Prop):QJJ x y K=(((-9223372036854775808<x/\x<9223372036854775808)/\(0:Int)<1/\(1:Int)<9223372036854775808)/\((-9223372036854775808<y/\y<9223372036854775808)/\(0:Int)<1/\(1:Int)<9223372036854775808)/\K (AV.x true [Zd (mkRat x 1) 63,Zd (mkRat y 1) 63])):=by kernel_rfl
theorem QfZ (x y:Int)(hc:((-9223372036854775808<x/\x<9223372036854775808)/\ -9223372036854775808<y/\y<9223372036854775808))(K:AV->Prop)(hK:K (.x true (XQ (pt1 x y)))):QO (QJJ x y K):=by
 refine⟨?_⟩;rw[QJK];try simp only[Int.ofNat_eq_natCast,R0,R1,Nat.zero_add,Nat.le_refl,R4,R2,R3]
 exact⟨by omega,by omega,hK⟩
def QNZ:Ctr
 | [.x false [.v (.int .i64 x)],.x false [.v (.int .i64 y)]]=>some fun K=>(((-9223372036854775808<x/\x<9223372036854775808)/\ -9223372036854775808<y/\y<9223372036854775808))/\(K (.x true (XQ (pt1 x y))))
 | _=>none
theorem QSO:QI 35 QNZ:=by
 refine⟨QK Tryz.func35 (by kernel_rfl),fun l T hT K hK=> ?_⟩;unfold QNZ at hT;split at hT
 ·cases hT
  obtain⟨hc,hK⟩:=hK;exact QF QZ2 QP Tryz.func35 (by kernel_rfl) (by kernel_rfl) (by rfl) (QfZ _ _ hc K hK)
 ·cases hT
def L50:List (Nat×Ctr):=(35,QNZ)::L49
noncomputable def T50:QR:=mkT L50 M48 X4
theorem QZ3:QH L50:= .cons QSO QZ1
theorem Qfa:QJ T50:=QU QZ3 QSH Ql
def QLr:OT:=fun id=>bif id.beq 5 then([0,1,2,9,11,3,4,5,6,7,8,10,12,13,14,15,16,17,18,19],[[],[0],[],[2],[3,2],[4,3,2],[5,4,3,2],[6,5,4,3,2],[7,6,5,4,3,2],[],[9,8,7,6,5,4,3,2],[],[11,10,9,8,7,6,5,4,3,2],[12,11,10,9,8,7,6,5,4,3,2],[8,7,6,5,4,3,2,10,9,12,11,13],[3,2,4,5,6,7,14,8,10,9,12,11,13],[15,3,2,4,5,6,7,14,8,10,9,12,11,13],[1,0,16,15,3,2,4,5,6,7,14,8,10,9,12,11,13],[0,1,2,3,4,5,6,7,8,9,10,11,12,13,14,15,16,17],[18,0,1,2,3,4,5,6,7,8,9,10,11,12,13,14,15,16,17]])else([],[])
def HE (ns:List Int)(K:AV->Prop):Prop:=QS T50 QLr (fun _=> .inv ⟨SmX,fun x=>⟨[(2,.x false [.p 2 0]),(3,.x false [.p 3 0]),(11,.x false [.s 1 (ints ns)]),(12,iA .i64 ns.length),(13,iA .i64 x.i)],[(2,.box 34 QNW),(3,.box 34 [.v (.string QR4),.r (mkRat 0 1) 63,.r (mkRat 0 1) 63,.v (.bool false),.r (mkRat 0 1) 63,.w 500 0 x.ls.length]),(500,QCG x.ls)]⟩,fun x=>x.ls=(ns.take x.i).map JC/\x.i<=ns.length,fun x=>ns.length-x.i,fun _=>0⟩) Tryz.f34 [.x false [.s 1 (ints ns)]] K
theorem QAX (ns:List Int)(K:AV->Prop):HE ns K=((((-9223372036854775808:Int)<0/\(0:Int)<9223372036854775808)/\(-9223372036854775808:Int)<0/\(0:Int)<9223372036854775808)/\(((-9223372036854775808:Int)<0/\(0:Int)<9223372036854775808)/\(0:Int)<1/\(1:Int)<9223372036854775808)/\(∃(x:SmX),((x.ls=Ze JC (Zf x.i ns)/\x.i<=ns.length)/\OfNat.ofNat 0=0)/\0=0/\0=0/\1=1/\ints ns=ints ns/\Zc (ints ns).length=Zc ns.length/\0=Zc x.i/\34=34/\Za (Zb [])=Za (Zb [])/\false=false/\Za (Zb [])=Za (Zb [])/\Za (Zb [])=Za (Zb [])/\false=false/\Za (Zb [])=Za (Zb [])/\Za (Zb [])=Za (Zb [])/\false=false/\false=false/\Za (Zb [])=Za (Zb [])/\Za (Zb [])=Za (Zb [])/\Value.slice none 0 0=Value.slice none 0 0/\34=34/\Za (Zb [OfNat.ofNat 111,OfNat.ofNat 110,OfNat.ofNat 101])=Za (Zb [OfNat.ofNat 111,OfNat.ofNat 110,OfNat.ofNat 101])/\(mkRat 0 1,mkRat 0 1).fst=mkRat 0 1/\63<=63/\(mkRat 0 1,mkRat 0 1).snd=mkRat 0 1/\63<=63/\false=false/\mkRat 0 1=mkRat 0 1/\63<=63/\Value.slice none 0 0=Value.slice none 0 0/\0=0/\x.ls.length=0/\Ze QN x.ls=[]/\True)/\∀(x:SmX),x.ls=Ze JC (Zf x.i ns)/\x.i<=ns.length->OfNat.ofNat 0=0->bif decide (Zc x.i<Zc ns.length)then(0<=Zc x.i/\Zc x.i<Zc (ints ns).length)/\∃(d:Int),ldE (ints ns) (Zc x.i).toNat 0 1=some [Ch.v (Value.int IntKind.i64 d)]/\((-9223372036854775808<d/\d<9223372036854775808)/\(0:Int)<1/\(1:Int)<9223372036854775808)/\(((-9223372036854775808:Int)< -2/\(-2:Int)<9223372036854775808)/\(0:Int)<1/\(1:Int)<9223372036854775808)/\(((-9223372036854775808:Int)<2/\(2:Int)<9223372036854775808)/\(0:Int)<1/\(1:Int)<9223372036854775808)/\(((-9223372036854775808:Int)<1/\(1:Int)<9223372036854775808)/\(0:Int)<4/\(4:Int)<9223372036854775808)/\(((-9223372036854775808:Int)<1/\(1:Int)<9223372036854775808)/\(0:Int)<10/\(10:Int)<9223372036854775808)/\(((-9223372036854775808:Int)<0/\(0:Int)<9223372036854775808)/\(-9223372036854775808:Int)< -1/\(-1:Int)<9223372036854775808)/\((-9223372036854775808<d/\d<9223372036854775808)/\(-9223372036854775808:Int)< -1/\(-1:Int)<9223372036854775808)/\((-9223372036854775808<d/\d<9223372036854775808)/\(-9223372036854775808:Int)<1/\(1:Int)<9223372036854775808)/\(((-9223372036854775808:Int)<0/\(0:Int)<9223372036854775808)/\(-9223372036854775808:Int)<1/\(1:Int)<9223372036854775808)/\((x.ls.length+1)*224<=140737488355328/\x.ls.length+1<=9223372036854775807)/\∃(x':SmX),((x'.ls=Ze JC (Zf x'.i ns)/\x'.i<=ns.length)/\OfNat.ofNat 0=0/\ns.length-x'.i<ns.length-x.i)/\0=0/\0=0/\1=1/\ints ns=ints ns/\Zc ns.length=Zc ns.length/\IntKind.i64.wrap (Zc x.i+1)=Zc x'.i/\34=34/\Za (Zb [])=Za (Zb [])/\false=false/\Za (Zb [])=Za (Zb [])/\Za (Zb [])=Za (Zb [])/\false=false/\Za (Zb [])=Za (Zb [])/\Za (Zb [])=Za (Zb [])/\false=false/\false=false/\Za (Zb [])=Za (Zb [])/\Za (Zb [])=Za (Zb [])/\Value.slice none 0 0=Value.slice none 0 0/\34=34/\Za (Zb [OfNat.ofNat 111,OfNat.ofNat 110,OfNat.ofNat 101])=Za (Zb [OfNat.ofNat 111,OfNat.ofNat 110,OfNat.ofNat 101])/\mkRat 0 1=mkRat 0 1/\63<=63/\mkRat 0 1=mkRat 0 1/\63<=63/\false=false/\mkRat 0 1=mkRat 0 1/\63<=63/\0=0/\x.ls.length+1=x'.ls.length/\63=63/\16=16/\(Zf x.ls.length (Ze QN x.ls)++[[Zd (mkRat d 1) 63,Zd (mkRat (-2) 1) 63,Zd (mkRat 2 1) 63,Zd (mkRat 1 4) 63,Zd (mkRat 1 10) 63,Ch.s 6 [[Zd (mkRat 0 1,mkRat (-1) 1).fst 63,Zd (mkRat 0 1,mkRat (-1) 1).snd 63],[Zd (mkRat d 1,mkRat (-1) 1).fst 63,Zd (mkRat d 1,mkRat (-1) 1).snd 63],[Zd (mkRat d 1,mkRat 1 1).fst 63,Zd (mkRat d 1,mkRat 1 1).snd 63],[Zd (mkRat 0 1,mkRat 1 1).fst 63,Zd (mkRat 0 1,mkRat 1 1).snd 63]]]]=Ze QN x'.ls∨QC (Zf x.ls.length (Ze QN x.ls)++[[Zd (mkRat d 1) 63,Zd (mkRat (-2) 1) 63,Zd (mkRat 2 1) 63,Zd (mkRat 1 4) 63,Zd (mkRat 1 10) 63,Ch.s 6 [[Zd (mkRat 0 1,mkRat (-1) 1).fst 63,Zd (mkRat 0 1,mkRat (-1) 1).snd 63],[Zd (mkRat d 1,mkRat (-1) 1).fst 63,Zd (mkRat d 1,mkRat (-1) 1).snd 63],[Zd (mkRat d 1,mkRat 1 1).fst 63,Zd (mkRat d 1,mkRat 1 1).snd 63],[Zd (mkRat 0 1,mkRat 1 1).fst 63,Zd (mkRat 0 1,mkRat 1 1).snd 63]]]]) (Ze QN x'.ls))/\True else K (AV.x true [Ch.v (Value.string (Za (Zb [OfNat.ofNat 111,OfNat.ofNat 110,OfNat.ofNat 101]))),Zd (mkRat 0 1) 63,Zd (mkRat 0 1) 63,Ch.v (Value.bool false),Zd (mkRat 0 1) 63,Ch.s 16 (Zf x.ls.length (List.drop 0 (Ze QN x.ls)))])):=by kernel_rfl
theorem QPZ (ns:List Int)(hc:(ns.length<=3)/\(∀n∈ns,1<=n/\n<=1000))(K:AV->Prop)(hK:K (Ug (XM ns))):QO (HE ns K):=by
 refine⟨?_⟩;rw[QAX];try simp only[Int.ofNat_eq_natCast,R0,R1,Nat.le_refl,R4]
 obtain⟨h1,h2⟩:=hc;have hl:(ints ns).length=ns.length:=QCE ns;simp only[hl];refine⟨by omega,by omega,⟨⟨0,[]⟩,⟨rfl,by simp only;omega⟩,trivial,rfl,rfl,rfl⟩,fun x hx=> ?_⟩;obtain⟨i,ls⟩:=x;obtain⟨hls,hi⟩:=hx;simp only at hls hi⊢;refine QG (fun hp=> ?_) (fun hp=> ?_)
 ·have hp:i<ns.length:=by have:=R5 hp;omega
  obtain⟨n,hn⟩: ∃n,ns[i]? =some n:=⟨_,List.getElem?_eq_getElem hp⟩
  have hb:=h2 n (List.mem_of_getElem? hn);have hll:ls.length<=3:=by rw[hls,Zg,List.length_take];omega
  refine⟨by omega,n,QSN (by simpa using hn),by omega,by omega,by omega,by omega,by omega,by omega,by omega,by omega,by omega,by omega,⟨i+1,ls++[JC n]⟩,⟨⟨by rw[hls,List.take_add_one,hn,List.map_append];rfl,by simp only;omega⟩,by simp only;omega⟩,by rw[w64 (by omega)];simp,by simp,.inl ?_⟩;rw[List.take_of_length_le (by rw[Zg];exact Nat.le_refl _),List.map_append];rfl
 ·have hp:i=ns.length:=by have:=R6 hp;omega
  subst hp;rw[List.take_length]at hls;rw[List.drop_zero,List.take_of_length_le (by rw[Zg];exact Nat.le_refl _),hls];exact hK
def V0:Ctr
 | [.x false [.s 1 xs]]=>some fun K=> ∃(ns:List Int),xs=ints ns/\((ns.length<=3)/\(∀n∈ns,1<=n/\n<=1000))/\(K (Ug (XM ns)))
 | _=>none
theorem QCV:QI 34 V0:=by
 refine⟨QK Tryz.func34 (by kernel_rfl),fun l T hT K hK=> ?_⟩;unfold V0 at hT;split at hT
 ·cases hT
  obtain⟨ns,rfl,hc,hK⟩:=hK;exact QF Qfa QP Tryz.func34 (by kernel_rfl) (by kernel_rfl) (by rfl) (QPZ _ hc K hK)
 ·cases hT
def L51:List (Nat×Ctr):=(34,V0)::L50
theorem Qfb:QH L51:= .cons QCV QZ3
def L52:List (Nat×Ctr):=L51
noncomputable def T52:QR:=mkT L52 M48 X4
theorem Qfc:QH L52:=Qfb
end Go.Proofs
