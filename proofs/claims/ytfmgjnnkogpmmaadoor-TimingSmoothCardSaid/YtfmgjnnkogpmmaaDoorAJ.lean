/- The sample arm; the length of an arm. -/
import Derived.Test.YtfmgjnnkogpmmaaDoorA1
open ByteArray renaming mk → Za
open Array renaming mk → Zb
open Int renaming ofNat → Zc
open Go.Eng.Ch renaming r → Zd
open List renaming map → Ze, take → Zf, length_map → Zg
namespace Go.Proofs
open Go Go.Eng
def pt1 (x y:Int):Rat×Rat:=(mkRat x 1,mkRat y 1)
def VC (n:Int):Qv:=⟨mkRat n 1,mkRat (-2) 1,mkRat 2 1,mkRat 1 4,mkRat 1 10,[pt1 0 (-1),pt1 n (-1),pt1 n 1,pt1 0 1]⟩
def Xv (ns:List Int):Qb:=⟨QKK,mkRat 0 1,mkRat 0 1,false,mkRat 0 1,ns.map VC⟩
structure SmX where
 i:Nat
 ls:List Qv
theorem QPl {l:List Int}{i:Nat}{n:Int}(h:l[i]? =some n):ldE (ints l) i 0 1=some [.v (.int .i64 n)]:=by
 simp only[ldE,ints,List.getElem?_map,h];rfl
theorem QH8:([3,2,5,1]:List Int).all (fun n=>QDZ (VC n).shape)=true:=by decide+kernel
theorem QFf {n:Int}(h:n∈([3,2,5,1]:List Int)):Jh (VC n):=by
 have hp:=Gd (List.all_eq_true.1 QH8 n h);have hn:1<=n/\n<=1000:=by simp at h;omega
 refine⟨⟨?_,?_,?_,?_,?_⟩,?_,?_,?_,?_,hp,fun p hp=> ?_⟩
 ·exact XG (by omega) (by decide)
 ·exact XG (by decide) (by decide)
 ·exact XG (by decide) (by decide)
 ·exact XG (by decide) (by decide)
 ·exact XG (by decide) (by decide)
 ·exact YJ (by omega) (by decide)
 ·show mkRat (-2) 1<mkRat 2 1
  decide+kernel
 ·exact YJ (by decide) (by decide)
 ·exact YJ (by decide) (by decide)
 ·have c: ∀x y:Int,x.natAbs<=1000000->y.natAbs<=1000000->Xu (pt1 x y).1/\Xu (pt1 x y).2:=fun x y hx hy=>⟨XG hx (by decide),XG hy (by decide)⟩;simp only[VC,List.mem_cons,List.not_mem_nil,or_false]at hp;rcases hp with rfl | rfl | rfl | rfl<;>exact c _ _ (by omega) (by omega)
theorem QDh {ns:List Int}(h1:1<=ns.length/\ns.length<=3)(h2: ∀n∈ns,n∈([3,2,5,1]:List Int)):Ql (Xv ns):=by
 refine⟨QGP,by simpa [Xv]using h1,⟨?_,?_,?_⟩,fun h=>Bool.noConfusion h,fun L hL=> ?_⟩
 ·exact XG (by decide) (by decide)
 ·exact XG (by decide) (by decide)
 ·exact XG (by decide) (by decide)
 ·obtain⟨n,hn,rfl⟩:=List.mem_map.1 hL;exact QFf (h2 n hn)
abbrev QOO (x y:Int)(K:AV->Prop):Prop:=(((-9223372036854775808<x/\x<9223372036854775808)/\ -9223372036854775808<y/\y<9223372036854775808))/\(K (.x true (Jt (pt1 x y))))
theorem QRB (x y:Int)(K:AV->Prop)(hK:QOO x y K):QU (Qc T49 (oF Tryd.f64) noL Tryd.f64 [iA .i64 x,iA .i64 y] K):=by
 obtain⟨hc,hK⟩:=hK;refine HV ((((-9223372036854775808<x/\x<9223372036854775808)/\(0:Int)<1/\(1:Int)<9223372036854775808)/\((-9223372036854775808<y/\y<9223372036854775808)/\(0:Int)<1/\(1:Int)<9223372036854775808)/\K (AV.x true [Zd (mkRat x 1) 63,Zd (mkRat y 1) 63]))) ?_
 try simp only[Int.ofNat_eq_natCast,R0,R1,Nat.zero_add,Nat.le_refl,R4,R2,R3]
 exact⟨by omega,by omega,hK⟩
def QKo:Ctr
 | [.x false [.v (.int .i64 x)],.x false [.v (.int .i64 y)]]=>some fun K=>QOO x y K
 | _=>none
theorem QPm:QT 64 QKo:=by
 refine okL Tryd.func64 fun l T hT K hK=> ?_
 unfold QKo at hT;split at hT<;>cases hT
 exact spL QKa QW Tryd.func64 (QRB _ _ K hK)
def L50:LC:=(64,QKo)::L49
theorem QOP:QN L50:= .cons QPm QGU
set_option maxHeartbeats 1000000 in
theorem QH9 (ns:List Int)(hc:(ns.length<=3)/\(∀n∈ns,1<=n/\n<=1000))(K:AV->Prop)(hK:K (WW (Xv ns))):QU (Qc (mkT L50 M48 X4) (oF Tryd.f40) (fun _=> .inv ⟨SmX,fun x=>⟨[(2,.x false [.p 2 0]),(3,.x false [.p 3 0]),(11,.x false [.s 1 (ints ns)]),(12,iA .i64 ns.length),(13,iA .i64 x.i)],[(2,.box 48 QGM),(3,.box 48 [.v (.string QKK),.r (mkRat 0 1) 63,.r (mkRat 0 1) 63,.v (.bool false),.r (mkRat 0 1) 63,.w 500 0 x.ls.length]),(500,QDW x.ls)]⟩,fun x=>x.ls=(ns.take x.i).map VC/\x.i<=ns.length,fun x=>ns.length-x.i,fun _=>0⟩) Tryd.f40 [.x false [.s 1 (ints ns)]] K):=by
 refine HV (((((-9223372036854775808:Int)<0/\(0:Int)<9223372036854775808)/\(-9223372036854775808:Int)<0/\(0:Int)<9223372036854775808)/\(((-9223372036854775808:Int)<0/\(0:Int)<9223372036854775808)/\(0:Int)<1/\(1:Int)<9223372036854775808)/\(∃(x:SmX),((x.ls=Ze VC (Zf x.i ns)/\x.i<=ns.length)/\OfNat.ofNat 0=0)/\0=0/\0=0/\1=1/\ints ns=ints ns/\Zc (ints ns).length=Zc ns.length/\0=Zc x.i/\48=48/\Za (Zb [])=Za (Zb [])/\false=false/\Za (Zb [])=Za (Zb [])/\Za (Zb [])=Za (Zb [])/\false=false/\Za (Zb [])=Za (Zb [])/\Za (Zb [])=Za (Zb [])/\false=false/\false=false/\Za (Zb [])=Za (Zb [])/\Za (Zb [])=Za (Zb [])/\Value.slice none 0 0=Value.slice none 0 0/\48=48/\Za (Zb [OfNat.ofNat 111,OfNat.ofNat 110,OfNat.ofNat 101])=Za (Zb [OfNat.ofNat 111,OfNat.ofNat 110,OfNat.ofNat 101])/\(mkRat 0 1,mkRat 0 1).fst=mkRat 0 1/\63<=63/\(mkRat 0 1,mkRat 0 1).snd=mkRat 0 1/\63<=63/\false=false/\mkRat 0 1=mkRat 0 1/\63<=63/\Value.slice none 0 0=Value.slice none 0 0/\0=0/\x.ls.length=0/\Ze QC x.ls=[]/\True)/\∀(x:SmX),x.ls=Ze VC (Zf x.i ns)/\x.i<=ns.length->OfNat.ofNat 0=0->bif decide (Zc x.i<Zc ns.length)then(0<=Zc x.i/\Zc x.i<Zc (ints ns).length)/\∃(d:Int),ldE (ints ns) (Zc x.i).toNat 0 1=some [Ch.v (Value.int IntKind.i64 d)]/\((-9223372036854775808<d/\d<9223372036854775808)/\(0:Int)<1/\(1:Int)<9223372036854775808)/\(((-9223372036854775808:Int)< -2/\(-2:Int)<9223372036854775808)/\(0:Int)<1/\(1:Int)<9223372036854775808)/\(((-9223372036854775808:Int)<2/\(2:Int)<9223372036854775808)/\(0:Int)<1/\(1:Int)<9223372036854775808)/\(((-9223372036854775808:Int)<1/\(1:Int)<9223372036854775808)/\(0:Int)<4/\(4:Int)<9223372036854775808)/\(((-9223372036854775808:Int)<1/\(1:Int)<9223372036854775808)/\(0:Int)<10/\(10:Int)<9223372036854775808)/\(((-9223372036854775808:Int)<0/\(0:Int)<9223372036854775808)/\(-9223372036854775808:Int)< -1/\(-1:Int)<9223372036854775808)/\((-9223372036854775808<d/\d<9223372036854775808)/\(-9223372036854775808:Int)< -1/\(-1:Int)<9223372036854775808)/\((-9223372036854775808<d/\d<9223372036854775808)/\(-9223372036854775808:Int)<1/\(1:Int)<9223372036854775808)/\(((-9223372036854775808:Int)<0/\(0:Int)<9223372036854775808)/\(-9223372036854775808:Int)<1/\(1:Int)<9223372036854775808)/\((x.ls.length+1)*224<=140737488355328/\x.ls.length+1<=9223372036854775807)/\∃(x':SmX),((x'.ls=Ze VC (Zf x'.i ns)/\x'.i<=ns.length)/\OfNat.ofNat 0=0/\ns.length-x'.i<ns.length-x.i)/\0=0/\0=0/\1=1/\ints ns=ints ns/\Zc ns.length=Zc ns.length/\IntKind.i64.wrap (Zc x.i+1)=Zc x'.i/\48=48/\Za (Zb [])=Za (Zb [])/\false=false/\Za (Zb [])=Za (Zb [])/\Za (Zb [])=Za (Zb [])/\false=false/\Za (Zb [])=Za (Zb [])/\Za (Zb [])=Za (Zb [])/\false=false/\false=false/\Za (Zb [])=Za (Zb [])/\Za (Zb [])=Za (Zb [])/\Value.slice none 0 0=Value.slice none 0 0/\48=48/\Za (Zb [OfNat.ofNat 111,OfNat.ofNat 110,OfNat.ofNat 101])=Za (Zb [OfNat.ofNat 111,OfNat.ofNat 110,OfNat.ofNat 101])/\mkRat 0 1=mkRat 0 1/\63<=63/\mkRat 0 1=mkRat 0 1/\63<=63/\false=false/\mkRat 0 1=mkRat 0 1/\63<=63/\0=0/\x.ls.length+1=x'.ls.length/\88=88/\16=16/\(Zf x.ls.length (Ze QC x.ls)++[[Zd (mkRat d 1) 63,Zd (mkRat (-2) 1) 63,Zd (mkRat 2 1) 63,Zd (mkRat 1 4) 63,Zd (mkRat 1 10) 63,Ch.s 6 [[Zd (mkRat 0 1,mkRat (-1) 1).fst 63,Zd (mkRat 0 1,mkRat (-1) 1).snd 63],[Zd (mkRat d 1,mkRat (-1) 1).fst 63,Zd (mkRat d 1,mkRat (-1) 1).snd 63],[Zd (mkRat d 1,mkRat 1 1).fst 63,Zd (mkRat d 1,mkRat 1 1).snd 63],[Zd (mkRat 0 1,mkRat 1 1).fst 63,Zd (mkRat 0 1,mkRat 1 1).snd 63]]]]=Ze QC x'.ls∨QG (Zf x.ls.length (Ze QC x.ls)++[[Zd (mkRat d 1) 63,Zd (mkRat (-2) 1) 63,Zd (mkRat 2 1) 63,Zd (mkRat 1 4) 63,Zd (mkRat 1 10) 63,Ch.s 6 [[Zd (mkRat 0 1,mkRat (-1) 1).fst 63,Zd (mkRat 0 1,mkRat (-1) 1).snd 63],[Zd (mkRat d 1,mkRat (-1) 1).fst 63,Zd (mkRat d 1,mkRat (-1) 1).snd 63],[Zd (mkRat d 1,mkRat 1 1).fst 63,Zd (mkRat d 1,mkRat 1 1).snd 63],[Zd (mkRat 0 1,mkRat 1 1).fst 63,Zd (mkRat 0 1,mkRat 1 1).snd 63]]]]) (Ze QC x'.ls))/\True else K (AV.x true [Ch.v (Value.string (Za (Zb [OfNat.ofNat 111,OfNat.ofNat 110,OfNat.ofNat 101]))),Zd (mkRat 0 1) 63,Zd (mkRat 0 1) 63,Ch.v (Value.bool false),Zd (mkRat 0 1) 63,Ch.s 16 (Zf x.ls.length (List.drop 0 (Ze QC x.ls)))]))) ?_
 try simp only[Int.ofNat_eq_natCast,R0,R1,Nat.le_refl,R4]
 obtain⟨h1,h2⟩:=hc;have hl:(ints ns).length=ns.length:=QDV ns;simp only[hl];refine⟨by omega,by omega,⟨⟨0,[]⟩,⟨rfl,by simp only;omega⟩,trivial,rfl,rfl,rfl⟩,fun x hx=> ?_⟩;obtain⟨i,ls⟩:=x;obtain⟨hls,hi⟩:=hx;simp only at hls hi⊢;refine QE (fun hp=> ?_) (fun hp=> ?_)
 ·have hp:i<ns.length:=by have:=R5 hp;omega
  obtain⟨n,hn⟩: ∃n,ns[i]? =some n:=⟨_,List.getElem?_eq_getElem hp⟩
  have hb:=h2 n (List.mem_of_getElem? hn);have hll:ls.length<=3:=by rw[hls,Zg,List.length_take];omega
  refine⟨by omega,n,QPl (by simpa using hn),by omega,by omega,by omega,by omega,by omega,by omega,by omega,by omega,by omega,by omega,⟨i+1,ls++[VC n]⟩,⟨⟨by rw[hls,List.take_add_one,hn,List.map_append];rfl,by simp only;omega⟩,by simp only;omega⟩,by rw[w64 (by omega)];simp,by simp,.inl ?_⟩;rw[List.take_of_length_le (by rw[Zg];exact Nat.le_refl _),List.map_append];rfl
 ·have hp:i=ns.length:=by have:=R6 hp;omega
  subst hp;rw[List.take_length]at hls;rw[List.drop_zero,List.take_of_length_le (by rw[Zg];exact Nat.le_refl _),hls];exact hK
def Ua:Ctr
 | [.x false [.s 1 xs]]=>some fun K=> ∃(ns:List Int),xs=ints ns/\((ns.length<=3)/\(∀n∈ns,1<=n/\n<=1000))/\(K (WW (Xv ns)))
 | _=>none
theorem QFg:QT 40 Ua:=by
 refine okL Tryd.func40 fun l T hT K hK=> ?_
 unfold Ua at hT;split at hT<;>cases hT
 obtain⟨ns,rfl,hc,hK⟩:=hK;exact spL (Qq QOP VA XP) QW Tryd.func40 (QH9 _ hc K hK)
def L51:LC:=(40,Ua)::L50
theorem QRC:QN L51:= .cons QFg QOP
def L52:LC:=L51
noncomputable def T52:Qh:=mkT L52 M48 X4
theorem QRD:QN L52:=QRC
end Go.Proofs
