/- The stream of raw numbers. -/
import Derived.Test.YtfhfenokfkenoaaGreatDoorR1
open Go.IntKind renaming i64 → Za
open Int renaming ofNat → Zb, ofNat_eq_natCast → Zg, toNat_natCast → Zs
open List renaming map → Zc, getElem?_eq_getElem → Zi, length_map → Zm, not_mem_nil → Zo, take_of_length_le → Zr, length_cons → Zt, mem_cons → Zu, mem_of_getElem? → Zv, take → Zx, getD_eq_getElem?_getD → Zy, getElem?_map → Zz
open ByteArray renaming mk → Zd
open Go.Eng.Ch renaming r → Ze, v → Zl, s → Ya
open Array renaming mk → Zf
open Go.Value renaming int → Zh, bool → Zk, slice → Zn, string → Zw
open Nat renaming le_refl → Zj, zero_add → Zq
open Go.Eng.AV renaming x → Zp
namespace Go.Proofs
open Go Go.Eng
def ints (l:List Int):List (List Ch):=l.map fun n=>[Zl (.int .i64 n)]
def stB (l:List Int):Blk:= .box 38 [.s 1 (ints l)]
def QLi (l:List Int)(n:Int):Int:=match l with | []=>0 | x::_=>x % n
def QE3 (l:List Int)(n:Int):Prop:=JM (X:=Unit) T26 noO noL Tryz.f12 [.x false [.p 1000 0],iA .i64 n] [(1000,stB l)] (fun _=>True) (fun _=>⟨[(4,iA .i64 (QLi l n))],[(1000,stB l.tail)]⟩)
theorem QGl (l:List Int)(n:Int):QE3 l n=(bif Zb (ints l).length==0 then ∃(x:Unit),True/\0=QLi l n/\38=38/\1=1/\ints l=ints l.tail/\True else bif decide (n<1)then ∃(x:Unit),True/\0=QLi l n/\38=38/\1=1/\ints l=ints l.tail/\True else((0:Int)<=0/\0<Zb (ints l).length)/\∃(d:Int),ldE (ints l) 0 0 1=some [Zl (Zh Za d)]/\((0:Int)<=1/\1<=Zb (ints l).length/\Zb (ints l).length<=Zb (ints l).length)/\(0<n/\n<9223372036854775808)/\∃(x:Unit),True/\d%n=QLi l n/\38=38/\1=1/\Zx ((Zb (ints l).length).toNat-1) (List.drop 1 (ints l))=ints l.tail/\True):=by kernel_rfl
theorem QCE (l:List Int):(ints l).length=l.length:=by simp[ints]
theorem QLj {l:List Int}{n:Int}(hn:1<=n):0<=QLi l n/\QLi l n<n:=by
 unfold QLi;split
 ·omega
 ·rename_i x l';exact⟨Int.emod_nonneg x (by omega),Int.emod_lt_of_pos x (by omega)⟩
theorem Qbu (l:List Int)(n:Int)(hn:1<=n/\n<9223372036854775808)(hl:l.length<=9223372036854775807):QO (QE3 l n):=by
 refine⟨?_⟩;rw[QGl];simp only[Zg,R0,R1];simp only[QCE];cases l with
 | nil=>exact⟨(),rfl,rfl⟩
 | cons x l=>
  refine QG (fun h=> ?_) (fun _=>QG (fun h=> ?_) (fun _=>⟨by simp,x,rfl,by simp only[Zt];omega,⟨by omega,hn.2⟩,(),rfl,?_⟩))
  ·simp at h;omega
  ·have:=R5 h;omega
  ·simp only[Zt,List.tail_cons,ints,List.map_cons,List.drop_succ_cons,List.drop_zero];exact Zr (by simp)
def QLk:YA:=fun as0 H _=>match as0 with
  | [.x false [.p k o],.x false [.v (.int .i64 n)]]=>match o with
    | 0=>match H k with
      | some (.box t [.s 1 xs])=>bif t.beq 38 then
          some fun K=> ∃l,xs=ints l/\(1<=n/\n<9223372036854775808)/\l.length<=9223372036854775807/\ ∀(r:Int) (l':List Int),(0<=r/\r<n)->l'.length<=l.length->K (iA .i64 r) (XS [(1000,k)] (QW [(1000,stB l')]) H)
          else none
      | _=>none
    | _+1=>none
  | _=>none
theorem QWs:WG 12 QLk:=by
 refine⟨QK Tryz.func12 (by kernel_rfl),fun l H d T hT K hK=> ?_⟩;unfold QLk at hT;split at hT
 ·rename_i k o n;split at hT
  ·split at hT
   ·rename_i t xs e1;cases hb:t.beq 38 with
    | false=>rw[hb]at hT;cases hT
    | true=>
     rw[hb]at hT;cases hT
     have ht:=Nat.eq_of_beq_eq_true hb;subst ht;obtain⟨l,rfl,hn,hl,hK⟩:=hK;refine Xr (R:=[(1000,k)]) (N:=[]) (Hl:=[(1000,stB l)]) QfE QP Tryz.func12 (by kernel_rfl) (by kernel_rfl) (by rfl)
      (as0:=[.x false [.p 1000 0],iA .i64 n]) ?_ (Gs e1 rfl rfl) rfl (by simp) (by simp) (fun _ h=>by cases h) (fun x=>⟨fun p hp=> ?_,fun p hp b hb=> ?_⟩) (Qbu l n hn hl) (fun _ _=> ?_)
     ·simp[Ju,Jt,Jc,lkB,iA]
     ·simp at hp;subst hp;exact fun h=>by have h':some (stB _)=none:=h;cases h'
     ·simp at hp;subst hp;have h':some (stB _)=some b:=hb;cases h';rfl
     ·exact⟨_,rfl,hK _ _ (QLj hn.1) (by rw[List.length_tail];omega)⟩
   ·cases hT
  ·cases hT
 ·cases hT
def M30:List (Nat×YA):=(12,QLk)::M23
noncomputable def T30:QR:=mkT L26 M30 X4
theorem QNV:X6 M30:= .cons QWs QI7
theorem QfF:QJ T30:=QU QRy QNV Ql
end Go.Proofs
namespace Go.Proofs
open Go Go.Eng
def Xn (n:Nat)(p:Rat×Rat):List Ch:=[.r p.1 n,.r p.2 n]
abbrev XQ:Rat×Rat->List Ch:=Xn 63
def at4 (x y:Int):Rat×Rat:=(mkRat x 4,mkRat y 4)
def Qbv:OT:=fun _=>([],[])
def QJE (x y:Int)(K:AV->Prop):Prop:=QS T30 Qbv noL Tryz.f118 [iA .i64 x,iA .i64 y] K
theorem QJF (x:Int)(y:Int)(K:AV->Prop):QJE x y K=(((-9223372036854775808<x/\x<9223372036854775808)/\(0:Int)<4/\(4:Int)<9223372036854775808)/\((-9223372036854775808<y/\y<9223372036854775808)/\(0:Int)<4/\(4:Int)<9223372036854775808)/\K (Zp true [Ze (mkRat x 4) 63,Ze (mkRat y 4) 63])):=by kernel_rfl
theorem QfG (x y:Int)(hc:((-9223372036854775808<x/\x<9223372036854775808)/\ -9223372036854775808<y/\y<9223372036854775808))(K:AV->Prop)(hK:K (.x true (XQ (at4 x y)))):QO (QJE x y K):=by
 refine⟨?_⟩;rw[QJF];try simp only[Zg,R0,R1,Zq,Zj,R4,R2,R3]
 exact⟨by omega,by omega,hK⟩
def QR0:Ctr
 | [.x false [.v (.int .i64 x)],.x false [.v (.int .i64 y)]]=>some fun K=>(((-9223372036854775808<x/\x<9223372036854775808)/\ -9223372036854775808<y/\y<9223372036854775808))/\(K (.x true (XQ (at4 x y))))
 | _=>none
theorem Qbw:QI 118 QR0:=by
 refine⟨QK Tryz.func118 (by kernel_rfl),fun l T hT K hK=> ?_⟩;unfold QR0 at hT;split at hT
 ·cases hT
  obtain⟨hc,hK⟩:=hK;exact QF QfF QP Tryz.func118 (by kernel_rfl) (by kernel_rfl) (by rfl) (QfG _ _ hc K hK)
 ·cases hT
def L31:List (Nat×Ctr):=(118,QR0)::L26
noncomputable def T31:QR:=mkT L31 M30 X4
theorem QZo:QH L31:= .cons Qbw QRy
theorem QfH:QJ T31:=QU QZo QNV Ql
def QJG (x y u v:Int):List (Rat×Rat):=[at4 x y,at4 u y,at4 u v,at4 x v]
def QR1:OT:=fun _=>([],[])
def QCF (x y u v:Int)(K:AV->Prop):Prop:=QS T31 QR1 noL Tryz.f119 [iA .i64 x,iA .i64 y,iA .i64 u,iA .i64 v] K
theorem QDq (x:Int)(y:Int)(u:Int)(v:Int)(K:AV->Prop):QCF x y u v K=(((-9223372036854775808<x/\x<9223372036854775808)/\ -9223372036854775808<y/\y<9223372036854775808)/\((-9223372036854775808<u/\u<9223372036854775808)/\ -9223372036854775808<y/\y<9223372036854775808)/\((-9223372036854775808<u/\u<9223372036854775808)/\ -9223372036854775808<v/\v<9223372036854775808)/\((-9223372036854775808<x/\x<9223372036854775808)/\ -9223372036854775808<v/\v<9223372036854775808)/\K (Zp false [Ya 6 [[Ze (mkRat x 4,mkRat y 4).fst 63,Ze (mkRat x 4,mkRat y 4).snd 63],[Ze (mkRat u 4,mkRat y 4).fst 63,Ze (mkRat u 4,mkRat y 4).snd 63],[Ze (mkRat u 4,mkRat v 4).fst 63,Ze (mkRat u 4,mkRat v 4).snd 63],[Ze (mkRat x 4,mkRat v 4).fst 63,Ze (mkRat x 4,mkRat v 4).snd 63]]])):=by kernel_rfl
theorem QWt (x y u v:Int)(hc:((-9223372036854775808<x/\x<9223372036854775808)/\ -9223372036854775808<y/\y<9223372036854775808)/\((-9223372036854775808<u/\u<9223372036854775808)/\ -9223372036854775808<v/\v<9223372036854775808))(K:AV->Prop)(hK:K (.x false [.s 6 ((QJG x y u v).map XQ)])):QO (QCF x y u v K):=by
 refine⟨?_⟩;rw[QDq];try simp only[]
 exact⟨by omega,by omega,by omega,by omega,hK⟩
def QGm:Ctr
 | [.x false [.v (.int .i64 x)],.x false [.v (.int .i64 y)],.x false [.v (.int .i64 u)],.x false [.v (.int .i64 v)]]=>some fun K=>(((-9223372036854775808<x/\x<9223372036854775808)/\ -9223372036854775808<y/\y<9223372036854775808)/\((-9223372036854775808<u/\u<9223372036854775808)/\ -9223372036854775808<v/\v<9223372036854775808))/\(K (.x false [.s 6 ((QJG x y u v).map XQ)]))
 | _=>none
theorem QR2:QI 119 QGm:=by
 refine⟨QK Tryz.func119 (by kernel_rfl),fun l T hT K hK=> ?_⟩;unfold QGm at hT;split at hT
 ·cases hT
  obtain⟨hc,hK⟩:=hK;exact QF QfH QP Tryz.func119 (by kernel_rfl) (by kernel_rfl) (by rfl) (QWt _ _ _ _ hc K hK)
 ·cases hT
def L32:List (Nat×Ctr):=(119,QGm)::L31
noncomputable def T32:QR:=mkT L32 M30 X4
theorem QR3:QH L32:= .cons QR2 QZo
theorem QfI:QJ T32:=QU QR3 QNV Ql
structure Qw where
 len:Rat
 lo:Rat
 hi:Rat
 sp:Rat
 br:Rat
 shape:List (Rat×Rat)
def QN (L:Qw):List Ch:=[.r L.len 63,.r L.lo 63,.r L.hi 63,.r L.sp 63,.r L.br 63,.s 6 (L.shape.map XQ)]
structure Qs where
 name:ByteArray
 x:Rat
 y:Rat
 half:Bool
 t:Rat
 links:List Qw
def WH (a:Qs):List Ch:=[.v (.string a.name),.r a.x 63,.r a.y 63,.v (.bool a.half),.r a.t 63,.s 16 (a.links.map QN)]
def Ug (a:Qs):AV:= .x true (WH a)
def QWu (a:Qs)(k:Nat):List Ch:=[.v (.string a.name),.r a.x 63,.r a.y 63,.v (.bool a.half),.r a.t 63,.w k 0 a.links.length]
def QNW:List Ch:=[.v (.string ⟨⟨[]⟩⟩)]++Jw++Jw++[.v (.bool false)]++Jw++[.v (.slice none 0 0)]
def Vh (long i j s b:Int)(tri:Bool):Qw:=⟨mkRat long 4,mkRat (-1-i) 3,mkRat (1+j) 3,mkRat 1 (4+s).toNat,mkRat 1 (10+b).toNat,bif tri then[at4 (-1) (-1),at4 (long+1) 0,at4 (-1) 1]else QJG (-1) (-1) (long+1) 1⟩
def MadeLink (L:Qw):Prop:= ∃r i j s b:Int,∃tri,(0<=r/\r<4)/\(0<=i/\i<6)/\(0<=j/\j<6)/\(0<=s/\s<8)/\(0<=b/\b<20)/\L=Vh (4+2*r) i j s b tri
def QR4:ByteArray:=⟨⟨[111,110,101]⟩⟩
structure Made (a:Qs):Prop where
 name:a.name=QR4
 x:a.x=mkRat 0 4
 y:a.y=mkRat 0 4
 half:a.half=false
 t: ∃c d:Int,(-1<=c/\c<=1)/\(1<=d/\d<=3)/\a.t=mkRat c d.toNat
 n:a.links.length<=3
 links: ∀L∈a.links,MadeLink L
def QCG (l:List Qw):Blk:= .row 63 16 (l.map QN)
structure MkX where
 a:Qs
 l:List Int
 n:Nat
def QR5 (l:List Int):LI:=fun _=> .inv ⟨MkX,fun x=>⟨[(0,.x false [.p 1000 0]),(4,.x false [.p 4 0]),(5,.x false [.p 5 0]),(30,iA .i64 x.n),(31,iA .i64 x.a.links.length)],
 [(1000,stB x.l),(4,.box 34 QNW),(5,.box 34 (QWu x.a 500)),(500,QCG x.a.links)]⟩,fun x=>Made x.a/\x.l.length<=l.length/\x.a.links.length<=x.n/\1<=x.n/\x.n<=3,fun x=>x.n-x.a.links.length,fun _=>0⟩
def QWv:OT:=fun id=>bif id.beq 2 then([0,1,3,4,8,2,5,6,7,9,10,11,12,13,14,15],[[],[0],[1,0],[],[],[4,2,1,0],[3,5,4,2,1,0],[6,3,5,4,2,1,0],[],[8,5,4,2,1,0],[9,8,5,4,2,1,0],[7,6,3,5,4,2,1,0,10,9,8],[11,7,6,3,5,4,2,1,0,10,9,8],[2,1,0,12,11,7,6,3,5,4,10,9,8],[0,1,2,3,4,5,6,7,8,9,10,11,12,13],[14,0,1,2,3,4,5,6,7,8,9,10,11,12,13]])else([],[])
def QE4 (l:List Int):Prop:=JM (X:=Qs×List Int) T32 QWv (QR5 l) Tryz.f62 [.x false [.p 1000 0],iA .i64 0] [(1000,stB l)] (fun x=>(Made x.1/\1<=x.1.links.length)/\x.2.length<=l.length) (fun x=>⟨[(4,.x false [.p 4 0])],[(1000,stB x.2),(4,.box 34 (QWu x.1 500)),(500,QCG x.1.links)]⟩)
theorem QGn (l:List Int):QE4 l=(((0:Int)<=0/\(0:Int)<4)/\∃(b:ByteArray),some [Zl (Zw (Zd (Zf [OfNat.ofNat 111,OfNat.ofNat 110,OfNat.ofNat 101])))]=some [Zl (Zw b)]/\(((-9223372036854775808:Int)<0/\(0:Int)<9223372036854775808)/\(-9223372036854775808:Int)<0/\(0:Int)<9223372036854775808)/\∃(l_1:List Int),ints l=ints l_1/\((1:Int)<=4/\(4:Int)<9223372036854775808)/\l_1.length<=9223372036854775807/\∀(r:Int) (l':List Int),0<=r/\r<4->l'.length<=l_1.length->(0<=r/\r<4)/\∃(d:Int),ldE [[Zl (Zh Za 0)],[Zl (Zh Za 1)],[Zl (Zh Za (-1))],[Zl (Zh Za 1)]] (0+r.toNat) 0 1=some [Zl (Zh Za d)]/\∃(l_2:List Int),ints l'=ints l_2/\((1:Int)<=3/\(3:Int)<9223372036854775808)/\l_2.length<=9223372036854775807/\∀(r:Int) (l':List Int),0<=r/\r<3->l'.length<=l_2.length->((-9223372036854775808<d/\d<9223372036854775808)/\0<Za.wrap (1+r)/\Za.wrap (1+r)<9223372036854775808)/\∃(l_3:List Int),ints l'=ints l_3/\((1:Int)<=3/\(3:Int)<9223372036854775808)/\l_3.length<=9223372036854775807/\∀(r_1:Int) (l':List Int),0<=r_1/\r_1<3->l'.length<=l_3.length->(∃(x:MkX),((Made x.a/\x.l.length<=l.length/\x.a.links.length<=x.n/\1<=x.n/\x.n<=3)/\OfNat.ofNat 0=0)/\0=0/\0=0/\0=0/\Za.wrap (1+r_1)=Zb x.n/\0=Zb x.a.links.length/\38=38/\1=1/\ints l'=ints x.l/\34=34/\Zd (Zf [])=Zd (Zf [])/\false=false/\Zd (Zf [])=Zd (Zf [])/\Zd (Zf [])=Zd (Zf [])/\false=false/\Zd (Zf [])=Zd (Zf [])/\Zd (Zf [])=Zd (Zf [])/\false=false/\false=false/\Zd (Zf [])=Zd (Zf [])/\Zd (Zf [])=Zd (Zf [])/\Zn none 0 0=Zn none 0 0/\34=34/\b=x.a.name/\(mkRat 0 4,mkRat 0 4).fst=x.a.x/\63<=63/\(mkRat 0 4,mkRat 0 4).snd=x.a.y/\63<=63/\false=x.a.half/\mkRat d (Za.wrap (1+r)).toNat=x.a.t/\63<=63/\Zn none 0 0=Zn none 0 0/\0=0/\x.a.links.length=0/\Zc QN x.a.links=[]/\True)/\∀(x:MkX),Made x.a/\x.l.length<=l.length/\x.a.links.length<=x.n/\1<=x.n/\x.n<=3->OfNat.ofNat 0=0->bif decide (Zb x.a.links.length<Zb x.n)then ∃(l_4:List Int),ints x.l=ints l_4/\((1:Int)<=4/\(4:Int)<9223372036854775808)/\l_4.length<=9223372036854775807/\∀(r:Int) (l':List Int),0<=r/\r<4->l'.length<=l_4.length->((-9223372036854775808<Za.wrap (4+Za.wrap (2*r))/\Za.wrap (4+Za.wrap (2*r))<9223372036854775808)/\(0:Int)<4/\(4:Int)<9223372036854775808)/\∃(l_5:List Int),ints l'=ints l_5/\((1:Int)<=6/\(6:Int)<9223372036854775808)/\l_5.length<=9223372036854775807/\∀(r_2:Int) (l':List Int),0<=r_2/\r_2<6->l'.length<=l_5.length->((-9223372036854775808<Za.wrap (-1-r_2)/\Za.wrap (-1-r_2)<9223372036854775808)/\(0:Int)<3/\(3:Int)<9223372036854775808)/\∃(l_6:List Int),ints l'=ints l_6/\((1:Int)<=6/\(6:Int)<9223372036854775808)/\l_6.length<=9223372036854775807/\∀(r_3:Int) (l':List Int),0<=r_3/\r_3<6->l'.length<=l_6.length->((-9223372036854775808<Za.wrap (1+r_3)/\Za.wrap (1+r_3)<9223372036854775808)/\(0:Int)<3/\(3:Int)<9223372036854775808)/\∃(l_7:List Int),ints l'=ints l_7/\((1:Int)<=8/\(8:Int)<9223372036854775808)/\l_7.length<=9223372036854775807/\∀(r_4:Int) (l':List Int),0<=r_4/\r_4<8->l'.length<=l_7.length->(((-9223372036854775808:Int)<1/\(1:Int)<9223372036854775808)/\0<Za.wrap (4+r_4)/\Za.wrap (4+r_4)<9223372036854775808)/\∃(l_8:List Int),ints l'=ints l_8/\((1:Int)<=20/\(20:Int)<9223372036854775808)/\l_8.length<=9223372036854775807/\∀(r_5:Int) (l':List Int),0<=r_5/\r_5<20->l'.length<=l_8.length->(((-9223372036854775808:Int)<1/\(1:Int)<9223372036854775808)/\0<Za.wrap (10+r_5)/\Za.wrap (10+r_5)<9223372036854775808)/\((((-9223372036854775808:Int)< -1/\(-1:Int)<9223372036854775808)/\(-9223372036854775808:Int)< -1/\(-1:Int)<9223372036854775808)/\(-9223372036854775808<Za.wrap (Za.wrap (4+Za.wrap (2*r))+1)/\Za.wrap (Za.wrap (4+Za.wrap (2*r))+1)<9223372036854775808)/\(-9223372036854775808:Int)<1/\(1:Int)<9223372036854775808)/\∃(l_9:List Int),ints l'=ints l_9/\((1:Int)<=3/\(3:Int)<9223372036854775808)/\l_9.length<=9223372036854775807/\∀(r_6:Int) (l':List Int),0<=r_6/\r_6<3->l'.length<=l_9.length->bif r_6==2 then(((-9223372036854775808:Int)< -1/\(-1:Int)<9223372036854775808)/\(-9223372036854775808:Int)< -1/\(-1:Int)<9223372036854775808)/\((-9223372036854775808<Za.wrap (Za.wrap (4+Za.wrap (2*r))+1)/\Za.wrap (Za.wrap (4+Za.wrap (2*r))+1)<9223372036854775808)/\(-9223372036854775808:Int)<0/\(0:Int)<9223372036854775808)/\(((-9223372036854775808:Int)< -1/\(-1:Int)<9223372036854775808)/\(-9223372036854775808:Int)<1/\(1:Int)<9223372036854775808)/\((x.a.links.length+1)*224<=140737488355328/\x.a.links.length+1<=9223372036854775807)/\∃(x':MkX),((Made x'.a/\x'.l.length<=l.length/\x'.a.links.length<=x'.n/\1<=x'.n/\x'.n<=3)/\OfNat.ofNat 0=0/\x'.n-x'.a.links.length<x.n-x.a.links.length)/\0=0/\0=0/\0=0/\Zb x.n=Zb x'.n/\Za.wrap (Zb x.a.links.length+1)=Zb x'.a.links.length/\38=38/\1=1/\ints l'=ints x'.l/\34=34/\Zd (Zf [])=Zd (Zf [])/\false=false/\Zd (Zf [])=Zd (Zf [])/\Zd (Zf [])=Zd (Zf [])/\false=false/\Zd (Zf [])=Zd (Zf [])/\Zd (Zf [])=Zd (Zf [])/\false=false/\false=false/\Zd (Zf [])=Zd (Zf [])/\Zd (Zf [])=Zd (Zf [])/\Zn none 0 0=Zn none 0 0/\34=34/\x.a.name=x'.a.name/\x.a.x=x'.a.x/\63<=63/\x.a.y=x'.a.y/\63<=63/\x.a.half=x'.a.half/\x.a.t=x'.a.t/\63<=63/\0=0/\x.a.links.length+1=x'.a.links.length/\63=63/\16=16/\(Zx x.a.links.length (Zc QN x.a.links)++[[Ze (mkRat (Za.wrap (4+Za.wrap (2*r))) 4) 63,Ze (mkRat (Za.wrap (-1-r_2)) 3) 63,Ze (mkRat (Za.wrap (1+r_3)) 3) 63,Ze (mkRat 1 (Za.wrap (4+r_4)).toNat) 63,Ze (mkRat 1 (Za.wrap (10+r_5)).toNat) 63,Ya 6 [[Ze (mkRat (-1) 4,mkRat (-1) 4).fst 63,Ze (mkRat (-1) 4,mkRat (-1) 4).snd 63],[Ze (mkRat (Za.wrap (Za.wrap (4+Za.wrap (2*r))+1)) 4,mkRat 0 4).fst 63,Ze (mkRat (Za.wrap (Za.wrap (4+Za.wrap (2*r))+1)) 4,mkRat 0 4).snd 63],[Ze (mkRat (-1) 4,mkRat 1 4).fst 63,Ze (mkRat (-1) 4,mkRat 1 4).snd 63]]]]=Zc QN x'.a.links∨QC (Zx x.a.links.length (Zc QN x.a.links)++[[Ze (mkRat (Za.wrap (4+Za.wrap (2*r))) 4) 63,Ze (mkRat (Za.wrap (-1-r_2)) 3) 63,Ze (mkRat (Za.wrap (1+r_3)) 3) 63,Ze (mkRat 1 (Za.wrap (4+r_4)).toNat) 63,Ze (mkRat 1 (Za.wrap (10+r_5)).toNat) 63,Ya 6 [[Ze (mkRat (-1) 4,mkRat (-1) 4).fst 63,Ze (mkRat (-1) 4,mkRat (-1) 4).snd 63],[Ze (mkRat (Za.wrap (Za.wrap (4+Za.wrap (2*r))+1)) 4,mkRat 0 4).fst 63,Ze (mkRat (Za.wrap (Za.wrap (4+Za.wrap (2*r))+1)) 4,mkRat 0 4).snd 63],[Ze (mkRat (-1) 4,mkRat 1 4).fst 63,Ze (mkRat (-1) 4,mkRat 1 4).snd 63]]]]) (Zc QN x'.a.links))/\True else((x.a.links.length+1)*224<=140737488355328/\x.a.links.length+1<=9223372036854775807)/\∃(x':MkX),((Made x'.a/\x'.l.length<=l.length/\x'.a.links.length<=x'.n/\1<=x'.n/\x'.n<=3)/\OfNat.ofNat 0=0/\x'.n-x'.a.links.length<x.n-x.a.links.length)/\0=0/\0=0/\0=0/\Zb x.n=Zb x'.n/\Za.wrap (Zb x.a.links.length+1)=Zb x'.a.links.length/\38=38/\1=1/\ints l'=ints x'.l/\34=34/\Zd (Zf [])=Zd (Zf [])/\false=false/\Zd (Zf [])=Zd (Zf [])/\Zd (Zf [])=Zd (Zf [])/\false=false/\Zd (Zf [])=Zd (Zf [])/\Zd (Zf [])=Zd (Zf [])/\false=false/\false=false/\Zd (Zf [])=Zd (Zf [])/\Zd (Zf [])=Zd (Zf [])/\Zn none 0 0=Zn none 0 0/\34=34/\x.a.name=x'.a.name/\x.a.x=x'.a.x/\63<=63/\x.a.y=x'.a.y/\63<=63/\x.a.half=x'.a.half/\x.a.t=x'.a.t/\63<=63/\0=0/\x.a.links.length+1=x'.a.links.length/\63=63/\16=16/\(Zx x.a.links.length (Zc QN x.a.links)++[[Ze (mkRat (Za.wrap (4+Za.wrap (2*r))) 4) 63,Ze (mkRat (Za.wrap (-1-r_2)) 3) 63,Ze (mkRat (Za.wrap (1+r_3)) 3) 63,Ze (mkRat 1 (Za.wrap (4+r_4)).toNat) 63,Ze (mkRat 1 (Za.wrap (10+r_5)).toNat) 63,Ya 6 [[Ze (mkRat (-1) 4,mkRat (-1) 4).fst 63,Ze (mkRat (-1) 4,mkRat (-1) 4).snd 63],[Ze (mkRat (Za.wrap (Za.wrap (4+Za.wrap (2*r))+1)) 4,mkRat (-1) 4).fst 63,Ze (mkRat (Za.wrap (Za.wrap (4+Za.wrap (2*r))+1)) 4,mkRat (-1) 4).snd 63],[Ze (mkRat (Za.wrap (Za.wrap (4+Za.wrap (2*r))+1)) 4,mkRat 1 4).fst 63,Ze (mkRat (Za.wrap (Za.wrap (4+Za.wrap (2*r))+1)) 4,mkRat 1 4).snd 63],[Ze (mkRat (-1) 4,mkRat 1 4).fst 63,Ze (mkRat (-1) 4,mkRat 1 4).snd 63]]]]=Zc QN x'.a.links∨QC (Zx x.a.links.length (Zc QN x.a.links)++[[Ze (mkRat (Za.wrap (4+Za.wrap (2*r))) 4) 63,Ze (mkRat (Za.wrap (-1-r_2)) 3) 63,Ze (mkRat (Za.wrap (1+r_3)) 3) 63,Ze (mkRat 1 (Za.wrap (4+r_4)).toNat) 63,Ze (mkRat 1 (Za.wrap (10+r_5)).toNat) 63,Ya 6 [[Ze (mkRat (-1) 4,mkRat (-1) 4).fst 63,Ze (mkRat (-1) 4,mkRat (-1) 4).snd 63],[Ze (mkRat (Za.wrap (Za.wrap (4+Za.wrap (2*r))+1)) 4,mkRat (-1) 4).fst 63,Ze (mkRat (Za.wrap (Za.wrap (4+Za.wrap (2*r))+1)) 4,mkRat (-1) 4).snd 63],[Ze (mkRat (Za.wrap (Za.wrap (4+Za.wrap (2*r))+1)) 4,mkRat 1 4).fst 63,Ze (mkRat (Za.wrap (Za.wrap (4+Za.wrap (2*r))+1)) 4,mkRat 1 4).snd 63],[Ze (mkRat (-1) 4,mkRat 1 4).fst 63,Ze (mkRat (-1) 4,mkRat 1 4).snd 63]]]]) (Zc QN x'.a.links))/\True else ∃(x_1:Qs×List Int),((Made x_1.fst/\1<=x_1.fst.links.length)/\x_1.snd.length<=l.length)/\0=0/\38=38/\1=1/\ints x.l=ints x_1.snd/\34=34/\x.a.name=x_1.fst.name/\x.a.x=x_1.fst.x/\63<=63/\x.a.y=x_1.fst.y/\63<=63/\x.a.half=x_1.fst.half/\x.a.t=x_1.fst.t/\63<=63/\0=0/\x.a.links.length=x_1.fst.links.length/\63=63/\16=16/\(Zc QN x.a.links=Zc QN x_1.fst.links∨QC (Zc QN x.a.links) (Zc QN x_1.fst.links))/\True):=by kernel_rfl
theorem Made.add {a:Qs}{L:Qw}(h:Made a)(hL:MadeLink L)(hn:a.links.length<3):Made {a with links:=a.links++[L]}:=
 ⟨h.name,h.x,h.y,h.half,h.t,by simp only[List.length_append,Zt,List.length_nil];omega,fun M hM=>by
  rcases List.mem_append.1 hM with hM | hM
  ·exact h.links M hM
  ·rw[List.mem_singleton.1 hM];exact hL⟩
theorem Qbx (l:List Int)(hl:l.length<=9223372036854775807):QO (QE4 l):=by
 refine⟨?_⟩;rw[QGn];simp only[Zg,R0,R1,Zq,Zj,R4];refine⟨by omega,_,rfl,by omega,l,rfl,by omega,hl,fun r l1 hr h1=>⟨by omega,?_⟩⟩;obtain⟨d,hd,hdr⟩: ∃d,ldE [[Zl (Zh Za 0)],[Zl (Zh Za 1)],[Zl (Zh Za (-1))],[Zl (Zh Za 1)]] r.toNat 0 1=some [Zl (Zh Za d)]/\ -1<=d/\d<=1:=by
  have:r=0∨r=1∨r=2∨r=3:=by omega
  rcases this with rfl | rfl | rfl | rfl
  ·exact⟨0,rfl,by omega⟩
  ·exact⟨1,rfl,by omega⟩
  ·exact⟨-1,rfl,by omega⟩
  ·exact⟨1,rfl,by omega⟩
 refine⟨d,hd,l1,rfl,by omega,by omega,fun r2 l2 hr2 h2=> ?_⟩;rw[w64 (n:=1+r2) (by omega)];refine⟨by omega,l2,rfl,by omega,by omega,fun r3 l3 hr3 h3=> ?_⟩;rw[w64 (n:=1+r3) (by omega)];refine⟨⟨⟨⟨QR4,mkRat 0 4,mkRat 0 4,false,mkRat d (1+r2).toNat,[]⟩,l3,(1+r3).toNat⟩,⟨⟨rfl,rfl,rfl,rfl,⟨d,1+r2,hdr,by omega,rfl⟩,by simp,by simp⟩,by simp only;omega,by simp,by simp only;omega,by simp only;omega⟩,by simp only;omega,rfl,rfl,rfl,rfl,rfl,rfl,rfl,rfl,rfl⟩,fun x hx=>QG (fun hp=> ?_) (fun hp=> ?_)⟩
 ·obtain⟨hm,hl1,hn,hn1,hn3⟩:=hx;have hp:=R5 hp;refine⟨_,rfl,by omega,by omega,fun r l1 hr h1=> ?_⟩;rw[w64 (n:=2*r) (by omega),w64 (n:=4+2*r) (by omega)];refine⟨by omega,l1,rfl,by omega,by omega,fun i l2 hi h2=> ?_⟩;rw[w64 (n:= -1-i) (by omega)];refine⟨by omega,l2,rfl,by omega,by omega,fun j l3 hj h3=> ?_⟩;rw[w64 (n:=1+j) (by omega)];refine⟨by omega,l3,rfl,by omega,by omega,fun s l4 hs h4=> ?_⟩;rw[w64 (n:=4+s) (by omega)];refine⟨by omega,l4,rfl,by omega,by omega,fun b l5 hb h5=> ?_⟩;rw[w64 (n:=10+b) (by omega),w64 (n:=4+2*r+1) (by omega)];refine⟨by omega,by omega,l5,rfl,by omega,by omega,fun q l6 hq h6=> ?_⟩
  have hL: ∀tri,MadeLink (Vh (4+2*r) i j s b tri):=fun tri=>⟨r,i,j,s,b,tri,hr,hi,hj,hs,hb,rfl⟩;have ht: ∀L:Qw,Zx x.a.links.length (Zc QN x.a.links)++[QN L]=Zc QN (x.a.links++[L]):=fun L=>by
   rw[Zr (by rw[Zm];exact Zj _),List.map_append];rfl
  refine QG (fun _=>⟨by omega,by omega,by omega,by omega,⟨{x.a with links:=x.a.links++[Vh (4+2*r) i j s b true]},l6,x.n⟩,⟨⟨hm.add (hL true) (by omega),by simp only;omega,?_,hn1,hn3⟩,?_⟩,rfl,?_,rfl,rfl,rfl,rfl,rfl,rfl,by simp,.inl (ht (Vh _ _ _ _ _ true))⟩) (fun _=>⟨by omega,⟨{x.a with links:=x.a.links++[Vh (4+2*r) i j s b false]},l6,x.n⟩,⟨⟨hm.add (hL false) (by omega),by simp only;omega,?_,hn1,hn3⟩,?_⟩,rfl,?_,rfl,rfl,rfl,rfl,rfl,rfl,by simp,.inl (ht (Vh _ _ _ _ _ false))⟩);all_goals simp only[List.length_append,Zt,List.length_nil]
  all_goals first | omega | (rw[w64 (by omega)];simp)
 ·obtain⟨hm,hl1,hn,hn1,hn3⟩:=hx;have hp:=R6 hp;exact⟨⟨x.a,x.l⟩,⟨⟨hm,by simp only;omega⟩,hl1⟩,rfl,rfl,rfl,rfl,rfl,rfl,rfl,.inl rfl⟩
end Go.Proofs
namespace Go.Proofs
open Go Go.Eng
def MadeA (a:Qs):Prop:=Made a/\1<=a.links.length
def QLl:YA:=fun as0 H d=>match as0 with
 | [.x false [.p k o],.x false [.v (.int .i64 n)]]=>match o with
  | 0=>match H k with
   | some (.box t [.s 1 xs])=>match H d with
    | none=>bif t.beq 38 then
     some fun K=> ∃l,xs=ints l/\n=0/\l.length<=9223372036854775807/\ ∀(a:Qs) (l':List Int),MadeA a->l'.length<=l.length->
      K (.x true (QWu a d)) (XS [(1000,k),(500,d)] (QW [(1000,stB l'),(4,.box 34 (QWu a 500)),(500,QCG a.links)]) H)
     else none
    | some _=>none
   | _=>none
  | _+1=>none
 | _=>none
theorem QWw:WG 62 QLl:=by
 refine⟨QK Tryz.func62 (by kernel_rfl),fun l H d T hT K hK=> ?_⟩;unfold QLl at hT;split at hT
 ·rename_i k o n;split at hT
  ·split at hT
   ·rename_i t xs e1;split at hT
    ·rename_i hd;cases hb:t.beq 38 with
     | false=>rw[hb]at hT;cases hT
     | true=>
      rw[hb]at hT;cases hT
      have ht:=Nat.eq_of_beq_eq_true hb;subst ht;obtain⟨l,rfl,rfl,hl,hK⟩:=hK;refine Xr (R:=[(1000,k)]) (N:=[(500,d)]) (Hl:=[(1000,stB l)]) QfI QP Tryz.func62 (by kernel_rfl) (by kernel_rfl) (by rfl)
       (as0:=[.x false [.p 1000 0],iA .i64 0]) ?_ (Gs e1 rfl rfl) rfl (by simp) (by simp) (fun p hp=>by simp at hp;subst hp;exact hd) (fun x=>⟨fun p hp=> ?_,fun p hp b hb=> ?_⟩) (Qbx l hl) (fun x hx=> ?_)
      ·simp[Ju,Jt,Jc,lkB,iA]
      ·simp at hp;subst hp;exact fun h=>by have h':some (stB _)=none:=h;cases h'
      ·simp at hp;rcases hp with rfl | rfl
       ·have h':some (stB _)=some b:=hb;cases h';rfl
       ·have h':some (QCG _)=some b:=hb;cases h';rfl
      ·exact⟨_,rfl,hK _ _ hx.1 hx.2⟩
    ·cases hT
   ·cases hT
  ·cases hT
 ·cases hT
def M33:List (Nat×YA):=(62,QLl)::M30
noncomputable def T33:QR:=mkT L32 M33 X4
theorem W6:X6 M33:= .cons QWw QNV
theorem QfJ:QJ T33:=QU QR3 W6 Ql
def QWx:OT:=fun _=>([],[])
def QE5 (l:List Int)(K:AV->Prop):Prop:=QS T33 QWx noL Tryz.f11 [.x false [.s 1 (ints l)]] K
theorem QGo (l:List Int)(K:AV->Prop):QE5 l K=(∃(l_1:List Int),ints l=ints l_1/\(0:Int)=0/\l_1.length<=9223372036854775807/\∀(a:Qs) (l':List Int),Made a/\1<=a.links.length->l'.length<=l_1.length->K (Zp true [Zl (Zw a.name),Ze a.x 63,Ze a.y 63,Zl (Zk a.half),Ze a.t 63,Ya 16 (Zx a.links.length (List.drop 0 (Zc QN a.links)))])):=by kernel_rfl
theorem Qby (l:List Int)(hc:(l.length<=9223372036854775807))(K:AV->Prop)(hK: ∀a:Qs,MadeA a->K (Ug a)):QO (QE5 l K):=by
 refine⟨?_⟩;rw[QGo];try simp only[R0]
 refine⟨l,rfl,hc,fun a l' ha _=> ?_⟩;have:=hK a ha;unfold Ug WH at this;rw[List.drop_zero,Zr (by rw[Zm];exact Zj _)];exact this
def QLm:Ctr
 | [.x false [.s 1 xs]]=>some fun K=> ∃(l:List Int),xs=ints l/\((l.length<=9223372036854775807))/\(∀a:Qs,MadeA a->K (Ug a))
 | _=>none
theorem QWy:QI 11 QLm:=by
 refine⟨QK Tryz.func11 (by kernel_rfl),fun l T hT K hK=> ?_⟩;unfold QLm at hT;split at hT
 ·cases hT
  obtain⟨l,rfl,hc,hK⟩:=hK;exact QF QfJ QP Tryz.func11 (by kernel_rfl) (by kernel_rfl) (by rfl) (Qby _ hc K hK)
 ·cases hT
def L34:List (Nat×Ctr):=(11,QLm)::L32
noncomputable def T34:QR:=mkT L34 M33 X4
theorem QZp:QH L34:= .cons QWy QR3
theorem QfK:QJ T34:=QU QZp W6 Ql
end Go.Proofs
namespace Go.Proofs
open Go Go.Eng
def Xj (q:Rat):Prop:=q.num.natAbs<=1000000/\q.den<=1000
def lft (a b c:Rat×Rat):Rat:=(b.1-a.1)*(c.2-a.2)-(b.2-a.2)*(c.1-a.1)
structure Vi (l:List (Rat×Rat)):Prop where
 lo:3<=l.length
 hi:l.length<=8
 left: ∀i k a b c,2<=k->k<l.length->l[i]? =some a->l[(i+1) % l.length]? =some b->l[(i+k) % l.length]? =some c->0<lft a b c
theorem QNX (m n:Nat):JF m n<=0↔m<=n:=by
 unfold JF;split
 ·omega
 ·split<;>omega
def QPL:OT:=fun id=>bif id.beq 1 then([0,1,2,3,4,5,6,7,8,9,10,11,12,13,14,15,16,17,18,19,20,21,22,23,24,25,26,27,28],[[],[0],[1,0],[2,1,0],[3,2,1,0],[4,3,2,1,0],[5,4,3,2,1,0],[6,5,4,3,2,1,0],[7,6,5,4,3,2,1,0],[4,3,2,1,0,8,7,6,5],[9,4,3,2,1,0,8,7,6,5],[10,9,4,3,2,1,0,8,7,6,5],[11,10,9,4,3,2,1,0,8,7,6,5],[10,9,4,3,2,1,0,8,7,6,5,12,11],[13,10,9,4,3,2,1,0,8,7,6,5,12,11],[14,13,10,9,4,3,2,1,0,8,7,6,5,12,11],[15,14,13,10,9,4,3,2,1,0,8,7,6,5,12,11],[14,13,10,9,4,3,2,1,0,8,7,6,5,12,11],[16,15,14,13,10,9,4,3,2,1,0,8,7,6,5,12,11,17],[18,16,15,14,13,10,9,4,3,2,1,0,8,7,6,5,12,11,17],[14,13,10,9,4,3,2,1,0,8,7,6,5,12,11,19,18,16,15,17],[20,14,13,10,9,4,3,2,1,0,8,7,6,5,12,11,19,18,16,15,17],[21,20,14,13,10,9,4,3,2,1,0,8,7,6,5,12,11,19,18,16,15,17],[22,21,20,14,13,10,9,4,3,2,1,0,8,7,6,5,12,11,19,18,16,15,17],[21,20,14,13,10,9,4,3,2,1,0,8,7,6,5,12,11,19,18,16,15,17],[23,22,21,20,14,13,10,9,4,3,2,1,0,8,7,6,5,12,11,19,18,16,15,17,24],[25,23,22,21,20,14,13,10,9,4,3,2,1,0,8,7,6,5,12,11,19,18,16,15,17,24],[21,20,14,13,10,9,4,3,2,1,0,8,7,6,5,12,11,19,18,16,15,17,26,25,23,22,24],[27,21,20,14,13,10,9,4,3,2,1,0,8,7,6,5,12,11,19,18,16,15,17,26,25,23,22,24]])else([],[])
def G0 (p:Rat)(a:Nat)(K:AV->Prop):Prop:=QS T34 QPL noL Tryz.f178 [rA p a] K
theorem QCH (p:Rat)(a:Nat)(K:AV->Prop):G0 p a K=(bif decide (Zb (QA p.num.natAbs).length<=3)then bif decide (Zb (QA p.den).length<=2)then a<=4294967296/\(1000000:Int)<9223372036854775808/\bif decide (JF p.num.natAbs 1000000<=0)then(1000:Int)<9223372036854775808/\K (Zp false [Zl (Zk (decide (JF p.den (Int.toNat 1000)<=0)))])else K (Zp false [Zl (Zk false)])else K (Zp false [Zl (Zk false)])else K (Zp false [Zl (Zk false)])):=by kernel_rfl
theorem QR6 (p:Rat)(a:Nat)(hc:(a<=1000000)/\(Xj p))(K:AV->Prop)(hK:K (.x false [.v (.bool true)])):QO (G0 p a K):=by
 refine⟨?_⟩;rw[QCH];try simp only[Zg]
 obtain⟨h1,h2,h3⟩:=hc;have e1:(QA p.num.natAbs).length<=3:=Qk.2 (by omega);have e2:(QA p.den).length<=2:=Qk.2 (by omega);refine QG (fun _=>QG (fun _=>⟨by omega,by omega,QG (fun _=>⟨by omega,?_⟩) (fun h=> ?_)⟩) (fun h=> ?_)) (fun h=> ?_)
 ·rw[show decide (JF p.den (Int.toNat 1000)<=0)=true from decide_eq_true ((QNX _ _).2 h3)];exact hK
 ·exact absurd ((QNX _ _).2 h2) (R6 h)
 ·have:=R6 h;omega
 ·have:=R6 h;omega
def QCI:Ctr
 | [.x true [.r p a]]=>some fun K=>((a<=1000000)/\(Xj p))/\(K (.x false [.v (.bool true)]))
 | _=>none
theorem QPM:QI 178 QCI:=by
 refine⟨QK Tryz.func178 (by kernel_rfl),fun l T hT K hK=> ?_⟩;unfold QCI at hT;split at hT
 ·cases hT
  obtain⟨hc,hK⟩:=hK;exact QF QfK QP Tryz.func178 (by kernel_rfl) (by kernel_rfl) (by rfl) (QR6 _ _ hc K hK)
 ·cases hT
def L35:List (Nat×Ctr):=(178,QCI)::L34
noncomputable def T35:QR:=mkT L35 M33 X4
theorem QZq:QH L35:= .cons QPM QZp
theorem QfL:QJ T35:=QU QZq W6 Ql
def QWz:OT:=fun id=>bif id.beq 1 then([0,1,2,3,5,6,7,8,4,9,10,11],[[],[0],[],[2],[1,0,3,2],[],[5],[],[7],[6,5,8,7,4,1,0,3,2],[4,1,0,3,2,9,6,5,8,7],[10,4,1,0,3,2,9,6,5,8,7]])else([],[])
def QE6 (px:Rat)(a:Nat)(py:Rat)(b:Nat)(qx:Rat)(c:Nat)(qy:Rat)(d:Nat)(K:AV->Prop):Prop:=QS T35 QWz noL Tryz.f92 [.x true [.r px a,.r py b],.x true [.r qx c,.r qy d]] K
theorem QGp (px:Rat)(a:Nat)(py:Rat)(b:Nat)(qx:Rat)(c:Nat)(qy:Rat)(d:Nat)(K:AV->Prop):QE6 px a py b qx c qy d K=(a+c+1<=4294967296/\b+d+1<=4294967296/\K (Zp true [Ze (px-qx) (a+c+1),Ze (py-qy) (b+d+1)])):=by kernel_rfl
theorem Qbz (px:Rat)(a:Nat)(py:Rat)(b:Nat)(qx:Rat)(c:Nat)(qy:Rat)(d:Nat)(hc:(a+c<=4294967290)/\(b+d<=4294967290))(K:AV->Prop)(hK:K (.x true [.r (px-qx) (a+c+1),.r (py-qy) (b+d+1)])):QO (QE6 px a py b qx c qy d K):=by
 refine⟨?_⟩;rw[QGp];try simp only[Zg,R0,R1,Zq,Zj,R4,R2,R3]
 exact⟨by omega,by omega,hK⟩
def QLn:Ctr
 | [.x true [.r px a,.r py b],.x true [.r qx c,.r qy d]]=>some fun K=>((a+c<=4294967290)/\(b+d<=4294967290))/\(K (.x true [.r (px-qx) (a+c+1),.r (py-qy) (b+d+1)]))
 | _=>none
theorem QW0:QI 92 QLn:=by
 refine⟨QK Tryz.func92 (by kernel_rfl),fun l T hT K hK=> ?_⟩;unfold QLn at hT;split at hT
 ·cases hT
  obtain⟨hc,hK⟩:=hK;exact QF QfL QP Tryz.func92 (by kernel_rfl) (by kernel_rfl) (by rfl) (Qbz _ _ _ _ _ _ _ _ hc K hK)
 ·cases hT
def L36:List (Nat×Ctr):=(92,QLn)::L35
noncomputable def T36:QR:=mkT L36 M33 X4
theorem QZr:QH L36:= .cons QW0 QZq
theorem QfM:QJ T36:=QU QZr W6 Ql
def QPN:OT:=fun id=>bif id.beq 1 then([0,1,2,3,5,6,7,8,4,9,10,11],[[],[0],[],[2],[1,0,3,2],[],[5],[],[7],[6,5,8,7,4,1,0,3,2],[4,1,0,3,2,9,6,5,8,7],[10,4,1,0,3,2,9,6,5,8,7]])else([],[])
def G4 (px:Rat)(a:Nat)(py:Rat)(b:Nat)(qx:Rat)(c:Nat)(qy:Rat)(d:Nat)(K:AV->Prop):Prop:=QS T36 QPN noL Tryz.f140 [.x true [.r px a,.r py b],.x true [.r qx c,.r qy d]] K
theorem QCJ (px:Rat)(a:Nat)(py:Rat)(b:Nat)(qx:Rat)(c:Nat)(qy:Rat)(d:Nat)(K:AV->Prop):G4 px a py b qx c qy d K=(a+d<=4294967296/\b+c<=4294967296/\a+d+(b+c)+1<=4294967296/\K (Zp true [Ze (px*qy-py*qx) (a+d+(b+c)+1)])):=by kernel_rfl
theorem QR7 (px:Rat)(a:Nat)(py:Rat)(b:Nat)(qx:Rat)(c:Nat)(qy:Rat)(d:Nat)(hc:(a+b+c+d<=4294967290))(K:AV->Prop)(hK:K (rA (px*qy-py*qx) (a+d+(b+c)+1))):QO (G4 px a py b qx c qy d K):=by
 refine⟨?_⟩;rw[QCJ];try simp only[Zg,R0,R1,Zq,Zj,R4,R2,R3]
 exact⟨by omega,by omega,by omega,hK⟩
def QCK:Ctr
 | [.x true [.r px a,.r py b],.x true [.r qx c,.r qy d]]=>some fun K=>((a+b+c+d<=4294967290))/\(K (rA (px*qy-py*qx) (a+d+(b+c)+1)))
 | _=>none
theorem QPO:QI 140 QCK:=by
 refine⟨QK Tryz.func140 (by kernel_rfl),fun l T hT K hK=> ?_⟩;unfold QCK at hT;split at hT
 ·cases hT
  obtain⟨hc,hK⟩:=hK;exact QF QfM QP Tryz.func140 (by kernel_rfl) (by kernel_rfl) (by rfl) (QR7 _ _ _ _ _ _ _ _ hc K hK)
 ·cases hT
def L37:List (Nat×Ctr):=(140,QCK)::L36
noncomputable def T37:QR:=mkT L37 M33 X4
theorem QZs:QH L37:= .cons QPO QZr
theorem QfN:QJ T37:=QU QZs W6 Ql
def QR8:OT:=fun id=>bif id.beq 1 then([0,1,3,4,2,5,6,7,8],[[],[],[0,1],[],[],[3,4,2,0,1],[2,0,1,5,3,4],[6,2,0,1,5,3,4],[7,6,2,0,1,5,3,4]])else([],[])
def QCL (a:Rat×Rat)(b:Rat×Rat)(c:Rat×Rat)(n:Nat)(K:AV->Prop):Prop:=QS T37 QR8 noL Tryz.f234 [.x true (Xn n a),.x true (Xn n b),.x true (Xn n c)] K
theorem QDr (a:Rat×Rat)(b:Rat×Rat)(c:Rat×Rat)(n:Nat)(K:AV->Prop):QCL a b c n K=((n+n<=4294967290/\n+n<=4294967290)/\(n+n<=4294967290/\n+n<=4294967290)/\n+n+1+(n+n+1)+(n+n+1)+(n+n+1)<=4294967290/\n+n+1+(n+n+1)+(n+n+1+(n+n+1))+1<=4294967296/\K (Zp false [Zl (Zh Za (Qa ((b.fst-a.fst)*(c.snd-a.snd)-(b.snd-a.snd)*(c.fst-a.fst))))])):=by kernel_rfl
theorem QW1 (a:Rat×Rat)(b:Rat×Rat)(c:Rat×Rat)(n:Nat)(hc:(n<=500000000))(K:AV->Prop)(hK:K (iA .i64 (Qa (lft a b c)))):QO (QCL a b c n K):=by
 refine⟨?_⟩;rw[QDr];try simp only[Zg,R0,R1,Zq,Zj,R4,R2,R3]
 exact⟨by omega,by omega,by omega,by omega,hK⟩
def QGq:Ctr
 | [.x true p1,.x true p2,.x true p3]=>some fun K=> ∃(a:Rat×Rat) (b:Rat×Rat) (c:Rat×Rat) (n:Nat),p1=Xn n a/\p2=Xn n b/\p3=Xn n c/\((n<=500000000))/\(K (iA .i64 (Qa (lft a b c))))
 | _=>none
theorem QR9:QI 234 QGq:=by
 refine⟨QK Tryz.func234 (by kernel_rfl),fun l T hT K hK=> ?_⟩;unfold QGq at hT;split at hT
 ·cases hT
  obtain⟨a,b,c,n,rfl,rfl,rfl,hc,hK⟩:=hK;exact QF QfN QP Tryz.func234 (by kernel_rfl) (by kernel_rfl) (by rfl) (QW1 _ _ _ _ hc K hK)
 ·cases hT
def L38:List (Nat×Ctr):=(234,QGq)::L37
noncomputable def T38:QR:=mkT L38 M33 X4
theorem QZt:QH L38:= .cons QR9 QZs
theorem QfO:QJ T38:=QU QZt W6 Ql
end Go.Proofs
namespace Go.Proofs
open Go Go.Eng
def lRb (l:List (Rat×Nat)):List (List Ch):=l.map fun p=>[Ze p.1 p.2]
def QGr (b:ByteArray):Prop:=(1<=b.size/\b.size<=12)/\ ∀(i:Nat) (x:UInt8),b.data.toList[i]? =some x->97<=x.toNat/\x.toNat<=122
theorem QGs {n:Nat}{l:List (Rat×Rat)}{i:Nat}{a:Rat×Rat}(h:l[i]? =some a):ldE (l.map (Xn n)) i 0 6=some [.r a.1 n,.r a.2 n]:=by
 simp only[ldE,Zz,h];rfl
theorem QJH {q:Rat}(h:0<q):Qa q=1:=by
 unfold Qa;have h1:=Rat.num_nonneg.2 (Rat.le_of_lt h);have h2:q.num≠0:=fun e=>by
  rw[Rat.num_eq_zero.1 e]at h;exact absurd h Rat.lt_irrefl
 rw[if_neg h2,if_neg (by omega)]
def QPP:OT:=fun _=>([],[])
def G5 (l:List (Rat×Nat))(K:AV->Prop):Prop:=QS T38 QPP (fun _=> .inv ⟨Nat,fun i=>⟨[(5,.x false [.s 3 (lRb l)]),(6,iA .i64 l.length),(7,iA .i64 i)],[]⟩,fun i=>i<=l.length,fun i=>l.length-i,fun _=>0⟩) Tryz.f122 [.x false [.s 3 (lRb l)]] K
theorem QCM (l:List (Rat×Nat))(K:AV->Prop):G5 l K=((∃(x:Nat),(x<=l.length/\OfNat.ofNat 0=0)/\3=3/\lRb l=lRb l/\Zb (lRb l).length=Zb l.length/\0=Zb x/\True)/\∀(x:Nat),x<=l.length->OfNat.ofNat 0=0->bif decide (Zb x<Zb l.length)then(0<=Zb x/\Zb x<Zb (lRb l).length)/\∃(q:Rat)(n:Nat),ldE (lRb l) (Zb x).toNat 0 3=some [Ze q n]/\(n<=1000000/\q.num.natAbs<=1000000/\q.den<=1000)/\∃(x':Nat),(x'<=l.length/\OfNat.ofNat 0=0/\l.length-x'<l.length-x)/\3=3/\lRb l=lRb l/\Zb l.length=Zb l.length/\Za.wrap (Zb x+1)=Zb x'/\True else K (Zp false [Zl (Zk true)])):=by kernel_rfl
theorem QSA (l:List (Rat×Nat))(hc:(l.length<=1000000)/\(∀p∈l,Xj p.1/\p.2<=1000000))(K:AV->Prop)(hK:K (.x false [.v (.bool true)])):QO (G5 l K):=by
 refine⟨?_⟩;rw[QCM];try simp only[Zg,R0,R1,R4]
 obtain⟨h1,h2⟩:=hc;have hl:(lRb l).length=l.length:=by simp[lRb]
 simp only[hl];refine⟨⟨0,by omega,trivial,rfl⟩,fun x hx=>QG (fun hp=> ?_) (fun _=>hK)⟩;have hp:=R5 hp;obtain⟨p,hpp⟩: ∃p,l[x]? =some p:=⟨_,Zi (by omega)⟩
 obtain⟨⟨a1,a2⟩,a3⟩:=h2 p (Zv hpp);refine⟨by omega,p.1,p.2,by simp only[ldE,lRb,Zz,Zs,hpp];rfl,⟨a3,a1,a2⟩,x+1,⟨by omega,by omega⟩,by rw[w64 (by omega)];simp⟩
def QCN:Ctr
 | [.x false [.s 3 xs]]=>some fun K=> ∃(l:List (Rat×Nat)),xs=lRb l/\((l.length<=1000000)/\(∀p∈l,Xj p.1/\p.2<=1000000))/\(K (.x false [.v (.bool true)]))
 | _=>none
theorem QPQ:QI 122 QCN:=by
 refine⟨QK Tryz.func122 (by kernel_rfl),fun l T hT K hK=> ?_⟩;unfold QCN at hT;split at hT
 ·cases hT
  obtain⟨l,rfl,hc,hK⟩:=hK;exact QF QfO QP Tryz.func122 (by kernel_rfl) (by kernel_rfl) (by rfl) (QSA _ hc K hK)
 ·cases hT
def L39:List (Nat×Ctr):=(122,QCN)::L38
noncomputable def T39:QR:=mkT L39 M33 X4
theorem QZu:QH L39:= .cons QPQ QZt
theorem QfP:QJ T39:=QU QZu W6 Ql
def QPR:OT:=fun _=>([],[])
def G6 (b:ByteArray)(K:AV->Prop):Prop:=QS T39 QPR (fun _=> .inv ⟨Nat,fun i=>⟨[(0,.x false [.v (.string b)]),(5,iA .i64 b.size),(6,iA .i64 i)],[]⟩,fun i=>i<=b.size,fun i=>b.size-i,fun _=>0⟩) Tryz.f121 [.x false [.v (.string b)]] K
theorem QCO (b:ByteArray)(K:AV->Prop):G6 b K=((∃(x:Nat),(x<=b.size/\OfNat.ofNat 0=0)/\b=b/\Zb b.size=Zb b.size/\0=Zb x/\True)/\∀(x:Nat),x<=b.size->OfNat.ofNat 0=0->bif decide (Zb x<Zb b.size)then ∃(b_1:UInt8),(0<=Zb x/\b.data.toList[(Zb x).toNat]?=some b_1)/\bif decide (Zb b_1.toNat<97)then K (Zp false [Zl (Zk false)])else ∃(b_2:UInt8),(0<=Zb x/\b.data.toList[(Zb x).toNat]?=some b_2)/\bif decide (Zb b_2.toNat>122)then K (Zp false [Zl (Zk false)])else ∃(x':Nat),(x'<=b.size/\OfNat.ofNat 0=0/\b.size-x'<b.size-x)/\b=b/\Zb b.size=Zb b.size/\Za.wrap (Zb x+1)=Zb x'/\True else bif decide (Zb b.size≥1)then K (Zp false [Zl (Zk (decide (Zb b.size<=12)))])else K (Zp false [Zl (Zk false)])):=by kernel_rfl
theorem QSB (b:ByteArray)(hc:(QGr b))(K:AV->Prop)(hK:K (.x false [.v (.bool true)])):QO (G6 b K):=by
 refine⟨?_⟩;rw[QCO];try simp only[Zg,R0,R1,R4]
 obtain⟨⟨h1,h2⟩,h3⟩:=hc;have hs:b.data.toList.length=b.size:=by simp
 refine⟨⟨0,by omega,rfl⟩,fun x hx=>QG (fun hp=> ?_) (fun _=> ?_)⟩
 ·have hp:=R5 hp;obtain⟨p,hpp⟩: ∃p,b.data.toList[x]? =some p:=⟨_,Zi (by omega)⟩
  have hx3:=h3 x p hpp;simp only[Zs];exact⟨p,⟨by omega,hpp⟩,QG (fun h=>by have:=R5 h;omega) (fun _=>⟨p,⟨by omega,hpp⟩,QG (fun h=>by have:=R5 h;omega) (fun _=>⟨x+1,⟨by omega,by omega⟩,by rw[w64 (by omega)];simp⟩)⟩)⟩
 ·refine QG (fun _=> ?_) (fun h=>by have:=R6 h;omega);rw[show decide ((b.size:Int)<=12)=true from decide_eq_true (by omega)];exact hK
def QCP:Ctr
 | [.x false [.v (.string b)]]=>some fun K=>((QGr b))/\(K (.x false [.v (.bool true)]))
 | _=>none
theorem QPS:QI 121 QCP:=by
 refine⟨QK Tryz.func121 (by kernel_rfl),fun l T hT K hK=> ?_⟩;unfold QCP at hT;split at hT
 ·cases hT
  obtain⟨hc,hK⟩:=hK;exact QF QfP QP Tryz.func121 (by kernel_rfl) (by kernel_rfl) (by rfl) (QSB _ hc K hK)
 ·cases hT
def L40:List (Nat×Ctr):=(121,QCP)::L39
noncomputable def T40:QR:=mkT L40 M33 X4
theorem QZv:QH L40:= .cons QPS QZu
theorem QfQ:QJ T40:=QU QZv W6 Ql
def QSC:OT:=fun id=>bif id.beq 12 then([0,1,2,3,4,5,6,7,8,9,10,11,12,13,14,15,16,17],[[],[],[],[2],[],[3,2,4],[1,5,3,2,4],[6,1,5,3,2,4],[],[],[],[9,10],[],[11,9,10,12],[8,13,11,9,10,12],[14,8,13,11,9,10,12],[0,7,6,1,5,3,2,4,15,14,8,13,11,9,10,12],[16,0,7,6,1,5,3,2,4,15,14,8,13,11,9,10,12]])else([],[])
def QCQ (n:Nat)(l:List (Rat×Rat))(most:Int)(K:AV->Prop):Prop:=QS T40 QSC (fun id=>bif id.beq 10 then .inv ⟨Nat×Nat,fun x=>⟨[(0,.x false [.s 6 (l.map (Xn n))]),(5,iA .i64 l.length),(6,iA .i64 x.1),(7,.x false [.p 7 0]),(8,iA .i64 x.2),(18,.x false [.s 6 (l.map (Xn n))]),(19,iA .i64 l.length),(20,iA .i64 x.1)],[(7,.box 27 (Xn n (l.getD x.1 (0,0))))]⟩,fun x=>x.1<l.length/\2<=x.2/\x.2<=l.length,fun x=>l.length-x.2,fun x=>l.length-x.1⟩else .inv ⟨Nat,fun i=>⟨[(0,.x false [.s 6 (l.map (Xn n))]),(5,iA .i64 l.length),(18,.x false [.s 6 (l.map (Xn n))]),(19,iA .i64 l.length),(20,iA .i64 i)],[]⟩,fun i=>i<=l.length,fun i=>l.length-i,fun _=>0⟩) Tryz.f208 [.x false [.s 6 (l.map (Xn n))],iA .i64 most] K
theorem QDs (n:Nat)(l:List (Rat×Rat))(most:Int)(K:AV->Prop):QCQ n l most K=(bif decide (Zb (Zc (Xn n) l).length>most)then K (Zp false [Zl (Zh Za 2)])else bif decide (Zb (Zc (Xn n) l).length<3)then K (Zp false [Zl (Zh Za 3)])else(∃(x:Nat),(x<=l.length/\OfNat.ofNat 0=0)/\6=6/\Zc (Xn n) l=Zc (Xn n) l/\Zb (Zc (Xn n) l).length=Zb l.length/\6=6/\Zc (Xn n) l=Zc (Xn n) l/\Zb (Zc (Xn n) l).length=Zb l.length/\0=Zb x/\True)/\∀(x:Nat),x<=l.length->OfNat.ofNat 0=0->bif decide (Zb x<Zb l.length)then(0<=Zb x/\Zb x<Zb (Zc (Xn n) l).length)/\∃(q:Rat)(n_1:Nat)(q_1:Rat)(n_2:Nat),ldE (Zc (Xn n) l) (Zb x).toNat 0 6=some [Ze q n_1,Ze q_1 n_2]/\(∃(x_1:Nat×Nat),((x_1.fst<l.length/\2<=x_1.snd/\x_1.snd<=l.length)/\l.length-x_1.fst=l.length-x)/\6=6/\Zc (Xn n) l=Zc (Xn n) l/\Zb l.length=Zb l.length/\Zb x=Zb x_1.fst/\0=0/\2=Zb x_1.snd/\6=6/\Zc (Xn n) l=Zc (Xn n) l/\Zb l.length=Zb l.length/\Zb x=Zb x_1.fst/\27=27/\q=(l.getD x_1.fst (OfNat.ofNat 0,OfNat.ofNat 0)).fst/\n_1<=n/\q_1=(l.getD x_1.fst (OfNat.ofNat 0,OfNat.ofNat 0)).snd/\n_2<=n/\True)/\∀(x_1:Nat×Nat),x_1.fst<l.length/\2<=x_1.snd/\x_1.snd<=l.length->l.length-x_1.fst=l.length-x->bif decide (Zb x_1.snd<Zb l.length)then Zb l.length≠0/\(0<=(Za.wrap (Zb x_1.fst+1)).tmod (Zb l.length)/\(Za.wrap (Zb x_1.fst+1)).tmod (Zb l.length)<Zb (Zc (Xn n) l).length)/\∃(q:Rat)(n_3:Nat)(q_2:Rat)(n_4:Nat),ldE (Zc (Xn n) l) ((Za.wrap (Zb x_1.fst+1)).tmod (Zb l.length)).toNat 0 6=some [Ze q n_3,Ze q_2 n_4]/\Zb l.length≠0/\(0<=(Za.wrap (Zb x_1.fst+Zb x_1.snd)).tmod (Zb l.length)/\(Za.wrap (Zb x_1.fst+Zb x_1.snd)).tmod (Zb l.length)<Zb (Zc (Xn n) l).length)/\∃(q_3:Rat)(n_5:Nat)(q_4:Rat)(n_6:Nat),ldE (Zc (Xn n) l) ((Za.wrap (Zb x_1.fst+Zb x_1.snd)).tmod (Zb l.length)).toNat 0 6=some [Ze q_3 n_5,Ze q_4 n_6]/\∃(a:Rat×Rat)(b:Rat×Rat)(c:Rat×Rat)(n_7:Nat),[Ze (l.getD x_1.fst (OfNat.ofNat 0,OfNat.ofNat 0)).fst n,Ze (l.getD x_1.fst (OfNat.ofNat 0,OfNat.ofNat 0)).snd n]=[Ze a.fst n_7,Ze a.snd n_7]/\[Ze q n_3,Ze q_2 n_4]=[Ze b.fst n_7,Ze b.snd n_7]/\[Ze q_3 n_5,Ze q_4 n_6]=[Ze c.fst n_7,Ze c.snd n_7]/\n_7<=500000000/\bif decide (Qa (lft a b c)<=0)then K (Zp false [Zl (Zh Za 3)])else ∃(x':Nat×Nat),((x'.fst<l.length/\2<=x'.snd/\x'.snd<=l.length)/\l.length-x'.fst=l.length-x/\l.length-x'.snd<l.length-x_1.snd)/\6=6/\Zc (Xn n) l=Zc (Xn n) l/\Zb l.length=Zb l.length/\Zb x_1.fst=Zb x'.fst/\0=0/\Za.wrap (Zb x_1.snd+1)=Zb x'.snd/\6=6/\Zc (Xn n) l=Zc (Xn n) l/\Zb l.length=Zb l.length/\Zb x_1.fst=Zb x'.fst/\27=27/\(l.getD x_1.fst (OfNat.ofNat 0,OfNat.ofNat 0)).fst=(l.getD x'.fst (OfNat.ofNat 0,OfNat.ofNat 0)).fst/\n<=n/\(l.getD x_1.fst (OfNat.ofNat 0,OfNat.ofNat 0)).snd=(l.getD x'.fst (OfNat.ofNat 0,OfNat.ofNat 0)).snd/\n<=n/\True else ∃(x':Nat),(x'<=l.length/\OfNat.ofNat 0=0/\l.length-x'<l.length-x)/\6=6/\Zc (Xn n) l=Zc (Xn n) l/\Zb l.length=Zb l.length/\6=6/\Zc (Xn n) l=Zc (Xn n) l/\Zb l.length=Zb l.length/\Za.wrap (Zb x_1.fst+1)=Zb x'/\True else K (Zp false [Zl (Zh Za 0)])):=by kernel_rfl
theorem QW2 (n:Nat)(l:List (Rat×Rat))(most:Int)(hc:(n<=500000000)/\(Vi l)/\((8<=most)))(K:AV->Prop)(hK:K (iA .i64 0)):QO (QCQ n l most K):=by
 refine⟨?_⟩;rw[QDs];try simp only[Zg,R0,R1,Zj,R4]
 obtain⟨h1,h2,h3⟩:=hc;have l1:=h2.lo;have l2:=h2.hi;simp only[Zm];refine QG (fun h=>by have:=R5 h;omega) (fun _=>QG (fun h=>by have:=R5 h;omega) (fun _=>⟨⟨0,by omega,trivial,trivial,rfl⟩,fun x hx=>QG (fun hp=> ?_) (fun _=>hK)⟩));have hp:x<l.length:=by have:=R5 hp;omega
 obtain⟨a,ha⟩: ∃a,l[x]? =some a:=⟨_,Zi hp⟩
 have hga:l.getD x (0,0)=a:=by rw[Zy,ha];rfl
 refine⟨by omega,_,_,_,_,QGs (by simpa using ha),⟨(x,2),⟨⟨hp,by simp only;omega,by simp only;omega⟩,rfl⟩,rfl,rfl,rfl,by simp only;rw[<-hga],Zj _,by simp only;rw[<-hga],Zj _⟩,fun y hy ht=> ?_⟩;obtain⟨i,k⟩:=y;simp only at hy ht⊢;have hi:i=x:=by omega
 subst hi;refine QG (fun hk=> ?_) (fun _=>⟨i+1,⟨by omega,by omega⟩,by rw[w64 (by omega)];simp⟩);have hk:k<l.length:=by have:=R5 hk;omega
 have e1:(Za.wrap ((i:Int)+1)).tmod (l.length:Int)=(((i+1) % l.length:Nat):Int):=by
  rw[w64 (by omega),tm (by omega)];simp
 have e2:(Za.wrap ((i:Int)+k)).tmod (l.length:Int)=(((i+k) % l.length:Nat):Int):=by
  rw[w64 (by omega),tm (by omega)];simp
 have m1:=Nat.mod_lt (i+1) (by omega:0<l.length);have m2:=Nat.mod_lt (i+k) (by omega:0<l.length);obtain⟨b,hb⟩: ∃b,l[(i+1) % l.length]? =some b:=⟨_,Zi m1⟩
 obtain⟨c,hcc⟩: ∃c,l[(i+k) % l.length]? =some c:=⟨_,Zi m2⟩
 have hpos:=h2.left i k a b c hy.2.1 hk ha hb hcc;rw[e1,e2,Zs,Zs];refine⟨by omega,by omega,_,_,_,_,QGs hb,by omega,by omega,_,_,_,_,QGs hcc,a,b,c,n,by rw[hga],rfl,rfl,by omega,QG (fun h=> ?_) (fun _=> ?_)⟩
 ·have h:=R5 h;rw[QJH hpos]at h;omega
 ·refine⟨(i,k+1),?_⟩;simp only;refine⟨⟨⟨hp,by omega,by omega⟩,trivial,by omega⟩,trivial,?_,trivial,trivial,trivial⟩;rw[w64 (by omega)];simp
def QGt:Ctr
 | [.x false [.s 6 xs],.x false [.v (.int .i64 most)]]=>some fun K=> ∃(n:Nat) (l:List (Rat×Rat)),xs=l.map (Xn n)/\((n<=500000000)/\(Vi l)/\((8<=most)))/\(K (iA .i64 0))
 | _=>none
theorem QSD:QI 208 QGt:=by
 refine⟨QK Tryz.func208 (by kernel_rfl),fun l T hT K hK=> ?_⟩;unfold QGt at hT;split at hT
 ·cases hT
  obtain⟨n,l,rfl,hc,hK⟩:=hK;exact QF QfQ QP Tryz.func208 (by kernel_rfl) (by kernel_rfl) (by rfl) (QW2 _ _ _ hc K hK)
 ·cases hT
def L41:List (Nat×Ctr):=(208,QGt)::L40
noncomputable def T41:QR:=mkT L41 M33 X4
theorem QZw:QH L41:= .cons QSD QZv
theorem QfR:QJ T41:=QU QZw W6 Ql
end Go.Proofs
namespace Go.Proofs
open Go Go.Eng
structure Jj (L:Qw):Prop where
 small:Xj L.len/\Xj L.lo/\Xj L.hi/\Xj L.sp/\Xj L.br
 len:0<L.len
 lim:L.lo<L.hi
 sp:0<L.sp
 br:0<L.br
 poly:Vi L.shape
 shape: ∀p∈L.shape,Xj p.1/\Xj p.2
structure Q7 (a:Qs):Prop where
 name:QGr a.name
 n:1<=a.links.length/\a.links.length<=3
 small:Xj a.x/\Xj a.y/\Xj a.t
 half:a.half=true->a.t=0
 links: ∀L∈a.links,Jj L
theorem HB {l:List Qw}{i:Nat}{L:Qw}(h:l[i]? =some L):ldE (l.map QN) i 0 16=some (QN L):=by
 simp only[ldE,Zz,h];rfl
def QSE:OT:=fun _=>([],[])
def QCR (n:Nat)(l:List (Rat×Rat))(K:AV->Prop):Prop:=QS T41 QSE noL Tryz.f174 [.x false [.s 6 (l.map (Xn n))]] K
theorem QDt (n:Nat)(l:List (Rat×Rat))(K:AV->Prop):QCR n l K=(∃(n_1:Nat)(l_1:List (Rat×Rat)),Zc (Xn n) l=Zc (Xn n_1) l_1/\(n_1<=500000000/\Vi l_1/\(8:Int)<=8)/\K (Zp false [Zl (Zh Za 0)])):=by kernel_rfl
theorem QW3 (n:Nat)(l:List (Rat×Rat))(hc:(n<=500000000)/\(Vi l))(K:AV->Prop)(hK:K (iA .i64 0)):QO (QCR n l K):=by
 refine⟨?_⟩;rw[QDt];try simp only[Zg,R0,R1,Zq,Zj,R4,R2,R3]
 exact⟨n,l,rfl,⟨hc.1,hc.2,by omega⟩,hK⟩
def QGu:Ctr
 | [.x false [.s 6 xs]]=>some fun K=> ∃(n:Nat) (l:List (Rat×Rat)),xs=l.map (Xn n)/\((n<=500000000)/\(Vi l))/\(K (iA .i64 0))
 | _=>none
theorem QSF:QI 174 QGu:=by
 refine⟨QK Tryz.func174 (by kernel_rfl),fun l T hT K hK=> ?_⟩;unfold QGu at hT;split at hT
 ·cases hT
  obtain⟨n,l,rfl,hc,hK⟩:=hK;exact QF QfR QP Tryz.func174 (by kernel_rfl) (by kernel_rfl) (by rfl) (QW3 _ _ hc K hK)
 ·cases hT
def L42:List (Nat×Ctr):=(174,QGu)::L41
noncomputable def T42:QR:=mkT L42 M33 X4
theorem QZx:QH L42:= .cons QSF QZw
theorem QfS:QJ T42:=QU QZx W6 Ql
def QLo:OT:=fun _=>([],[])
def HC (L:Qw)(K:AV->Prop):Prop:=QS T42 QLo (fun _=> .inv ⟨Nat,fun i=>⟨[(50,.x false [.s 6 (L.shape.map XQ)]),(51,iA .i64 L.shape.length),(52,iA .i64 i)],[]⟩,fun i=>i<=L.shape.length,fun i=>L.shape.length-i,fun _=>0⟩) Tryz.f123 [.x true (QN L)] K
theorem QAW (L:Qw)(K:AV->Prop):HC L K=(∃(l:List (Rat×Nat)),[[Ze L.len 63],[Ze L.lo 63],[Ze L.hi 63],[Ze L.sp 63],[Ze L.br 63]]=lRb l/\(l.length<=1000000/\∀(p:Rat×Nat),p∈l->(p.fst.num.natAbs<=1000000/\p.fst.den<=1000)/\p.snd<=1000000)/\63<=4294967296/\bif decide (Qa L.len<=0)then K (Zp false [Zl (Zh Za 1)])else 126<=4294967296/\bif decide (JX L.lo L.hi≥0)then K (Zp false [Zl (Zh Za 1)])else 63<=4294967296/\bif decide (Qa L.sp<=0)then K (Zp false [Zl (Zh Za 1)])else 63<=4294967296/\bif decide (Qa L.br<=0)then K (Zp false [Zl (Zh Za 1)])else ∃(n:Nat)(l:List (Rat×Rat)),Zc XQ L.shape=Zc (Xn n) l/\(n<=500000000/\Vi l)/\(∃(x:Nat),(x<=L.shape.length/\OfNat.ofNat 0=0)/\6=6/\Zc XQ L.shape=Zc XQ L.shape/\Zb (Zc XQ L.shape).length=Zb L.shape.length/\0=Zb x/\True)/\∀(x:Nat),x<=L.shape.length->OfNat.ofNat 0=0->bif decide (Zb x<Zb L.shape.length)then(0<=Zb x/\Zb x<Zb (Zc XQ L.shape).length)/\∃(q:Rat)(n:Nat)(q_1:Rat)(n_1:Nat),ldE (Zc XQ L.shape) (Zb x).toNat 0 6=some [Ze q n,Ze q_1 n_1]/\∃(l:List (Rat×Nat)),[[Ze q n],[Ze q_1 n_1]]=lRb l/\(l.length<=1000000/\∀(p:Rat×Nat),p∈l->(p.fst.num.natAbs<=1000000/\p.fst.den<=1000)/\p.snd<=1000000)/\∃(x':Nat),(x'<=L.shape.length/\OfNat.ofNat 0=0/\L.shape.length-x'<L.shape.length-x)/\6=6/\Zc XQ L.shape=Zc XQ L.shape/\Zb L.shape.length=Zb L.shape.length/\Za.wrap (Zb x+1)=Zb x'/\True else K (Zp false [Zl (Zh Za 0)])):=by kernel_rfl
theorem QPT (L:Qw)(hc:(Jj L))(K:AV->Prop)(hK:K (iA .i64 0)):QO (HC L K):=by
 refine⟨?_⟩;rw[QAW];try simp only[Zg,R0,R1,R4]
 obtain⟨⟨s1,s2,s3,s4,s5⟩,h1,h2,h3,h4,h5,h6⟩:=hc;have sg: ∀{q:Rat},0<q->decide (Qa q<=0)=true->False:=fun h h'=>by
  have:=R5 h';rw[QJH h]at this;omega
 refine⟨[(L.len,63),(L.lo,63),(L.hi,63),(L.sp,63),(L.br,63)],rfl,⟨by simp,fun p hp=> ?_⟩,by omega,QG (fun h=>(sg h1 h).elim) (fun _=>⟨by omega,QG (fun h=> ?_) (fun _=>⟨by omega,QG (fun h=>(sg h3 h).elim) (fun _=>⟨by omega,QG (fun h=>(sg h4 h).elim) (fun _=>⟨63,L.shape,rfl,⟨by omega,h5⟩,⟨0,by omega,by simp,rfl⟩,fun x hx=>QG (fun hp=> ?_) (fun _=>hK)⟩)⟩)⟩)⟩)⟩
 ·simp only[Zu,Zo,or_false]at hp;rcases hp with rfl | rfl | rfl | rfl | rfl
  ·exact⟨s1,by simp⟩
  ·exact⟨s2,by simp⟩
  ·exact⟨s3,by simp⟩
  ·exact⟨s4,by simp⟩
  ·exact⟨s5,by simp⟩
 ·have:=(QLa _ _).1 (R5 h);exact absurd h2 (Rat.not_lt.2 this)
 ·have hp:x<L.shape.length:=by have:=R5 hp;omega
  obtain⟨p,hpp⟩: ∃p,L.shape[x]? =some p:=⟨_,Zi hp⟩
  obtain⟨a1,a2⟩:=h6 p (Zv hpp);refine⟨by rw[Zm];omega,_,_,_,_,QGs (by simpa using hpp),[(p.1,63),(p.2,63)],rfl,⟨by simp,fun r hr=> ?_⟩,x+1,⟨by omega,by omega⟩,by rw[w64 (by have:=h5.hi;omega)];simp⟩;simp only[Zu,Zo,or_false]at hr;rcases hr with rfl | rfl
  ·exact⟨a1,by simp⟩
  ·exact⟨a2,by simp⟩
def GH:Ctr
 | [.x true xs]=>some fun K=> ∃(L:Qw),xs=QN L/\((Jj L))/\(K (iA .i64 0))
 | _=>none
theorem QLp:QI 123 GH:=by
 refine⟨QK Tryz.func123 (by kernel_rfl),fun l T hT K hK=> ?_⟩;unfold GH at hT;split at hT
 ·cases hT
  obtain⟨L,rfl,hc,hK⟩:=hK;exact QF QfS QP Tryz.func123 (by kernel_rfl) (by kernel_rfl) (by rfl) (QPT _ hc K hK)
 ·cases hT
def L43:List (Nat×Ctr):=(123,GH)::L42
noncomputable def T43:QR:=mkT L43 M33 X4
theorem QZy:QH L43:= .cons QLp QZx
theorem QfT:QJ T43:=QU QZy W6 Ql
def QPU:OT:=fun _=>([],[])
def G7 (a:Qs)(K:AV->Prop):Prop:=QS T43 QPU (fun _=> .inv ⟨Nat,fun i=>⟨[(48,.x false [.s 16 (a.links.map QN)]),(49,iA .i64 a.links.length),(50,iA .i64 i)],[]⟩,fun i=>i<=a.links.length,fun i=>a.links.length-i,fun _=>0⟩) Tryz.f64 [Ug a] K
theorem QCS (a:Qs)(K:AV->Prop):G7 a K=(((1<=a.name.size/\a.name.size<=12)/\∀(i:Nat) (x:UInt8),a.name.data.toList[i]?=some x->97<=x.toNat/\x.toNat<=122)/\bif decide (Zb (Zc QN a.links).length>3)then K (Zp false [Zl (Zh Za 2)])else bif Zb (Zc QN a.links).length==0 then K (Zp false [Zl (Zh Za 1)])else ∃(l:List (Rat×Nat)),[[Ze a.x 63],[Ze a.y 63],[Ze a.t 63]]=lRb l/\(l.length<=1000000/\∀(p:Rat×Nat),p∈l->(p.fst.num.natAbs<=1000000/\p.fst.den<=1000)/\p.snd<=1000000)/\bif a.half then 63<=4294967296/\bif Qa a.t !=0 then K (Zp false [Zl (Zh Za 1)])else(∃(x:Nat),(x<=a.links.length/\OfNat.ofNat 0=0)/\16=16/\Zc QN a.links=Zc QN a.links/\Zb (Zc QN a.links).length=Zb a.links.length/\0=Zb x/\True)/\∀(x:Nat),x<=a.links.length->OfNat.ofNat 0=0->bif decide (Zb x<Zb a.links.length)then(0<=Zb x/\Zb x<Zb (Zc QN a.links).length)/\∃(q:Rat)(n:Nat)(q_1:Rat)(n_1:Nat)(q_2:Rat)(n_2:Nat)(q_3:Rat)(n_3:Nat)(q_4:Rat)(n_4:Nat)(ys:List (List Ch)),ldE (Zc QN a.links) (Zb x).toNat 0 16=some [Ze q n,Ze q_1 n_1,Ze q_2 n_2,Ze q_3 n_3,Ze q_4 n_4,Ya 6 ys]/\∃(L:Qw),[Ze q n,Ze q_1 n_1,Ze q_2 n_2,Ze q_3 n_3,Ze q_4 n_4,Ya 6 ys]=[Ze L.len 63,Ze L.lo 63,Ze L.hi 63,Ze L.sp 63,Ze L.br 63,Ya 6 (Zc XQ L.shape)]/\Jj L/\∃(x':Nat),(x'<=a.links.length/\OfNat.ofNat 0=0/\a.links.length-x'<a.links.length-x)/\16=16/\Zc QN a.links=Zc QN a.links/\Zb a.links.length=Zb a.links.length/\Za.wrap (Zb x+1)=Zb x'/\True else K (Zp false [Zl (Zh Za 0)])else(∃(x:Nat),(x<=a.links.length/\OfNat.ofNat 0=0)/\16=16/\Zc QN a.links=Zc QN a.links/\Zb (Zc QN a.links).length=Zb a.links.length/\0=Zb x/\True)/\∀(x:Nat),x<=a.links.length->OfNat.ofNat 0=0->bif decide (Zb x<Zb a.links.length)then(0<=Zb x/\Zb x<Zb (Zc QN a.links).length)/\∃(q:Rat)(n:Nat)(q_1:Rat)(n_1:Nat)(q_2:Rat)(n_2:Nat)(q_3:Rat)(n_3:Nat)(q_4:Rat)(n_4:Nat)(ys:List (List Ch)),ldE (Zc QN a.links) (Zb x).toNat 0 16=some [Ze q n,Ze q_1 n_1,Ze q_2 n_2,Ze q_3 n_3,Ze q_4 n_4,Ya 6 ys]/\∃(L:Qw),[Ze q n,Ze q_1 n_1,Ze q_2 n_2,Ze q_3 n_3,Ze q_4 n_4,Ya 6 ys]=[Ze L.len 63,Ze L.lo 63,Ze L.hi 63,Ze L.sp 63,Ze L.br 63,Ya 6 (Zc XQ L.shape)]/\Jj L/\∃(x':Nat),(x'<=a.links.length/\OfNat.ofNat 0=0/\a.links.length-x'<a.links.length-x)/\16=16/\Zc QN a.links=Zc QN a.links/\Zb a.links.length=Zb a.links.length/\Za.wrap (Zb x+1)=Zb x'/\True else K (Zp false [Zl (Zh Za 0)])):=by kernel_rfl
theorem QSG (a:Qs)(hc:(Q7 a))(K:AV->Prop)(hK:K (iA .i64 0)):QO (G7 a K):=by
 refine⟨?_⟩;rw[QCS];try simp only[Zg,R0,R1,R4]
 have hl:=hc.n;obtain⟨s1,s2,s3⟩:=hc.small;have loop:(∃x,x<=a.links.length/\((Zc QN a.links).length:Int)=a.links.length/\(0:Int)=(x:Nat))/\ ∀(x:Nat),x<=a.links.length->bif decide ((x:Int)<a.links.length)then((0:Int)<=x/\(x:Int)<((Zc QN a.links).length:Nat))/\
   ∃q n q_1 n_1 q_2 n_2 q_3 n_3 q_4 n_4 ys,ldE (Zc QN a.links) (x:Int).toNat 0 16=some [Ze q n,Ze q_1 n_1,Ze q_2 n_2,Ze q_3 n_3,Ze q_4 n_4,Ya 6 ys]/\
    ∃L:Qw,[Ze q n,Ze q_1 n_1,Ze q_2 n_2,Ze q_3 n_3,Ze q_4 n_4,Ya 6 ys]=[Ze L.len 63,Ze L.lo 63,Ze L.hi 63,Ze L.sp 63,Ze L.br 63,Ya 6 (Zc XQ L.shape)]/\Jj L/\
     ∃x':Nat,(x'<=a.links.length/\a.links.length-x'<a.links.length-x)/\Za.wrap ((x:Int)+1)=x'
   else K (Zp false [Zl (Zh Za 0)]):=by
  refine⟨⟨0,by omega,by simp,rfl⟩,fun x hx=>QG (fun hp=> ?_) (fun _=>hK)⟩;have hp:x<a.links.length:=by have:=R5 hp;omega
  obtain⟨L,hL⟩: ∃L,a.links[x]? =some L:=⟨_,Zi hp⟩
  exact⟨by rw[Zm];omega,_,_,_,_,_,_,_,_,_,_,_,HB (by simpa using hL),L,rfl,hc.links L (Zv hL),x+1,⟨by omega,by omega⟩,by rw[w64 (by omega)];simp⟩
 simp only[Zm]at loop⊢;refine⟨hc.name,QG (fun h=>by have:=R5 h;omega) (fun _=>QG (fun h=>by simp only[beq_iff_eq]at h;omega) (fun _=>⟨[(a.x,63),(a.y,63),(a.t,63)],rfl,⟨by simp,fun p hp=> ?_⟩,QG (fun h=>⟨by omega,QG (fun h'=> ?_) (fun _=>loop)⟩) (fun _=>loop)⟩))⟩
 ·simp only[Zu,Zo,or_false]at hp;rcases hp with rfl | rfl | rfl
  ·exact⟨s1,by simp⟩
  ·exact⟨s2,by simp⟩
  ·exact⟨s3,by simp⟩
 ·rw[hc.half h]at h';exact absurd h' (by decide)
def QCT:Ctr
 | [.x true xs]=>some fun K=> ∃(a:Qs),xs=WH a/\((Q7 a))/\(K (iA .i64 0))
 | _=>none
theorem QPV:QI 64 QCT:=by
 refine⟨QK Tryz.func64 (by kernel_rfl),fun l T hT K hK=> ?_⟩;unfold QCT at hT;split at hT
 ·cases hT
  obtain⟨a,rfl,hc,hK⟩:=hK;exact QF QfT QP Tryz.func64 (by kernel_rfl) (by kernel_rfl) (by rfl) (QSG _ hc K hK)
 ·cases hT
def L44:List (Nat×Ctr):=(64,QCT)::L43
noncomputable def T44:QR:=mkT L44 M33 X4
theorem QZz:QH L44:= .cons QPV QZy
theorem QfU:QJ T44:=QU QZz W6 Ql
def QW4:OT:=fun _=>([],[])
def QE7 (a:Qs)(n:Int)(K:AV->Prop):Prop:=QS T44 QW4 noL Tryz.f72 [Ug a,iA .i64 n] K
theorem QGv (a:Qs)(n:Int)(K:AV->Prop):QE7 a n K=(∃(a_1:Qs),[Zl (Zw a.name),Ze a.x 63,Ze a.y 63,Zl (Zk a.half),Ze a.t 63,Ya 16 (Zc QN a.links)]=[Zl (Zw a_1.name),Ze a_1.x 63,Ze a_1.y 63,Zl (Zk a_1.half),Ze a_1.t 63,Ya 16 (Zc QN a_1.links)]/\Q7 a_1/\bif n !=Zb (Zc QN a.links).length then K (Zp false [Zl (Zh Za 1)])else K (Zp false [Zl (Zh Za 0)])):=by kernel_rfl
theorem Qb0 (a:Qs)(n:Int)(hc:(Q7 a)/\(n=a.links.length))(K:AV->Prop)(hK:K (iA .i64 0)):QO (QE7 a n K):=by
 refine⟨?_⟩;rw[QGv];try simp only[Zg]
 refine⟨a,rfl,hc.1,QG (fun h=> ?_) (fun _=>hK)⟩;rw[Zm,hc.2]at h;simp at h
def QLq:Ctr
 | [.x true xs,.x false [.v (.int .i64 n)]]=>some fun K=> ∃(a:Qs),xs=WH a/\((Q7 a)/\(n=a.links.length))/\(K (iA .i64 0))
 | _=>none
theorem QW5:QI 72 QLq:=by
 refine⟨QK Tryz.func72 (by kernel_rfl),fun l T hT K hK=> ?_⟩;unfold QLq at hT;split at hT
 ·cases hT
  obtain⟨a,rfl,hc,hK⟩:=hK;exact QF QfU QP Tryz.func72 (by kernel_rfl) (by kernel_rfl) (by rfl) (Qb0 _ _ hc K hK)
 ·cases hT
def L45:List (Nat×Ctr):=(72,QLq)::L44
theorem QfV:QH L45:= .cons QW5 QZz
def L46:List (Nat×Ctr):=L45
noncomputable def T46:QR:=mkT L46 M33 X4
theorem QfW:QH L46:=QfV
end Go.Proofs
namespace Go.Proofs
open Go Go.Eng
theorem Q1 {n:Int}{d:Nat}(hn:n.natAbs<=1000000)(hd:d≠0/\d<=1000):Xj (mkRat n d):=by
 refine⟨?_,?_⟩
 ·rw[QLh _ _ hd.1,Int.natAbs_tdiv,Int.natAbs_natCast];exact Nat.le_trans (Nat.div_le_self _ _) hn
 ·rw[QRw _ _ hd.1];exact Nat.le_trans (Nat.div_le_self _ _) hd.2
def QE8 (l:List (Rat×Rat)):Bool:=decide (3<=l.length)&&decide (l.length<=8)&&(List.range l.length).all fun i=>(List.range l.length).all fun k=>decide (k<2) || decide (0<lft (l.getD i (0,0)) (l.getD ((i+1) % l.length) (0,0)) (l.getD ((i+k) % l.length) (0,0)))
theorem HD {l:List (Rat×Rat)}(h:QE8 l=true):Vi l:=by
 simp only[QE8,Bool.and_eq_true,decide_eq_true_eq,List.all_eq_true,List.mem_range,Bool.or_eq_true]at h;obtain⟨⟨h1,h2⟩,h3⟩:=h;refine⟨h1,h2,fun i k a b c hk hkl ha hb hc=> ?_⟩;have:=h3 i (List.getElem?_eq_some_iff.1 ha).1 k hkl;simp only[Zy,ha,hb,hc,Option.getD_some]at this;rcases this with h | h
 ·omega
 ·exact h
theorem QPW:([4,6,8,10]:List Int).all (fun n=>QE8 (QJG (-1) (-1) (n+1) 1)&&QE8 [at4 (-1) (-1),at4 (n+1) 0,at4 (-1) 1])=true:=by decide+kernel
theorem MadeLink.good {L:Qw}(h:MadeLink L):Jj L:=by
 obtain⟨r,i,j,s,b,tri,hr,hi,hj,hs,hb,rfl⟩:=h
 have hsh:=List.all_eq_true.1 QPW (4+2*r) (by
  have:r=0∨r=1∨r=2∨r=3:=by omega
  rcases this with rfl | rfl | rfl | rfl<;>decide)
 simp only[Bool.and_eq_true]at hsh;have lo:mkRat (-1-i) 3<0:=by
  have:=X7 (n:=1+i) (d:=3) (by omega) (by decide);have e:mkRat (-1-i) 3= -mkRat (1+i) 3:=by rw[Rat.neg_mkRat];congr 1;omega
  rw[e];grind
 have hi':=X7 (n:=1+j) (d:=3) (by omega) (by decide);refine⟨⟨?_,?_,?_,?_,?_⟩,?_,?_,?_,?_,?_,?_⟩
 ·exact Q1 (by omega) (by decide)
 ·exact Q1 (by omega) (by decide)
 ·exact Q1 (by omega) (by decide)
 ·exact Q1 (by omega) (by omega)
 ·exact Q1 (by omega) (by omega)
 ·exact X7 (by omega) (by decide)
 ·show mkRat (-1-i) 3<mkRat (1+j) 3
  grind
 ·exact X7 (by omega) (by omega)
 ·exact X7 (by omega) (by omega)
 ·cases tri
  ·exact HD hsh.1
  ·exact HD hsh.2
 ·have c: ∀x y:Int,x.natAbs<=1000000->y.natAbs<=1000000->Xj (at4 x y).1/\Xj (at4 x y).2:=fun x y hx hy=>⟨Q1 hx (by decide),Q1 hy (by decide)⟩;intro p hp;cases tri
  ·simp only[Vh,R8,QJG,Zu,Zo,or_false]at hp;rcases hp with rfl | rfl | rfl | rfl<;>exact c _ _ (by omega) (by omega)
  ·simp only[Vh,R7,Zu,Zo,or_false]at hp;rcases hp with rfl | rfl | rfl<;>exact c _ _ (by omega) (by omega)
theorem QNY:QGr QR4:=by
 refine⟨by decide,fun i x hx=> ?_⟩;match i,hx with
 | 0,hx=>cases hx;decide
 | 1,hx=>cases hx;decide
 | 2,hx=>cases hx;decide
 | i+3,hx=>cases hx
theorem MadeA.good {a:Qs}(h:MadeA a):Q7 a:=by
 obtain⟨⟨h1,h2,h3,h4,h5,h6,h7⟩,h8⟩:=h;obtain⟨c,d,hc,hd,ht⟩:=h5;refine⟨by rw[h1];exact QNY,⟨h8,h6⟩,⟨?_,?_,?_⟩,fun h=>absurd (h4.symm.trans h) (by decide),fun L hL=>(h7 L hL).good⟩
 ·rw[h2];exact Q1 (by decide) (by decide)
 ·rw[h3];exact Q1 (by decide) (by decide)
 ·rw[ht];exact Q1 (by omega) (by omega)
theorem MadeLink.wide {L:Qw}(h:MadeLink L):L.hi-L.lo<=4/\mkRat 1 11<=L.sp:=by
  obtain⟨r,i,j,s,b,tri,hr,hi,hj,hs,hb,rfl⟩:=h;show mkRat (1+j) 3-mkRat (-1-i) 3<=4/\mkRat 1 11<=mkRat 1 (4+s).toNat
  have hj':j=0∨j=1∨j=2∨j=3∨j=4∨j=5:=by omega
  have hi':i=0∨i=1∨i=2∨i=3∨i=4∨i=5:=by omega
  have hs':s=0∨s=1∨s=2∨s=3∨s=4∨s=5∨s=6∨s=7:=by omega
  constructor
  · rcases hj' with rfl | rfl | rfl | rfl | rfl | rfl<;>rcases hi' with rfl | rfl | rfl | rfl | rfl | rfl<;>decide+kernel
  · rcases hs' with rfl | rfl | rfl | rfl | rfl | rfl | rfl | rfl<;>decide+kernel
end Go.Proofs
namespace Go.Proofs
open Go Go.Eng
theorem QGw {x y:Int}{a b:Nat}(hx:x.natAbs<=a)(hy:y.natAbs<=b):(x*y).natAbs<=a*b:=by
 rw[Int.natAbs_mul];exact Nat.mul_le_mul hx hy
def L47:List (Nat×Ctr):=L46
noncomputable def T47:QR:=mkT L47 M33 X4
theorem QZ0:QH L47:=QfW
end Go.Proofs
namespace Go.Proofs
open Go Go.Eng
def M48:List (Nat×YA):=M33
theorem QSH:X6 M48:=W6
def L49:List (Nat×Ctr):=L47
noncomputable def T49:QR:=mkT L49 M48 X4
theorem QZ1:QH L49:=QZ0
theorem QZ2:QJ T49:=QU QZ1 QSH Ql
end Go.Proofs
