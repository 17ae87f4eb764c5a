/- The stream of raw numbers. -/
import Derived.Test.YtfmgjnnkogpmmaaDoorR1
open Go.IntKind renaming i64 → Za
open Int renaming ofNat → Zb, ofNat_eq_natCast → Zf, toNat_natCast → Zt
open List renaming map → Zc, getElem?_eq_getElem → Zh, take → Zj, length_map → Zk, take_of_length_le → Zo, length_cons → Zp, length_append → Zs, mem_of_getElem? → Zv, not_mem_nil → Zx, getElem?_eq_some_iff → Zy, length_nil → Zz, getElem?_map → Ya, mem_cons → Yc, getD_eq_getElem?_getD → Yd, drop_zero → Yf
open ByteArray renaming mk → Zd
open Go.Eng.Ch renaming r → Ze, v → Zm, s → Ye
open Go.Value renaming int → Zg, bool → Zn, string → Zq, slice → Zr
open Array renaming mk → Zi
open Nat renaming le_refl → Zl, zero_add → Zw, eq_of_beq_eq_true → Yb
open Go.Eng.AV renaming x → Zu
namespace Go.Proofs
open Go Go.Eng
def ints (l:List Int):List (List Ch):=l.map fun n=>[Zm (.int .i64 n)]
def stB (l:List Int):Blk:= .box 78 [.s 1 (ints l)]
def QFU (l:List Int)(n:Int):Int:=match l with | []=>0 | x::_=>x % n
theorem QDV (l:List Int):(ints l).length=l.length:=by simp[ints]
theorem QFV {l:List Int}{n:Int}(hn:1<=n):0<=QFU l n/\QFU l n<n:=by
 unfold QFU;split
 ·omega
 ·rename_i x l';exact⟨Int.emod_nonneg x (by omega),Int.emod_lt_of_pos x (by omega)⟩
theorem QPY (l:List Int)(n:Int)(hn:1<=n/\n<9223372036854775808)(hl:l.length<=9223372036854775807):QU (JK (X:=Unit) T26 (oF Tryd.f42) noL Tryd.f42 [.x false [.p 1000 0],iA .i64 n] [(1000,stB l)] (fun _=>True) (fun _=>⟨[(4,iA .i64 (QFU l n))],[(1000,stB l.tail)]⟩)):=by
 refine HV ((bif Zb (ints l).length==0 then ∃(_x:Unit),True/\0=QFU l n/\78=78/\1=1/\ints l=ints l.tail/\True else bif decide (n<1)then ∃(_x:Unit),True/\0=QFU l n/\78=78/\1=1/\ints l=ints l.tail/\True else((0:Int)<=0/\0<Zb (ints l).length)/\∃(d:Int),ldE (ints l) 0 0 1=some [Zm (Zg Za d)]/\((0:Int)<=1/\1<=Zb (ints l).length/\Zb (ints l).length<=Zb (ints l).length)/\(0<n/\n<9223372036854775808)/\∃(_x:Unit),True/\d%n=QFU l n/\78=78/\1=1/\Zj ((Zb (ints l).length).toNat-1) (List.drop 1 (ints l))=ints l.tail/\True)) ?_
 simp only[Zf,R0,R1];simp only[QDV];cases l with
 | nil=>exact⟨(),rfl,rfl⟩
 | cons x l=>
  refine QE (fun h=> ?_) (fun _=>QE (fun h=> ?_) (fun _=>⟨by simp,x,rfl,by simp only[Zp];omega,⟨by omega,hn.2⟩,(),rfl,?_⟩))
  ·simp at h;omega
  ·have:=R5 h;omega
  ·simp only[Zp,List.tail_cons,ints,List.map_cons,List.drop_succ_cons,Yf];exact Zo (by simp)
def QFW:YA:=fun as0 H _=>match as0 with
  | [.x false [.p k o],.x false [.v (.int .i64 n)]]=>match o with
    | 0=>match H k with
      | some (.box t [.s 1 xs])=>bif t.beq 78 then
          some fun K=> ∃l,xs=ints l/\(1<=n/\n<9223372036854775808)/\l.length<=9223372036854775807/\ ∀(r:Int) (l':List Int),(0<=r/\r<n)->l'.length<=l.length->K (iA .i64 r) (Xc [(1000,k)] (QO [(1000,stB l')]) H)
          else none
      | _=>none
    | _+1=>none
  | _=>none
theorem QNA:WE 42 QFW:=by
 refine⟨Qm Tryd.func42 (by kernel_rfl),fun l H d T hT K hK=> ?_⟩;unfold QFW at hT;split at hT
 ·rename_i k o n;split at hT
  ·split at hT
   ·rename_i t xs e1;cases hb:t.beq 78 with
    | false=>rw[hb]at hT;cases hT
    | true=>
     rw[hb]at hT;cases hT
     have ht:=Yb hb;subst ht;obtain⟨l,rfl,hn,hl,hK⟩:=hK;refine Xp (R:=[(1000,k)]) (N:=[]) (Hl:=[(1000,stB l)]) QKB QW Tryd.func42 (by kernel_rfl) (by kernel_rfl) (by rfl)
      (as0:=[.x false [.p 1000 0],iA .i64 n]) ?_ (GB e1 rfl rfl) rfl (by simp) (by simp) (fun _ h=>by cases h) (fun x=>⟨fun p hp=> ?_,fun p hp b hb=> ?_⟩) (QPY l n hn hl) (fun _ _=> ?_)
     ·simp[Jf,Je,JJ,lkB,iA]
     ·simp at hp;subst hp;exact fun h=>by have h':some (stB _)=none:=h;cases h'
     ·simp at hp;subst hp;have h':some (stB _)=some b:=hb;cases h';rfl
     ·exact⟨_,rfl,hK _ _ (QFV hn.1) (by rw[List.length_tail];omega)⟩
   ·cases hT
  ·cases hT
 ·cases hT
def M30:List (Nat×YA):=(42,QFW)::M23
theorem QGJ:YI M30:= .cons QNA QAm
end Go.Proofs
namespace Go.Proofs
open Go Go.Eng
def XW (n:Nat)(p:Rat×Rat):List Ch:=[.r p.1 n,.r p.2 n]
abbrev Jt:Rat×Rat->List Ch:=XW 63
def at4 (x y:Int):Rat×Rat:=(mkRat x 4,mkRat y 4)
abbrev QN8 (x y:Int)(K:AV->Prop):Prop:=(((-9223372036854775808<x/\x<9223372036854775808)/\ -9223372036854775808<y/\y<9223372036854775808))/\(K (.x true (Jt (at4 x y))))
theorem QQ0 (x y:Int)(K:AV->Prop)(hK:QN8 x y K):QU (Qc (mkT L26 M30 X4) (oF Tryd.f65) noL Tryd.f65 [iA .i64 x,iA .i64 y] K):=by
 obtain⟨hc,hK⟩:=hK;refine HV ((((-9223372036854775808<x/\x<9223372036854775808)/\(0:Int)<4/\(4:Int)<9223372036854775808)/\((-9223372036854775808<y/\y<9223372036854775808)/\(0:Int)<4/\(4:Int)<9223372036854775808)/\K (Zu true [Ze (mkRat x 4) 63,Ze (mkRat y 4) 63]))) ?_
 try simp only[Zf,R0,R1,Zw,Zl,R4,R2,R3]
 exact⟨by omega,by omega,hK⟩
def QKH:Ctr
 | [.x false [.v (.int .i64 x)],.x false [.v (.int .i64 y)]]=>some fun K=>QN8 x y K
 | _=>none
theorem QPZ:QT 65 QKH:=by
 refine okL Tryd.func65 fun l T hT K hK=> ?_
 unfold QKH at hT;split at hT<;>cases hT
 exact spL (Qq QGG QGJ XP) QW Tryd.func65 (QQ0 _ _ K hK)
def L31:LC:=(65,QKH)::L26
theorem QN9:QN L31:= .cons QPZ QGG
def QGK (x y u v:Int):List (Rat×Rat):=[at4 x y,at4 u y,at4 u v,at4 x v]
abbrev QGL (x y u v:Int)(K:AV->Prop):Prop:=(((-9223372036854775808<x/\x<9223372036854775808)/\ -9223372036854775808<y/\y<9223372036854775808)/\((-9223372036854775808<u/\u<9223372036854775808)/\ -9223372036854775808<v/\v<9223372036854775808))/\(K (.x false [.s 6 ((QGK x y u v).map Jt)]))
theorem QNB (x y u v:Int)(K:AV->Prop)(hK:QGL x y u v K):QU (Qc (mkT L31 M30 X4) (oF Tryd.f66) noL Tryd.f66 [iA .i64 x,iA .i64 y,iA .i64 u,iA .i64 v] K):=by
 obtain⟨hc,hK⟩:=hK;refine HV ((((-9223372036854775808<x/\x<9223372036854775808)/\ -9223372036854775808<y/\y<9223372036854775808)/\((-9223372036854775808<u/\u<9223372036854775808)/\ -9223372036854775808<y/\y<9223372036854775808)/\((-9223372036854775808<u/\u<9223372036854775808)/\ -9223372036854775808<v/\v<9223372036854775808)/\((-9223372036854775808<x/\x<9223372036854775808)/\ -9223372036854775808<v/\v<9223372036854775808)/\K (Zu false [Ye 6 [[Ze (mkRat x 4,mkRat y 4).fst 63,Ze (mkRat x 4,mkRat y 4).snd 63],[Ze (mkRat u 4,mkRat y 4).fst 63,Ze (mkRat u 4,mkRat y 4).snd 63],[Ze (mkRat u 4,mkRat v 4).fst 63,Ze (mkRat u 4,mkRat v 4).snd 63],[Ze (mkRat x 4,mkRat v 4).fst 63,Ze (mkRat x 4,mkRat v 4).snd 63]]]))) ?_
 try simp only[]
 exact⟨by omega,by omega,by omega,by omega,hK⟩
def QBq:Ctr
 | [.x false [.v (.int .i64 x)],.x false [.v (.int .i64 y)],.x false [.v (.int .i64 u)],.x false [.v (.int .i64 v)]]=>some fun K=>QGL x y u v K
 | _=>none
theorem QKI:QT 66 QBq:=by
 refine okL Tryd.func66 fun l T hT K hK=> ?_
 unfold QBq at hT;split at hT<;>cases hT
 exact spL (Qq QN9 QGJ XP) QW Tryd.func66 (QNB _ _ _ _ K hK)
def L32:LC:=(66,QBq)::L31
noncomputable def T32:Qh:=mkT L32 M30 X4
theorem QKJ:QN L32:= .cons QKI QN9
theorem QQ1:XO T32:=Qq QKJ QGJ XP
structure Qv where
 len:Rat
 lo:Rat
 hi:Rat
 sp:Rat
 br:Rat
 shape:List (Rat×Rat)
def QC (L:Qv):List Ch:=[.r L.len 63,.r L.lo 63,.r L.hi 63,.r L.sp 63,.r L.br 63,.s 6 (L.shape.map Jt)]
structure Qb where
 name:ByteArray
 x:Rat
 y:Rat
 half:Bool
 t:Rat
 links:List Qv
def YM (a:Qb):List Ch:=[.v (.string a.name),.r a.x 63,.r a.y 63,.v (.bool a.half),.r a.t 63,.s 16 (a.links.map QC)]
def WW (a:Qb):AV:= .x true (YM a)
def QNC (a:Qb)(k:Nat):List Ch:=[.v (.string a.name),.r a.x 63,.r a.y 63,.v (.bool a.half),.r a.t 63,.w k 0 a.links.length]
def QGM:List Ch:=[.v (.string ⟨⟨[]⟩⟩)]++QDN++QDN++[.v (.bool false)]++QDN++[.v (.slice none 0 0)]
def Ke (long i j s b:Int)(tri:Bool):Qv:=⟨mkRat long 4,mkRat (-1-i) 3,mkRat (1+j) 3,mkRat 1 (4+s).toNat,mkRat 1 (10+b).toNat,bif tri then[at4 (-1) (-1),at4 (long+1) 0,at4 (-1) 1]else QGK (-1) (-1) (long+1) 1⟩
def MadeLink (L:Qv):Prop:= ∃r i j s b:Int,∃tri,(0<=r/\r<4)/\(0<=i/\i<6)/\(0<=j/\j<6)/\(0<=s/\s<8)/\(0<=b/\b<20)/\L=Ke (4+2*r) i j s b tri
def QKK:ByteArray:=⟨⟨[111,110,101]⟩⟩
structure Made (a:Qb):Prop where
 name:a.name=QKK
 x:a.x=mkRat 0 4
 y:a.y=mkRat 0 4
 half:a.half=false
 t: ∃c d:Int,(-1<=c/\c<=1)/\(1<=d/\d<=3)/\a.t=mkRat c d.toNat
 n:a.links.length<=3
 links: ∀L∈a.links,MadeLink L
def QDW (l:List Qv):Blk:= .row 88 16 (l.map QC)
structure MkX where
 a:Qb
 l:List Int
 n:Nat
def QKL (l:List Int):LI:=fun _=> .inv ⟨MkX,fun x=>⟨[(0,.x false [.p 1000 0]),(4,.x false [.p 4 0]),(5,.x false [.p 5 0]),(30,iA .i64 x.n),(31,iA .i64 x.a.links.length)],
 [(1000,stB x.l),(4,.box 48 QGM),(5,.box 48 (QNC x.a 500)),(500,QDW x.a.links)]⟩,fun x=>Made x.a/\x.l.length<=l.length/\x.a.links.length<=x.n/\1<=x.n/\x.n<=3,fun x=>x.n-x.a.links.length,fun _=>0⟩
theorem Made.add {a:Qb}{L:Qv}(h:Made a)(hL:MadeLink L)(hn:a.links.length<3):Made {a with links:=a.links++[L]}:=
 ⟨h.name,h.x,h.y,h.half,h.t,by simp only[Zs,Zp,Zz];omega,fun M hM=>by
  rcases List.mem_append.1 hM with hM | hM
  ·exact h.links M hM
  ·rw[List.mem_singleton.1 hM];exact hL⟩
set_option maxHeartbeats 1000000 in
theorem QPa (l:List Int)(hl:l.length<=9223372036854775807):QU (JK (X:=Qb×List Int) T32 (oF Tryd.f41) (QKL l) Tryd.f41 [.x false [.p 1000 0],iA .i64 0] [(1000,stB l)] (fun x=>(Made x.1/\1<=x.1.links.length)/\x.2.length<=l.length) (fun x=>⟨[(4,.x false [.p 4 0])],[(1000,stB x.2),(4,.box 48 (QNC x.1 500)),(500,QDW x.1.links)]⟩)):=by
 refine HV ((((0:Int)<=0/\(0:Int)<4)/\∃(b:ByteArray),some [Zm (Zq (Zd (Zi [OfNat.ofNat 111,OfNat.ofNat 110,OfNat.ofNat 101])))]=some [Zm (Zq b)]/\(((-9223372036854775808:Int)<0/\(0:Int)<9223372036854775808)/\(-9223372036854775808:Int)<0/\(0:Int)<9223372036854775808)/\∃(l_1:List Int),ints l=ints l_1/\((1:Int)<=4/\(4:Int)<9223372036854775808)/\l_1.length<=9223372036854775807/\∀(r:Int) (l':List Int),0<=r/\r<4->l'.length<=l_1.length->(0<=r/\r<4)/\∃(d:Int),ldE [[Zm (Zg Za 0)],[Zm (Zg Za 1)],[Zm (Zg Za (-1))],[Zm (Zg Za 1)]] (0+r.toNat) 0 1=some [Zm (Zg Za d)]/\∃(l_2:List Int),ints l'=ints l_2/\((1:Int)<=3/\(3:Int)<9223372036854775808)/\l_2.length<=9223372036854775807/\∀(r:Int) (l':List Int),0<=r/\r<3->l'.length<=l_2.length->((-9223372036854775808<d/\d<9223372036854775808)/\0<Za.wrap (1+r)/\Za.wrap (1+r)<9223372036854775808)/\∃(l_3:List Int),ints l'=ints l_3/\((1:Int)<=3/\(3:Int)<9223372036854775808)/\l_3.length<=9223372036854775807/\∀(r_1:Int) (l':List Int),0<=r_1/\r_1<3->l'.length<=l_3.length->(∃(x:MkX),((Made x.a/\x.l.length<=l.length/\x.a.links.length<=x.n/\1<=x.n/\x.n<=3)/\OfNat.ofNat 0=0)/\0=0/\0=0/\0=0/\Za.wrap (1+r_1)=Zb x.n/\0=Zb x.a.links.length/\78=78/\1=1/\ints l'=ints x.l/\48=48/\Zd (Zi [])=Zd (Zi [])/\false=false/\Zd (Zi [])=Zd (Zi [])/\Zd (Zi [])=Zd (Zi [])/\false=false/\Zd (Zi [])=Zd (Zi [])/\Zd (Zi [])=Zd (Zi [])/\false=false/\false=false/\Zd (Zi [])=Zd (Zi [])/\Zd (Zi [])=Zd (Zi [])/\Zr none 0 0=Zr none 0 0/\48=48/\b=x.a.name/\(mkRat 0 4,mkRat 0 4).fst=x.a.x/\63<=63/\(mkRat 0 4,mkRat 0 4).snd=x.a.y/\63<=63/\false=x.a.half/\mkRat d (Za.wrap (1+r)).toNat=x.a.t/\63<=63/\Zr none 0 0=Zr none 0 0/\0=0/\x.a.links.length=0/\Zc QC x.a.links=[]/\True)/\∀(x:MkX),Made x.a/\x.l.length<=l.length/\x.a.links.length<=x.n/\1<=x.n/\x.n<=3->OfNat.ofNat 0=0->bif decide (Zb x.a.links.length<Zb x.n)then ∃(l_4:List Int),ints x.l=ints l_4/\((1:Int)<=4/\(4:Int)<9223372036854775808)/\l_4.length<=9223372036854775807/\∀(r:Int) (l':List Int),0<=r/\r<4->l'.length<=l_4.length->((-9223372036854775808<Za.wrap (4+Za.wrap (2*r))/\Za.wrap (4+Za.wrap (2*r))<9223372036854775808)/\(0:Int)<4/\(4:Int)<9223372036854775808)/\∃(l_5:List Int),ints l'=ints l_5/\((1:Int)<=6/\(6:Int)<9223372036854775808)/\l_5.length<=9223372036854775807/\∀(r_2:Int) (l':List Int),0<=r_2/\r_2<6->l'.length<=l_5.length->((-9223372036854775808<Za.wrap (-1-r_2)/\Za.wrap (-1-r_2)<9223372036854775808)/\(0:Int)<3/\(3:Int)<9223372036854775808)/\∃(l_6:List Int),ints l'=ints l_6/\((1:Int)<=6/\(6:Int)<9223372036854775808)/\l_6.length<=9223372036854775807/\∀(r_3:Int) (l':List Int),0<=r_3/\r_3<6->l'.length<=l_6.length->((-9223372036854775808<Za.wrap (1+r_3)/\Za.wrap (1+r_3)<9223372036854775808)/\(0:Int)<3/\(3:Int)<9223372036854775808)/\∃(l_7:List Int),ints l'=ints l_7/\((1:Int)<=8/\(8:Int)<9223372036854775808)/\l_7.length<=9223372036854775807/\∀(r_4:Int) (l':List Int),0<=r_4/\r_4<8->l'.length<=l_7.length->(((-9223372036854775808:Int)<1/\(1:Int)<9223372036854775808)/\0<Za.wrap (4+r_4)/\Za.wrap (4+r_4)<9223372036854775808)/\∃(l_8:List Int),ints l'=ints l_8/\((1:Int)<=20/\(20:Int)<9223372036854775808)/\l_8.length<=9223372036854775807/\∀(r_5:Int) (l':List Int),0<=r_5/\r_5<20->l'.length<=l_8.length->(((-9223372036854775808:Int)<1/\(1:Int)<9223372036854775808)/\0<Za.wrap (10+r_5)/\Za.wrap (10+r_5)<9223372036854775808)/\((((-9223372036854775808:Int)< -1/\(-1:Int)<9223372036854775808)/\(-9223372036854775808:Int)< -1/\(-1:Int)<9223372036854775808)/\(-9223372036854775808<Za.wrap (Za.wrap (4+Za.wrap (2*r))+1)/\Za.wrap (Za.wrap (4+Za.wrap (2*r))+1)<9223372036854775808)/\(-9223372036854775808:Int)<1/\(1:Int)<9223372036854775808)/\∃(l_9:List Int),ints l'=ints l_9/\((1:Int)<=3/\(3:Int)<9223372036854775808)/\l_9.length<=9223372036854775807/\∀(r_6:Int) (l':List Int),0<=r_6/\r_6<3->l'.length<=l_9.length->bif r_6==2 then(((-9223372036854775808:Int)< -1/\(-1:Int)<9223372036854775808)/\(-9223372036854775808:Int)< -1/\(-1:Int)<9223372036854775808)/\((-9223372036854775808<Za.wrap (Za.wrap (4+Za.wrap (2*r))+1)/\Za.wrap (Za.wrap (4+Za.wrap (2*r))+1)<9223372036854775808)/\(-9223372036854775808:Int)<0/\(0:Int)<9223372036854775808)/\(((-9223372036854775808:Int)< -1/\(-1:Int)<9223372036854775808)/\(-9223372036854775808:Int)<1/\(1:Int)<9223372036854775808)/\((x.a.links.length+1)*224<=140737488355328/\x.a.links.length+1<=9223372036854775807)/\∃(x':MkX),((Made x'.a/\x'.l.length<=l.length/\x'.a.links.length<=x'.n/\1<=x'.n/\x'.n<=3)/\OfNat.ofNat 0=0/\x'.n-x'.a.links.length<x.n-x.a.links.length)/\0=0/\0=0/\0=0/\Zb x.n=Zb x'.n/\Za.wrap (Zb x.a.links.length+1)=Zb x'.a.links.length/\78=78/\1=1/\ints l'=ints x'.l/\48=48/\Zd (Zi [])=Zd (Zi [])/\false=false/\Zd (Zi [])=Zd (Zi [])/\Zd (Zi [])=Zd (Zi [])/\false=false/\Zd (Zi [])=Zd (Zi [])/\Zd (Zi [])=Zd (Zi [])/\false=false/\false=false/\Zd (Zi [])=Zd (Zi [])/\Zd (Zi [])=Zd (Zi [])/\Zr none 0 0=Zr none 0 0/\48=48/\x.a.name=x'.a.name/\x.a.x=x'.a.x/\63<=63/\x.a.y=x'.a.y/\63<=63/\x.a.half=x'.a.half/\x.a.t=x'.a.t/\63<=63/\0=0/\x.a.links.length+1=x'.a.links.length/\88=88/\16=16/\(Zj x.a.links.length (Zc QC x.a.links)++[[Ze (mkRat (Za.wrap (4+Za.wrap (2*r))) 4) 63,Ze (mkRat (Za.wrap (-1-r_2)) 3) 63,Ze (mkRat (Za.wrap (1+r_3)) 3) 63,Ze (mkRat 1 (Za.wrap (4+r_4)).toNat) 63,Ze (mkRat 1 (Za.wrap (10+r_5)).toNat) 63,Ye 6 [[Ze (mkRat (-1) 4,mkRat (-1) 4).fst 63,Ze (mkRat (-1) 4,mkRat (-1) 4).snd 63],[Ze (mkRat (Za.wrap (Za.wrap (4+Za.wrap (2*r))+1)) 4,mkRat 0 4).fst 63,Ze (mkRat (Za.wrap (Za.wrap (4+Za.wrap (2*r))+1)) 4,mkRat 0 4).snd 63],[Ze (mkRat (-1) 4,mkRat 1 4).fst 63,Ze (mkRat (-1) 4,mkRat 1 4).snd 63]]]]=Zc QC x'.a.links∨QG (Zj x.a.links.length (Zc QC x.a.links)++[[Ze (mkRat (Za.wrap (4+Za.wrap (2*r))) 4) 63,Ze (mkRat (Za.wrap (-1-r_2)) 3) 63,Ze (mkRat (Za.wrap (1+r_3)) 3) 63,Ze (mkRat 1 (Za.wrap (4+r_4)).toNat) 63,Ze (mkRat 1 (Za.wrap (10+r_5)).toNat) 63,Ye 6 [[Ze (mkRat (-1) 4,mkRat (-1) 4).fst 63,Ze (mkRat (-1) 4,mkRat (-1) 4).snd 63],[Ze (mkRat (Za.wrap (Za.wrap (4+Za.wrap (2*r))+1)) 4,mkRat 0 4).fst 63,Ze (mkRat (Za.wrap (Za.wrap (4+Za.wrap (2*r))+1)) 4,mkRat 0 4).snd 63],[Ze (mkRat (-1) 4,mkRat 1 4).fst 63,Ze (mkRat (-1) 4,mkRat 1 4).snd 63]]]]) (Zc QC x'.a.links))/\True else((x.a.links.length+1)*224<=140737488355328/\x.a.links.length+1<=9223372036854775807)/\∃(x':MkX),((Made x'.a/\x'.l.length<=l.length/\x'.a.links.length<=x'.n/\1<=x'.n/\x'.n<=3)/\OfNat.ofNat 0=0/\x'.n-x'.a.links.length<x.n-x.a.links.length)/\0=0/\0=0/\0=0/\Zb x.n=Zb x'.n/\Za.wrap (Zb x.a.links.length+1)=Zb x'.a.links.length/\78=78/\1=1/\ints l'=ints x'.l/\48=48/\Zd (Zi [])=Zd (Zi [])/\false=false/\Zd (Zi [])=Zd (Zi [])/\Zd (Zi [])=Zd (Zi [])/\false=false/\Zd (Zi [])=Zd (Zi [])/\Zd (Zi [])=Zd (Zi [])/\false=false/\false=false/\Zd (Zi [])=Zd (Zi [])/\Zd (Zi [])=Zd (Zi [])/\Zr none 0 0=Zr none 0 0/\48=48/\x.a.name=x'.a.name/\x.a.x=x'.a.x/\63<=63/\x.a.y=x'.a.y/\63<=63/\x.a.half=x'.a.half/\x.a.t=x'.a.t/\63<=63/\0=0/\x.a.links.length+1=x'.a.links.length/\88=88/\16=16/\(Zj x.a.links.length (Zc QC x.a.links)++[[Ze (mkRat (Za.wrap (4+Za.wrap (2*r))) 4) 63,Ze (mkRat (Za.wrap (-1-r_2)) 3) 63,Ze (mkRat (Za.wrap (1+r_3)) 3) 63,Ze (mkRat 1 (Za.wrap (4+r_4)).toNat) 63,Ze (mkRat 1 (Za.wrap (10+r_5)).toNat) 63,Ye 6 [[Ze (mkRat (-1) 4,mkRat (-1) 4).fst 63,Ze (mkRat (-1) 4,mkRat (-1) 4).snd 63],[Ze (mkRat (Za.wrap (Za.wrap (4+Za.wrap (2*r))+1)) 4,mkRat (-1) 4).fst 63,Ze (mkRat (Za.wrap (Za.wrap (4+Za.wrap (2*r))+1)) 4,mkRat (-1) 4).snd 63],[Ze (mkRat (Za.wrap (Za.wrap (4+Za.wrap (2*r))+1)) 4,mkRat 1 4).fst 63,Ze (mkRat (Za.wrap (Za.wrap (4+Za.wrap (2*r))+1)) 4,mkRat 1 4).snd 63],[Ze (mkRat (-1) 4,mkRat 1 4).fst 63,Ze (mkRat (-1) 4,mkRat 1 4).snd 63]]]]=Zc QC x'.a.links∨QG (Zj x.a.links.length (Zc QC x.a.links)++[[Ze (mkRat (Za.wrap (4+Za.wrap (2*r))) 4) 63,Ze (mkRat (Za.wrap (-1-r_2)) 3) 63,Ze (mkRat (Za.wrap (1+r_3)) 3) 63,Ze (mkRat 1 (Za.wrap (4+r_4)).toNat) 63,Ze (mkRat 1 (Za.wrap (10+r_5)).toNat) 63,Ye 6 [[Ze (mkRat (-1) 4,mkRat (-1) 4).fst 63,Ze (mkRat (-1) 4,mkRat (-1) 4).snd 63],[Ze (mkRat (Za.wrap (Za.wrap (4+Za.wrap (2*r))+1)) 4,mkRat (-1) 4).fst 63,Ze (mkRat (Za.wrap (Za.wrap (4+Za.wrap (2*r))+1)) 4,mkRat (-1) 4).snd 63],[Ze (mkRat (Za.wrap (Za.wrap (4+Za.wrap (2*r))+1)) 4,mkRat 1 4).fst 63,Ze (mkRat (Za.wrap (Za.wrap (4+Za.wrap (2*r))+1)) 4,mkRat 1 4).snd 63],[Ze (mkRat (-1) 4,mkRat 1 4).fst 63,Ze (mkRat (-1) 4,mkRat 1 4).snd 63]]]]) (Zc QC x'.a.links))/\True else ∃(x_1:Qb×List Int),((Made x_1.fst/\1<=x_1.fst.links.length)/\x_1.snd.length<=l.length)/\0=0/\78=78/\1=1/\ints x.l=ints x_1.snd/\48=48/\x.a.name=x_1.fst.name/\x.a.x=x_1.fst.x/\63<=63/\x.a.y=x_1.fst.y/\63<=63/\x.a.half=x_1.fst.half/\x.a.t=x_1.fst.t/\63<=63/\0=0/\x.a.links.length=x_1.fst.links.length/\88=88/\16=16/\(Zc QC x.a.links=Zc QC x_1.fst.links∨QG (Zc QC x.a.links) (Zc QC x_1.fst.links))/\True)) ?_
 simp only[Zf,R0,R1,Zw,Zl,R4];refine⟨by omega,_,rfl,by omega,l,rfl,by omega,hl,fun r l1 hr h1=>⟨by omega,?_⟩⟩;obtain⟨d,hd,hdr⟩: ∃d,ldE [[Zm (Zg Za 0)],[Zm (Zg Za 1)],[Zm (Zg Za (-1))],[Zm (Zg Za 1)]] r.toNat 0 1=some [Zm (Zg Za d)]/\ -1<=d/\d<=1:=by
  have:r=0∨r=1∨r=2∨r=3:=by omega
  rcases this with rfl | rfl | rfl | rfl
  ·exact⟨0,rfl,by omega⟩
  ·exact⟨1,rfl,by omega⟩
  ·exact⟨-1,rfl,by omega⟩
  ·exact⟨1,rfl,by omega⟩
 refine⟨d,hd,l1,rfl,by omega,by omega,fun r2 l2 hr2 h2=> ?_⟩;rw[w64 (n:=1+r2) (by omega)];refine⟨by omega,l2,rfl,by omega,by omega,fun r3 l3 hr3 h3=> ?_⟩;rw[w64 (n:=1+r3) (by omega)];refine⟨⟨⟨⟨QKK,mkRat 0 4,mkRat 0 4,false,mkRat d (1+r2).toNat,[]⟩,l3,(1+r3).toNat⟩,⟨⟨rfl,rfl,rfl,rfl,⟨d,1+r2,hdr,by omega,rfl⟩,by simp,by simp⟩,by simp only;omega,by simp,by simp only;omega,by simp only;omega⟩,by simp only;omega,rfl,rfl,rfl,rfl,rfl,rfl,rfl,rfl,rfl⟩,fun x hx=>QE (fun hp=> ?_) (fun hp=> ?_)⟩
 ·obtain⟨hm,hl1,hn,hn1,hn3⟩:=hx;have hp:=R5 hp;refine⟨_,rfl,by omega,by omega,fun r l1 hr h1=> ?_⟩;rw[w64 (n:=2*r) (by omega),w64 (n:=4+2*r) (by omega)];refine⟨by omega,l1,rfl,by omega,by omega,fun i l2 hi h2=> ?_⟩;rw[w64 (n:= -1-i) (by omega)];refine⟨by omega,l2,rfl,by omega,by omega,fun j l3 hj h3=> ?_⟩;rw[w64 (n:=1+j) (by omega)];refine⟨by omega,l3,rfl,by omega,by omega,fun s l4 hs h4=> ?_⟩;rw[w64 (n:=4+s) (by omega)];refine⟨by omega,l4,rfl,by omega,by omega,fun b l5 hb h5=> ?_⟩;rw[w64 (n:=10+b) (by omega),w64 (n:=4+2*r+1) (by omega)];refine⟨by omega,by omega,l5,rfl,by omega,by omega,fun q l6 hq h6=> ?_⟩
  have hL: ∀tri,MadeLink (Ke (4+2*r) i j s b tri):=fun tri=>⟨r,i,j,s,b,tri,hr,hi,hj,hs,hb,rfl⟩;have ht: ∀L:Qv,Zj x.a.links.length (Zc QC x.a.links)++[QC L]=Zc QC (x.a.links++[L]):=fun L=>by
   rw[Zo (by rw[Zk];exact Zl _),List.map_append];rfl
  refine QE (fun _=>⟨by omega,by omega,by omega,by omega,⟨{x.a with links:=x.a.links++[Ke (4+2*r) i j s b true]},l6,x.n⟩,⟨⟨hm.add (hL true) (by omega),by simp only;omega,?_,hn1,hn3⟩,?_⟩,rfl,?_,rfl,rfl,rfl,rfl,rfl,rfl,by simp,.inl (ht (Ke _ _ _ _ _ true))⟩) (fun _=>⟨by omega,⟨{x.a with links:=x.a.links++[Ke (4+2*r) i j s b false]},l6,x.n⟩,⟨⟨hm.add (hL false) (by omega),by simp only;omega,?_,hn1,hn3⟩,?_⟩,rfl,?_,rfl,rfl,rfl,rfl,rfl,rfl,by simp,.inl (ht (Ke _ _ _ _ _ false))⟩);all_goals simp only[Zs,Zp,Zz]
  all_goals first | omega | (rw[w64 (by omega)];simp)
 ·obtain⟨hm,hl1,hn,hn1,hn3⟩:=hx;have hp:=R6 hp;exact⟨⟨x.a,x.l⟩,⟨⟨hm,by simp only;omega⟩,hl1⟩,rfl,rfl,rfl,rfl,rfl,rfl,rfl,.inl rfl⟩
end Go.Proofs
namespace Go.Proofs
open Go Go.Eng
def MadeA (a:Qb):Prop:=Made a/\1<=a.links.length
def QFX:YA:=fun as0 H d=>match as0 with
 | [.x false [.p k o],.x false [.v (.int .i64 n)]]=>match o with
  | 0=>match H k with
   | some (.box t [.s 1 xs])=>match H d with
    | none=>bif t.beq 78 then
     some fun K=> ∃l,xs=ints l/\n=0/\l.length<=9223372036854775807/\ ∀(a:Qb) (l':List Int),MadeA a->l'.length<=l.length->
      K (.x true (QNC a d)) (Xc [(1000,k),(500,d)] (QO [(1000,stB l'),(4,.box 48 (QNC a 500)),(500,QDW a.links)]) H)
     else none
    | some _=>none
   | _=>none
  | _+1=>none
 | _=>none
theorem QND:WE 41 QFX:=by
 refine⟨Qm Tryd.func41 (by kernel_rfl),fun l H d T hT K hK=> ?_⟩;unfold QFX at hT;split at hT
 ·rename_i k o n;split at hT
  ·split at hT
   ·rename_i t xs e1;split at hT
    ·rename_i hd;cases hb:t.beq 78 with
     | false=>rw[hb]at hT;cases hT
     | true=>
      rw[hb]at hT;cases hT
      have ht:=Yb hb;subst ht;obtain⟨l,rfl,rfl,hl,hK⟩:=hK;refine Xp (R:=[(1000,k)]) (N:=[(500,d)]) (Hl:=[(1000,stB l)]) QQ1 QW Tryd.func41 (by kernel_rfl) (by kernel_rfl) (by rfl)
       (as0:=[.x false [.p 1000 0],iA .i64 0]) ?_ (GB e1 rfl rfl) rfl (by simp) (by simp) (fun p hp=>by simp at hp;subst hp;exact hd) (fun x=>⟨fun p hp=> ?_,fun p hp b hb=> ?_⟩) (QPa l hl) (fun x hx=> ?_)
      ·simp[Jf,Je,JJ,lkB,iA]
      ·simp at hp;subst hp;exact fun h=>by have h':some (stB _)=none:=h;cases h'
      ·simp at hp;rcases hp with rfl | rfl
       ·have h':some (stB _)=some b:=hb;cases h';rfl
       ·have h':some (QDW _)=some b:=hb;cases h';rfl
      ·exact⟨_,rfl,hK _ _ hx.1 hx.2⟩
    ·cases hT
   ·cases hT
  ·cases hT
 ·cases hT
def M33:List (Nat×YA):=(41,QFX)::M30
theorem Ju:YI M33:= .cons QND QGJ
theorem QPb (l:List Int)(hc:(l.length<=9223372036854775807))(K:AV->Prop)(hK: ∀a:Qb,MadeA a->K (WW a)):QU (Qc (mkT L32 M33 X4) (oF Tryd.f18) noL Tryd.f18 [.x false [.s 1 (ints l)]] K):=by
 refine HV ((∃(l_1:List Int),ints l=ints l_1/\(0:Int)=0/\l_1.length<=9223372036854775807/\∀(a:Qb) (l':List Int),Made a/\1<=a.links.length->l'.length<=l_1.length->K (Zu true [Zm (Zq a.name),Ze a.x 63,Ze a.y 63,Zm (Zn a.half),Ze a.t 63,Ye 16 (Zj a.links.length (List.drop 0 (Zc QC a.links)))]))) ?_
 try simp only[R0]
 refine⟨l,rfl,hc,fun a l' ha _=> ?_⟩;have:=hK a ha;unfold WW YM at this;rw[Yf,Zo (by rw[Zk];exact Zl _)];exact this
def QFY:Ctr
 | [.x false [.s 1 xs]]=>some fun K=> ∃(l:List Int),xs=ints l/\((l.length<=9223372036854775807))/\(∀a:Qb,MadeA a->K (WW a))
 | _=>none
theorem QNE:QT 18 QFY:=by
 refine okL Tryd.func18 fun l T hT K hK=> ?_
 unfold QFY at hT;split at hT<;>cases hT
 obtain⟨l,rfl,hc,hK⟩:=hK;exact spL (Qq QKJ Ju XP) QW Tryd.func18 (QPb _ hc K hK)
def L34:LC:=(18,QFY)::L32
noncomputable def T34:Qh:=mkT L34 M33 X4
theorem QOA:QN L34:= .cons QNE QKJ
theorem QQ2:XO T34:=Qq QOA Ju XP
end Go.Proofs
namespace Go.Proofs
open Go Go.Eng
def Xu (q:Rat):Prop:=q.num.natAbs<=1000000/\q.den<=1000
def lft (a b c:Rat×Rat):Rat:=(b.1-a.1)*(c.2-a.2)-(b.2-a.2)*(c.1-a.1)
structure Kf (l:List (Rat×Rat)):Prop where
 lo:3<=l.length
 hi:l.length<=8
 left: ∀i k a b c,2<=k->k<l.length->l[i]? =some a->l[(i+1) % l.length]? =some b->l[(i+k) % l.length]? =some c->0<lft a b c
theorem QGN (m n:Nat):YR m n<=0↔m<=n:=by
 unfold YR;split
 ·omega
 ·split<;>omega
theorem QKM (p:Rat)(a:Nat)(hc:(a<=1000000)/\(Xu p))(K:AV->Prop)(hK:K (.x false [.v (.bool true)])):QU (Qc T34 (oF Tryd.f79) noL Tryd.f79 [rA p a] K):=by
 refine HV ((bif decide (Zb (QA p.num.natAbs).length<=3)then bif decide (Zb (QA p.den).length<=2)then a<=4294967296/\(1000000:Int)<9223372036854775808/\bif decide (YR p.num.natAbs 1000000<=0)then(1000:Int)<9223372036854775808/\K (Zu false [Zm (Zn (decide (YR p.den (Int.toNat 1000)<=0)))])else K (Zu false [Zm (Zn false)])else K (Zu false [Zm (Zn false)])else K (Zu false [Zm (Zn false)]))) ?_
 try simp only[Zf]
 obtain⟨h1,h2,h3⟩:=hc;have e1:(QA p.num.natAbs).length<=3:=Qa.2 (by omega);have e2:(QA p.den).length<=2:=Qa.2 (by omega);refine QE (fun _=>QE (fun _=>⟨by omega,by omega,QE (fun _=>⟨by omega,?_⟩) (fun h=> ?_)⟩) (fun h=> ?_)) (fun h=> ?_)
 ·rw[show decide (YR p.den (Int.toNat 1000)<=0)=true from decide_eq_true ((QGN _ _).2 h3)];exact hK
 ·exact absurd ((QGN _ _).2 h2) (R6 h)
 ·have:=R6 h;omega
 ·have:=R6 h;omega
def GY:Ctr
 | [.x true [.r p a]]=>some fun K=>((a<=1000000)/\(Xu p))/\(K (.x false [.v (.bool true)]))
 | _=>none
theorem QHy:QT 79 GY:=by
 refine okL Tryd.func79 fun l T hT K hK=> ?_
 unfold GY at hT;split at hT<;>cases hT
 obtain⟨hc,hK⟩:=hK;exact spL QQ2 QW Tryd.func79 (QKM _ _ hc K hK)
def L35:LC:=(79,GY)::L34
theorem QOB:QN L35:= .cons QHy QOA
theorem QPc (px:Rat)(a:Nat)(py:Rat)(b:Nat)(qx:Rat)(c:Nat)(qy:Rat)(d:Nat)(hc:(a+c<=4294967290)/\(b+d<=4294967290))(K:AV->Prop)(hK:K (.x true [.r (px-qx) (a+c+1),.r (py-qy) (b+d+1)])):QU (Qc (mkT L35 M33 X4) (oF Tryd.f101) noL Tryd.f101 [.x true [.r px a,.r py b],.x true [.r qx c,.r qy d]] K):=by
 refine HV ((a+c+1<=4294967296/\b+d+1<=4294967296/\K (Zu true [Ze (px-qx) (a+c+1),Ze (py-qy) (b+d+1)]))) ?_
 try simp only[Zf,R0,R1,Zw,Zl,R4,R2,R3]
 exact⟨by omega,by omega,hK⟩
def QFZ:Ctr
 | [.x true [.r px a,.r py b],.x true [.r qx c,.r qy d]]=>some fun K=>((a+c<=4294967290)/\(b+d<=4294967290))/\(K (.x true [.r (px-qx) (a+c+1),.r (py-qy) (b+d+1)]))
 | _=>none
theorem QNF:QT 101 QFZ:=by
 refine okL Tryd.func101 fun l T hT K hK=> ?_
 unfold QFZ at hT;split at hT<;>cases hT
 obtain⟨hc,hK⟩:=hK;exact spL (Qq QOB Ju XP) QW Tryd.func101 (QPc _ _ _ _ _ _ _ _ hc K hK)
def L36:LC:=(101,QFZ)::L35
theorem QOC:QN L36:= .cons QNF QOB
theorem QKN (px:Rat)(a:Nat)(py:Rat)(b:Nat)(qx:Rat)(c:Nat)(qy:Rat)(d:Nat)(hc:(a+b+c+d<=4294967290))(K:AV->Prop)(hK:K (rA (px*qy-py*qx) (a+d+(b+c)+1))):QU (Qc (mkT L36 M33 X4) (oF Tryd.f100) noL Tryd.f100 [.x true [.r px a,.r py b],.x true [.r qx c,.r qy d]] K):=by
 refine HV ((a+d<=4294967296/\b+c<=4294967296/\a+d+(b+c)+1<=4294967296/\K (Zu true [Ze (px*qy-py*qx) (a+d+(b+c)+1)]))) ?_
 try simp only[Zf,R0,R1,Zw,Zl,R4,R2,R3]
 exact⟨by omega,by omega,by omega,hK⟩
def GZ:Ctr
 | [.x true [.r px a,.r py b],.x true [.r qx c,.r qy d]]=>some fun K=>((a+b+c+d<=4294967290))/\(K (rA (px*qy-py*qx) (a+d+(b+c)+1)))
 | _=>none
theorem QHz:QT 100 GZ:=by
 refine okL Tryd.func100 fun l T hT K hK=> ?_
 unfold GZ at hT;split at hT<;>cases hT
 obtain⟨hc,hK⟩:=hK;exact spL (Qq QOC Ju XP) QW Tryd.func100 (QKN _ _ _ _ _ _ _ _ hc K hK)
def L37:LC:=(100,GZ)::L36
theorem QOD:QN L37:= .cons QHz QOC
theorem QNG (a:Rat×Rat)(b:Rat×Rat)(c:Rat×Rat)(n:Nat)(hc:(n<=500000000))(K:AV->Prop)(hK:K (iA .i64 (WV (lft a b c)))):QU (Qc (mkT L37 M33 X4) (oF Tryd.f99) noL Tryd.f99 [.x true (XW n a),.x true (XW n b),.x true (XW n c)] K):=by
 refine HV (((n+n<=4294967290/\n+n<=4294967290)/\(n+n<=4294967290/\n+n<=4294967290)/\n+n+1+(n+n+1)+(n+n+1)+(n+n+1)<=4294967290/\n+n+1+(n+n+1)+(n+n+1+(n+n+1))+1<=4294967296/\K (Zu false [Zm (Zg Za (WV ((b.fst-a.fst)*(c.snd-a.snd)-(b.snd-a.snd)*(c.fst-a.fst))))]))) ?_
 try simp only[Zf,R0,R1,Zw,Zl,R4,R2,R3]
 exact⟨by omega,by omega,by omega,by omega,hK⟩
def QBr:Ctr
 | [.x true p1,.x true p2,.x true p3]=>some fun K=> ∃(a:Rat×Rat) (b:Rat×Rat) (c:Rat×Rat) (n:Nat),p1=XW n a/\p2=XW n b/\p3=XW n c/\((n<=500000000))/\(K (iA .i64 (WV (lft a b c))))
 | _=>none
theorem QKO:QT 99 QBr:=by
 refine okL Tryd.func99 fun l T hT K hK=> ?_
 unfold QBr at hT;split at hT<;>cases hT
 obtain⟨a,b,c,n,rfl,rfl,rfl,hc,hK⟩:=hK;exact spL (Qq QOD Ju XP) QW Tryd.func99 (QNG _ _ _ _ hc K hK)
def L38:LC:=(99,QBr)::L37
noncomputable def T38:Qh:=mkT L38 M33 X4
theorem QOE:QN L38:= .cons QKO QOD
theorem QQ3:XO T38:=Qq QOE Ju XP
end Go.Proofs
namespace Go.Proofs
open Go Go.Eng
def lRb (l:List (Rat×Nat)):List (List Ch):=l.map fun p=>[Ze p.1 p.2]
def QBs (b:ByteArray):Prop:=(1<=b.size/\b.size<=12)/\ ∀(i:Nat) (x:UInt8),b.data.toList[i]? =some x->97<=x.toNat/\x.toNat<=122
theorem QBt {n:Nat}{l:List (Rat×Rat)}{i:Nat}{a:Rat×Rat}(h:l[i]? =some a):ldE (l.map (XW n)) i 0 6=some [.r a.1 n,.r a.2 n]:=by
 simp only[ldE,Ya,h];rfl
theorem QDX {q:Rat}(h:0<q):WV q=1:=by
 unfold WV;have h1:=Rat.num_nonneg.2 (Rat.le_of_lt h);have h2:q.num≠0:=fun e=>by
  rw[Rat.num_eq_zero.1 e]at h;exact absurd h Rat.lt_irrefl
 rw[if_neg h2,if_neg (by omega)]
abbrev QDY (l:List (Rat×Nat))(K:AV->Prop):Prop:=((l.length<=1000000)/\(∀p∈l,Xu p.1/\p.2<=1000000))/\(K (.x false [.v (.bool true)]))
theorem QKP (l:List (Rat×Nat))(K:AV->Prop)(hK:QDY l K):QU (Qc T38 (oF Tryd.f68) (fun _=> .inv ⟨Nat,fun i=>⟨[(5,.x false [.s 3 (lRb l)]),(6,iA .i64 l.length),(7,iA .i64 i)],[]⟩,fun i=>i<=l.length,fun i=>l.length-i,fun _=>0⟩) Tryd.f68 [.x false [.s 3 (lRb l)]] K):=by
 obtain⟨hc,hK⟩:=hK;refine HV (((∃(x:Nat),(x<=l.length/\OfNat.ofNat 0=0)/\3=3/\lRb l=lRb l/\Zb (lRb l).length=Zb l.length/\0=Zb x/\True)/\∀(x:Nat),x<=l.length->OfNat.ofNat 0=0->bif decide (Zb x<Zb l.length)then(0<=Zb x/\Zb x<Zb (lRb l).length)/\∃(q:Rat),∃(n:Nat),ldE (lRb l) (Zb x).toNat 0 3=some [Ze q n]/\(n<=1000000/\q.num.natAbs<=1000000/\q.den<=1000)/\∃(x':Nat),(x'<=l.length/\OfNat.ofNat 0=0/\l.length-x'<l.length-x)/\3=3/\lRb l=lRb l/\Zb l.length=Zb l.length/\Za.wrap (Zb x+1)=Zb x'/\True else K (Zu false [Zm (Zn true)]))) ?_
 try simp only[Zf,R0,R1,R4]
 obtain⟨h1,h2⟩:=hc;have hl:(lRb l).length=l.length:=by simp[lRb]
 simp only[hl];refine⟨⟨0,by omega,trivial,rfl⟩,fun x hx=>QE (fun hp=> ?_) (fun _=>hK)⟩;have hp:=R5 hp;obtain⟨p,hpp⟩: ∃p,l[x]? =some p:=⟨_,Zh (by omega)⟩
 obtain⟨⟨a1,a2⟩,a3⟩:=h2 p (Zv hpp);refine⟨by omega,p.1,p.2,by simp only[ldE,lRb,Ya,Zt,hpp];rfl,⟨a3,a1,a2⟩,x+1,⟨by omega,by omega⟩,by rw[w64 (by omega)];simp⟩
def Ga:Ctr
 | [.x false [.s 3 xs]]=>some fun K=> ∃(l:List (Rat×Nat)),xs=lRb l/\QDY l K
 | _=>none
theorem QH0:QT 68 Ga:=by
 refine okL Tryd.func68 fun l T hT K hK=> ?_
 unfold Ga at hT;split at hT<;>cases hT
 obtain⟨l,rfl,hK⟩:=hK;exact spL QQ3 QW Tryd.func68 (QKP _ K hK)
def L39:LC:=(68,Ga)::L38
theorem QOF:QN L39:= .cons QH0 QOE
theorem QKQ (b:ByteArray)(hc:(QBs b))(K:AV->Prop)(hK:K (.x false [.v (.bool true)])):QU (Qc (mkT L39 M33 X4) (oF Tryd.f67) (fun _=> .inv ⟨Nat,fun i=>⟨[(0,.x false [.v (.string b)]),(5,iA .i64 b.size),(6,iA .i64 i)],[]⟩,fun i=>i<=b.size,fun i=>b.size-i,fun _=>0⟩) Tryd.f67 [.x false [.v (.string b)]] K):=by
 refine HV (((∃(x:Nat),(x<=b.size/\OfNat.ofNat 0=0)/\b=b/\Zb b.size=Zb b.size/\0=Zb x/\True)/\∀(x:Nat),x<=b.size->OfNat.ofNat 0=0->bif decide (Zb x<Zb b.size)then ∃(b_1:UInt8),(0<=Zb x/\b.data.toList[(Zb x).toNat]?=some b_1)/\bif decide (Zb b_1.toNat<97)then K (Zu false [Zm (Zn false)])else ∃(b_2:UInt8),(0<=Zb x/\b.data.toList[(Zb x).toNat]?=some b_2)/\bif decide (Zb b_2.toNat>122)then K (Zu false [Zm (Zn false)])else ∃(x':Nat),(x'<=b.size/\OfNat.ofNat 0=0/\b.size-x'<b.size-x)/\b=b/\Zb b.size=Zb b.size/\Za.wrap (Zb x+1)=Zb x'/\True else bif decide (Zb b.size≥1)then K (Zu false [Zm (Zn (decide (Zb b.size<=12)))])else K (Zu false [Zm (Zn false)]))) ?_
 try simp only[Zf,R0,R1,R4]
 obtain⟨⟨h1,h2⟩,h3⟩:=hc;have hs:b.data.toList.length=b.size:=by simp
 refine⟨⟨0,by omega,rfl⟩,fun x hx=>QE (fun hp=> ?_) (fun _=> ?_)⟩
 ·have hp:=R5 hp;obtain⟨p,hpp⟩: ∃p,b.data.toList[x]? =some p:=⟨_,Zh (by omega)⟩
  have hx3:=h3 x p hpp;simp only[Zt];exact⟨p,⟨by omega,hpp⟩,QE (fun h=>by have:=R5 h;omega) (fun _=>⟨p,⟨by omega,hpp⟩,QE (fun h=>by have:=R5 h;omega) (fun _=>⟨x+1,⟨by omega,by omega⟩,by rw[w64 (by omega)];simp⟩)⟩)⟩
 ·refine QE (fun _=> ?_) (fun h=>by have:=R6 h;omega);rw[show decide ((b.size:Int)<=12)=true from decide_eq_true (by omega)];exact hK
def Gb:Ctr
 | [.x false [.v (.string b)]]=>some fun K=>((QBs b))/\(K (.x false [.v (.bool true)]))
 | _=>none
theorem QH1:QT 67 Gb:=by
 refine okL Tryd.func67 fun l T hT K hK=> ?_
 unfold Gb at hT;split at hT<;>cases hT
 obtain⟨hc,hK⟩:=hK;exact spL (Qq QOF Ju XP) QW Tryd.func67 (QKQ _ hc K hK)
def L40:LC:=(67,Gb)::L39
theorem QOG:QN L40:= .cons QH1 QOF
set_option maxHeartbeats 1000000 in
theorem QNH (n:Nat)(l:List (Rat×Rat))(most:Int)(hc:(n<=500000000)/\(Kf l)/\((8<=most)))(K:AV->Prop)(hK:K (iA .i64 0)):QU (Qc (mkT L40 M33 X4) (oF Tryd.f92) (fun id=>bif id.beq 10 then .inv ⟨Nat×Nat,fun x=>⟨[(0,.x false [.s 6 (l.map (XW n))]),(5,iA .i64 l.length),(6,iA .i64 x.1),(7,.x false [.p 7 0]),(8,iA .i64 x.2),(18,.x false [.s 6 (l.map (XW n))]),(19,iA .i64 l.length),(20,iA .i64 x.1)],[(7,.box 41 (XW n (l.getD x.1 (0,0))))]⟩,fun x=>x.1<l.length/\2<=x.2/\x.2<=l.length,fun x=>l.length-x.2,fun x=>l.length-x.1⟩else .inv ⟨Nat,fun i=>⟨[(0,.x false [.s 6 (l.map (XW n))]),(5,iA .i64 l.length),(18,.x false [.s 6 (l.map (XW n))]),(19,iA .i64 l.length),(20,iA .i64 i)],[]⟩,fun i=>i<=l.length,fun i=>l.length-i,fun _=>0⟩) Tryd.f92 [.x false [.s 6 (l.map (XW n))],iA .i64 most] K):=by
 refine HV ((bif decide (Zb (Zc (XW n) l).length>most)then K (Zu false [Zm (Zg Za 2)])else bif decide (Zb (Zc (XW n) l).length<3)then K (Zu false [Zm (Zg Za 3)])else(∃(x:Nat),(x<=l.length/\OfNat.ofNat 0=0)/\6=6/\Zc (XW n) l=Zc (XW n) l/\Zb (Zc (XW n) l).length=Zb l.length/\6=6/\Zc (XW n) l=Zc (XW n) l/\Zb (Zc (XW n) l).length=Zb l.length/\0=Zb x/\True)/\∀(x:Nat),x<=l.length->OfNat.ofNat 0=0->bif decide (Zb x<Zb l.length)then(0<=Zb x/\Zb x<Zb (Zc (XW n) l).length)/\∃(q:Rat),∃(n_1:Nat),∃(q_1:Rat),∃(n_2:Nat),ldE (Zc (XW n) l) (Zb x).toNat 0 6=some [Ze q n_1,Ze q_1 n_2]/\(∃(x_1:Nat×Nat),((x_1.fst<l.length/\2<=x_1.snd/\x_1.snd<=l.length)/\l.length-x_1.fst=l.length-x)/\6=6/\Zc (XW n) l=Zc (XW n) l/\Zb l.length=Zb l.length/\Zb x=Zb x_1.fst/\0=0/\2=Zb x_1.snd/\6=6/\Zc (XW n) l=Zc (XW n) l/\Zb l.length=Zb l.length/\Zb x=Zb x_1.fst/\41=41/\q=(l.getD x_1.fst (OfNat.ofNat 0,OfNat.ofNat 0)).fst/\n_1<=n/\q_1=(l.getD x_1.fst (OfNat.ofNat 0,OfNat.ofNat 0)).snd/\n_2<=n/\True)/\∀(x_1:Nat×Nat),x_1.fst<l.length/\2<=x_1.snd/\x_1.snd<=l.length->l.length-x_1.fst=l.length-x->bif decide (Zb x_1.snd<Zb l.length)then Zb l.length≠0/\(0<=(Za.wrap (Zb x_1.fst+1)).tmod (Zb l.length)/\(Za.wrap (Zb x_1.fst+1)).tmod (Zb l.length)<Zb (Zc (XW n) l).length)/\∃(q:Rat),∃(n_3:Nat),∃(q_2:Rat),∃(n_4:Nat),ldE (Zc (XW n) l) ((Za.wrap (Zb x_1.fst+1)).tmod (Zb l.length)).toNat 0 6=some [Ze q n_3,Ze q_2 n_4]/\Zb l.length≠0/\(0<=(Za.wrap (Zb x_1.fst+Zb x_1.snd)).tmod (Zb l.length)/\(Za.wrap (Zb x_1.fst+Zb x_1.snd)).tmod (Zb l.length)<Zb (Zc (XW n) l).length)/\∃(q_3:Rat),∃(n_5:Nat),∃(q_4:Rat),∃(n_6:Nat),ldE (Zc (XW n) l) ((Za.wrap (Zb x_1.fst+Zb x_1.snd)).tmod (Zb l.length)).toNat 0 6=some [Ze q_3 n_5,Ze q_4 n_6]/\∃(a:Rat×Rat),∃(b:Rat×Rat),∃(c:Rat×Rat),∃(n_7:Nat),[Ze (l.getD x_1.fst (OfNat.ofNat 0,OfNat.ofNat 0)).fst n,Ze (l.getD x_1.fst (OfNat.ofNat 0,OfNat.ofNat 0)).snd n]=[Ze a.fst n_7,Ze a.snd n_7]/\[Ze q n_3,Ze q_2 n_4]=[Ze b.fst n_7,Ze b.snd n_7]/\[Ze q_3 n_5,Ze q_4 n_6]=[Ze c.fst n_7,Ze c.snd n_7]/\n_7<=500000000/\bif decide (WV (lft a b c)<=0)then K (Zu false [Zm (Zg Za 3)])else ∃(x':Nat×Nat),((x'.fst<l.length/\2<=x'.snd/\x'.snd<=l.length)/\l.length-x'.fst=l.length-x/\l.length-x'.snd<l.length-x_1.snd)/\6=6/\Zc (XW n) l=Zc (XW n) l/\Zb l.length=Zb l.length/\Zb x_1.fst=Zb x'.fst/\0=0/\Za.wrap (Zb x_1.snd+1)=Zb x'.snd/\6=6/\Zc (XW n) l=Zc (XW n) l/\Zb l.length=Zb l.length/\Zb x_1.fst=Zb x'.fst/\41=41/\(l.getD x_1.fst (OfNat.ofNat 0,OfNat.ofNat 0)).fst=(l.getD x'.fst (OfNat.ofNat 0,OfNat.ofNat 0)).fst/\n<=n/\(l.getD x_1.fst (OfNat.ofNat 0,OfNat.ofNat 0)).snd=(l.getD x'.fst (OfNat.ofNat 0,OfNat.ofNat 0)).snd/\n<=n/\True else ∃(x':Nat),(x'<=l.length/\OfNat.ofNat 0=0/\l.length-x'<l.length-x)/\6=6/\Zc (XW n) l=Zc (XW n) l/\Zb l.length=Zb l.length/\6=6/\Zc (XW n) l=Zc (XW n) l/\Zb l.length=Zb l.length/\Za.wrap (Zb x_1.fst+1)=Zb x'/\True else K (Zu false [Zm (Zg Za 0)]))) ?_
 try simp only[Zf,R0,R1,Zl,R4]
 obtain⟨h1,h2,h3⟩:=hc;have l1:=h2.lo;have l2:=h2.hi;simp only[Zk];refine QE (fun h=>by have:=R5 h;omega) (fun _=>QE (fun h=>by have:=R5 h;omega) (fun _=>⟨⟨0,by omega,trivial,trivial,rfl⟩,fun x hx=>QE (fun hp=> ?_) (fun _=>hK)⟩));have hp:x<l.length:=by have:=R5 hp;omega
 obtain⟨a,ha⟩: ∃a,l[x]? =some a:=⟨_,Zh hp⟩
 have hga:l.getD x (0,0)=a:=by rw[Yd,ha];rfl
 refine⟨by omega,_,_,_,_,QBt (by simpa using ha),⟨(x,2),⟨⟨hp,by simp only;omega,by simp only;omega⟩,rfl⟩,rfl,rfl,rfl,by simp only;rw[<-hga],Zl _,by simp only;rw[<-hga],Zl _⟩,fun y hy ht=> ?_⟩;obtain⟨i,k⟩:=y;simp only at hy ht⊢;have hi:i=x:=by omega
 subst hi;refine QE (fun hk=> ?_) (fun _=>⟨i+1,⟨by omega,by omega⟩,by rw[w64 (by omega)];simp⟩);have hk:k<l.length:=by have:=R5 hk;omega
 have e1:(Za.wrap ((i:Int)+1)).tmod (l.length:Int)=(((i+1) % l.length:Nat):Int):=by
  rw[w64 (by omega),tm (by omega)];simp
 have e2:(Za.wrap ((i:Int)+k)).tmod (l.length:Int)=(((i+k) % l.length:Nat):Int):=by
  rw[w64 (by omega),tm (by omega)];simp
 have m1:=Nat.mod_lt (i+1) (by omega:0<l.length);have m2:=Nat.mod_lt (i+k) (by omega:0<l.length);obtain⟨b,hb⟩: ∃b,l[(i+1) % l.length]? =some b:=⟨_,Zh m1⟩
 obtain⟨c,hcc⟩: ∃c,l[(i+k) % l.length]? =some c:=⟨_,Zh m2⟩
 have hpos:=h2.left i k a b c hy.2.1 hk ha hb hcc;rw[e1,e2,Zt,Zt];refine⟨by omega,by omega,_,_,_,_,QBt hb,by omega,by omega,_,_,_,_,QBt hcc,a,b,c,n,by rw[hga],rfl,rfl,by omega,QE (fun h=> ?_) (fun _=> ?_)⟩
 ·have h:=R5 h;rw[QDX hpos]at h;omega
 ·refine⟨(i,k+1),?_⟩;simp only;refine⟨⟨⟨hp,by omega,by omega⟩,trivial,by omega⟩,trivial,?_,trivial,trivial,trivial⟩;rw[w64 (by omega)];simp
def QBu:Ctr
 | [.x false [.s 6 xs],.x false [.v (.int .i64 most)]]=>some fun K=> ∃(n:Nat) (l:List (Rat×Rat)),xs=l.map (XW n)/\((n<=500000000)/\(Kf l)/\((8<=most)))/\(K (iA .i64 0))
 | _=>none
theorem QKR:QT 92 QBu:=by
 refine okL Tryd.func92 fun l T hT K hK=> ?_
 unfold QBu at hT;split at hT<;>cases hT
 obtain⟨n,l,rfl,hc,hK⟩:=hK;exact spL (Qq QOG Ju XP) QW Tryd.func92 (QNH _ _ _ hc K hK)
def L41:LC:=(92,QBu)::L40
noncomputable def T41:Qh:=mkT L41 M33 X4
theorem QOH:QN L41:= .cons QKR QOG
theorem QQ4:XO T41:=Qq QOH Ju XP
end Go.Proofs
namespace Go.Proofs
open Go Go.Eng
structure Jh (L:Qv):Prop where
 small:Xu L.len/\Xu L.lo/\Xu L.hi/\Xu L.sp/\Xu L.br
 len:0<L.len
 lim:L.lo<L.hi
 sp:0<L.sp
 br:0<L.br
 poly:Kf L.shape
 shape: ∀p∈L.shape,Xu p.1/\Xu p.2
structure Ql (a:Qb):Prop where
 name:QBs a.name
 n:1<=a.links.length/\a.links.length<=3
 small:Xu a.x/\Xu a.y/\Xu a.t
 half:a.half=true->a.t=0
 links: ∀L∈a.links,Jh L
def Fit (a:Qb)(qs:List Rat):Prop:= ∀(i:Nat) (L:Qv) (q:Rat),a.links[i]? =some L->qs[i]? =some q->L.lo<=q/\q<=L.hi
theorem Ww {l:List Qv}{i:Nat}{L:Qv}(h:l[i]? =some L):ldE (l.map QC) i 0 16=some (QC L):=by
 simp only[ldE,Ya,h];rfl
theorem QNI (n:Nat)(l:List (Rat×Rat))(hc:(n<=500000000)/\(Kf l))(K:AV->Prop)(hK:K (iA .i64 0)):QU (Qc T41 (oF Tryd.f80) noL Tryd.f80 [.x false [.s 6 (l.map (XW n))]] K):=by
 refine HV ((∃(n_1:Nat),∃(l_1:List (Rat×Rat)),Zc (XW n) l=Zc (XW n_1) l_1/\(n_1<=500000000/\Kf l_1/\(8:Int)<=8)/\K (Zu false [Zm (Zg Za 0)]))) ?_
 try simp only[Zf,R0,R1,Zw,Zl,R4,R2,R3]
 exact⟨n,l,rfl,⟨hc.1,hc.2,by omega⟩,hK⟩
def QBv:Ctr
 | [.x false [.s 6 xs]]=>some fun K=> ∃(n:Nat) (l:List (Rat×Rat)),xs=l.map (XW n)/\((n<=500000000)/\(Kf l))/\(K (iA .i64 0))
 | _=>none
theorem QKS:QT 80 QBv:=by
 refine okL Tryd.func80 fun l T hT K hK=> ?_
 unfold QBv at hT;split at hT<;>cases hT
 obtain⟨n,l,rfl,hc,hK⟩:=hK;exact spL QQ4 QW Tryd.func80 (QNI _ _ hc K hK)
def L42:LC:=(80,QBv)::L41
theorem QOI:QN L42:= .cons QKS QOH
set_option maxHeartbeats 1000000 in
theorem QH2 (L:Qv)(hc:(Jh L))(K:AV->Prop)(hK:K (iA .i64 0)):QU (Qc (mkT L42 M33 X4) (oF Tryd.f69) (fun _=> .inv ⟨Nat,fun i=>⟨[(50,.x false [.s 6 (L.shape.map Jt)]),(51,iA .i64 L.shape.length),(52,iA .i64 i)],[]⟩,fun i=>i<=L.shape.length,fun i=>L.shape.length-i,fun _=>0⟩) Tryd.f69 [.x true (QC L)] K):=by
 refine HV ((∃(l:List (Rat×Nat)),[[Ze L.len 63],[Ze L.lo 63],[Ze L.hi 63],[Ze L.sp 63],[Ze L.br 63]]=lRb l/\(l.length<=1000000/\∀(p:Rat×Nat),p∈l->(p.fst.num.natAbs<=1000000/\p.fst.den<=1000)/\p.snd<=1000000)/\63<=4294967296/\bif decide (WV L.len<=0)then K (Zu false [Zm (Zg Za 1)])else 126<=4294967296/\bif decide (JS L.lo L.hi≥0)then K (Zu false [Zm (Zg Za 1)])else 63<=4294967296/\bif decide (WV L.sp<=0)then K (Zu false [Zm (Zg Za 1)])else 63<=4294967296/\bif decide (WV L.br<=0)then K (Zu false [Zm (Zg Za 1)])else ∃(n:Nat),∃(l:List (Rat×Rat)),Zc Jt L.shape=Zc (XW n) l/\(n<=500000000/\Kf l)/\(∃(x:Nat),(x<=L.shape.length/\OfNat.ofNat 0=0)/\6=6/\Zc Jt L.shape=Zc Jt L.shape/\Zb (Zc Jt L.shape).length=Zb L.shape.length/\0=Zb x/\True)/\∀(x:Nat),x<=L.shape.length->OfNat.ofNat 0=0->bif decide (Zb x<Zb L.shape.length)then(0<=Zb x/\Zb x<Zb (Zc Jt L.shape).length)/\∃(q:Rat),∃(n:Nat),∃(q_1:Rat),∃(n_1:Nat),ldE (Zc Jt L.shape) (Zb x).toNat 0 6=some [Ze q n,Ze q_1 n_1]/\∃(l:List (Rat×Nat)),[[Ze q n],[Ze q_1 n_1]]=lRb l/\(l.length<=1000000/\∀(p:Rat×Nat),p∈l->(p.fst.num.natAbs<=1000000/\p.fst.den<=1000)/\p.snd<=1000000)/\∃(x':Nat),(x'<=L.shape.length/\OfNat.ofNat 0=0/\L.shape.length-x'<L.shape.length-x)/\6=6/\Zc Jt L.shape=Zc Jt L.shape/\Zb L.shape.length=Zb L.shape.length/\Za.wrap (Zb x+1)=Zb x'/\True else K (Zu false [Zm (Zg Za 0)]))) ?_
 try simp only[Zf,R0,R1,R4]
 obtain⟨⟨s1,s2,s3,s4,s5⟩,h1,h2,h3,h4,h5,h6⟩:=hc;have sg: ∀{q:Rat},0<q->decide (WV q<=0)=true->False:=fun h h'=>by
  have:=R5 h';rw[QDX h]at this;omega
 refine⟨[(L.len,63),(L.lo,63),(L.hi,63),(L.sp,63),(L.br,63)],rfl,⟨by simp,fun p hp=> ?_⟩,by omega,QE (fun h=>(sg h1 h).elim) (fun _=>⟨by omega,QE (fun h=> ?_) (fun _=>⟨by omega,QE (fun h=>(sg h3 h).elim) (fun _=>⟨by omega,QE (fun h=>(sg h4 h).elim) (fun _=>⟨63,L.shape,rfl,⟨by omega,h5⟩,⟨0,by omega,by simp,rfl⟩,fun x hx=>QE (fun hp=> ?_) (fun _=>hK)⟩)⟩)⟩)⟩)⟩
 ·simp only[Yc,Zx,or_false]at hp;rcases hp with rfl | rfl | rfl | rfl | rfl
  ·exact⟨s1,by simp⟩
  ·exact⟨s2,by simp⟩
  ·exact⟨s3,by simp⟩
  ·exact⟨s4,by simp⟩
  ·exact⟨s5,by simp⟩
 ·have:=(GS _ _).1 (R5 h);exact absurd h2 (Rat.not_lt.2 this)
 ·have hp:x<L.shape.length:=by have:=R5 hp;omega
  obtain⟨p,hpp⟩: ∃p,L.shape[x]? =some p:=⟨_,Zh hp⟩
  obtain⟨a1,a2⟩:=h6 p (Zv hpp);refine⟨by rw[Zk];omega,_,_,_,_,QBt (by simpa using hpp),[(p.1,63),(p.2,63)],rfl,⟨by simp,fun r hr=> ?_⟩,x+1,⟨by omega,by omega⟩,by rw[w64 (by have:=h5.hi;omega)];simp⟩;simp only[Yc,Zx,or_false]at hr;rcases hr with rfl | rfl
  ·exact⟨a1,by simp⟩
  ·exact⟨a2,by simp⟩
def UY:Ctr
 | [.x true xs]=>some fun K=> ∃(L:Qv),xs=QC L/\((Jh L))/\(K (iA .i64 0))
 | _=>none
theorem QFa:QT 69 UY:=by
 refine okL Tryd.func69 fun l T hT K hK=> ?_
 unfold UY at hT;split at hT<;>cases hT
 obtain⟨L,rfl,hc,hK⟩:=hK;exact spL (Qq QOI Ju XP) QW Tryd.func69 (QH2 _ hc K hK)
def L43:LC:=(69,UY)::L42
theorem QOJ:QN L43:= .cons QFa QOI
set_option maxHeartbeats 1000000 in
theorem QKT (a:Qb)(hc:(Ql a))(K:AV->Prop)(hK:K (iA .i64 0)):QU (Qc (mkT L43 M33 X4) (oF Tryd.f43) (fun _=> .inv ⟨Nat,fun i=>⟨[(48,.x false [.s 16 (a.links.map QC)]),(49,iA .i64 a.links.length),(50,iA .i64 i)],[]⟩,fun i=>i<=a.links.length,fun i=>a.links.length-i,fun _=>0⟩) Tryd.f43 [WW a] K):=by
 refine HV ((((1<=a.name.size/\a.name.size<=12)/\∀(i:Nat) (x:UInt8),a.name.data.toList[i]?=some x->97<=x.toNat/\x.toNat<=122)/\bif decide (Zb (Zc QC a.links).length>3)then K (Zu false [Zm (Zg Za 2)])else bif Zb (Zc QC a.links).length==0 then K (Zu false [Zm (Zg Za 1)])else ∃(l:List (Rat×Nat)),[[Ze a.x 63],[Ze a.y 63],[Ze a.t 63]]=lRb l/\(l.length<=1000000/\∀(p:Rat×Nat),p∈l->(p.fst.num.natAbs<=1000000/\p.fst.den<=1000)/\p.snd<=1000000)/\bif a.half then 63<=4294967296/\bif WV a.t !=0 then K (Zu false [Zm (Zg Za 1)])else(∃(x:Nat),(x<=a.links.length/\OfNat.ofNat 0=0)/\16=16/\Zc QC a.links=Zc QC a.links/\Zb (Zc QC a.links).length=Zb a.links.length/\0=Zb x/\True)/\∀(x:Nat),x<=a.links.length->OfNat.ofNat 0=0->bif decide (Zb x<Zb a.links.length)then(0<=Zb x/\Zb x<Zb (Zc QC a.links).length)/\∃(q:Rat),∃(n:Nat),∃(q_1:Rat),∃(n_1:Nat),∃(q_2:Rat),∃(n_2:Nat),∃(q_3:Rat),∃(n_3:Nat),∃(q_4:Rat),∃(n_4:Nat),∃(ys:List (List Ch)),ldE (Zc QC a.links) (Zb x).toNat 0 16=some [Ze q n,Ze q_1 n_1,Ze q_2 n_2,Ze q_3 n_3,Ze q_4 n_4,Ye 6 ys]/\∃(L:Qv),[Ze q n,Ze q_1 n_1,Ze q_2 n_2,Ze q_3 n_3,Ze q_4 n_4,Ye 6 ys]=[Ze L.len 63,Ze L.lo 63,Ze L.hi 63,Ze L.sp 63,Ze L.br 63,Ye 6 (Zc Jt L.shape)]/\Jh L/\∃(x':Nat),(x'<=a.links.length/\OfNat.ofNat 0=0/\a.links.length-x'<a.links.length-x)/\16=16/\Zc QC a.links=Zc QC a.links/\Zb a.links.length=Zb a.links.length/\Za.wrap (Zb x+1)=Zb x'/\True else K (Zu false [Zm (Zg Za 0)])else(∃(x:Nat),(x<=a.links.length/\OfNat.ofNat 0=0)/\16=16/\Zc QC a.links=Zc QC a.links/\Zb (Zc QC a.links).length=Zb a.links.length/\0=Zb x/\True)/\∀(x:Nat),x<=a.links.length->OfNat.ofNat 0=0->bif decide (Zb x<Zb a.links.length)then(0<=Zb x/\Zb x<Zb (Zc QC a.links).length)/\∃(q:Rat),∃(n:Nat),∃(q_1:Rat),∃(n_1:Nat),∃(q_2:Rat),∃(n_2:Nat),∃(q_3:Rat),∃(n_3:Nat),∃(q_4:Rat),∃(n_4:Nat),∃(ys:List (List Ch)),ldE (Zc QC a.links) (Zb x).toNat 0 16=some [Ze q n,Ze q_1 n_1,Ze q_2 n_2,Ze q_3 n_3,Ze q_4 n_4,Ye 6 ys]/\∃(L:Qv),[Ze q n,Ze q_1 n_1,Ze q_2 n_2,Ze q_3 n_3,Ze q_4 n_4,Ye 6 ys]=[Ze L.len 63,Ze L.lo 63,Ze L.hi 63,Ze L.sp 63,Ze L.br 63,Ye 6 (Zc Jt L.shape)]/\Jh L/\∃(x':Nat),(x'<=a.links.length/\OfNat.ofNat 0=0/\a.links.length-x'<a.links.length-x)/\16=16/\Zc QC a.links=Zc QC a.links/\Zb a.links.length=Zb a.links.length/\Za.wrap (Zb x+1)=Zb x'/\True else K (Zu false [Zm (Zg Za 0)]))) ?_
 try simp only[Zf,R0,R1,R4]
 have hl:=hc.n;obtain⟨s1,s2,s3⟩:=hc.small;have loop:(∃x,x<=a.links.length/\((Zc QC a.links).length:Int)=a.links.length/\(0:Int)=(x:Nat))/\ ∀(x:Nat),x<=a.links.length->bif decide ((x:Int)<a.links.length)then((0:Int)<=x/\(x:Int)<((Zc QC a.links).length:Nat))/\
   ∃q n q_1 n_1 q_2 n_2 q_3 n_3 q_4 n_4 ys,ldE (Zc QC a.links) (x:Int).toNat 0 16=some [Ze q n,Ze q_1 n_1,Ze q_2 n_2,Ze q_3 n_3,Ze q_4 n_4,Ye 6 ys]/\
    ∃L:Qv,[Ze q n,Ze q_1 n_1,Ze q_2 n_2,Ze q_3 n_3,Ze q_4 n_4,Ye 6 ys]=[Ze L.len 63,Ze L.lo 63,Ze L.hi 63,Ze L.sp 63,Ze L.br 63,Ye 6 (Zc Jt L.shape)]/\Jh L/\
     ∃x':Nat,(x'<=a.links.length/\a.links.length-x'<a.links.length-x)/\Za.wrap ((x:Int)+1)=x'
   else K (Zu false [Zm (Zg Za 0)]):=by
  refine⟨⟨0,by omega,by simp,rfl⟩,fun x hx=>QE (fun hp=> ?_) (fun _=>hK)⟩;have hp:x<a.links.length:=by have:=R5 hp;omega
  obtain⟨L,hL⟩: ∃L,a.links[x]? =some L:=⟨_,Zh hp⟩
  exact⟨by rw[Zk];omega,_,_,_,_,_,_,_,_,_,_,_,Ww (by simpa using hL),L,rfl,hc.links L (Zv hL),x+1,⟨by omega,by omega⟩,by rw[w64 (by omega)];simp⟩
 simp only[Zk]at loop⊢;refine⟨hc.name,QE (fun h=>by have:=R5 h;omega) (fun _=>QE (fun h=>by simp only[beq_iff_eq]at h;omega) (fun _=>⟨[(a.x,63),(a.y,63),(a.t,63)],rfl,⟨by simp,fun p hp=> ?_⟩,QE (fun h=>⟨by omega,QE (fun h'=> ?_) (fun _=>loop)⟩) (fun _=>loop)⟩))⟩
 ·simp only[Yc,Zx,or_false]at hp;rcases hp with rfl | rfl | rfl
  ·exact⟨s1,by simp⟩
  ·exact⟨s2,by simp⟩
  ·exact⟨s3,by simp⟩
 ·rw[hc.half h]at h';exact absurd h' (by decide)
def Gc:Ctr
 | [.x true xs]=>some fun K=> ∃(a:Qb),xs=YM a/\((Ql a))/\(K (iA .i64 0))
 | _=>none
theorem QH3:QT 43 Gc:=by
 refine okL Tryd.func43 fun l T hT K hK=> ?_
 unfold Gc at hT;split at hT<;>cases hT
 obtain⟨a,rfl,hc,hK⟩:=hK;exact spL (Qq QOJ Ju XP) QW Tryd.func43 (QKT _ hc K hK)
def L44:LC:=(43,Gc)::L43
theorem QOK:QN L44:= .cons QH3 QOJ
theorem QPd (a:Qb)(n:Int)(hc:(Ql a)/\(n=a.links.length))(K:AV->Prop)(hK:K (iA .i64 0)):QU (Qc (mkT L44 M33 X4) (oF Tryd.f70) noL Tryd.f70 [WW a,iA .i64 n] K):=by
 refine HV ((∃(a_1:Qb),[Zm (Zq a.name),Ze a.x 63,Ze a.y 63,Zm (Zn a.half),Ze a.t 63,Ye 16 (Zc QC a.links)]=[Zm (Zq a_1.name),Ze a_1.x 63,Ze a_1.y 63,Zm (Zn a_1.half),Ze a_1.t 63,Ye 16 (Zc QC a_1.links)]/\Ql a_1/\bif n !=Zb (Zc QC a.links).length then K (Zu false [Zm (Zg Za 1)])else K (Zu false [Zm (Zg Za 0)]))) ?_
 try simp only[Zf]
 refine⟨a,rfl,hc.1,QE (fun h=> ?_) (fun _=>hK)⟩;rw[Zk,hc.2]at h;simp at h
def QFb:Ctr
 | [.x true xs,.x false [.v (.int .i64 n)]]=>some fun K=> ∃(a:Qb),xs=YM a/\((Ql a)/\(n=a.links.length))/\(K (iA .i64 0))
 | _=>none
theorem QNJ:QT 70 QFb:=by
 refine okL Tryd.func70 fun l T hT K hK=> ?_
 unfold QFb at hT;split at hT<;>cases hT
 obtain⟨a,rfl,hc,hK⟩:=hK;exact spL (Qq QOK Ju XP) QW Tryd.func70 (QPd _ _ hc K hK)
def L45:LC:=(70,QFb)::L44
theorem QOL:QN L45:= .cons QNJ QOK
abbrev QGO (a:Qb)(n:Nat)(qs:List Rat)(K:AV->Prop):Prop:=((Ql a)/\(n<=1000000/\qs.length=a.links.length))/\((Fit a qs->K (iA .i64 0))/\(¬Fit a qs->K (iA .i64 17)))
set_option maxHeartbeats 1000000 in
theorem QNK (a:Qb)(n:Nat)(qs:List Rat)(K:AV->Prop)(hK:QGO a n qs K):QU (Qc (mkT L45 M33 X4) (oF Tryd.f44) (fun _=> .inv ⟨Nat,fun i=>⟨[(1,.x false [.s 3 (lR n qs)]),(16,.x false [.s 16 (a.links.map QC)]),(17,iA .i64 a.links.length),(18,iA .i64 i)],[]⟩,fun i=>i<=a.links.length/\ ∀j L q,j<i->a.links[j]? =some L->qs[j]? =some q->L.lo<=q/\q<=L.hi,fun i=>a.links.length-i,fun _=>0⟩) Tryd.f44 [WW a,.x false [.s 3 (lR n qs)]] K):=by
 obtain⟨hc,hK⟩:=hK;refine HV ((∃(a_1:Qb),[Zm (Zq a.name),Ze a.x 63,Ze a.y 63,Zm (Zn a.half),Ze a.t 63,Ye 16 (Zc QC a.links)]=[Zm (Zq a_1.name),Ze a_1.x 63,Ze a_1.y 63,Zm (Zn a_1.half),Ze a_1.t 63,Ye 16 (Zc QC a_1.links)]/\(Ql a_1/\Zb (lR n qs).length=Zb a_1.links.length)/\(∃(x:Nat),((x<=a.links.length/\∀(j:Nat) (L:Qv) (q:Rat),j<x->a.links[j]?=some L->qs[j]?=some q->L.lo<=q/\q<=L.hi)/\OfNat.ofNat 0=0)/\3=3/\lR n qs=lR n qs/\16=16/\Zc QC a.links=Zc QC a.links/\Zb (Zc QC a.links).length=Zb a.links.length/\0=Zb x/\True)/\∀(x:Nat),(x<=a.links.length/\∀(j:Nat) (L:Qv) (q:Rat),j<x->a.links[j]?=some L->qs[j]?=some q->L.lo<=q/\q<=L.hi)->OfNat.ofNat 0=0->bif decide (Zb x<Zb a.links.length)then(0<=Zb x/\Zb x<Zb (Zc QC a.links).length)/\∃(q:Rat),∃(n_1:Nat),∃(q_1:Rat),∃(n_2:Nat),∃(q_2:Rat),∃(n_3:Nat),∃(q_3:Rat),∃(n_4:Nat),∃(q_4:Rat),∃(n_5:Nat),∃(ys:List (List Ch)),ldE (Zc QC a.links) (Zb x).toNat 0 16=some [Ze q n_1,Ze q_1 n_2,Ze q_2 n_3,Ze q_3 n_4,Ze q_4 n_5,Ye 6 ys]/\(0<=Zb x/\Zb x<Zb (lR n qs).length)/\∃(q:Rat),∃(n_6:Nat),ldE (lR n qs) (Zb x).toNat 0 3=some [Ze q n_6]/\n_6+n_2<=4294967296/\bif decide (JS q q_1<0)then K (Zu false [Zm (Zg Za 17)])else(0<=Zb x/\Zb x<Zb (lR n qs).length)/\∃(q:Rat),∃(n_7:Nat),ldE (lR n qs) (Zb x).toNat 0 3=some [Ze q n_7]/\n_7+n_3<=4294967296/\bif decide (JS q q_2>0)then K (Zu false [Zm (Zg Za 17)])else ∃(x':Nat),((x'<=a.links.length/\∀(j:Nat) (L:Qv) (q:Rat),j<x'->a.links[j]?=some L->qs[j]?=some q->L.lo<=q/\q<=L.hi)/\OfNat.ofNat 0=0/\a.links.length-x'<a.links.length-x)/\3=3/\lR n qs=lR n qs/\16=16/\Zc QC a.links=Zc QC a.links/\Zb a.links.length=Zb a.links.length/\Za.wrap (Zb x+1)=Zb x'/\True else K (Zu false [Zm (Zg Za 0)]))) ?_
 try simp only[Zf,R0,R1,R4]
 obtain⟨h1,h2,h3⟩:=hc;obtain⟨k1,k2⟩:=hK;have hl:=h1.n;refine⟨a,rfl,⟨h1,by rw[XE,h3]⟩,⟨0,⟨by omega,fun j L q hj=>by omega⟩,by simp,rfl⟩,fun x hx=>QE (fun hp=> ?_) (fun hp=>k1 fun i L q hi hq=>hx.2 i L q ?_ hi hq)⟩
 ·have hp:x<a.links.length:=by have:=R5 hp;omega
  obtain⟨L,hL⟩: ∃L,a.links[x]? =some L:=⟨_,Zh hp⟩
  obtain⟨q,hq⟩: ∃q,qs[x]? =some q:=⟨_,Zh (by omega)⟩
  have no: ¬(L.lo<=q/\q<=L.hi)-> ¬Fit a qs:=fun h h'=>h (h' x L q hL hq);refine⟨by rw[Zk];omega,_,_,_,_,_,_,_,_,_,_,_,Ww (by simpa using hL),by rw[XE];omega,_,_,Xd (by simpa using hq),by omega,QE (fun h=> ?_) (fun h=>⟨by rw[XE];omega,_,_,Xd (by simpa using hq),by omega,QE (fun h'=> ?_) (fun h'=>⟨x+1,⟨⟨by omega,fun j M r hj hM hr=> ?_⟩,by omega⟩,by rw[w64 (by omega)];simp⟩)⟩)⟩
  ·refine k2 (no fun⟨a1,_⟩=> ?_);have:=R5 h;have:=(GS _ _).2 a1;omega
  ·refine k2 (no fun⟨_,a2⟩=> ?_);have:=R5 h';have:=(UU _ _).2 a2;omega
  ·by_cases e:j=x
   ·subst e;rw[hL]at hM;cases hM
    rw[hq]at hr;cases hr
    exact⟨(GS _ _).1 (by have:=R6 h;omega),(UU _ _).1 (by have:=R6 h';omega)⟩
   ·exact hx.2 j M r (by omega) hM hr
 ·have hp:=R6 hp;have:=(Zy.1 hi).1;omega
def QBw:Ctr
 | [.x true xs,.x false [.s 3 ys]]=>some fun K=> ∃(a:Qb) (n:Nat) (qs:List Rat),xs=YM a/\ys=lR n qs/\QGO a n qs K
 | _=>none
theorem QKU:QT 44 QBw:=by
 refine okL Tryd.func44 fun l T hT K hK=> ?_
 unfold QBw at hT;split at hT<;>cases hT
 obtain⟨a,n,qs,rfl,rfl,hK⟩:=hK;exact spL (Qq QOL Ju XP) QW Tryd.func44 (QNK _ _ _ K hK)
def L46:LC:=(44,QBw)::L45
noncomputable def T46:Qh:=mkT L46 M33 X4
theorem QOM:QN L46:= .cons QKU QOL
theorem QQ5:XO T46:=Qq QOM Ju XP
end Go.Proofs
namespace Go.Proofs
open Go Go.Eng
theorem XG {n:Int}{d:Nat}(hn:n.natAbs<=1000000)(hd:d≠0/\d<=1000):Xu (mkRat n d):=by
 refine⟨?_,?_⟩
 ·rw[QFP _ _ hd.1,Int.natAbs_tdiv,Int.natAbs_natCast];exact Nat.le_trans (Nat.div_le_self _ _) hn
 ·rw[QJ9 _ _ hd.1];exact Nat.le_trans (Nat.div_le_self _ _) hd.2
def QDZ (l:List (Rat×Rat)):Bool:=decide (3<=l.length)&&decide (l.length<=8)&&(List.range l.length).all fun i=>(List.range l.length).all fun k=>decide (k<2) || decide (0<lft (l.getD i (0,0)) (l.getD ((i+1) % l.length) (0,0)) (l.getD ((i+k) % l.length) (0,0)))
theorem Gd {l:List (Rat×Rat)}(h:QDZ l=true):Kf l:=by
 simp only[QDZ,Bool.and_eq_true,decide_eq_true_eq,List.all_eq_true,List.mem_range,Bool.or_eq_true]at h;obtain⟨⟨h1,h2⟩,h3⟩:=h;refine⟨h1,h2,fun i k a b c hk hkl ha hb hc=> ?_⟩;have:=h3 i (Zy.1 ha).1 k hkl;simp only[Yd,ha,hb,hc,Option.getD_some]at this;rcases this with h | h
 ·omega
 ·exact h
theorem QH4:([4,6,8,10]:List Int).all (fun n=>QDZ (QGK (-1) (-1) (n+1) 1)&&QDZ [at4 (-1) (-1),at4 (n+1) 0,at4 (-1) 1])=true:=by decide+kernel
theorem MadeLink.good {L:Qv}(h:MadeLink L):Jh L:=by
 obtain⟨r,i,j,s,b,tri,hr,hi,hj,hs,hb,rfl⟩:=h
 have hsh:=List.all_eq_true.1 QH4 (4+2*r) (by
  have:r=0∨r=1∨r=2∨r=3:=by omega
  rcases this with rfl | rfl | rfl | rfl<;>decide)
 simp only[Bool.and_eq_true]at hsh;have lo:mkRat (-1-i) 3<0:=by
  have:=YJ (n:=1+i) (d:=3) (by omega) (by decide);have e:mkRat (-1-i) 3= -mkRat (1+i) 3:=by rw[Rat.neg_mkRat];congr 1;omega
  rw[e];grind
 have hi':=YJ (n:=1+j) (d:=3) (by omega) (by decide);refine⟨⟨?_,?_,?_,?_,?_⟩,?_,?_,?_,?_,?_,?_⟩
 ·exact XG (by omega) (by decide)
 ·exact XG (by omega) (by decide)
 ·exact XG (by omega) (by decide)
 ·exact XG (by omega) (by omega)
 ·exact XG (by omega) (by omega)
 ·exact YJ (by omega) (by decide)
 ·show mkRat (-1-i) 3<mkRat (1+j) 3
  grind
 ·exact YJ (by omega) (by omega)
 ·exact YJ (by omega) (by omega)
 ·cases tri
  ·exact Gd hsh.1
  ·exact Gd hsh.2
 ·have c: ∀x y:Int,x.natAbs<=1000000->y.natAbs<=1000000->Xu (at4 x y).1/\Xu (at4 x y).2:=fun x y hx hy=>⟨XG hx (by decide),XG hy (by decide)⟩;intro p hp;cases tri
  ·simp only[Ke,R8,QGK,Yc,Zx,or_false]at hp;rcases hp with rfl | rfl | rfl | rfl<;>exact c _ _ (by omega) (by omega)
  ·simp only[Ke,R7,Yc,Zx,or_false]at hp;rcases hp with rfl | rfl | rfl<;>exact c _ _ (by omega) (by omega)
theorem QGP:QBs QKK:=by
 refine⟨by decide,fun i x hx=> ?_⟩;match i,hx with
 | 0,hx=>cases hx;decide
 | 1,hx=>cases hx;decide
 | 2,hx=>cases hx;decide
 | i+3,hx=>cases hx
theorem MadeA.good {a:Qb}(h:MadeA a):Ql a:=by
 obtain⟨⟨h1,h2,h3,h4,h5,h6,h7⟩,h8⟩:=h;obtain⟨c,d,hc,hd,ht⟩:=h5;refine⟨by rw[h1];exact QGP,⟨h8,h6⟩,⟨?_,?_,?_⟩,fun h=>absurd (h4.symm.trans h) (by decide),fun L hL=>(h7 L hL).good⟩
 ·rw[h2];exact XG (by decide) (by decide)
 ·rw[h3];exact XG (by decide) (by decide)
 ·rw[ht];exact XG (by omega) (by omega)
theorem MadeLink.wide {L:Qv}(h:MadeLink L):L.hi-L.lo<=4/\mkRat 1 11<=L.sp:=by
  obtain⟨r,i,j,s,b,tri,hr,hi,hj,hs,hb,rfl⟩:=h;show mkRat (1+j) 3-mkRat (-1-i) 3<=4/\mkRat 1 11<=mkRat 1 (4+s).toNat
  have hj':j=0∨j=1∨j=2∨j=3∨j=4∨j=5:=by omega
  have hi':i=0∨i=1∨i=2∨i=3∨i=4∨i=5:=by omega
  have hs':s=0∨s=1∨s=2∨s=3∨s=4∨s=5∨s=6∨s=7:=by omega
  constructor
  · rcases hj' with rfl | rfl | rfl | rfl | rfl | rfl<;>rcases hi' with rfl | rfl | rfl | rfl | rfl | rfl<;>decide+kernel
  · rcases hs' with rfl | rfl | rfl | rfl | rfl | rfl | rfl | rfl<;>decide+kernel
end Go.Proofs
namespace Go.Proofs
open Go Go.Eng
def QON (q:Rat)(v:Int)(w:Int)(bs:List UInt8)(i:Nat)(ti tb tl tn:Nat):SL:=⟨[(1,.x false [.p 1 0]),(4,iA .i64 v),(5,iA .i64 w),(tb,.x false [.s 1 (bs.map QK)]),(tl,iA .i64 bs.length),(ti,iA .i64 i)],[(1,.box 27 [.r q tn])]⟩
theorem QDa {l:List UInt8}{i:Nat}{b:UInt8}(h:l[i]? =some b):QB (l.take (i+1))=256*QB (l.take i)+b.toNat:=by
 rw[List.take_add_one,h];exact Xs _ _
theorem QKV (l:List UInt8)(i:Nat):QB (l.take i)<=QB l:=by
 conv=>rhs;rw[<-List.take_append_drop i l,Ws]
 have:1<=256^(l.drop i).length:=Nat.pow_pos (by decide);have:=Nat.mul_le_mul_left (QB (l.take i)) this;omega
theorem QGQ {l:List UInt8}{i:Nat}{b:UInt8}(h:l[i]? =some b):ldE (l.map QK) i 0 1=some [.v (.int .u8 (b.toNat:Int))]:=by
 simp only[ldE,Ya,h];rfl
theorem Ge {x y:Int}{a b:Nat}(hx:x.natAbs<=a)(hy:y.natAbs<=b):(x*y).natAbs<=a*b:=by
 rw[Int.natAbs_mul];exact Nat.mul_le_mul hx hy
theorem QFc {n d m e r:Int}(hn:n.natAbs<=1000000)(hd:1<=d/\d<=1000)(hm:m.natAbs<=1000000)(he:1<=e/\e<=1000)(hr:0<=r/\r<=8):
  Za.wrap (Za.wrap (Za.wrap (8*n)*e)+Za.wrap (Za.wrap (Za.wrap (m*d)-Za.wrap (n*e))*r))=8*n*e+(m*d-n*e)*r/\
  Za.wrap (Za.wrap (8*d)*e)=8*d*e/\(-9223372036854775808<8*n*e+(m*d-n*e)*r/\8*n*e+(m*d-n*e)*r<9223372036854775808)/\0<8*d*e/\8*d*e<9223372036854775808:=by
 have p1:=Ge hn (show e.natAbs<=1000 by omega);have p2:=Ge hm (show d.natAbs<=1000 by omega);have p3:=Ge (show(m*d-n*e).natAbs<=2000000000 by omega) (show r.natAbs<=8 by omega);have p4:=Ge (show(8*n).natAbs<=8000000 by omega) (show e.natAbs<=1000 by omega);have p5:=Ge (show(8*d).natAbs<=8000 by omega) (show e.natAbs<=1000 by omega);have p6:0<8*d*e:=Int.mul_pos (by omega) (by omega);rw[w64 (n:=8*n) (by omega),w64 (n:=8*n*e) (by omega),w64 (n:=m*d) (by omega),w64 (n:=n*e) (by omega),w64 (n:=m*d-n*e) (by omega),w64 (n:=(m*d-n*e)*r) (by omega),w64 (n:=8*d) (by omega),w64 (n:=8*d*e) (by omega),w64 (by omega)]
 exact⟨rfl,rfl,by omega,p6,by omega⟩
abbrev QGR (q:Rat)(n:Nat)(K:AV->Prop):Prop:=((q.num.natAbs<1000000000)/\(q.den<1000000000))/\(K (.t [(false,[.v (.int .i64 q.num)]),(false,[.v (.int .i64 q.den)])]))
set_option maxHeartbeats 1000000 in
theorem QNL (q:Rat)(n:Nat)(K:AV->Prop)(hK:QGR q n K):QU (Qc T46 (oF Tryd.f72) (fun id=>bif id.beq 3 then .inv ⟨Nat,fun i=>QON q (QB ((QA q.num.natAbs).take i)) 0 (QA q.num.natAbs) i 14 12 13 n,fun i=>i<=(QA q.num.natAbs).length,fun i=>(QA q.num.natAbs).length-i,fun _=>0⟩else .inv ⟨Nat,fun i=>QON q q.num.natAbs (QB ((QA q.den).take i)) (QA q.den) i 28 26 27 n,fun i=>i<=(QA q.den).length,fun i=>(QA q.den).length-i,fun _=>0⟩) Tryd.f72 [rA q n] K):=by
 obtain⟨hc,hK⟩:=hK;refine HV (((∃(x:Nat),(x<=(QA q.num.natAbs).length/\OfNat.ofNat 0=0)/\0=0/\0=Zb (QB (Zj x (QA q.num.natAbs)))/\(0:Int)=0/\1=1/\Zc QK (QA q.num.natAbs)=Zc QK (QA q.num.natAbs)/\Zb (Zc QK (QA q.num.natAbs)).length=Zb (QA q.num.natAbs).length/\0=Zb x/\27=27/\q=q/\n<=n/\True)/\∀(x:Nat),x<=(QA q.num.natAbs).length->OfNat.ofNat 0=0->bif decide (Zb x<Zb (QA q.num.natAbs).length)then(0<=Zb x/\Zb x<Zb (Zc QK (QA q.num.natAbs)).length)/\∃(d:Int),ldE (Zc QK (QA q.num.natAbs)) (Zb x).toNat 0 1=some [Zm (Zg IntKind.u8 d)]/\∃(x':Nat),(x'<=(QA q.num.natAbs).length/\OfNat.ofNat 0=0/\(QA q.num.natAbs).length-x'<(QA q.num.natAbs).length-x)/\0=0/\Za.wrap (Za.wrap (256*Zb (QB (Zj x (QA q.num.natAbs))))+Za.wrap d)=Zb (QB (Zj x' (QA q.num.natAbs)))/\(0:Int)=0/\1=1/\Zc QK (QA q.num.natAbs)=Zc QK (QA q.num.natAbs)/\Zb (QA q.num.natAbs).length=Zb (QA q.num.natAbs).length/\Za.wrap (Zb x+1)=Zb x'/\27=27/\q=q/\n<=n/\True else(∃(x_1:Nat),(x_1<=(QA q.den).length/\OfNat.ofNat 0=0)/\0=0/\Zb (QB (Zj x (QA q.num.natAbs)))=Zb q.num.natAbs/\0=Zb (QB (Zj x_1 (QA q.den)))/\1=1/\Zc QK (QA q.den)=Zc QK (QA q.den)/\Zb (Zc QK (QA q.den)).length=Zb (QA q.den).length/\0=Zb x_1/\27=27/\q=q/\n<=n/\True)/\∀(x:Nat),x<=(QA q.den).length->OfNat.ofNat 0=0->bif decide (Zb x<Zb (QA q.den).length)then(0<=Zb x/\Zb x<Zb (Zc QK (QA q.den)).length)/\∃(d:Int),ldE (Zc QK (QA q.den)) (Zb x).toNat 0 1=some [Zm (Zg IntKind.u8 d)]/\∃(x':Nat),(x'<=(QA q.den).length/\OfNat.ofNat 0=0/\(QA q.den).length-x'<(QA q.den).length-x)/\0=0/\Zb q.num.natAbs=Zb q.num.natAbs/\Za.wrap (Za.wrap (256*Zb (QB (Zj x (QA q.den))))+Za.wrap d)=Zb (QB (Zj x' (QA q.den)))/\1=1/\Zc QK (QA q.den)=Zc QK (QA q.den)/\Zb (QA q.den).length=Zb (QA q.den).length/\Za.wrap (Zb x+1)=Zb x'/\27=27/\q=q/\n<=n/\True else bif decide (q.num<0)then K (AV.t [(false,[Zm (Zg Za (Za.wrap (0-Zb q.num.natAbs)))]),(false,[Zm (Zg Za (bif true then if 1>Zb (QB (Zj x (QA q.den)))then 1 else Zb (QB (Zj x (QA q.den)))else if 1<Zb (QB (Zj x (QA q.den)))then 1 else Zb (QB (Zj x (QA q.den)))))])])else K (AV.t [(false,[Zm (Zg Za (Zb q.num.natAbs))]),(false,[Zm (Zg Za (bif true then if 1>Zb (QB (Zj x (QA q.den)))then 1 else Zb (QB (Zj x (QA q.den)))else if 1<Zb (QB (Zj x (QA q.den)))then 1 else Zb (QB (Zj x (QA q.den)))))])]))) ?_
 try simp only[Zf,R0,R1,Zl,R4]
 have hl1:QB (QA q.num.natAbs)=q.num.natAbs:=XL _;have hl2:QB (QA q.den)=q.den:=XL _;have hz:=q.den_nz;have b1:(QA q.num.natAbs).length<=4:=Qa.2 (by omega);have b2:(QA q.den).length<=4:=Qa.2 (by omega);generalize QA q.num.natAbs=u at*;generalize QA q.den=v at*;simp only[Zk];refine⟨⟨0,by omega,by simp[J1],trivial,rfl⟩,fun x hx=>QE (fun hp=> ?_) (fun hp=> ?_)⟩
 ·have hp:x<u.length:=by have:=R5 hp;omega
  obtain⟨b,hb⟩: ∃b,u[x]? =some b:=⟨_,Zh hp⟩
  have e1:=QDa hb;have e2:=QKV u (x+1);have hb8:=b.toNat_lt;refine⟨by omega,_,QGQ (by simpa using hb),x+1,⟨by omega,by omega⟩,?_,by rw[w64 (by omega)];simp⟩;rw[w64 (n:=256*_) (by omega),w64 (n:=(b.toNat:Int)) (by omega),w64 (by omega),e1];simp
 ·have hp:x=u.length:=by have:=R6 hp;omega
  subst hp;refine⟨⟨0,by omega,by rw[List.take_length,hl1],by simp[J1],trivial,rfl⟩,fun x hx=>QE (fun hp=> ?_) (fun hp=> ?_)⟩
  ·have hp:x<v.length:=by have:=R5 hp;omega
   obtain⟨b,hb⟩: ∃b,v[x]? =some b:=⟨_,Zh hp⟩
   have e1:=QDa hb;have e2:=QKV v (x+1);have hb8:=b.toNat_lt;refine⟨by omega,_,QGQ (by simpa using hb),x+1,⟨by omega,by omega⟩,?_,by rw[w64 (by omega)];simp⟩;rw[w64 (n:=256*_) (by omega),w64 (n:=(b.toNat:Int)) (by omega),w64 (by omega),e1];simp
  ·have hp:x=v.length:=by have:=R6 hp;omega
   subst hp;rw[List.take_length,hl2];have e:(bif true then if(1:Int)>(q.den:Int)then(1:Int)else(q.den:Int)else if(1:Int)<(q.den:Int)then(1:Int)else(q.den:Int))=(q.den:Int):=by
    simp only[R7];rw[if_neg (by omega)]
   rw[e];refine QE (fun h=> ?_) (fun h=> ?_)
   ·have h:=R5 h;rw[w64 (by omega),show(0:Int)-(q.num.natAbs:Int)=q.num by omega];exact hK
   ·have h:=R6 h;rw[show(q.num.natAbs:Int)=q.num by omega];exact hK
def QBx:Ctr
 | [.x true [.r q n]]=>some fun K=>QGR q n K
 | _=>none
theorem QKW:QT 72 QBx:=by
 refine okL Tryd.func72 fun l T hT K hK=> ?_
 unfold QBx at hT;split at hT<;>cases hT
 exact spL QQ5 QW Tryd.func72 (QNL _ _ K hK)
def L47:LC:=(72,QBx)::L46
noncomputable def T47:Qh:=mkT L47 M33 X4
theorem QKX:QN L47:= .cons QKW QOM
theorem QQ6:XO T47:=Qq QKX Ju XP
def QGS (ls:List Qv)(qs:List Rat):Prop:=qs.length<=ls.length/\ ∀(i:Nat) (L:Qv) (q:Rat),ls[i]? =some L->qs[i]? =some q->L.lo<=q/\q<=L.hi
structure CfX where
 qs:List Rat
 l:List Int
def cfS (a:Qb)(x:CfX):SL:=⟨[(1,.x false [.p 1000 0]),(5,.x false [.w 500 0 x.qs.length]),(14,.x false [.s 16 (a.links.map QC)]),(15,iA .i64 a.links.length),(16,iA .i64 x.qs.length)],[(1000,stB x.l),(500,UW 63 x.qs)]⟩
def QKY (a:Qb)(l:List Int):LI:=fun _=> .inv ⟨CfX,cfS a,fun x=>QGS a.links x.qs/\x.l.length<=l.length,fun x=>a.links.length-x.qs.length,fun _=>0⟩
set_option maxHeartbeats 1000000 in
theorem QPe (a:Qb)(l:List Int)(ha:Ql a)(hl:l.length<=9223372036854775807):QU (JK (X:=CfX) T47 (oF Tryd.f49) (QKY a l) Tryd.f49 [WW a,.x false [.p 1000 0]] [(1000,stB l)] (fun x=>(QGS a.links x.qs/\x.qs.length=a.links.length)/\x.l.length<=l.length) (fun x=>⟨[(4,.x false [.w 500 0 x.qs.length])],[(1000,stB x.l),(500,UW 63 x.qs)]⟩)):=by
 refine HV (((∃(x:CfX),(((x.qs.length<=a.links.length/\∀(i:Nat) (L:Qv) (q:Rat),a.links[i]?=some L->x.qs[i]?=some q->L.lo<=q/\q<=L.hi)/\x.l.length<=l.length)/\OfNat.ofNat 0=0)/\0=0/\Zr none 0 0=Zr none 0 0/\0=0/\x.qs.length=0/\16=16/\Zc QC a.links=Zc QC a.links/\Zb (Zc QC a.links).length=Zb a.links.length/\0=Zb x.qs.length/\78=78/\1=1/\ints l=ints x.l/\Zc (fun(q:Rat)=>[Ze q 63]) x.qs=[]/\True)/\∀(x:CfX),(x.qs.length<=a.links.length/\∀(i:Nat) (L:Qv) (q:Rat),a.links[i]?=some L->x.qs[i]?=some q->L.lo<=q/\q<=L.hi)/\x.l.length<=l.length->OfNat.ofNat 0=0->bif decide (Zb x.qs.length<Zb a.links.length)then(0<=Zb x.qs.length/\Zb x.qs.length<Zb (Zc QC a.links).length)/\∃(q:Rat),∃(n:Nat),∃(q_1:Rat),∃(n_1:Nat),∃(q_2:Rat),∃(n_2:Nat),∃(q_3:Rat),∃(n_3:Nat),∃(q_4:Rat),∃(n_4:Nat),∃(ys:List (List Ch)),ldE (Zc QC a.links) (Zb x.qs.length).toNat 0 16=some [Ze q n,Ze q_1 n_1,Ze q_2 n_2,Ze q_3 n_3,Ze q_4 n_4,Ye 6 ys]/\(q_1.num.natAbs<1000000000/\q_1.den<1000000000)/\(q_2.num.natAbs<1000000000/\q_2.den<1000000000)/\∃(l_1:List Int),ints x.l=ints l_1/\((1:Int)<=9/\(9:Int)<9223372036854775808)/\l_1.length<=9223372036854775807/\∀(r:Int) (l':List Int),0<=r/\r<9->l'.length<=l_1.length->((-9223372036854775808<Za.wrap (Za.wrap (Za.wrap (8*q_1.num)*Zb q_2.den)+Za.wrap (Za.wrap (Za.wrap (q_2.num*Zb q_1.den)-Za.wrap (q_1.num*Zb q_2.den))*r))/\Za.wrap (Za.wrap (Za.wrap (8*q_1.num)*Zb q_2.den)+Za.wrap (Za.wrap (Za.wrap (q_2.num*Zb q_1.den)-Za.wrap (q_1.num*Zb q_2.den))*r))<9223372036854775808)/\0<Za.wrap (Za.wrap (8*Zb q_1.den)*Zb q_2.den)/\Za.wrap (Za.wrap (8*Zb q_1.den)*Zb q_2.den)<9223372036854775808)/\((x.qs.length+1)*40<=140737488355328/\x.qs.length+1<=9223372036854775807)/\∃(x':CfX),(((x'.qs.length<=a.links.length/\∀(i:Nat) (L:Qv) (q:Rat),a.links[i]?=some L->x'.qs[i]?=some q->L.lo<=q/\q<=L.hi)/\x'.l.length<=l.length)/\OfNat.ofNat 0=0/\a.links.length-x'.qs.length<a.links.length-x.qs.length)/\0=0/\0=0/\x.qs.length+1=x'.qs.length/\16=16/\Zc QC a.links=Zc QC a.links/\Zb a.links.length=Zb a.links.length/\Za.wrap (Zb x.qs.length+1)=Zb x'.qs.length/\78=78/\1=1/\ints l'=ints x'.l/\27=27/\3=3/\(Zj x.qs.length (Zc (fun(q:Rat)=>[Ze q 63]) x.qs)++[[Ze (mkRat (Za.wrap (Za.wrap (Za.wrap (8*q_1.num)*Zb q_2.den)+Za.wrap (Za.wrap (Za.wrap (q_2.num*Zb q_1.den)-Za.wrap (q_1.num*Zb q_2.den))*r))) (Za.wrap (Za.wrap (8*Zb q_1.den)*Zb q_2.den)).toNat) 63]]=Zc (fun(q:Rat)=>[Ze q 63]) x'.qs∨QG (Zj x.qs.length (Zc (fun(q:Rat)=>[Ze q 63]) x.qs)++[[Ze (mkRat (Za.wrap (Za.wrap (Za.wrap (8*q_1.num)*Zb q_2.den)+Za.wrap (Za.wrap (Za.wrap (q_2.num*Zb q_1.den)-Za.wrap (q_1.num*Zb q_2.den))*r))) (Za.wrap (Za.wrap (8*Zb q_1.den)*Zb q_2.den)).toNat) 63]]) (Zc (fun(q:Rat)=>[Ze q 63]) x'.qs))/\True else ∃(x_1:CfX),(((x_1.qs.length<=a.links.length/\∀(i:Nat) (L:Qv) (q:Rat),a.links[i]?=some L->x_1.qs[i]?=some q->L.lo<=q/\q<=L.hi)/\x_1.qs.length=a.links.length)/\x_1.l.length<=l.length)/\0=0/\x.qs.length=x_1.qs.length/\78=78/\1=1/\ints x.l=ints x_1.l/\27=27/\3=3/\(Zc (fun(q:Rat)=>[Ze q 63]) x.qs=Zc (fun(q:Rat)=>[Ze q 63]) x_1.qs∨QG (Zc (fun(q:Rat)=>[Ze q 63]) x.qs) (Zc (fun(q:Rat)=>[Ze q 63]) x_1.qs))/\True)) ?_
 simp only[Zf,R0,R1,R4];have hn:=ha.n;refine⟨⟨⟨[],l⟩,⟨⟨by simp,fun i L q _ h=>by simp at h⟩,by simp⟩,rfl,by simp,rfl,rfl,rfl⟩,fun x hx=>QE (fun hp=> ?_) (fun hp=> ?_)⟩
 ·obtain⟨⟨h1,h2⟩,h3⟩:=hx;have hp:x.qs.length<a.links.length:=by have:=R5 hp;omega
  obtain⟨L,hL⟩: ∃L,a.links[x.qs.length]? =some L:=⟨_,Zh hp⟩
  have hg:=ha.links L (Zv hL);obtain⟨_,s2,s3,_⟩:=hg.small;have d2:=L.lo.den_nz;have d3:=L.hi.den_nz;refine⟨by rw[Zk];omega,_,_,_,_,_,_,_,_,_,_,_,Ww (by simpa using hL),⟨by have:=s2.1;omega,by have:=s2.2;omega⟩,⟨by have:=s3.1;omega,by have:=s3.2;omega⟩,x.l,rfl,by omega,by omega,fun r l' hr hl'=> ?_⟩;obtain⟨w1,w2,w3,w4⟩:=QFc (n:=L.lo.num) (d:=L.lo.den) (m:=L.hi.num) (e:=L.hi.den) (r:=r) s2.1 (by have:=s2.2;omega) s3.1 (by have:=s3.2;omega) (by omega);rw[w1,w2];have hq:=QCr (k:=r) (Rat.le_of_lt hg.lim) (by omega);refine⟨⟨w3,w4⟩,by omega,⟨x.qs++[QAW L.lo L.hi r],l'⟩,⟨⟨⟨by simp only[Zs,Zp,Zz];omega,fun i M q hM hi=> ?_⟩,by simp only;omega⟩,by simp only[Zs,Zp,Zz];omega⟩,by simp,by rw[w64 (by omega)];simp,rfl,.inl ?_⟩
  ·by_cases e:i<x.qs.length
   ·rw[List.getElem?_append_left e]at hi;exact h2 i M q hM hi
   ·have hlt:=(Zy.1 hi).1;simp only[Zs,Zp,Zz]at hlt;have e':i=x.qs.length:=by omega
    subst e';rw[hL]at hM;cases hM
    simp at hi;subst hi;exact hq
  ·rw[Zo (by rw[Zk];exact Zl _),List.map_append];simp only[List.map_cons,List.map_nil];unfold QAW;have e:(8*(L.lo.den:Int)*(L.hi.den:Int)).toNat=8*L.lo.den*L.hi.den:=by
    rw[show(8*(L.lo.den:Int)*(L.hi.den:Int))=((8*L.lo.den*L.hi.den:Nat):Int)by simp];exact Zt _
   rw[e]
 ·obtain⟨⟨h1,h2⟩,h3⟩:=hx;have hp:=R6 hp;exact⟨x,⟨⟨⟨h1,h2⟩,by omega⟩,h3⟩,rfl,rfl,.inl rfl⟩
end Go.Proofs
namespace Go.Proofs
open Go Go.Eng
def QFd:YA:=fun as0 H d=>match as0 with
 | [.x true xs,.x false [.p k o]]=>match o with
  | 0=>match H k with
   | some (.box t [.s 1 zs])=>match H d with
    | none=>bif t.beq 78 then
     some fun K=> ∃a l,xs=YM a/\zs=ints l/\Ql a/\l.length<=9223372036854775807/\ ∀(qs:List Rat) (l':List Int),Fit a qs->qs.length=a.links.length->l'.length<=l.length->
      K (.x false [.w d 0 qs.length]) (Xc [(1000,k),(500,d)] (QO [(1000,stB l'),(500,UW 63 qs)]) H)
     else none
    | some _=>none
   | _=>none
  | _+1=>none
 | _=>none
theorem QNM:WE 49 QFd:=by
 refine⟨Qm Tryd.func49 (by kernel_rfl),fun l H d T hT K hK=> ?_⟩;unfold QFd at hT;split at hT
 ·rename_i xs k o;split at hT
  ·split at hT
   ·rename_i t zs e1;split at hT
    ·rename_i hd;cases hb:t.beq 78 with
     | false=>rw[hb]at hT;cases hT
     | true=>
      rw[hb]at hT;cases hT
      have ht:=Yb hb;subst ht;obtain⟨a,l,rfl,rfl,ha,hl,hK⟩:=hK;refine Xp (R:=[(1000,k)]) (N:=[(500,d)]) (Hl:=[(1000,stB l)]) QQ6 QW Tryd.func49 (by kernel_rfl) (by kernel_rfl) (by rfl)
       (as0:=[WW a,.x false [.p 1000 0]]) ?_ (GB e1 rfl rfl) rfl (by simp) (by simp) (fun p hp=>by simp at hp;subst hp;exact hd) (fun x=>⟨fun p hp=> ?_,fun p hp b hb=> ?_⟩) (QPe a l ha hl) (fun x hx=> ?_)
      ·simp[Jf,Je,JJ,lkB,WW,YM]
      ·simp at hp;subst hp;exact fun h=>by have h':some (stB _)=none:=h;cases h'
      ·simp at hp;rcases hp with rfl | rfl
       ·have h':some (stB _)=some b:=hb;cases h';rfl
       ·have h':some (UW _ _)=some b:=hb;cases h';rfl
      ·exact⟨_,rfl,hK _ _ (fun i L q h1 h2=>hx.1.1.2 i L q h1 h2) hx.1.2 hx.2⟩
    ·cases hT
   ·cases hT
  ·cases hT
 ·cases hT
def M48:List (Nat×YA):=(49,QFd)::M33
theorem VA:YI M48:= .cons QNM Ju
abbrev QGT (a:Qb)(l:List Int)(K:AV->Prop):Prop:=((Ql a)/\(l.length<=9223372036854775807))/\(∀qs:List Rat,Fit a qs->qs.length=a.links.length->K (sR 63 qs))
theorem QNN (a:Qb)(l:List Int)(K:AV->Prop)(hK:QGT a l K):QU (Qc (mkT L47 M48 X4) (oF Tryd.f24) noL Tryd.f24 [WW a,.x false [.s 1 (ints l)]] K):=by
 obtain⟨hc,hK⟩:=hK;refine HV ((∃(a_1:Qb),∃(l_1:List Int),[Zm (Zq a.name),Ze a.x 63,Ze a.y 63,Zm (Zn a.half),Ze a.t 63,Ye 16 (Zc QC a.links)]=[Zm (Zq a_1.name),Ze a_1.x 63,Ze a_1.y 63,Zm (Zn a_1.half),Ze a_1.t 63,Ye 16 (Zc QC a_1.links)]/\ints l=ints l_1/\Ql a_1/\l_1.length<=9223372036854775807/\∀(qs:List Rat) (l':List Int),(∀(i:Nat) (L:Qv) (q:Rat),a_1.links[i]?=some L->qs[i]?=some q->L.lo<=q/\q<=L.hi)->qs.length=a_1.links.length->l'.length<=l_1.length->K (Zu false [Ye 3 (Zj qs.length (List.drop 0 (Zc (fun(q:Rat)=>[Ze q 63]) qs)))]))) ?_
 try simp only[Zf,R0,R1,Zw,Zl,R4,R2,R3]
 refine⟨a,l,rfl,rfl,hc.1,hc.2,fun qs l' hf hl _=> ?_⟩;have:=hK qs hf hl;rw[Yf,Zo (by rw[Zk];exact Zl _)];exact this
def QBy:Ctr
 | [.x true xs,.x false [.s 1 ys]]=>some fun K=> ∃(a:Qb) (l:List Int),xs=YM a/\ys=ints l/\QGT a l K
 | _=>none
theorem QKZ:QT 24 QBy:=by
 refine okL Tryd.func24 fun l T hT K hK=> ?_
 unfold QBy at hT;split at hT<;>cases hT
 obtain⟨a,l,rfl,rfl,hK⟩:=hK;exact spL (Qq QKX VA XP) QW Tryd.func24 (QNN _ _ K hK)
def L49:LC:=(24,QBy)::L47
noncomputable def T49:Qh:=mkT L49 M48 X4
theorem QGU:QN L49:= .cons QKZ QKX
theorem QKa:XO T49:=Qq QGU VA XP
end Go.Proofs
