/- The same walls for the same numbers: Stream.Next, gantmake.poly, Poly, walls told exactly. -/
import Derived.Test.YtfhfenokfkenoaaGreatDoorCC
open Go.IntKind renaming i64 → Za
open Int renaming ofNat → Zb
open List renaming map → Zc, take_of_length_le → Ze, take → Zf, length_tail → Zg, length_singleton → Zh, length_append → Zi, map_append → Zj, drop_zero → Zk
open Go.Eng.Ch renaming r → Zd
namespace Go.Proofs
open Go Go.Eng
def QEk:XJ:=fun as0 H _=>match as0 with
  | [.x false [.p k o],.x false [.v (.int .i64 n)]]=>match o with
    | 0=>match H k with
      | some (.box t [.s 1 xs])=>bif t.beq 38 then
          some fun K=> ∃l,xs=ints l/\(1<=n/\n<9223372036854775808)/\l.length<=9223372036854775807/\K (iA .i64 (QO l n)) (XZ [(1000,k)] (QN [(1000,stB l.tail)]) H)
          else none
      | _=>none
    | _+1=>none
  | _=>none
theorem QQt:XP 12 QEk:=by
 refine⟨Qb Tryz.func12 (by kernel_rfl),fun l H d T hT K hK=> ?_⟩;unfold QEk at hT;split at hT
 ·rename_i k o n;split at hT
  ·split at hT
   ·rename_i t xs e1;cases hb:t.beq 38 with
    | false=>rw[hb]at hT;cases hT
    | true=>
     rw[hb]at hT;cases hT
     have ht:=Nat.eq_of_beq_eq_true hb;subst ht;obtain⟨l,rfl,hn,hl,hK⟩:=hK;refine XU (R:=[(1000,k)]) (N:=[]) (Hl:=[(1000,stB l)]) QOh QK Tryz.func12 (by kernel_rfl) (by kernel_rfl) (by rfl)
      (as0:=[.x false [.p 1000 0],iA .i64 n]) ?_ (VW e1 rfl rfl) rfl (by simp) (by simp) (fun _ h=>by cases h) (fun x=>⟨fun p hp=> ?_,fun p hp b hb=> ?_⟩) (QOk l n hn hl) (fun _ _=> ?_)
     ·simp[Xj,Xg,XI,lkB,iA]
     ·simp at hp;subst hp;exact fun h=>by have h':some (stB _)=none:=h;cases h'
     ·simp at hp;subst hp;have h':some (stB _)=some b:=hb;cases h';rfl
     ·exact⟨_,rfl,hK⟩
   ·cases hT
  ·cases hT
 ·cases hT
def QYt:List (Nat×XJ):=(12,QEk)::M79
def QGp (w h c:Int)(l:List Int):List (Rat×Rat)×List Int:=bif c==0 then(gP0 w h,l)else bif c==1 then(gP1 w h (QO l (2*w+1)),l.tail)else bif c==2 then(gP2 w h,l)else(gP3 w h,l)
def Xm (l:List Int):List (Rat×Rat)×List Int:=QGp (1+QO l 6) (1+QO l.tail 6) (QO l.tail.tail 4) l.tail.tail.tail
theorem QQu:XB QYt:= .cons QQt Q8
theorem QQv {w h c:Int}(hw:1<=w/\w<=6)(hh:1<=h/\h<=6)(l:List Int):QX (QGp w h c l).1:=by
 obtain⟨p0,p2,p3,p1⟩:=QQr hw hh;have r:=Xo (l:=l) (n:=2*w+1) (by omega);unfold QGp;cases c==0 with
 | true=>exact p0
 | false=>
  cases c==1 with
  | true=>exact p1 _ r.1 r.2
  | false=>
   cases c==2 with
   | true=>exact p2
   | false=>exact p3
theorem QGq (l:List Int):QX (Xm l).1:=by
 have r:=Xo (l:=l) (n:=6) (by omega);have s:=Xo (l:=l.tail) (n:=6) (by omega);exact QQv (by omega) (by omega) _
set_option maxHeartbeats 1000000 in
theorem QQw (l:List Int)(hl:l.length<=9223372036854775807):QM (Xc (X:=Unit) (mkT QGo QYt X4) (oF Tryz.f171) noL Tryz.f171 [.x false [.p 1000 0]] [(1000,stB l)] (fun _=>True) (fun _=>⟨[(2,.x false [.w 500 0 (Xm l).1.length])],[(1000,stB (Xm l).2),(500,QQq 63 (Xm l).1)]⟩)):=by
 refine HV ((∃(l_1:List Int),ints l=ints l_1/\((1:Int)<=6/\(6:Int)<9223372036854775808)/\l_1.length<=9223372036854775807/\∃(l_2:List Int),ints l_1.tail=ints l_2/\((1:Int)<=6/\(6:Int)<9223372036854775808)/\l_2.length<=9223372036854775807/\∃(l_3:List Int),ints l_2.tail=ints l_3/\((1:Int)<=4/\(4:Int)<9223372036854775808)/\l_3.length<=9223372036854775807/\bif QO l_3 4==0 then((-9223372036854775808<Za.wrap (0-Za.wrap (1+QO l_1 6))/\Za.wrap (0-Za.wrap (1+QO l_1 6))<9223372036854775808)/\ -9223372036854775808<Za.wrap (0-Za.wrap (1+QO l_2 6))/\Za.wrap (0-Za.wrap (1+QO l_2 6))<9223372036854775808)/\((-9223372036854775808<Za.wrap (1+QO l_1 6)/\Za.wrap (1+QO l_1 6)<9223372036854775808)/\ -9223372036854775808<Za.wrap (0-Za.wrap (1+QO l_2 6))/\Za.wrap (0-Za.wrap (1+QO l_2 6))<9223372036854775808)/\((-9223372036854775808<Za.wrap (1+QO l_1 6)/\Za.wrap (1+QO l_1 6)<9223372036854775808)/\ -9223372036854775808<Za.wrap (1+QO l_2 6)/\Za.wrap (1+QO l_2 6)<9223372036854775808)/\((-9223372036854775808<Za.wrap (0-Za.wrap (1+QO l_1 6))/\Za.wrap (0-Za.wrap (1+QO l_1 6))<9223372036854775808)/\ -9223372036854775808<Za.wrap (1+QO l_2 6)/\Za.wrap (1+QO l_2 6)<9223372036854775808)/\∃(_x:Unit),True/\0=0/\4=(Xm l).fst.length/\38=38/\1=1/\ints l_3.tail=ints (Xm l).snd/\27=27/\6=6/\([[Zd (mkRat (Za.wrap (0-Za.wrap (1+QO l_1 6))) 4,mkRat (Za.wrap (0-Za.wrap (1+QO l_2 6))) 4).fst 63,Zd (mkRat (Za.wrap (0-Za.wrap (1+QO l_1 6))) 4,mkRat (Za.wrap (0-Za.wrap (1+QO l_2 6))) 4).snd 63],[Zd (mkRat (Za.wrap (1+QO l_1 6)) 4,mkRat (Za.wrap (0-Za.wrap (1+QO l_2 6))) 4).fst 63,Zd (mkRat (Za.wrap (1+QO l_1 6)) 4,mkRat (Za.wrap (0-Za.wrap (1+QO l_2 6))) 4).snd 63],[Zd (mkRat (Za.wrap (1+QO l_1 6)) 4,mkRat (Za.wrap (1+QO l_2 6)) 4).fst 63,Zd (mkRat (Za.wrap (1+QO l_1 6)) 4,mkRat (Za.wrap (1+QO l_2 6)) 4).snd 63],[Zd (mkRat (Za.wrap (0-Za.wrap (1+QO l_1 6))) 4,mkRat (Za.wrap (1+QO l_2 6)) 4).fst 63,Zd (mkRat (Za.wrap (0-Za.wrap (1+QO l_1 6))) 4,mkRat (Za.wrap (1+QO l_2 6)) 4).snd 63]]=Zc (QT 63) (Xm l).fst∨QC [[Zd (mkRat (Za.wrap (0-Za.wrap (1+QO l_1 6))) 4,mkRat (Za.wrap (0-Za.wrap (1+QO l_2 6))) 4).fst 63,Zd (mkRat (Za.wrap (0-Za.wrap (1+QO l_1 6))) 4,mkRat (Za.wrap (0-Za.wrap (1+QO l_2 6))) 4).snd 63],[Zd (mkRat (Za.wrap (1+QO l_1 6)) 4,mkRat (Za.wrap (0-Za.wrap (1+QO l_2 6))) 4).fst 63,Zd (mkRat (Za.wrap (1+QO l_1 6)) 4,mkRat (Za.wrap (0-Za.wrap (1+QO l_2 6))) 4).snd 63],[Zd (mkRat (Za.wrap (1+QO l_1 6)) 4,mkRat (Za.wrap (1+QO l_2 6)) 4).fst 63,Zd (mkRat (Za.wrap (1+QO l_1 6)) 4,mkRat (Za.wrap (1+QO l_2 6)) 4).snd 63],[Zd (mkRat (Za.wrap (0-Za.wrap (1+QO l_1 6))) 4,mkRat (Za.wrap (1+QO l_2 6)) 4).fst 63,Zd (mkRat (Za.wrap (0-Za.wrap (1+QO l_1 6))) 4,mkRat (Za.wrap (1+QO l_2 6)) 4).snd 63]] (Zc (QT 63) (Xm l).fst))/\True else bif QO l_3 4==1 then((-9223372036854775808<Za.wrap (0-Za.wrap (1+QO l_1 6))/\Za.wrap (0-Za.wrap (1+QO l_1 6))<9223372036854775808)/\ -9223372036854775808<Za.wrap (0-Za.wrap (1+QO l_2 6))/\Za.wrap (0-Za.wrap (1+QO l_2 6))<9223372036854775808)/\((-9223372036854775808<Za.wrap (1+QO l_1 6)/\Za.wrap (1+QO l_1 6)<9223372036854775808)/\ -9223372036854775808<Za.wrap (0-Za.wrap (1+QO l_2 6))/\Za.wrap (0-Za.wrap (1+QO l_2 6))<9223372036854775808)/\∃(l_4:List Int),ints l_3.tail=ints l_4/\(1<=Za.wrap (Za.wrap (2*Za.wrap (1+QO l_1 6))+1)/\Za.wrap (Za.wrap (2*Za.wrap (1+QO l_1 6))+1)<9223372036854775808)/\l_4.length<=9223372036854775807/\((-9223372036854775808<Za.wrap (QO l_4 (Za.wrap (Za.wrap (2*Za.wrap (1+QO l_1 6))+1))-Za.wrap (1+QO l_1 6))/\Za.wrap (QO l_4 (Za.wrap (Za.wrap (2*Za.wrap (1+QO l_1 6))+1))-Za.wrap (1+QO l_1 6))<9223372036854775808)/\ -9223372036854775808<Za.wrap (1+QO l_2 6)/\Za.wrap (1+QO l_2 6)<9223372036854775808)/\∃(_x:Unit),True/\0=0/\3=(Xm l).fst.length/\38=38/\1=1/\ints l_4.tail=ints (Xm l).snd/\27=27/\6=6/\([[Zd (mkRat (Za.wrap (0-Za.wrap (1+QO l_1 6))) 4,mkRat (Za.wrap (0-Za.wrap (1+QO l_2 6))) 4).fst 63,Zd (mkRat (Za.wrap (0-Za.wrap (1+QO l_1 6))) 4,mkRat (Za.wrap (0-Za.wrap (1+QO l_2 6))) 4).snd 63],[Zd (mkRat (Za.wrap (1+QO l_1 6)) 4,mkRat (Za.wrap (0-Za.wrap (1+QO l_2 6))) 4).fst 63,Zd (mkRat (Za.wrap (1+QO l_1 6)) 4,mkRat (Za.wrap (0-Za.wrap (1+QO l_2 6))) 4).snd 63],[Zd (mkRat (Za.wrap (QO l_4 (Za.wrap (Za.wrap (2*Za.wrap (1+QO l_1 6))+1))-Za.wrap (1+QO l_1 6))) 4,mkRat (Za.wrap (1+QO l_2 6)) 4).fst 63,Zd (mkRat (Za.wrap (QO l_4 (Za.wrap (Za.wrap (2*Za.wrap (1+QO l_1 6))+1))-Za.wrap (1+QO l_1 6))) 4,mkRat (Za.wrap (1+QO l_2 6)) 4).snd 63]]=Zc (QT 63) (Xm l).fst∨QC [[Zd (mkRat (Za.wrap (0-Za.wrap (1+QO l_1 6))) 4,mkRat (Za.wrap (0-Za.wrap (1+QO l_2 6))) 4).fst 63,Zd (mkRat (Za.wrap (0-Za.wrap (1+QO l_1 6))) 4,mkRat (Za.wrap (0-Za.wrap (1+QO l_2 6))) 4).snd 63],[Zd (mkRat (Za.wrap (1+QO l_1 6)) 4,mkRat (Za.wrap (0-Za.wrap (1+QO l_2 6))) 4).fst 63,Zd (mkRat (Za.wrap (1+QO l_1 6)) 4,mkRat (Za.wrap (0-Za.wrap (1+QO l_2 6))) 4).snd 63],[Zd (mkRat (Za.wrap (QO l_4 (Za.wrap (Za.wrap (2*Za.wrap (1+QO l_1 6))+1))-Za.wrap (1+QO l_1 6))) 4,mkRat (Za.wrap (1+QO l_2 6)) 4).fst 63,Zd (mkRat (Za.wrap (QO l_4 (Za.wrap (Za.wrap (2*Za.wrap (1+QO l_1 6))+1))-Za.wrap (1+QO l_1 6))) 4,mkRat (Za.wrap (1+QO l_2 6)) 4).snd 63]] (Zc (QT 63) (Xm l).fst))/\True else bif QO l_3 4==2 then((-9223372036854775808<Za.wrap (Za.wrap (0-Za.wrap (1+QO l_1 6))-1)/\Za.wrap (Za.wrap (0-Za.wrap (1+QO l_1 6))-1)<9223372036854775808)/\ -9223372036854775808<Za.wrap (Za.wrap (0-Za.wrap (1+QO l_2 6))-1)/\Za.wrap (Za.wrap (0-Za.wrap (1+QO l_2 6))-1)<9223372036854775808)/\((-9223372036854775808<Za.wrap (1+QO l_1 6)/\Za.wrap (1+QO l_1 6)<9223372036854775808)/\ -9223372036854775808<Za.wrap (Za.wrap (0-Za.wrap (1+QO l_2 6))-1)/\Za.wrap (Za.wrap (0-Za.wrap (1+QO l_2 6))-1)<9223372036854775808)/\((-9223372036854775808<Za.wrap (Za.wrap (1+QO l_1 6)+1)/\Za.wrap (Za.wrap (1+QO l_1 6)+1)<9223372036854775808)/\ -9223372036854775808<Za.wrap (0-Za.wrap (1+QO l_2 6))/\Za.wrap (0-Za.wrap (1+QO l_2 6))<9223372036854775808)/\((-9223372036854775808<Za.wrap (Za.wrap (1+QO l_1 6)+1)/\Za.wrap (Za.wrap (1+QO l_1 6)+1)<9223372036854775808)/\ -9223372036854775808<Za.wrap (1+QO l_2 6)/\Za.wrap (1+QO l_2 6)<9223372036854775808)/\((-9223372036854775808<Za.wrap (Za.wrap (0-Za.wrap (1+QO l_1 6))-1)/\Za.wrap (Za.wrap (0-Za.wrap (1+QO l_1 6))-1)<9223372036854775808)/\ -9223372036854775808<Za.wrap (1+QO l_2 6)/\Za.wrap (1+QO l_2 6)<9223372036854775808)/\∃(_x:Unit),True/\0=0/\5=(Xm l).fst.length/\38=38/\1=1/\ints l_3.tail=ints (Xm l).snd/\27=27/\6=6/\([[Zd (mkRat (Za.wrap (Za.wrap (0-Za.wrap (1+QO l_1 6))-1)) 4,mkRat (Za.wrap (Za.wrap (0-Za.wrap (1+QO l_2 6))-1)) 4).fst 63,Zd (mkRat (Za.wrap (Za.wrap (0-Za.wrap (1+QO l_1 6))-1)) 4,mkRat (Za.wrap (Za.wrap (0-Za.wrap (1+QO l_2 6))-1)) 4).snd 63],[Zd (mkRat (Za.wrap (1+QO l_1 6)) 4,mkRat (Za.wrap (Za.wrap (0-Za.wrap (1+QO l_2 6))-1)) 4).fst 63,Zd (mkRat (Za.wrap (1+QO l_1 6)) 4,mkRat (Za.wrap (Za.wrap (0-Za.wrap (1+QO l_2 6))-1)) 4).snd 63],[Zd (mkRat (Za.wrap (Za.wrap (1+QO l_1 6)+1)) 4,mkRat (Za.wrap (0-Za.wrap (1+QO l_2 6))) 4).fst 63,Zd (mkRat (Za.wrap (Za.wrap (1+QO l_1 6)+1)) 4,mkRat (Za.wrap (0-Za.wrap (1+QO l_2 6))) 4).snd 63],[Zd (mkRat (Za.wrap (Za.wrap (1+QO l_1 6)+1)) 4,mkRat (Za.wrap (1+QO l_2 6)) 4).fst 63,Zd (mkRat (Za.wrap (Za.wrap (1+QO l_1 6)+1)) 4,mkRat (Za.wrap (1+QO l_2 6)) 4).snd 63],[Zd (mkRat (Za.wrap (Za.wrap (0-Za.wrap (1+QO l_1 6))-1)) 4,mkRat (Za.wrap (1+QO l_2 6)) 4).fst 63,Zd (mkRat (Za.wrap (Za.wrap (0-Za.wrap (1+QO l_1 6))-1)) 4,mkRat (Za.wrap (1+QO l_2 6)) 4).snd 63]]=Zc (QT 63) (Xm l).fst∨QC [[Zd (mkRat (Za.wrap (Za.wrap (0-Za.wrap (1+QO l_1 6))-1)) 4,mkRat (Za.wrap (Za.wrap (0-Za.wrap (1+QO l_2 6))-1)) 4).fst 63,Zd (mkRat (Za.wrap (Za.wrap (0-Za.wrap (1+QO l_1 6))-1)) 4,mkRat (Za.wrap (Za.wrap (0-Za.wrap (1+QO l_2 6))-1)) 4).snd 63],[Zd (mkRat (Za.wrap (1+QO l_1 6)) 4,mkRat (Za.wrap (Za.wrap (0-Za.wrap (1+QO l_2 6))-1)) 4).fst 63,Zd (mkRat (Za.wrap (1+QO l_1 6)) 4,mkRat (Za.wrap (Za.wrap (0-Za.wrap (1+QO l_2 6))-1)) 4).snd 63],[Zd (mkRat (Za.wrap (Za.wrap (1+QO l_1 6)+1)) 4,mkRat (Za.wrap (0-Za.wrap (1+QO l_2 6))) 4).fst 63,Zd (mkRat (Za.wrap (Za.wrap (1+QO l_1 6)+1)) 4,mkRat (Za.wrap (0-Za.wrap (1+QO l_2 6))) 4).snd 63],[Zd (mkRat (Za.wrap (Za.wrap (1+QO l_1 6)+1)) 4,mkRat (Za.wrap (1+QO l_2 6)) 4).fst 63,Zd (mkRat (Za.wrap (Za.wrap (1+QO l_1 6)+1)) 4,mkRat (Za.wrap (1+QO l_2 6)) 4).snd 63],[Zd (mkRat (Za.wrap (Za.wrap (0-Za.wrap (1+QO l_1 6))-1)) 4,mkRat (Za.wrap (1+QO l_2 6)) 4).fst 63,Zd (mkRat (Za.wrap (Za.wrap (0-Za.wrap (1+QO l_1 6))-1)) 4,mkRat (Za.wrap (1+QO l_2 6)) 4).snd 63]] (Zc (QT 63) (Xm l).fst))/\True else((-9223372036854775808<Za.wrap (0-Za.wrap (1+QO l_1 6))/\Za.wrap (0-Za.wrap (1+QO l_1 6))<9223372036854775808)/\(-9223372036854775808:Int)<0/\(0:Int)<9223372036854775808)/\(((-9223372036854775808:Int)<0/\(0:Int)<9223372036854775808)/\ -9223372036854775808<Za.wrap (0-Za.wrap (1+QO l_2 6))/\Za.wrap (0-Za.wrap (1+QO l_2 6))<9223372036854775808)/\((-9223372036854775808<Za.wrap (1+QO l_1 6)/\Za.wrap (1+QO l_1 6)<9223372036854775808)/\(-9223372036854775808:Int)<0/\(0:Int)<9223372036854775808)/\(((-9223372036854775808:Int)<0/\(0:Int)<9223372036854775808)/\ -9223372036854775808<Za.wrap (1+QO l_2 6)/\Za.wrap (1+QO l_2 6)<9223372036854775808)/\∃(_x:Unit),True/\0=0/\4=(Xm l).fst.length/\38=38/\1=1/\ints l_3.tail=ints (Xm l).snd/\27=27/\6=6/\([[Zd (mkRat (Za.wrap (0-Za.wrap (1+QO l_1 6))) 4,mkRat 0 4).fst 63,Zd (mkRat (Za.wrap (0-Za.wrap (1+QO l_1 6))) 4,mkRat 0 4).snd 63],[Zd (mkRat 0 4,mkRat (Za.wrap (0-Za.wrap (1+QO l_2 6))) 4).fst 63,Zd (mkRat 0 4,mkRat (Za.wrap (0-Za.wrap (1+QO l_2 6))) 4).snd 63],[Zd (mkRat (Za.wrap (1+QO l_1 6)) 4,mkRat 0 4).fst 63,Zd (mkRat (Za.wrap (1+QO l_1 6)) 4,mkRat 0 4).snd 63],[Zd (mkRat 0 4,mkRat (Za.wrap (1+QO l_2 6)) 4).fst 63,Zd (mkRat 0 4,mkRat (Za.wrap (1+QO l_2 6)) 4).snd 63]]=Zc (QT 63) (Xm l).fst∨QC [[Zd (mkRat (Za.wrap (0-Za.wrap (1+QO l_1 6))) 4,mkRat 0 4).fst 63,Zd (mkRat (Za.wrap (0-Za.wrap (1+QO l_1 6))) 4,mkRat 0 4).snd 63],[Zd (mkRat 0 4,mkRat (Za.wrap (0-Za.wrap (1+QO l_2 6))) 4).fst 63,Zd (mkRat 0 4,mkRat (Za.wrap (0-Za.wrap (1+QO l_2 6))) 4).snd 63],[Zd (mkRat (Za.wrap (1+QO l_1 6)) 4,mkRat 0 4).fst 63,Zd (mkRat (Za.wrap (1+QO l_1 6)) 4,mkRat 0 4).snd 63],[Zd (mkRat 0 4,mkRat (Za.wrap (1+QO l_2 6)) 4).fst 63,Zd (mkRat 0 4,mkRat (Za.wrap (1+QO l_2 6)) 4).snd 63]] (Zc (QT 63) (Xm l).fst))/\True)) ?_
 simp only[R0,R1];have hv:Xm l=QGp (1+QO l 6) (1+QO l.tail 6) (QO l.tail.tail 4) l.tail.tail.tail:=rfl;have t1:l.tail.length<=9223372036854775807:=by rw[Zg];omega
 have t2:l.tail.tail.length<=9223372036854775807:=by rw[Zg];omega
 have t3:l.tail.tail.tail.length<=9223372036854775807:=by rw[Zg];omega
 refine⟨l,rfl,by omega,hl,l.tail,rfl,by omega,t1,l.tail.tail,rfl,by omega,t2,?_⟩;rw[hv];have hr:=Xo (l:=l) (n:=6) (by omega);have hr1:=Xo (l:=l.tail) (n:=6) (by omega);generalize QO l 6=r at*;generalize QO l.tail 6=r1 at*;generalize QO l.tail.tail 4=c at*;generalize l.tail.tail.tail=l3 at*;have e1:Za.wrap (1+r)=1+r:=w64 (by omega);have e2:Za.wrap (1+r1)=1+r1:=w64 (by omega);have e3:Za.wrap (0-(1+r))= -(1+r):=by rw[w64 (by omega)];omega
 have e4:Za.wrap (0-(1+r1))= -(1+r1):=by rw[w64 (by omega)];omega
 have e5:Za.wrap (2*(1+r))=2*(1+r):=w64 (by omega);have e6:Za.wrap (2*(1+r)+1)=2*(1+r)+1:=w64 (by omega);have e7:Za.wrap (-(1+r)-1)= -(1+r)-1:=w64 (by omega);have e8:Za.wrap (-(1+r1)-1)= -(1+r1)-1:=w64 (by omega);have e9:Za.wrap (1+r+1)=1+r+1:=w64 (by omega);have rr:=Xo (l:=l3) (n:=2*(1+r)+1) (by omega);have e10:Za.wrap (QO l3 (2*(1+r)+1)-(1+r))=QO l3 (2*(1+r)+1)-(1+r):=w64 (by omega);simp only[e1,e2,e3,e4,e5,e6,e7,e8,e9];unfold QGp;refine QF (fun h0=> ?_) (fun h0=>QF (fun h1=> ?_) (fun h1=>QF (fun h2=> ?_) (fun h2=> ?_)))
 ·rw[h0];exact⟨by omega,by omega,by omega,by omega,(),rfl,rfl,.inl rfl⟩
 ·rw[h0,h1];refine⟨by omega,by omega,l3,rfl,by omega,t3,?_⟩;rw[e10];exact⟨by omega,(),rfl,rfl,.inl rfl⟩
 ·rw[h0,h1,h2];exact⟨by omega,by omega,by omega,by omega,by omega,(),rfl,rfl,.inl rfl⟩
 ·rw[h0,h1,h2];exact⟨by omega,by omega,by omega,by omega,(),rfl,rfl,.inl rfl⟩
def QBo:XJ:=fun as0 H d=>match as0 with
 | [.x false [.p k o]]=>match o with
  | 0=>match H k with
   | some (.box t [.s 1 zs])=>match H d with
    | none=>bif t.beq 38 then
     some fun K=> ∃l,zs=ints l/\l.length<=9223372036854775807/\ 
      K (.x false [.w d 0 (Xm l).1.length]) (XZ [(1000,k),(500,d)] (QN [(1000,stB (Xm l).2),(500,QQq 63 (Xm l).1)]) H)
     else none
    | some _=>none
   | _=>none
  | _+1=>none
 | _=>none
theorem QMo:XP 171 QBo:=by
 refine⟨Qb Tryz.func171 (by kernel_rfl),fun l H d T hT K hK=> ?_⟩;unfold QBo at hT;split at hT
 ·rename_i k o;split at hT
  ·split at hT
   ·rename_i t zs e1;split at hT
    ·rename_i hd;cases hb:t.beq 38 with
     | false=>rw[hb]at hT;cases hT
     | true=>
      rw[hb]at hT;cases hT
      have ht:=Nat.eq_of_beq_eq_true hb;subst ht;obtain⟨l,rfl,hl,hK⟩:=hK;refine XU (R:=[(1000,k)]) (N:=[(500,d)]) (Hl:=[(1000,stB l)]) (QW QEj QQu Qg) QK Tryz.func171 (by kernel_rfl) (by kernel_rfl) (by rfl)
       (as0:=[.x false [.p 1000 0]]) ?_ (VW e1 rfl rfl) rfl (by simp) (by simp) (fun p hp=>by simp at hp;subst hp;exact hd) (fun x=>⟨fun p hp=> ?_,fun p hp b hb=> ?_⟩) (QQw l hl) (fun _ _=> ?_)
      ·simp[Xj,Xg,XI,lkB]
      ·simp at hp;subst hp;exact fun h=>by have h':some (stB _)=none:=h;cases h'
      ·simp at hp;rcases hp with rfl | rfl
       ·have h':some (stB _)=some b:=hb;cases h';rfl
       ·have h':some (QQq _ _)=some b:=hb;cases h';rfl
      ·exact⟨_,rfl,hK⟩
    ·cases hT
   ·cases hT
  ·cases hT
 ·cases hT
def QJO:List (Nat×XJ):=(171,QBo)::QYt
def QWN (l:List Int):List (Rat×Rat):=(Xm [QO l.tail.tail 60,QO l.tail.tail.tail 60,QO l.tail.tail.tail.tail 60]).1.map (mvP (mkRat (QO l 33-16) 4,mkRat (QO l.tail 33-16) 4))
def QC7 (l:List Int):List Int:=l.tail.tail.tail.tail.tail
def WR:Nat->List Int->List (List (Rat×Rat))
 | 0,_=>[]
 | n+1,l=>QWN l::WR n (QC7 l)
def Jh (l:List Int):List (List (Rat×Rat)):=WR (QO l 4).toNat l.tail
structure WdX where
 ws:List (List (Rat×Rat))
 l:List Int
 n:Nat
 ps:List (Rat×Rat)
 v:Rat×Rat
 j:Nat
structure WdI (l:List Int)(x:WdX):Prop where
 n:x.ws.length<=x.n/\x.n<=3
 eq:x.ws++WR (x.n-x.ws.length) x.l=Jh l
 l:x.l.length<=l.length
structure WdJ (l:List Int)(x:WdX):Prop where
 n:x.ws.length<x.n/\x.n<=3
 eq:x.ws++x.ps.map (mvP x.v)::WR (x.n-x.ws.length-1) x.l=Jh l
 l:x.l.length<=l.length
 ok:QX x.ps
 j:x.j<=x.ps.length
def QJP (l:List Int):LI:=fun id=>bif id.beq 4 then .inv ⟨WdX,fun x=>⟨[(3,.x false [.p 11 0]),(4,.x false [.w 500 0 x.ws.length]),(13,iA .i64 x.n),(14,iA .i64 x.ws.length)],[(11,stB x.l),(500,.row 61 1 (shN 127 x.ws))]⟩,WdI l,fun x=>x.n-x.ws.length,fun _=>0⟩
 else .inv ⟨WdX,fun x=>⟨[(3,.x false [.p 11 0]),(4,.x false [.w 500 0 x.ws.length]),(5,.x false [.w 501 0 x.j]),(6,.x false [.p 6 0]),(13,iA .i64 x.n),(14,iA .i64 x.ws.length),(32,sVv 63 x.ps),(33,iA .i64 x.ps.length),(34,iA .i64 x.j)],[(6,.box 27 (QT 63 x.v)),(11,stB x.l),(500,.row 61 1 (shN 127 x.ws)),(501,QQq 127 ((x.ps.take x.j).map (mvP x.v)))]⟩,WdJ l,fun x=>x.ps.length-x.j,fun x=>x.n-x.ws.length⟩
theorem QEl:XB QJO:= .cons QMo QQu
theorem QJQ: ∀(n:Nat) (l:List Int),(WR n l).length=n/\ ∀w∈WR n l,QX w:=by
 intro n;induction n with
 | zero=>exact fun _=>⟨rfl,fun w h=>by cases h⟩
 | succ n ih=>
  intro l;obtain⟨h1,h2⟩:=ih (QC7 l);refine⟨by simp[WR,h1],fun w hw=> ?_⟩;rcases List.mem_cons.1 hw with rfl | hw
  ·exact QUq _ (QGq _)
  ·exact h2 w hw
theorem QMp (l:List Int):(Jh l).length<=3/\ ∀w∈Jh l,QX w:=by
 have r:=Xo (l:=l) (n:=4) (by omega);obtain⟨h1,h2⟩:=QJQ (QO l 4).toNat l.tail;exact⟨by unfold Jh;omega,h2⟩
theorem QQx (l:List Int)(hc:(l.length<=9223372036854775807))(K:AV->Prop)(hK:K (sVv 63 (Xm l).1)):QM (QR (mkT QGo QJO X4) (oF Tryz.f107) noL Tryz.f107 [.x false [.s 1 (ints l)]] K):=by
 refine HV ((∃(l_1:List Int),ints l=ints l_1/\l_1.length<=9223372036854775807/\K (AV.x false [Ch.s 6 (Zf (Xm l_1).fst.length (List.drop 0 (Zc (QT 63) (Xm l_1).fst)))]))) ?_
 try simp only[Int.ofNat_eq_natCast,R0,R1,Nat.zero_add,Nat.le_refl,R4,R2,R3]
 refine⟨l,rfl,hc,?_⟩;rw[Zk,Ze (by simp)];exact hK
def QBp:Ctr
 | [.x false [.s 1 xs]]=>some fun K=> ∃(l:List Int),xs=ints l/\((l.length<=9223372036854775807))/\(K (sVv 63 (Xm l).1))
 | _=>none
theorem QMq:QI 107 QBp:=by
 refine okL Tryz.func107 fun l T hT K hK=> ?_
 unfold QBp at hT;split at hT<;>cases hT
 obtain⟨l,rfl,hc,hK⟩:=hK;exact spL (QW QEj QEl Qg) QK Tryz.func107 (QQx _ hc K hK)
def QQy:LC:=(107,QBp)::QGo
theorem QKj:QG QQy:= .cons QMq QEj
set_option maxHeartbeats 1000000 in
theorem QMr (l:List Int)(hc:(l.length<=9223372036854775807))(K:AV->Prop)(hK:K (slA 127 (Jh l))):QM (QR (mkT QQy QJO X4) (oF Tryz.f48) (QJP l) Tryz.f48 [.x false [.s 1 (ints l)]] K):=by
 refine HV ((∃(l_1:List Int),ints l=ints l_1/\((1:Int)<=4/\(4:Int)<9223372036854775808)/\l_1.length<=9223372036854775807/\(∃(x:WdX),(WdI l x/\OfNat.ofNat 0=0)/\0=0/\Value.slice none 0 0=Value.slice none 0 0/\0=0/\x.ws.length=0/\QO l_1 4=Zb x.n/\0=Zb x.ws.length/\38=38/\1=1/\ints l_1.tail=ints x.l/\shN 127 x.ws=[]/\True)/\∀(x:WdX),WdI l x->OfNat.ofNat 0=0->bif decide (Zb x.ws.length<Zb x.n)then ∃(l_2:List Int),ints x.l=ints l_2/\((1:Int)<=33/\(33:Int)<9223372036854775808)/\l_2.length<=9223372036854775807/\((-9223372036854775808<Za.wrap (QO l_2 33-16)/\Za.wrap (QO l_2 33-16)<9223372036854775808)/\(0:Int)<4/\(4:Int)<9223372036854775808)/\∃(l_3:List Int),ints l_2.tail=ints l_3/\((1:Int)<=33/\(33:Int)<9223372036854775808)/\l_3.length<=9223372036854775807/\((-9223372036854775808<Za.wrap (QO l_3 33-16)/\Za.wrap (QO l_3 33-16)<9223372036854775808)/\(0:Int)<4/\(4:Int)<9223372036854775808)/\∃(l_4:List Int),ints l_3.tail=ints l_4/\((1:Int)<=60/\(60:Int)<9223372036854775808)/\l_4.length<=9223372036854775807/\∃(l_5:List Int),ints l_4.tail=ints l_5/\((1:Int)<=60/\(60:Int)<9223372036854775808)/\l_5.length<=9223372036854775807/\∃(l_6:List Int),ints l_5.tail=ints l_6/\((1:Int)<=60/\(60:Int)<9223372036854775808)/\l_6.length<=9223372036854775807/\∃(l_7:List Int),[[Ch.v (Value.int Za (QO l_4 60))],[Ch.v (Value.int Za (QO l_5 60))],[Ch.v (Value.int Za (QO l_6 60))]]=ints l_7/\l_7.length<=9223372036854775807/\(∃(x_1:WdX),(WdJ l x_1/\x_1.n-x_1.ws.length=x.n-x.ws.length)/\0=0/\0=0/\x.ws.length=x_1.ws.length/\Value.slice none 0 0=Value.slice none 0 0/\0=0/\x_1.j=0/\0=0/\Zb x.n=Zb x_1.n/\Zb x.ws.length=Zb x_1.ws.length/\6=6/\Zc (QT 63) (Xm l_7).fst=Zc (QT 63) x_1.ps/\Zb (Zc (QT 63) (Xm l_7).fst).length=Zb x_1.ps.length/\0=Zb x_1.j/\27=27/\mkRat (Za.wrap (QO l_2 33-16)) 4=x_1.v.fst/\63<=63/\mkRat (Za.wrap (QO l_3 33-16)) 4=x_1.v.snd/\63<=63/\38=38/\1=1/\ints l_6.tail=ints x_1.l/\61=61/\1=1/\(shN 127 x.ws=shN 127 x_1.ws∨QC (shN 127 x.ws) (shN 127 x_1.ws))/\Zc (QT 127) (Zc (mvP x_1.v) (Zf x_1.j x_1.ps))=[]/\True)/\∀(x_1:WdX),WdJ l x_1->x_1.n-x_1.ws.length=x.n-x.ws.length->bif decide (Zb x_1.j<Zb x_1.ps.length)then(0<=Zb x_1.j/\Zb x_1.j<Zb (Zc (QT 63) x_1.ps).length)/\∃(q:Rat),∃(n:Nat),∃(q_1:Rat),∃(n_1:Nat),ldE (Zc (QT 63) x_1.ps) (Zb x_1.j).toNat 0 6=some [Zd q n,Zd q_1 n_1]/\(n+63<=4294967290/\n_1+63<=4294967290)/\((x_1.j+1)*80<=140737488355328/\x_1.j+1<=9223372036854775807)/\∃(x':WdX),(WdJ l x'/\x'.n-x'.ws.length=x.n-x.ws.length/\x'.ps.length-x'.j<x_1.ps.length-x_1.j)/\0=0/\0=0/\x_1.ws.length=x'.ws.length/\0=0/\x_1.j+1=x'.j/\0=0/\Zb x_1.n=Zb x'.n/\Zb x_1.ws.length=Zb x'.ws.length/\6=6/\Zc (QT 63) x_1.ps=Zc (QT 63) x'.ps/\Zb x_1.ps.length=Zb x'.ps.length/\Za.wrap (Zb x_1.j+1)=Zb x'.j/\27=27/\x_1.v.fst=x'.v.fst/\63<=63/\x_1.v.snd=x'.v.snd/\63<=63/\38=38/\1=1/\ints x_1.l=ints x'.l/\61=61/\1=1/\(shN 127 x_1.ws=shN 127 x'.ws∨QC (shN 127 x_1.ws) (shN 127 x'.ws))/\27=27/\6=6/\(Zf x_1.j (Zc (QT 127) (Zc (mvP x_1.v) (Zf x_1.j x_1.ps)))++[[Zd (q+x_1.v.fst) (n+63+1),Zd (q_1+x_1.v.snd) (n_1+63+1)]]=Zc (QT 127) (Zc (mvP x'.v) (Zf x'.j x'.ps))∨QC (Zf x_1.j (Zc (QT 127) (Zc (mvP x_1.v) (Zf x_1.j x_1.ps)))++[[Zd (q+x_1.v.fst) (n+63+1),Zd (q_1+x_1.v.snd) (n_1+63+1)]]) (Zc (QT 127) (Zc (mvP x'.v) (Zf x'.j x'.ps))))/\True else((x_1.ws.length+1)*24<=140737488355328/\x_1.ws.length+1<=9223372036854775807)/\∃(x':WdX),(WdI l x'/\OfNat.ofNat 0=0/\x'.n-x'.ws.length<x.n-x.ws.length)/\0=0/\0=0/\x_1.ws.length+1=x'.ws.length/\Zb x_1.n=Zb x'.n/\Za.wrap (Zb x_1.ws.length+1)=Zb x'.ws.length/\38=38/\1=1/\ints x_1.l=ints x'.l/\61=61/\1=1/\(Zf x_1.ws.length (shN 127 x_1.ws)++[[Ch.s 6 (Zf x_1.j (List.drop 0 (Zc (QT 127) (Zc (mvP x_1.v) (Zf x_1.j x_1.ps)))))]]=shN 127 x'.ws∨QC (Zf x_1.ws.length (shN 127 x_1.ws)++[[Ch.s 6 (Zf x_1.j (List.drop 0 (Zc (QT 127) (Zc (mvP x_1.v) (Zf x_1.j x_1.ps)))))]]) (shN 127 x'.ws))/\True else K (AV.x false [Ch.s 1 (Zf x.ws.length (List.drop 0 (shN 127 x.ws)))]))) ?_
 try simp only[Int.ofNat_eq_natCast,R0,R1,Nat.le_refl,R4]
 have shl: ∀n (l:List (List (Rat×Rat))),(shN n l).length=l.length:=fun n l=>by simp[shN]
 have r4:=Xo (l:=l) (n:=4) (by omega);refine⟨l,rfl,by omega,hc,⟨⟨[],l.tail,(QO l 4).toNat,[],(0,0),0⟩,⟨by simp only[List.length_nil];omega,rfl,by simp⟩,rfl,by simp only;omega,rfl,rfl,rfl⟩,fun x hx=>QF (fun hp=> ?_) (fun hp=> ?_)⟩
 ·have hp:x.ws.length<x.n:=by have:=R5 hp;omega
  have hn:=hx.n;have hxl:=hx.l;have heq:=hx.eq;rw[show x.n-x.ws.length=(x.n-x.ws.length-1)+1 by omega]at heq;have heq:x.ws++QWN x.l::WR (x.n-x.ws.length-1) (QC7 x.l)=Jh l:=heq;have ra:=Xo (l:=x.l) (n:=33) (by omega);have rb:=Xo (l:=x.l.tail) (n:=33) (by omega);have t1:x.l.tail.length<=x.l.length:=by rw[Zg];omega
  have t2:x.l.tail.tail.length<=x.l.length:=by rw[Zg];omega
  have t3:x.l.tail.tail.tail.length<=x.l.length:=by rw[Zg];omega
  have t4:x.l.tail.tail.tail.tail.length<=x.l.length:=by rw[Zg];omega
  have t5:(QC7 x.l).length<=x.l.length:=by unfold QC7;rw[Zg];omega
  refine⟨x.l,rfl,by omega,by omega,by rw[w64 (n:=QO x.l 33-16) (by omega)];omega,x.l.tail,rfl,by omega,by omega,by rw[w64 (n:=QO x.l.tail 33-16) (by omega)];omega,x.l.tail.tail,rfl,by omega,by omega,x.l.tail.tail.tail,rfl,by omega,by omega,x.l.tail.tail.tail.tail,rfl,by omega,by omega,[QO x.l.tail.tail 60,QO x.l.tail.tail.tail 60,QO x.l.tail.tail.tail.tail 60],rfl,by simp,⟨⟨x.ws,QC7 x.l,x.n,(Xm [QO x.l.tail.tail 60,QO x.l.tail.tail.tail 60,QO x.l.tail.tail.tail.tail 60]).1,(mkRat (QO x.l 33-16) 4,mkRat (QO x.l.tail 33-16) 4),0⟩,⟨⟨⟨hp,hn.2⟩,heq,by simp only;omega,QGq _,by simp⟩,rfl⟩,rfl,rfl,rfl,rfl,rfl,by rw[List.length_map],rfl,by rw[w64 (by omega)],by rw[w64 (by omega)],rfl,.inl rfl,by simp⟩,fun y hy hyt=> ?_⟩
  have yn:=hy.n;have y1:=hy.ok.hi;have yj:=hy.j;refine QF (fun hk=> ?_) (fun hk=> ?_)
  ·have hk:y.j<y.ps.length:=by have:=R5 hk;omega
   obtain⟨p,hpp⟩: ∃p,y.ps[y.j]? =some p:=⟨_,List.getElem?_eq_getElem hk⟩
   refine⟨by rw[List.length_map];omega,_,_,_,_,WE (by simpa using hpp),by omega,⟨by omega,by omega⟩,⟨y.ws,y.l,y.n,y.ps,y.v,y.j+1⟩,⟨⟨hy.n,hy.eq,hy.l,hy.ok,hk⟩,hyt,by simp only;omega⟩,rfl,rfl,rfl,rfl,rfl,rfl,by rw[w64 (by omega)];simp,rfl,rfl,rfl,.inl rfl,.inl ?_⟩;simp only;rw[Ze (by simp;omega),List.take_add_one,hpp,Zj,Zj];rfl
  ·have hk:y.j=y.ps.length:=by have:=R6 hk;omega
   refine⟨⟨by omega,by omega⟩,⟨y.ws++[y.ps.map (mvP y.v)],y.l,y.n,y.ps,y.v,0⟩,⟨⟨by simp only[Zi,Zh];omega,?_,hy.l⟩,by simp only[Zi,Zh];omega⟩,by simp,rfl,by rw[w64 (by omega)];simp,rfl,.inl ?_⟩
   ·simp only[Zi,Zh];rw[List.append_assoc,show y.n-(y.ws.length+1)=y.n-y.ws.length-1 by omega];exact hy.eq
   ·have e1:Zf y.j y.ps=y.ps:=Ze (by omega);simp only;rw[e1,Zk,Ze (l:=Zc (QT 127) _) (by simp[hk]),Ze (by rw[shl];exact Nat.le_refl _)];unfold shN;rw[Zj];rfl
 ·have hp:x.ws.length=x.n:=by have:=R6 hp;have:=hx.n;omega
  have heq:=hx.eq;rw[hp,Nat.sub_self]at heq;have heq:x.ws=Jh l:=by rw[<-heq];simp[WR]
  rw[Zk,Ze (by rw[shl];exact Nat.le_refl _),heq];exact hK
def H4:Ctr
 | [.x false [.s 1 xs]]=>some fun K=> ∃(l:List Int),xs=ints l/\((l.length<=9223372036854775807))/\(K (slA 127 (Jh l)))
 | _=>none
theorem QJR:QI 48 H4:=by
 refine okL Tryz.func48 fun l T hT K hK=> ?_
 unfold H4 at hT;split at hT<;>cases hT
 obtain⟨l,rfl,hc,hK⟩:=hK;exact spL (QW QKj QEl Qg) QK Tryz.func48 (QMr _ hc K hK)
def QQz:LC:=(48,H4)::QQy
noncomputable def Qby:QZ:=mkT QQz QJO X4
theorem QUs:QG QQz:= .cons QJR QKj
end Go.Proofs
