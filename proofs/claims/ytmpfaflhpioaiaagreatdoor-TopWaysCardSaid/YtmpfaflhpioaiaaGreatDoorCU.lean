/- The same walls for the same numbers: Stream.Next, gantmake.zt, Poly, walls told exactly. -/
import Derived.Test.YtmpfaflhpioaiaaGreatDoorCC
open _root_ renaming List → A, Int → B, True → C
open Go.IntKind renaming i64 → D
open List renaming length_tail → Zd, map → Zc
open Go.Eng.Ch renaming r → Zb
set_option maxHeartbeats 1000000
set_option maxRecDepth 100000
namespace Go.Proofs
open Go Go.Eng Tryz
def fN:XS:=fun a H _=>match a with
  | [.x false [.p k o],.x false [.v (.int .i64 n)]]=>match o with
    | 0=>match H k with
      | some (.box t [.s 1 x])=>bif t.beq 70 then
          some fun K=> ∃l,x=ints l/\(1<=n/\n<9223372036854775808)/\l.length<=9223372036854775807/\K (iA .i64 (QU l n)) (XW [(1000,k)] (QO [(1000,stB l.tail)]) H)
          else none
      | _=>none
    | _+1=>none
  | _=>none
theorem QWV:Xg 20 fN:=by
 refine⟨Qf func20 o4,fun l H d T a K g=> ?_⟩;unfold fN at a;split at a
 ·rename_i k o n;split at a
  ·split at a
   ·rename_i t r i;cases c:t.beq 70 with
    | false=>rw[c]at a;cases a
    | true=>
     rw[c]at a;cases a
     have q:=Nat.eq_of_beq_eq_true c;subst q;obtain⟨l,rfl,m,j,g⟩:=g;refine Xc (R:=[(1000,k)]) (N:=[]) (Hl:=[(1000,stB l)]) Qde QK func20 o4 o4 j6
      (as0:=[.x false [.p 1000 0],iA .i64 n]) ?_ (Kk i rfl rfl) rfl o6 o6 (fun _ h=>by cases h) (fun x=>⟨fun p e=> ?_,fun p e b c=> ?_⟩) (QT0 l n m j) (fun _ _=> ?_)
     ·simp[X7,X2,XZ,lkB,iA]
     ·simp at e;subst e;exact fun h=>by have f:some (stB _)=none:=h;cases f
     ·simp at e;subst e;have f:some (stB _)=some b:=c;cases f;rfl
     ·exact⟨_,rfl,g⟩
   ·cases a
  ·cases a
 ·cases a
def pz:A (Nat×XS):=(20,fN)::M79
def lD (w h c:B)(l:A B):A (Rat×Rat)×A B:=bif c==0 then(gP0 w h,l)else bif c==1 then(gP1 w h (QU l (2*w+1)),l.tail)else bif c==2 then(gP2 w h,l)else(gP3 w h,l)
def YS (l:A B):A (Rat×Rat)×A B:=lD (1+QU l 6) (1+QU l.tail 6) (QU l.tail.tail 4) l.tail.tail.tail
theorem vI:XK pz:= .cons QWV Qq
def Ii(a:A B):=D.wrap (1+QU a 6)
def Ij(a:A B):=D.wrap (0-Ii a)
def It(a:Prop)(b:B):=a/\b<9223372036854775808
def Iq(a b c d:B):A Ch:=[Zb (mkRat a 4,mkRat b 4).1 63,Zb (mkRat c 4,mkRat d 4).2 63]
def Iu(a b:B):=It (-9223372036854775808<a) b
def Ik(a:A B):=D.wrap (Ij a-1)
def Il(a:B)(b:A B)(c:B)(d:A B):=Iq a (Ii b) c (Ii d)
def Im(a:B)(b:A B)(c:B)(d:A B):=Iq a (Ij b) c (Ij d)
def Ip(a:A B):=D.wrap (Ii a+1)
def Io(a b c d:B):=Iu a b/\Iu c d
def Ir(a:A B):=Zc (QS 63) (YS a).1
def Iz(a:A B):=D.wrap (D.wrap (2*Ii a)+1)
def Is(a b:A B):=ints a.tail=ints b
def Iv(a b c:A B):=D.wrap (QU a (Iz b)-Ii c)
def Ix(a b c:A B->Prop):=∃(z:A B),a z/\b z/\c z
def Iw(a:A B):=a.length<=9223372036854775807
def Iy:=It ((-9223372036854775808:B)<0) (0:B)
theorem QWY (l:A B)(K:l.length<=9223372036854775807):QM (Xp (X:=Unit) (mkT Tr pz X4) (oF f56) noL f56 [.x false [.p 1000 0]] [(1000,stB l)] (fun _=>C) (fun _=>⟨[(2,.x false [.w 500 0 (YS l).1.length])],[(1000,stB (YS l).2),(500,ZI 63 (YS l).1)]⟩)):=by
 refine HV (Ix (fun i=>ints l=ints i) (fun v=>It ((1:B)<=6) (6:B)) (fun u=>Iw u/\Ix (fun j=>Is u j) (fun z=>It ((1:B)<=6) (6:B)) (fun y=>Iw y/\Ix (fun k=>Is y k) (fun x=>It ((1:B)<=4) (4:B)) (fun w=>Iw w/\bif QU w 4 ==0 then Io (Ij u) (Ij u) (Ij y) (Ij y)/\Io (Ii u) (Ii u) (Ij y) (Ij y)/\Io (Ii u) (Ii u) (Ii y) (Ii y)/\Io (Ij u) (Ij u) (Ii y) (Ii y)/\∃(t:Unit),C/\0=0/\4=(YS l).1.length/\70=70/\1=1/\Is w (YS l).2/\27=27/\6=6/\([Im (Ij u) y (Ij u) y,Im (Ii u) y (Ii u) y,Il (Ii u) y (Ii u) y,Il (Ij u) y (Ij u) y]=Ir l\/QC [Im (Ij u) y (Ij u) y,Im (Ii u) y (Ii u) y,Il (Ii u) y (Ii u) y,Il (Ij u) y (Ij u) y] (Ir l))/\C else bif QU w 4 ==1 then Io (Ij u) (Ij u) (Ij y) (Ij y)/\Io (Ii u) (Ii u) (Ij y) (Ij y)/\Ix (fun a=>Is w a) (fun a=>It (1<=Iz u) (Iz u)) (fun a=>Iw a/\Io (Iv a u u) (Iv a u u) (Ii y) (Ii y)/\∃(r:Unit),C/\0=0/\3=(YS l).1.length/\70=70/\1=1/\Is a (YS l).2/\27=27/\6=6/\([Im (Ij u) y (Ij u) y,Im (Ii u) y (Ii u) y,Il (Iv a u u) y (Iv a u u) y]=Ir l\/QC [Im (Ij u) y (Ij u) y,Im (Ii u) y (Ii u) y,Il (Iv a u u) y (Iv a u u) y] (Ir l))/\C)else bif QU w 4 ==2 then Io (Ik u) (Ik u) (Ik y) (Ik y)/\Io (Ii u) (Ii u) (Ik y) (Ik y)/\Io (Ip u) (Ip u) (Ij y) (Ij y)/\Io (Ip u) (Ip u) (Ii y) (Ii y)/\Io (Ik u) (Ik u) (Ii y) (Ii y)/\∃(q:Unit),C/\0=0/\5=(YS l).1.length/\70=70/\1=1/\Is w (YS l).2/\27=27/\6=6/\([Iq (Ik u) (Ik y) (Ik u) (Ik y),Iq (Ii u) (Ik y) (Ii u) (Ik y),Im (Ip u) y (Ip u) y,Il (Ip u) y (Ip u) y,Il (Ik u) y (Ik u) y]=Ir l\/QC [Iq (Ik u) (Ik y) (Ik u) (Ik y),Iq (Ii u) (Ik y) (Ii u) (Ik y),Im (Ip u) y (Ip u) y,Il (Ip u) y (Ip u) y,Il (Ik u) y (Ik u) y] (Ir l))/\C else(Iu (Ij u) (Ij u)/\Iy)/\(Iy/\Iu (Ij y) (Ij y))/\(Iu (Ii u) (Ii u)/\Iy)/\(Iy/\Iu (Ii y) (Ii y))/\∃(p:Unit),C/\0=0/\4=(YS l).1.length/\70=70/\1=1/\Is w (YS l).2/\27=27/\6=6/\([Iq (Ij u) 0 (Ij u) 0,Im 0 y 0 y,Iq (Ii u) 0 (Ii u) 0,Il 0 y 0 y]=Ir l\/QC [Iq (Ij u) 0 (Ij u) 0,Im 0 y 0 y,Iq (Ii u) 0 (Ii u) 0,Il 0 y 0 y] (Ir l))/\C)))) ?_
 delta Ii Ij It Iq Iu Ik Il Im Ip Io Ir Iz Is Iv Ix Iw Iy
 simp only[R0,R1];have M:YS l=lD (1+QU l 6) (1+QU l.tail 6) (QU l.tail.tail 4) l.tail.tail.tail:=rfl;have N:l.tail.length<=9223372036854775807:=by rw[Zd];omega
 have O:l.tail.tail.length<=9223372036854775807:=by rw[Zd];omega
 have P:l.tail.tail.tail.length<=9223372036854775807:=by rw[Zd];omega
 refine⟨l,rfl,o3,K,l.tail,rfl,o3,N,l.tail.tail,rfl,o3,O,?_⟩;rw[M];have Q:=Vf (l:=l) (n:=6) o3;have L:=Vf (l:=l.tail) (n:=6) o3;generalize QU l 6=r at*;generalize QU l.tail 6=b at*;generalize QU l.tail.tail 4=c at*;generalize l.tail.tail.tail=e at*;have m:D.wrap (1+r)=1+r:=w64 o3;have o:D.wrap (1+b)=1+b:=w64 o3;have s:D.wrap (0-(1+r))= -(1+r):=by rw[w64 o3];omega
 have E:D.wrap (0-(1+b))= -(1+b):=by rw[w64 o3];omega
 have F:D.wrap (2*(1+r))=2*(1+r):=w64 o3;have G:D.wrap (2*(1+r)+1)=2*(1+r)+1:=w64 o3;have H:D.wrap (-(1+r)-1)= -(1+r)-1:=w64 o3;have I:D.wrap (-(1+b)-1)= -(1+b)-1:=w64 o3;have J:D.wrap (1+r+1)=1+r+1:=w64 o3;have R:=Vf (l:=e) (n:=2*(1+r)+1) o3;have f:D.wrap (QU e (2*(1+r)+1)-(1+r))=QU e (2*(1+r)+1)-(1+r):=w64 o3;simp only[m,o,s,E,F,G,H,I,J];unfold lD;refine QE (fun h=> ?_) (fun h=>QE (fun d=> ?_) (fun d=>QE (fun g=> ?_) (fun g=> ?_)))
 ·rw[h];exact⟨o3,o3,o3,o3,(),rfl,rfl,.inl rfl⟩
 ·rw[h,d];refine⟨o3,o3,e,rfl,o3,P,?_⟩;rw[f];exact⟨o3,(),rfl,rfl,.inl rfl⟩
 ·rw[h,d,g];exact⟨o3,o3,o3,o3,o3,(),rfl,rfl,.inl rfl⟩
 ·rw[h,d,g];exact⟨o3,o3,o3,o3,(),rfl,rfl,.inl rfl⟩
def nN:XS:=fun a H d=>match a with
 | [.x false [.p k o]]=>match o with
  | 0=>match H k with
   | some (.box t [.s 1 z])=>match H d with
    | none=>bif t.beq 70 then
     some fun K=> ∃l,z=ints l/\l.length<=9223372036854775807/\ 
      K (.x false [.w d 0 (YS l).1.length]) (XW [(1000,k),(500,d)] (QO [(1000,stB (YS l).2),(500,ZI 63 (YS l).1)]) H)
     else none
    | some _=>none
   | _=>none
  | _+1=>none
 | _=>none
theorem QRV:Xg 56 nN:=by
 refine⟨Qf func56 o4,fun l H d T a K g=> ?_⟩;unfold nN at a;split at a
 ·rename_i k o;split at a
  ·split at a
   ·rename_i t z i;split at a
    ·rename_i j;cases e:t.beq 70 with
     | false=>rw[e]at a;cases a
     | true=>
      rw[e]at a;cases a
      have n:=Nat.eq_of_beq_eq_true e;subst n;obtain⟨l,rfl,m,g⟩:=g;refine Xc (R:=[(1000,k)]) (N:=[(500,d)]) (Hl:=[(1000,stB l)]) (QP U2 vI Qb) QK func56 o4 o4 j6
       (as0:=[.x false [.p 1000 0]]) ?_ (Kk i rfl rfl) rfl o6 o6 (fun p c=>by simp at c;subst c;exact j) (fun x=>⟨fun p c=> ?_,fun p c b e=> ?_⟩) (QWY l m) (fun _ _=> ?_)
      ·simp[X7,X2,XZ,lkB]
      ·simp at c;subst c;exact fun h=>by have f:some (stB _)=none:=h;cases f
      ·simp at c;rcases c with rfl | rfl
       ·have f:some (stB _)=some b:=e;cases f;rfl
       ·have f:some (ZI _ _)=some b:=e;cases f;rfl
      ·exact⟨_,rfl,g⟩
    ·cases a
   ·cases a
  ·cases a
 ·cases a
def aB:A (Nat×XS):=(56,nN)::pz
theorem gV:XK aB:= .cons QRV vI
theorem QWZ (l:A B)(b:(l.length<=9223372036854775807))(K:AV->Prop)(h:K (sVv 63 (YS l).1)):QM (QN (mkT Tr aB X4) (oF f21) noL f21 [.x false [.s 1 (ints l)]] K):=by
 refine HV (Ix (fun a=>ints l=ints a) (fun a=>Iw a) (fun a=>K (AV.x false [Ch.s 6 (A.take (YS a).1.length (A.drop 0 (Ir a)))]))) ?_
 delta Ir Ix Iw
 try simp only[B.ofNat_eq_natCast,R0,R1,Nat.zero_add,Nat.le_refl,R4,R2,R3]
 refine⟨l,rfl,b,?_⟩;rw[A.drop_zero,A.take_of_length_le o6];exact h
def kN:Ctr
 | [.x false [.s 1 x]]=>some fun K=> ∃(l:A B),x=ints l/\((l.length<=9223372036854775807))/\(K (sVv 63 (YS l).1))
 | _=>none
theorem QRX:QH 21 kN:=by
 refine okL func21 fun l T a K h=> ?_
 unfold kN at a;split at a<;>cases a
 obtain⟨l,rfl,b,h⟩:=h;exact spL (QP U2 gV Qb) QK func21 (QWZ _ b K h)
def ta:LC:=(21,kN)::Tr
theorem Qbm:QF ta:= .cons QRX U2
def rj:LC:=ta
noncomputable def QlJ:Qd:=mkT rj aB X4
theorem Qbn:QF rj:=Qbm
end Go.Proofs
