/- path: Find's contract; the fact; PathBack, PathFewer. -/
import Derived.Test.YtmpfaflhpioaiaaGreatDoorPH4
open _root_ renaming List → A
open Bool renaming false → B
open Option renaming some → C, none → D
open Nat renaming eq_of_beq_eq_true → Za
namespace Go.Proofs
open Go Go.Eng
structure FdW (a:ArmV)(s:Int)(p q:A Rat)(out:A (A Int))(w:A (A Rat)):Prop where
 e:w=p::out.map (XQ a s)++[q]
def mA (a:ArmV)(ws:A (A (Rat×Rat)))(s:Int)(p q:A Rat)(m:Nat):Prop:=QJ a/\(1<=s/\s<=12)/\(Fit a p/\p.length=a.za.length)/\(Fit a q/\q.length=a.za.length)/\m<=400000000/\(∀w∈ws,QY w)/\ws.length<=20
def QO7:Ctr
 | [.x true x,.x B [.s 3 y],.x B [.s 3 z],.x B [c],.x B [.v (.int .i64 s)]]=>match c with
  | .s 1 u=>C fun K=> ∃(a:ArmV) (p q:A Rat) (m:Nat) (b:A (A (Rat×Rat))),x=Qp a/\y=lR 63 p/\z=lR 63 q/\u=shN m b/\mA a b s p q m/\(∀o w,FdY a b s p q o->FdW a s p q o w->K (.t [(B,[.s 1 (wN 63 w)]),(B,[.v (.int .i64 0)])]))/\(FdN a b s p q->K (.t [(B,[.v (.slice D 0 0)]),(B,[.v (.int .i64 4)])]))
  | .v (.slice D 0 0)=>C fun K=> ∃(a:ArmV) (p q:A Rat),x=Qp a/\y=lR 63 p/\z=lR 63 q/\mA a [] s p q 0/\(∀o w,FdY a [] s p q o->FdW a s p q o w->K (.t [(B,[.s 1 (wN 63 w)]),(B,[.v (.int .i64 0)])]))/\(FdN a [] s p q->K (.t [(B,[.v (.slice D 0 0)]),(B,[.v (.int .i64 4)])]))
  | _=>D
 | _=>D
theorem QXd {H:HP}{a:ArmV}{m:Nat}{ws:A (A (Rat×Rat))}{s:Int}{k d:Nat}{f:Int->Option Int}{o:A (A Int)}(hk:H k=C (seB a m ws s (.m (k+5000))))(g:H (k+5000)=C (.mp f))(b:H d=D):
  Xn [(1000,k),(6000,k+5000),(500,d)] (QO [(500,Kp o),(1000,seB a m ws s (.m 6000)),(6000,.mp f)]) H=upd H d (C (Kp o)):=by
 have e:lkA [(1000,k),(6000,k+5000),(500,d)] 6000=C (k+5000):=rfl;have r:J4 (lkA [(1000,k),(6000,k+5000),(500,d)]) (seB a m ws s (.m 6000))=C (seB a m ws s (.m (k+5000))):=by
  simp only[J4,seB,Hp,Qp,A.cons_append,A.nil_append,XZ,e]
 have j:d≠k:=fun h=>by subst h;rw[hk]at b;cases b
 have l:d≠k+5000:=fun h=>by subst h;rw[g]at b;cases b
 funext i;unfold Xn;simp only[lkB];cases h:i.beq k with
 | true=>
  have:=Za h;subst this;rw[Qc _ _ (fun h=>j h.symm),hk];show C (rdB _ (seB a m ws s (.m 6000)))=_
  simp only[rdB,r,Option.getD_some]
 | false=>
  simp only[R8];cases n:i.beq (k+5000)with
  | true=>
   have:=Za n;subst this;rw[Qc _ _ (fun h=>l h.symm),g];rfl
  | false=>
   simp only[R8];cases c:i.beq d with
   | true=>
    have:=Za c;subst this;rw[QT];show C (rdB _ (Kp o))=_
    have p:J4 (lkA [(1000,k),(6000,k+5000),(500,i)]) (Kp o)=C (Kp o):=rfl;simp only[rdB,p,Option.getD_some]
   | false=>
    have:i≠d:=fun e=>by subst e;simp at c
    rw[Qc _ _ this];rfl
theorem QRu:Xg 30 kX:=by
 refine⟨Qf Tryz.func30 o4,fun l H d T i K v=> ?_⟩;unfold kX at i;split at i
 ·rename_i k o X;split at i
  ·split at i
   ·rename_i t W f E F G;cases r:t.beq 83 with
    | false=>rw[r]at i;cases i
    | true=>
     rw[r]at i;have U:=Za r;subst U;simp only[R7]at i;split at i
     ·rename_i j _;cases I:j.beq (k+5000)with
      | false=>rw[I]at i;cases i
      | true=>
       rw[I]at i;simp only[R7]at i;cases i
       obtain⟨a,m,w,s,g,L,c,rfl,rfl,⟨P,S,z,y,Q,V,O,M⟩,v⟩:=v;refine W9 (R:=[(1000,k),(6000,k+5000)]) (N:=[(500,d)]) (Hl:=[(1000,seB a m w s (.m 6000)),(6000,.mp f)]) QcK QK Tryz.func30 o4 o4 j6
        (as0:=[.x B [.p 1000 0],.x B [.s 1 (ints L)]]) ?_ (nG E F) rfl o6 o6 (fun p q=>by simp at q;subst q;exact G) (fun x=>⟨fun p q=> ?_,fun p q b r=> ?_⟩) (Qho ⟨P,S,z,y,Q,V,O,M⟩) (fun u J=>⟨_,rfl,?_⟩)
       ·simp[X7,X2,XZ,lkB]
       ·simp at q;rcases q with rfl | rfl
        ·exact fun h=>by have n:C (seB a m w s (.m 6000))=D:=h;cases n
        ·exact fun h=>by have n:C (Blk.mp f)=D:=h;cases n
       ·simp at q;rcases q with rfl | rfl | rfl
        ·have n:C (seB a m w s (.m 6000))=C b:=r;cases n
         have e:lkA [(1000,k),(6000,k+5000),(500,d)] 6000=C (k+5000):=rfl;exact⟨seB a m w s (.m (k+5000)),by show J4 (lkA [(1000,k),(6000,k+5000),(500,d)]) _=_;simp only[J4,seB,Hp,Qp,A.cons_append,A.nil_append,XZ,e]⟩
        ·have n:C (Blk.mp f)=C b:=r;cases n;exact⟨_,rfl⟩
        ·have n:C (Kp x)=C b:=r;cases n;exact⟨_,rfl⟩
       ·show K _ (Xn [(1000,k),(6000,k+5000),(500,d)] (QO [(500,Kp u),(1000,seB a m w s (.m 6000)),(6000,.mp f)]) H)
        rw[QXd E F G];exact v u J.1 J.2
     ·cases i
   ·cases i
  ·cases i
 ·cases i
theorem Qhp:XK uF:= .cons QRr (.cons QRu bw)
theorem Qhq:QF QkE:= .cons QM5 dJ
theorem QXe:Qr QkF:=az Qhq Qhp Qb
theorem QkK {w:World}{O:Nat->Prop}{ρ:Env}{n:Nat}{v:Value}(h:ConcV w O ρ (.x B [.v (.slice D 0 0)]) v):ConcV w O ρ (.x B [.s n []]) v:=by
 obtain⟨b,a,c⟩:=h;cases a with | v _ a=>exact⟨_,.s0 a,c⟩
theorem ok_pFind:QH 7 QO7:=by
 refine⟨Qf Tryz.func7 o4,fun l T c K n=> ?_⟩;unfold QO7 at c;split at c
 ·split at c
  ·cases c
   obtain⟨a,p,q,m,x,rfl,rfl,rfl,rfl,⟨e,j,g,i,f,k⟩,hY,d⟩:=n;exact Qk QXe QK Tryz.func7 o4 o4 j6 (QXZ a m x _ p q e j g i f k K (fun o h=>hY o _ h ⟨rfl⟩) d)
  ·cases c
   obtain⟨a,p,q,rfl,rfl,rfl,⟨e,j,g,i,f,k⟩,hY,d⟩:=n;refine Eng.Spec.args (Qk QXe QK Tryz.func7 o4 o4 j6 (QXZ a 0 [] _ p q e j g i f k K (fun o h=>hY o _ h ⟨rfl⟩) d)) fun w O v b=> ?_
   cases b with | cons r b=>cases b with | cons s b=>cases b with | cons t b=>cases b with | cons u b=>exact .cons r (.cons s (.cons t (.cons (QkK u) b)))
  ·cases c
 ·cases c
end Go.Proofs
