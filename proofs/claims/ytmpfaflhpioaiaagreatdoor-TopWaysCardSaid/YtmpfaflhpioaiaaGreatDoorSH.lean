/- Ways with points left out: plain laws. -/
import Derived.Test.YtmpfaflhpioaiaaGreatDoorCU
import Derived.Test.YtmpfaflhpioaiaaGreatDoorS1
open _root_ renaming List → A, Nat → B, Rat → C, Bool → G
open List renaming length → D, getElem?_eq_getElem → Zb, getElem?_map → Zh, map → Zc, getD_eq_getElem?_getD → Zg
open Bool renaming false → E, true → I
open Option renaming some → F
open Int renaming ofNat → H
open Go.IntKind renaming i64 → Zd
open Go.Value renaming string → Ze, bool → Zf
set_option maxHeartbeats 1000000
set_option maxRecDepth 100000
namespace Go.Proofs
open Go Go.Eng
def Kb (go:A C->A C->G)(w:A (A C))(i:B):B->B
 | 0=>i+1
 | k+1=>bif B.ble (k+1) (i+1)then i+1 else bif go (w.getD i []) (w.getD (k+1) [])then k+1 else Kb go w i k
def cutI (go:A C->A C->G)(w:A (A C)):B->B->A B
 | 0,_=>[]
 | f+1,i=>bif decide (i+1<D w)then Kb go w i (D w-1)::cutI go w f (Kb go w i (D w-1))else[]
def atW (w:A (A C))(i:B):A C:=w.getD i []
def UZ (go:A C->A C->G)(w:A (A C)):A (A C):=(0::cutI go w w.length 0).map (atW w)
def cC (go:A C->A C->G)(w:A (A C)):B->A B->Prop
 | i,[]=>i+1=w.length
 | i,k::r=>(i<k/\k<D w)/\(k=i+1\/go (atW w i) (atW w k)=I)/\cC go w k r
def Z1 (go:A C->A C->G)(w:A (A C)):G:=(A.range w.length).all fun i=>go (atW w (i-1)) (atW w i)
theorem QOm (go:A C->A C->G)(w:A (A C))(i:B): ∀k,k<D w->i+1<D w->(i<Kb go w i k/\Kb go w i k<D w)/\(Kb go w i k=i+1\/go (atW w i) (atW w (Kb go w i k))=I):=by
 intro k;induction k with
 | zero=>intro _ h;exact⟨⟨by simp[Kb],by simpa [Kb]using h⟩,.inl rfl⟩
 | succ k e=>
  intro d b;simp only[Kb];cases a:B.ble (k+1) (i+1)with
  | true=>exact⟨⟨o6,(j9 b)⟩,.inl rfl⟩
  | false=>
   cases c:go (w.getD i []) (w.getD (k+1) [])with
   | true=>
    have: ¬k+1<=i+1:=fun h=>by rw[B.ble_eq_true_of_le h]at a;cases a
    exact⟨⟨by simp only[R8,R7];omega,d⟩,.inr c⟩
   | false=>exact e o3 b
theorem iP (go:A C->A C->G)(w:A (A C)): ∀f i,i<D w->D w<=f+i+1->cC go w i (cutI go w f i):=by
 intro f;induction f with
 | zero=>intro i c d;show i+1=D w;omega
 | succ f e=>
  intro i c d;simp only[cutI];by_cases h:i+1<w.length
  ·rw[decide_eq_true h];obtain⟨a,b⟩:=QOm go w i (D w-1) o3 h;exact⟨a,b,e _ a.2 o3⟩
  ·rw[decide_eq_false h];show i+1=w.length
   omega
variable{w:A (A C)}{go:A C->A C->G}
theorem QRY: ∀{r:A B} {i:B},cC go w i r->D r+i<D w:=by
 intro r;induction r with
 | nil=>intro i h;have h:i+1=D w:=h;simp;omega
 | cons k r a=>intro i h;have:=a h.2.2;have:=h.1;simp only[A.length_cons];omega
theorem QJu: ∀{r:A B} {i:B},cC go w i r-> ∀{j a b:B},(i::r)[j]? =F a->(i::r)[j+1]? =F b->(a<b/\b<D w)/\(b=a+1\/go (atW w a) (atW w b)=I):=by
 intro r;induction r with
 | nil=>intro i h j a b _ c;simp at c
 | cons k r e=>
  intro i h j a b d c;cases j with
  | zero=>cases d;cases c;exact⟨h.1,h.2.1⟩
  | succ j=>exact e h.2.2 ((j9 d)) ((j9 c))
variable{i:B}
theorem QWb{r:A B}(d:i<D w)(h:cC go w i r){j a:B}(c:(i::r)[j]? =F a):a<D w:=by
 cases j with
 | zero=>cases c;exact d
 | succ j=>
  have e:=(A.getElem?_eq_some_iff.1 c).1;obtain⟨b,hb⟩: ∃b,(i::r)[j]? =F b:=⟨_,Zb o3⟩
  exact(QJu h hb c).1.2
theorem GV(h:i<D w):w[i]? =F (atW w i):=by
 unfold atW;rw[Zg,Zb h];rfl
theorem QJv(j:B):(UZ go w)[j]? =((0::cutI go w w.length 0)[j]?).map (atW w):=by
 unfold UZ;rw[Zh]
theorem QWc(h:0<D w):0<(UZ go w).length/\(UZ go w).length<=D w:=by
 have:=QRY (iP go w w.length 0 h o3);unfold UZ;simp only[A.length_map,A.length_cons];omega
theorem QRZ(h:0<D w)(m:Z1 go w=I):Z1 go (UZ go w)=I:=by
  have o:=iP go w w.length 0 h o3;have g: ∀i,i<D w->go (atW w (i-1)) (atW w i)=I:=fun i n=>A.all_eq_true.1 m i (A.mem_range.2 n);refine A.all_eq_true.2 fun j f=> ?_
  have f:=A.mem_range.1 f;have q:(UZ go w).length=(0::cutI go w w.length 0).length:=by simp[UZ]
  have c: ∀{j a:B},(0::cutI go w w.length 0)[j]? =F a->atW (UZ go w) j=atW w a:=fun {j a} d=>by
    show(UZ go w).getD j []=_
    rw[Zg,QJv,d];rfl
  cases j with
  | zero=>
    have:=g 0 h;rw[B.zero_sub,c (j:=0) (a:=0) rfl];exact this
  | succ j=>
    obtain⟨a,d⟩: ∃a,(0::cutI go w w.length 0)[j]? =F a:=⟨_,Zb o3⟩
    obtain⟨b,hb⟩: ∃b,(0::cutI go w w.length 0)[j+1]? =F b:=⟨_,Zb o3⟩
    rw[B.add_sub_cancel,c d,c hb];obtain⟨⟨p,l⟩,e | e⟩:=QJu o d hb
    · subst e;have:=g (a+1) l;rwa [B.add_sub_cancel]at this
    · exact e
theorem QJw (p:C):Xr p=if p<0 then-p else p:=by
 unfold Xr;have k:=C.num_nonneg (q:=p);by_cases h:p.num<0
 ·have: ¬0<=p:=fun a=>by have:=k.2 a;omega
  rw[if_pos h,if_pos j4]
 ·have:0<=p:=k.1 o3;rw[if_neg h,if_neg j4]
def goV (a:ArmV)(ws:A (A (C×C)))(k:B)(p q:A C):G:=S6 a (YB p q k) ws
def bY (go:A C->A C->G)(w:A (A C)):A (A C):=match w with
 | []=>[]
 | q::r=>UZ go (q::r)
def kT:Ctr
 | [.x E [.s 3 x]]=>F fun K=> ∃(n:B) (q:A C),x=lR n q/\(n<=1000000/\q.length<=1000000)/\K (sR n q)
 | _=>none
theorem QOn(h:1<=D w):bY go w=UZ go w:=by
 cases w with
 | nil=>simp at h
 | cons q r=>rfl
variable{ρ:Env}{O:B->Prop}
theorem Qj2 {W:World}{sz:B}{X Y:A (A Ch)}{vs:A Value}(a:X.length=D Y)(g: ∀(i:B) (x y:A Ch),X[i]? =F x->Y[i]? =F y-> ∀f,CC W O (fun _=>none) x f->CC W O (fun _=>none) y f)(h:CC W O ρ [.s sz X] vs):CC W O ρ [.s sz Y] vs:=by
 cases h with
 | s0 h=>rw[A.length_eq_zero_iff.1 a.symm];exact .s0 h
 | s00 h=>rw[A.length_eq_zero_iff.1 a.symm];exact .s00 h
 | s j l d h=>
  have c: ∀(i:B) (y:A Ch),Y[i]? =F y-> ∃x,X[i]? =F x:=fun i y e=>⟨_,Zb (by have:=(A.getElem?_eq_some_iff.1 e).1;omega)⟩
  rename_i f v;rw[a]at d⊢;refine .s (f:=f) ⟨j.lt,j.free,fun i y e=> ?_⟩ (fun i y e=> ?_) d h
  ·obtain⟨x,b⟩:=c i y e;exact j.cell i x b
  ·obtain⟨x,b⟩:=c i y e;exact g i x y b e _ (l i x b)
theorem rM {W:World}{n m:B}{b:A C}(l: ∀q∈b,Bd n q){v:Value}(h:ConcV W O ρ (sR m b) v):ConcV W O ρ (sR n b) v:=by
 obtain⟨p,f,j⟩:=h;refine⟨p,Qj2 (by rw[Qw,Qw]) (fun i x y a d g o=> ?_) f,j⟩;simp only[lR,Zh]at a d;cases c:b[i]? with
 | none=>rw[c]at a;cases a
 | some r=>
  rw[c]at a d;cases a;cases d
  cases o with
  | r _ e=>exact .r (l r (A.mem_of_getElem? c)) e
theorem QJx {w:World}{n:B}{b:A C}{v:Value}(h:ConcV w O ρ (sR n b) v): ∀q∈b,Bd n q:=by
 obtain⟨x,e,t⟩:=h;intro q m;obtain⟨i,l⟩:=A.getElem?_of_mem m
 have a:(lR n b)[i]? =F [.r q n]:=by simp only[lR,Zh,l];rfl
 generalize lR n b=X at*;cases e with
 | s0 _=>simp at a
 | s00 _=>simp at a
 | s u o d h=>
  rename_i f p;have c:=o i _ a;generalize f i=g at c;cases c with
  | r j _=>exact j
theorem QRa:QH 33 kT:=by
 refine⟨Qf Tryz.func33 o4,fun l T h K a=> ?_⟩;unfold kT at h;split at h
 ·cases h
  obtain⟨n,q,rfl,j,a⟩:=a;refine Y5 fun w O ρ d m=> ?_
  cases m with
  | cons f _=>
   have g:=QJx f;exact Spec.res (Qk uM QK Tryz.func33 o4 o4 j6 (QOL n q j (fun c=>c=sR (n+65) q) rfl)) fun w O c v e b=>⟨_,a,by subst e;exact rM g b⟩
 ·cases h
def zI:LC:=(33,kT)::(32,GM)::rj
theorem QhK:QF zI:= .cons QRa (.cons xF Qbn)
structure CuX where
 o:A (A C)
 f:B
 i:B
 k:B
structure CuI (go:A C->A C->G)(w:A (A C))(x:CuX):Prop where
 i:x.i<w.length
 f:w.length<=x.f+x.i+1
 o:x.o.length<=x.i+1
 eq:x.o++(cutI go w x.f x.i).map (atW w)=UZ go w
structure CuJ (go:A C->A C->G)(w:A (A C))(x:CuX):Prop where
 all:CuI go w x
 i:x.i+1<w.length
 k:x.i<x.k/\x.k<w.length
 eq:Kb go w x.i x.k=Kb go w x.i (D w-1)
structure CuE (go:A C->A C->G)(w:A (A C))(x:CuX):Prop where
 all:CuI go w x
 i:x.i+1<w.length
 k:x.k=Kb go w x.i (D w-1)
def cuT (n:B)(w:A (A C))(m:B)(ws:A (A (C×C)))(k:B)(x:CuX):A (B×AV):=[(1,sW n w),(2,slA m ws),(3,iA .i64 k),(4,.x E [.p 4 0]),(13,.x E [.w 500 0 x.o.length]),(14,iA .i64 x.i)]
def cuH (a:ArmV)(n:B)(x:CuX):A (B×Blk):=[(4,.box 34 (Qp a)),(500,.row 42 1 (wN n x.o))]
def QWe (a:ArmV)(n:B)(w:A (A C))(m:B)(ws:A (A (C×C)))(k:B):LI:=fun b=>bif b.beq 9 then .inv ⟨CuX,fun x=>⟨cuT n w m ws k x,cuH a n x⟩,CuI (goV a ws k) w,fun x=>D w-x.i,fun _=>0⟩
 else bif b.beq 11 then .inv ⟨CuX,fun x=>⟨cuT n w m ws k x++[(15,iA .i64 x.k)],cuH a n x⟩,CuJ (goV a ws k) w,fun x=>x.k,fun x=>D w-x.i⟩
 else bif b.beq 15 then .cut ⟨CuX,fun x=>⟨cuT n w m ws k x++[(15,iA .i64 x.k)],cuH a n x⟩,CuE (goV a ws k) w,fun _=>0,fun x=>D w-x.i⟩else .no
variable{k:B}
theorem QWf(h:i+1<k)(b:go (atW w i) (atW w k)=I):Kb go w i k=k:=by
 cases k with
 | zero=>omega
 | succ k=>
  have a:B.ble (k+1) (i+1)=E:=by
   cases a:B.ble (k+1) (i+1)with
   | false=>rfl
   | true=>have:=B.le_of_ble_eq_true a;omega
  unfold atW at b;rw[Kb,a,b];rfl
theorem Qbo(h:i+1<k)(b:go (atW w i) (atW w k)=E):Kb go w i k=Kb go w i (k-1):=by
 cases k with
 | zero=>omega
 | succ k=>
  have a:B.ble (k+1) (i+1)=E:=by
   cases a:B.ble (k+1) (i+1)with
   | false=>rfl
   | true=>have:=B.le_of_ble_eq_true a;omega
  unfold atW at b;rw[Kb,a,b];rfl
theorem QWg(h:k<=i+1):Kb go w i k=i+1:=by
 cases k with
 | zero=>rfl
 | succ k=>rw[Kb,B.ble_eq_true_of_le h];rfl
theorem QRb{f:B}(h:i+1<D w)(a:1<=f):cutI go w f i=Kb go w i (D w-1)::cutI go w (f-1) (Kb go w i (D w-1)):=by
 cases f with
 | zero=>omega
 | succ f=>rw[cutI,decide_eq_true h];rfl
theorem QWh{f:B}(h: ¬i+1<D w):cutI go w f i=[]:=by
 cases f with
 | zero=>rfl
 | succ f=>rw[cutI,decide_eq_false h];rfl
def qq:LC:=zI
theorem uG:QF qq:=QhK
def I0(a:B)(b:CuX):=wN a b.o
def I1:=63<=63
def I2(a:CuX):=a.o.length
def I3(a b:B):=H a=H b
def I4(a:B)(b:A (A C)):=H (wN a b).length
def I7(a b:ArmV):=Zc QA a.za=Zc QA b.za
def I5(a b:ArmV):=a.half=b.half
def I8(a b:ArmV):=a.name=b.name
def I9(a:B)(b:A (A C))(c:B)(d:A (A Ch)):=ldE (wN a b) c 0 1=F [Ch.s 3 d]
def I6(a b c d e f:ArmV):A Ch:=[Ch.v (Ze a.name),Ch.r b.x 63,Ch.r c.y 63,Ch.v (Zf d.half),Ch.r e.t 63,Ch.s 16 (Zc QA f.za)]
def LA(a:A C)(b:ArmV):=D a=b.za.length
def LB:=OfNat.ofNat 0=0
theorem QhL (a:ArmV)(n:B)(w:A (A C))(m:B)(ws:A (A (C×C)))(k:B)(hc:(QJ a)/\(Km w a.za.length/\3*n+130<=400)/\(m<=400000000)/\((∀w∈ws,QY w)/\ws.length<=20)/\(1<=k/\k<=50))(K:AV->Prop)(hK:K (.t [(E,[.s 1 (wN n (bY (goV a ws k) w))]),(E,[.v (.int .i64 0)])])):QM (QN (mkT qq aB X4) (oF Tryz.f9) (QWe a n w m ws k) Tryz.f9 [JV a,sW n w,slA m ws,iA .i64 k] K):=by
 refine HV (∃(o:ArmV)(be:B)(X:A (A C)),I6 a a a a a a=I6 o o o o o o/\wN n w=wN be X/\(QJ o/\Km X o.za.length)/\((0:Int)<=0/\0<I4 n w)/\∃(J:A (A Ch)),I9 n w 0 J/\((0:Int)<=0/\0<I4 n w)/\∃(P:A (A Ch)),I9 n w 0 P/\∃(g:ArmV)(d:B)(p:A C)(e:B)(q:A C)(V:B)(G:A (A (C×C)))(T:B),I6 a a a a a a=I6 g g g g g g/\J=lR d p/\P=lR e q/\shN m ws=shN V G/\I3 k T/\(QJ g/\2*d+e+130<=400/\(LA p g/\LA q g)/\V<=400000000/\((∀(u:A (C×C)),u∈G->QY u)/\G.length<=20)/\1<=T/\T<=50)/\((0:Int)<=0/\0<I4 n w)/\∃(J:A (A Ch)),I9 n w 0 J/\∃(z:B)(y:A C),J=lR z y/\(z<=1000000/\y.length<=1000000)/\(∃(x:CuX),(CuI (goV a ws k) w x/\LB)/\1=1/\wN n w=wN n w/\1=1/\shN m ws=shN m ws/\I3 k k/\0=0/\0=0/\1=I2 x/\0=H x.i/\34=34/\I8 a a/\a.x=a.x/\I1/\a.y=a.y/\I1/\I5 a a/\a.t=a.t/\I1/\16=16/\I7 a a/\42=42/\1=1/\([[Ch.s 3 (lR z y)]]=I0 n x\/QC [[Ch.s 3 (lR z y)]] (I0 n x))/\True)/\∀(x:CuX),CuI (goV a ws k) w x->LB->bif decide (H x.i<Zd.wrap (I4 n w-1))then((∃(b:CuX),(CuJ (goV a ws k) w b/\w.length-b.i=D w-x.i)/\1=1/\wN n w=wN n w/\1=1/\shN m ws=shN m ws/\I3 k k/\0=0/\0=0/\I2 x=I2 b/\I3 x.i b.i/\Zd.wrap (I4 n w-1)=H b.k/\34=34/\I8 a a/\a.x=a.x/\I1/\a.y=a.y/\I1/\I5 a a/\a.t=a.t/\I1/\16=16/\I7 a a/\42=42/\1=1/\(I0 n x=I0 n b\/QC (I0 n x) (I0 n b))/\True)/\∀(b:CuX),CuJ (goV a ws k) w b->D w-b.i=D w-x.i->bif decide (H b.k>Zd.wrap (H b.i+1))then(0<=H b.i/\H b.i<I4 n w)/\∃(J:A (A Ch)),I9 n w (H b.i).toNat J/\(0<=H b.k/\H b.k<I4 n w)/\∃(Q:A (A Ch)),I9 n w (H b.k).toNat Q/\∃(f:ArmV)(d:B)(p:A C)(e:B)(q:A C)(W:B)(v:A (A (C×C)))(M:B),I6 a a a a a a=I6 f f f f f f/\J=lR d p/\Q=lR e q/\shN m ws=shN W v/\I3 k M/\(QJ f/\2*d+e+130<=400/\(LA p f/\LA q f)/\W<=400000000/\((∀(r:A (C×C)),r∈v->QY r)/\v.length<=20)/\1<=M/\M<=50)/\bif S6 f (YB p q M) v then∃(c:CuX),(CuE (goV a ws k) w c/\w.length-c.i=D w-x.i)/\1=1/\wN n w=wN n w/\1=1/\shN m ws=shN m ws/\I3 k k/\0=0/\0=0/\I2 b=I2 c/\I3 b.i c.i/\I3 b.k c.k/\34=34/\I8 a a/\a.x=a.x/\I1/\a.y=a.y/\I1/\I5 a a/\a.t=a.t/\I1/\16=16/\I7 a a/\42=42/\1=1/\(I0 n b=I0 n c\/QC (I0 n b) (I0 n c))/\True else∃(s:CuX),(CuJ (goV a ws k) w s/\w.length-s.i=D w-x.i/\s.k<b.k)/\1=1/\wN n w=wN n w/\1=1/\shN m ws=shN m ws/\I3 k k/\0=0/\0=0/\I2 b=I2 s/\I3 b.i s.i/\Zd.wrap (H b.k-1)=H s.k/\34=34/\I8 a a/\a.x=a.x/\I1/\a.y=a.y/\I1/\I5 a a/\a.t=a.t/\I1/\16=16/\I7 a a/\42=42/\1=1/\(I0 n b=I0 n s\/QC (I0 n b) (I0 n s))/\True else∃(c:CuX),(CuE (goV a ws k) w c/\w.length-c.i=D w-x.i)/\1=1/\wN n w=wN n w/\1=1/\shN m ws=shN m ws/\I3 k k/\0=0/\0=0/\I2 b=I2 c/\I3 b.i c.i/\I3 b.k c.k/\34=34/\I8 a a/\a.x=a.x/\I1/\a.y=a.y/\I1/\I5 a a/\a.t=a.t/\I1/\16=16/\I7 a a/\42=42/\1=1/\(I0 n b=I0 n c\/QC (I0 n b) (I0 n c))/\True)/\∀(b:CuX),CuE (goV a ws k) w b->D w-b.i=D w-x.i->(0<=H b.k/\H b.k<I4 n w)/\∃(J:A (A Ch)),I9 n w (H b.k).toNat J/\∃(l:B)(j:A C),J=lR l j/\(l<=1000000/\j.length<=1000000)/\((I2 b+1)*24<=140737488355328/\I2 b+1<=9223372036854775807)/\∃(s:CuX),(CuI (goV a ws k) w s/\LB/\w.length-s.i<D w-x.i)/\1=1/\wN n w=wN n w/\1=1/\shN m ws=shN m ws/\I3 k k/\0=0/\0=0/\I2 b+1=I2 s/\I3 b.k s.i/\34=34/\I8 a a/\a.x=a.x/\I1/\a.y=a.y/\I1/\I5 a a/\a.t=a.t/\I1/\16=16/\I7 a a/\42=42/\1=1/\(A.take (I2 b) (I0 n b)++[[Ch.s 3 (lR l j)]]=I0 n s\/QC (A.take (I2 b) (I0 n b)++[[Ch.s 3 (lR l j)]]) (I0 n s))/\True else K (AV.t [(E,[Ch.s 1 (A.take (I2 x) (A.drop 0 (I0 n x)))]),(E,[Ch.v (Value.int Zd 0)])])) ?_
 delta I0 I1 I2 I3 I4 I7 I5 I8 I9 I6 LA LB
 try simp only[Int.ofNat_eq_natCast,R0,R1,B.le_refl,R4]
 obtain⟨Y,⟨hw,hn⟩,hm,⟨hp,hl⟩,hk⟩:=hc;have Lm:=hw.n;have hZ:=Y.n;have wl: ∀n,(wN n w).length=D w:=fun n=>by simp[wN]
 have t: ∀i,i<D w->(atW w i).length=D a.za:=fun i R=>hw.len _ (A.mem_of_getElem? (GV R));have At: ∀i,i<D w->(atW w i).length<=1000000:=fun i R=>by rw[t i R];omega
 have w0:=GV (w:=w) (o3:0<D w);have l0:=t 0 o3;have e1:Zd.wrap ((D w:Int)-1)=((D w-1:B):Int):=by rw[w64 o3];omega
 rw[QOn Lm.1]at hK;simp only[wl,e1];refine⟨a,n,w,rfl,rfl,⟨Y,hw⟩,o3,_,Wt w0,o3,_,Wt w0,a,n,atW w 0,n,atW w 0,m,ws,k,rfl,rfl,rfl,rfl,rfl,⟨Y,o3,⟨l0,l0⟩,hm,⟨hp,hl⟩,hk⟩,o3,_,Wt w0,n,atW w 0,rfl,⟨o3,o3⟩,⟨⟨[atW w 0],D w,0,0⟩,⟨o5,o5,o6,rfl⟩,rfl,rfl,.inl rfl⟩,fun x U=>QE (fun S=> ?_) (fun S=> ?_)⟩
 ·have R:x.i+1<D w:=(j7 S)
  refine⟨⟨⟨⟨x.o,x.f,x.i,D w-1⟩,⟨⟨⟨U.i,U.f,U.o,U.eq⟩,R,o5,rfl⟩,rfl⟩,rfl,rfl,rfl,.inl rfl⟩,fun y h L=> ?_⟩,fun y h L=> ?_⟩
  ·have yi:=h.i;have yk:=h.k;have yo:=h.all.o;have ew:Zd.wrap ((y.i:Int)+1)=(y.i:Int)+1:=w64 o3;refine QE (fun N=> ?_) (fun N=> ?_)
   ·have N:y.i+1<y.k:=by have:=R5 N;rw[ew]at this;omega
    refine⟨o3,_,Wt (by simpa using GV o3),o3,_,Wt (by simpa using GV yk.2),a,n,atW w y.i,n,atW w y.k,m,ws,k,rfl,rfl,rfl,rfl,rfl,⟨Y,o3,⟨t _ o3,t _ yk.2⟩,hm,⟨hp,hl⟩,hk⟩,QE (fun hb=>⟨⟨y.o,y.f,y.i,y.k⟩,⟨⟨⟨h.all.i,h.all.f,h.all.o,h.all.eq⟩,h.i,?_⟩,L⟩,rfl,rfl,rfl,.inl rfl⟩) (fun hb=>⟨⟨y.o,y.f,y.i,y.k-1⟩,⟨⟨⟨h.all.i,h.all.f,h.all.o,h.all.eq⟩,h.i,o5,?_⟩,L,o5⟩,rfl,rfl,by rw[w64 o3];simp only;omega,.inl rfl⟩)⟩
    ·simp only;rw[<-h.eq,QWf N hb]
    ·simp only;rw[<-Qbo N hb,h.eq]
   ·have N:y.k=y.i+1:=by have:=R6 N;rw[ew]at this;omega
    refine⟨⟨y.o,y.f,y.i,y.k⟩,⟨⟨⟨h.all.i,h.all.f,h.all.o,h.all.eq⟩,h.i,?_⟩,L⟩,rfl,rfl,rfl,.inl rfl⟩;simp only;rw[<-h.eq,N,QWg (B.le_refl _)]
  ·have yi:=h.i;have yf:=h.all.f;have yo:=h.all.o;have ye:=h.all.eq;obtain⟨⟨k1,Z⟩,_⟩:=QOm (goV a ws k) w y.i (D w-1) o3 yi;rw[<-h.k]at k1 Z;rw[QRb yi o3,<-h.k]at ye;refine⟨o3,_,Wt (by simpa using GV Z),n,atW w y.k,rfl,⟨o3,At _ Z⟩,⟨o3,o3⟩,⟨y.o++[atW w y.k],y.f-1,y.k,0⟩,⟨⟨Z,o5,by simp only[A.length_append,A.length_singleton];omega,?_⟩,o5⟩,o6,rfl,.inl (Qaz _ _ _)⟩;simp only;rw[A.append_assoc];exact ye
 ·have R: ¬x.i+1<D w:=(j8 S)
  have xe:=U.eq;rw[QWh R,A.map_nil,A.append_nil]at xe;rw[A.drop_zero,A.take_of_length_le (by simp[wN]),xe];exact hK
def fI:Ctr
 | [.x I x,.x E [.s 1 y],.x E [.s 1 z],.x E [.v (.int .i64 N)]]=>F fun K=> ∃(a:ArmV) (n:B) (w:A (A C)) (m:B) (b:A (A (C×C))) (k:B),x=Qp a/\y=wN n w/\z=shN m b/\N=(k:Int)/\((QJ a)/\(Km w a.za.length/\3*n+130<=400)/\(m<=400000000)/\((∀w∈b,QY w)/\b.length<=20)/\(1<=k/\k<=50))/\(K (.t [(E,[.s 1 (wN n (bY (goV a b k) w))]),(E,[.v (.int .i64 0)])]))
 | _=>none
theorem QOp:QH 9 fI:=by
 refine okL Tryz.func9 fun l T b K h=> ?_
 unfold fI at b;split at b<;>cases b
 obtain⟨a,n,w,m,d,k,rfl,rfl,rfl,rfl,c,h⟩:=h;exact spL (QP uG gV Qb) QK Tryz.func9 (QhL _ _ _ _ _ _ c K h)
def fP:LC:=(9,fI)::qq
noncomputable def QlK:Qd:=mkT fP aB X4
theorem Qbp:QF fP:= .cons QOp uG
end Go.Proofs
