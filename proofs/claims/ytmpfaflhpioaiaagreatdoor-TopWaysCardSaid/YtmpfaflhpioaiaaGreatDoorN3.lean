/- Natural numbers: windows of digits, halving: plain facts. -/
import Derived.Test.YtmpfaflhpioaiaaGreatDoorN2
import Derived.WalkKit
open Int renaming ofNat → A, toNat_natCast → T, ofNat_eq_natCast → Zs, eq_ofNat_of_zero_le → Zu, toNat_natCast → Zf
open _root_ renaming Nat → C, Int → D, List → E, True → I, OfNat → L, UInt8 → M, decide_eq_true_eq → R
open Bool renaming false → F
open Go.IntKind renaming i64 → G, u64 → J, u32 → Zo, u8 → Zw, i64 → Zb
open Option renaming some → H, none → S
open List renaming length → N, map → U, replicate → X, take → Yg, drop → Yh, getElem?_set_ne → Zr, getElem?_set → Yd, getElem?_eq_none → Yc, drop_zero → Yv, take_of_length_le → Ya, length_set → Yx, length → Sj, replicate → Zh
open Array renaming mk → O
open Go.Eng.Ch renaming v → P
open Go.Value renaming int → Q
open Nat renaming gcd → K, pow_add → Y, pow_pos → Z, pow_zero → c, div_div_eq_div_mul → f, div_add_mod → a, pow_succ → e, mod_eq_of_lt → Zp, mul_assoc → Zy, mod_lt → Yi, pow_mul → Yk, lt_or_ge → Ye, pow_le_pow_right → Zn, pow_succ' → Yb, mul_add → Ym, div_one → Yn, mul_comm → Yo, gcd_comm → Yp, le_refl → Yw, div_eq_of_lt → Yf, lt_of_le_of_lt → Yj, mod_mul → Yy, div_le_self → Yt, gcd_le_left → Ys, div_lt_of_lt_mul → Yr, mul_div_cancel_left → Yl, eq_of_beq_eq_true → Yq, testBit_two_pow_mul_add → Yu, div_div_eq_div_mul → Zg, gcd → Zk, pow_zero → Zl, pow_pos → Zi, pow_add → Zj
open UInt8 renaming ofNat → l, toNat_ofNat' → Zz, ofNat → Zv
set_option maxHeartbeats 1000000
set_option maxRecDepth 100000
namespace Go.Proofs
open Go Go.Eng Tryz
structure Sl (B:C)(us:E C)(o n v:C):Prop where
  lt:v<B^n
  le:o+n<=us.length
  get: ∀i,i<n->us[o+i]? =H (v/B^i % B)

variable{us:E C}{B o v:C}
theorem Sl.zero(h:Sl B us o 0 v):v=0:=by
 have:=h.lt;rw[c]at this;omega
variable{n:C}
theorem Sl.less(h:Sl B us o (n+1) v)(a:v<B^n):Sl B us o n v:=
 ⟨a,by have:=h.le;omega,fun i b=>h.get i o3⟩
theorem Sl.skip{k:C}(h:Sl B us o n v)(hk:k<=n):Sl B us (o+k) (n-k) (v/B^k):=by
 have a:=h.le;refine⟨?_,o3,fun i b=> ?_⟩
 ·apply Yr;rw[<-Y,(o3:k+(n-k)=n)];exact h.lt
 ·rw[C.add_assoc,h.get (k+i) o3,f,<-Y]
theorem Sl.of_fd(b:v<B^n)(h:us=fd B n v):Sl B us 0 n v:=by
 subst h;exact⟨b,by rw[Qn];omega,fun i a=>by rw[C.zero_add];exact J6 a⟩
variable{w:C}
theorem Sl.uniq(h:Sl B us o n v)(k:Sl B us o n w):v=w:=by
 have e:fd B n v=fd B n w:=by
  apply E.ext_getElem?
  intro i;by_cases a:i<n
  ·rw[J6 a,J6 a,<-h.get i a,k.get i a]
  ·rw[Yc (by rw[Qn];omega),Yc (by rw[Qn];omega)]
 rw[<-Qz h.lt,<-Qz k.lt,e]
theorem Sl.win(h:Sl B us o n v):(us.drop o).take n=fd B n v:=by
 have b:=h.le;apply E.ext_getElem?
 intro i;by_cases a:i<n
 ·rw[J6 a,E.getElem?_take,if_pos a,E.getElem?_drop,h.get i a]
 ·rw[Yc o9,Yc (by rw[Qn];omega)]
theorem Sl.move(h:Sl B us o n v):Sl B ((us.drop o).take n) 0 n v:= .of_fd h.lt h.win
theorem Sl.same{ws:E C}(h:Sl B us o n v)(c:ws.length=N us)(b: ∀i,i<n->ws[o+i]? =us[o+i]?):Sl B ws o n v:=
 ⟨h.lt,by rw[c];exact h.le,fun i a=>by rw[b i a];exact h.get i a⟩
theorem Ha:vl v<=n↔v<18446744073709551616^n:=by
 have e:(18446744073709551616:C)^n=256^(8*n):=by rw[show(18446744073709551616:C)=256^8 from rfl,<-Yk]
 rw[e,<-Qh];unfold vl;omega
theorem Vo (v:C):v<18446744073709551616^vl v:=Ha.1 (Yw _)
theorem W5:vl v=0↔v=0:=by
 constructor
 ·intro h;have:=Vo v;rw[h,c]at this;omega
 ·rintro rfl;have:=Ha (v:=0) (n:=0);rw[c]at this;omega
variable{u:C}
theorem kg(h:u<=v):vl u<=vl v:=Ha.2 (Yj h (Vo v))
theorem QI3: ∀{n v:C},Sl 18446744073709551616 us o n v->Ky us o n=vl v:=by
 intro n;induction n with
 | zero=>intro v h;rw[h.zero,W5.2 rfl];rfl
 | succ n l=>
  intro v h;unfold Ky;rw[h.get n o3];have b:=h.lt;have j:0<(18446744073709551616:C)^n:=Z o8;have f:v/18446744073709551616^n<18446744073709551616:=by
   apply Yr;rw[<-e];exact b
  rw[Zp f,Option.getD_some];split
  ·rename_i c;have k:v<18446744073709551616^n:=by
    rcases Ye v (18446744073709551616^n)with a | a
    ·exact a
    ·have:=C.div_pos a j;omega
   exact l (h.less k)
  ·rename_i c;have m: ¬vl v<=n:=fun a=>c (Yf (Ha.1 a));have p:vl v<=n+1:=Ha.2 b;omega
theorem Sl.cut(h:Sl 18446744073709551616 us o n v):Sl 18446744073709551616 us o (vl v) v:=
 have a:vl v<=n:=Ha.2 h.lt
 ⟨Vo v,by have:=h.le;omega,fun i b=>h.get i o3⟩
def IsEv (v r:C):Prop:= ∃q,v=2^r*(2*q+1)
variable{r:C}
theorem IsEv.ne(h:IsEv v r):v≠0:=by
 obtain⟨q,rfl⟩:=h;have:0<2^r*(2*q+1):=C.mul_pos (Z o8) o3;omega
theorem IsEv.odd(h:IsEv v r):v/2^r % 2=1:=by
 obtain⟨q,rfl⟩:=h;rw[Yl _ (Z o8)];omega
theorem IsEv.back(h:IsEv v r):v=2^r*(v/2^r):=by
 obtain⟨q,rfl⟩:=h;rw[Yl _ (Z o8)]
theorem IsEv.lt(h:IsEv v r)(e:v<2^n):r<n:=by
 obtain⟨q,rfl⟩:=h;rcases Ye r n with a | a
 ·exact a
 ·have b:2^n<=2^r:=Zn o8 a;have c:2^r*1<=2^r*(2*q+1):=C.mul_le_mul_left _ o3;omega
theorem IsEv.ex: ∀{v:C},v≠0-> ∃r,IsEv v r:=by
 intro v;induction v using C.strongRecOn with
 | _ v b=>
  intro h;by_cases f:v % 2=1
  ·exact⟨0,v/2,by rw[c];omega⟩
  ·obtain⟨r,q,a⟩:=b (v/2) o3 o3;refine⟨r+1,q,?_⟩;rw[e,Yo (2^r) 2,Zy,<-a];omega
variable{d i:C}
theorem IsEv.digit(h0:v % 18446744073709551616^i=0)(j:v/18446744073709551616^i % 18446744073709551616=d)(h:IsEv d r)(m:r<64):IsEv v (64*i+r):=by
  obtain⟨q,l⟩:=h;have b:v=18446744073709551616^i*(v/18446744073709551616^i):=by
    have:=a v (18446744073709551616^i);omega
  have e:=a (v/18446744073709551616^i) 18446744073709551616;rw[j,l]at e;generalize v/18446744073709551616^i/18446744073709551616=k at e;have c:(18446744073709551616:C)=2^r*(2*2^(63-r)):=by
    rw[<-Yb,<-Y,(o3:r+(63-r).succ=64)]
  have f:(18446744073709551616:C)^i=2^(64*i):=by rw[show(18446744073709551616:C)=2^64 from rfl,<-Yk]
  refine⟨2^(63-r)*k+q,?_⟩;rw[b,<-e,f,Y,Zy];congr 1;conv=>lhs;rw[c]
  grind

variable{x:C}
theorem QZ6{q:C}(b:x=2^r*(2*q+1))(l:x<18446744073709551616):x&&&(18446744073709551616-x)=2^r:=by
  have p:0<x:=by
    have:0<2^r*(2*q+1):=C.mul_pos (Z o8) o3;omega
  have m:r<64:=IsEv.lt (n:=64) ⟨q,b⟩ l;have e:(18446744073709551616:C)-x=2^64-((x-1)+1):=by rw[(o3:x-1+1=x)]
  have f:x-1=2^r*(2*q)+(2^r-1):=by
    rw[b,Ym,C.mul_one];have:0<2^r:=Z o8;omega
  have k:x=2^r*(2*q+1)+0:=by rw[b];rfl
  apply C.eq_of_testBit_eq;intro i;rw[C.testBit_and,e,C.testBit_two_pow_sub_succ (by show x-1<18446744073709551616;omega),f,Yu _ (by have:0<2^r:=Z o8;omega),C.testBit_two_pow];conv=>lhs;lhs;rw[k]
  rw[Yu _ (Z o8)];by_cases a:i<r
  · rw[if_pos a,if_pos a];simp;omega
  · rw[if_neg a,if_neg a];by_cases c:r=i
    · subst c;simp[m]
    · obtain⟨j,hj⟩: ∃j,i-r=j+1:=⟨i-r-1,o3⟩;rw[hj,C.testBit_succ,C.testBit_succ];have:(2*q+1)/2=q:=o3
      rw[this,Yl _ (by decide:0<2)];simp[c];intro h _;exact h

variable{s:C}
theorem QI4(k:s<=64):w/2^s % 18446744073709551616=w % 18446744073709551616/2^s+2^(64-s)*(w/18446744073709551616 % 2^s):=by
 have h:(18446744073709551616:C)=2^s*2^(64-s):=by rw[<-Y,(o3:s+(64-s)=64)]
 have c:0<2^s:=Z o8;have j:0<2^(64-s):=Z o8;have e:w % 18446744073709551616/2^s=w/2^s % 2^(64-s):=by
  conv=>lhs;rw[h]
  rw[C.mod_mul_right_div_self]
 have a:w/18446744073709551616=w/2^s/2^(64-s):=by
  conv=>lhs;rw[h]
  rw[f]
 rw[e,a];generalize w/2^s=v;have b:v % 18446744073709551616=v % (2^(64-s)*2^s):=by rw[Yo,<-h]
 rw[b,Yy]
theorem QQZ(k:0<B){c:C}(z:u % B^i+d % B^i=(u+d) % B^i+B^i*c):
    u/B^i % B+d/B^i % B+c=(u+d)/B^i % B+B*((u/B^i % B+d/B^i % B+c)/B)/\
    u % B^(i+1)+d % B^(i+1)=(u+d) % B^(i+1)+B^(i+1)*((u/B^i % B+d/B^i % B+c)/B):=by
  have l:0<B^i:=Z k;have t:=a u (B^i);have m:=a d (B^i);have p:=a (u+d) (B^i);have j:(u+d)/B^i=u/B^i+d/B^i+c:=by
    have:B^i*((u+d)/B^i)=B^i*(u/B^i+d/B^i+c):=by rw[Ym,Ym];omega
    exact C.eq_of_mul_eq_mul_left l this
  have b:(u+d)/B^i % B=(u/B^i % B+d/B^i % B+c) % B:=by
    rw[j];rw[C.add_mod (u/B^i+d/B^i) c,C.add_mod (u/B^i) (d/B^i),<-C.add_mod]
  have f: ∀y,y % B^(i+1)=y % B^i+B^i*(y/B^i % B):=fun y=>by rw[e,Yy]
  have h:=a (u/B^i % B+d/B^i % B+c) B;refine⟨by rw[b];omega,?_⟩;rw[f,f,f,b,e,Zy];generalize u/B^i % B=x at h|-;generalize d/B^i % B=y at h|-;generalize (x+y+c)/B=q at h|-;generalize (x+y+c) % B=r at h|-;have:B^i*x+B^i*y+B^i*c=B^i*(B*q)+B^i*r:=by rw[<-Ym,<-Ym,<-Ym,h]
  omega

theorem QTZ(h:vl u<vl v):u<v:=by
 rcases Ye u v with a | a
 ·exact a
 ·have:=kg a;omega
theorem tV(k:0<B)(h:u/B^(i+1)=v/B^(i+1))(p:u/B^i % B<v/B^i % B):u<v:=by
  have q:0<B^i:=Z k;have j:=a (u/B^i) B;have l:=a (v/B^i) B;rw[e,<-f,<-f]at h;rw[h]at j;have m:u/B^i<v/B^i:=o3
  rcases Ye u v with b | b
  · exact b
  · have:=C.div_le_div_right (c:=B^i) b;omega
theorem QI5(h:u/B^(i+1)=v/B^(i+1))(c:u/B^i % B=v/B^i % B):u/B^i=v/B^i:=by
 have b:=a (u/B^i) B;have j:=a (v/B^i) B;rw[e,<-f,<-f]at h;rw[h,c]at b;omega
variable{y:C}
theorem QI6(h:y % 2=1):K (2*x) y=K x y:=by
 have:C.Coprime 2 y:=by
  unfold C.Coprime;rw[C.gcd_rec,h];rfl
 exact C.Coprime.gcd_mul_left_cancel x this
theorem UO(r:C)(h:y % 2=1):K (2^r*x) y=K x y:=by
 induction r with
 | zero=>rw[c,C.one_mul]
 | succ r a=>rw[Yb,Zy,QI6 h,a]
theorem QI7(a:x % 2=1)(b:y % 2=1):K (2^r*x) (2^s*y)=2^min r s*K x y:=by
 rcases C.le_total r s with h | h
 ·rw[C.min_eq_left h,(o3:s=r+(s-r)),Y,Zy,C.gcd_mul_left];rw[Yp x,UO _ a,Yp]
 ·rw[C.min_eq_right h,(o3:r=s+(r-s)),Y,Zy,C.gcd_mul_left];rw[UO _ b]
theorem QTa(h:y<=x):K (x-y) y=K x y:=C.gcd_sub_self_left h
def debL:E C:=[0,1,56,2,57,49,28,3,61,58,42,50,38,29,17,4,62,47,59,36,45,43,51,22,53,39,33,30,24,18,12,5,63,55,48,27,60,41,37,16,46,35,44,21,52,32,23,11,54,26,40,15,34,20,31,10,25,14,19,9,13,8,7,6]
def TH:E Value:=debL.map fun(n:C)=> .int .u8 (n:D)
theorem QfD:(E.range 64).all (fun r=>decide (debL[(2^r*285870213051353865) % 18446744073709551616/288230376151711744]? =H r))=true:=o4
theorem QZ7(h:r<64):debL[(2^r*285870213051353865) % 18446744073709551616/288230376151711744]? =H r:=by
 have:=E.all_eq_true.1 QfD r ((j9 h));simpa using this
abbrev Tl:C:=1
abbrev Xg:=@KL Tryz.prog Tl TH
abbrev XK:=@CtrMsOK Tryz.prog Tl TH
abbrev QH:=@CtrOK Tryz.prog Tl TH
abbrev QF:=@CtrsOK Tryz.prog Tl TH
abbrev Qr:=@XC Tryz.prog Tl TH
theorem QQa {w:World}(h:Tz w Tl TH)(a:debL[i]? =H r):w.cell? ⟨1,i,S⟩=H (.int .u8 (r:D)):=by
 obtain⟨t,f,e⟩:=h;simp only[World.cell?,e];simp[TH,a]
theorem QZ8 (x:D)(r:D)(w:World)(h0:(x==0)=F)(h:0<=J.wrap (Go.bits BinOp.and J x (J.wrap (-x))*285870213051353865)/288230376151711744/\J.wrap (Go.bits BinOp.and J x (J.wrap (-x))*285870213051353865)/288230376151711744<64)
  (a:w.cell? ⟨1,(J.wrap (Go.bits BinOp.and J x (J.wrap (-x))*285870213051353865)/288230376151711744).toNat,S⟩=H (.int .u8 r)):
  Calls Tryz.prog 191 #[.int .u64 x] w fun e w'=>e= .returned (.int .i64 (RowKit.wrap64 r))/\w'=w:=by
 go_enter func191,Tryz.ntmps191;go_wp2;go_ret;exact⟨rfl,rfl⟩
theorem QfE(h:IsEv x r)(c:x<18446744073709551616):Go.bits BinOp.and J (x:D) (J.wrap (-(x:D)))=((2^r:C):D):=by
 have f:=h.ne;obtain⟨q,b⟩:=h;have e:J.wrap (-(x:D))=((18446744073709551616-x:C):D):=by
  rw[J5];omega
 have a:=QZ6 b c;rw[e];show J.wrap ((BitVec.ofInt 64 (x:D)&&&BitVec.ofInt 64 ((18446744073709551616-x:C):D)).toNat:D)=_
 rw[BitVec.toNat_and,toNat_ofInt (by show _<2^64;omega),toNat_ofInt (by show _<2^64;omega),a];have:2^r<=x:=by rw[<-a];exact C.and_le_left
 exact YE o3
def lX:Ctr
  | [.x F [.v (.int .u64 x)]]=>H fun K=>(0<x/\x<18446744073709551616)/\ ∀r,IsEv x.toNat r->K (iA .i64 (r:C))
  | _=>S
theorem QZ9:QH 191 lX:=by
 refine⟨Qf func191 o4,fun l b k K q=> ?_⟩;unfold lX at k;split at k
 ·cases k
  rename_i x;obtain⟨⟨U,V⟩,q⟩:=q;obtain⟨x,rfl⟩:=Zu (by omega:0<=x);obtain⟨r,I⟩:=IsEv.ex (v:=x) o3;have f:r<64:=I.lt (n:=64) (by show x<18446744073709551616;omega);intro w a M _ N t;cases t with
  | cons t R=>
   cases R
   obtain⟨rfl,_⟩:=ConcX.one t;have c:=QfE I o3;have m:J.wrap (((2^r:C):D)*285870213051353865)/288230376151711744=((2^r*285870213051353865 % 18446744073709551616/288230376151711744:C):D):=by
    rw[J5];generalize 2^r=p;omega
   have L:=QZ7 f;have z:2^r*285870213051353865 % 18446744073709551616/288230376151711744<64:=(E.getElem?_eq_some_iff.1 L).1;have h:=QQa N L;generalize 2^r*285870213051353865 % 18446744073709551616/288230376151711744=j at m z h;refine(QZ8 (x:D) (r:D) w o9 ?_ ?_).mono ?_
   ·rw[c,m];omega
   ·rw[c,m,T];exact h
   ·rintro e W ⟨rfl,rfl⟩;have:RowKit.wrap64 (r:D)=(r:D):=by
     have:RowKit.wrap64 (r:D)=G.wrap r:=by simp[RowKit.wrap64,IntKind.wrap_i64]
     rw[this];exact w64 o3
    rw[this];exact⟨_,_,rfl,q r I,Qg rfl,.refl _ _⟩
 ·cases k
def mF:U9:=fun a=>match a with
 | [.x F [.v (.int .u64 x)],.x F [.v (.int .u64 y)],.x F [.v (.int .u64 b)]]=>H fun K=>((0<=x/\x<18446744073709551616)/\(0<=y/\y<18446744073709551616)/\0<=b/\b<=1)/\
   K (.t [(F,[.v (.int .u64 ((x-y-b) % 18446744073709551616))]),(F,[.v (.int .u64 (bif decide (x<y+b)then 1 else 0))])])
 | _=>S
theorem QTb:dW Tryz.prog 193 mF:=by
 intro l T j K p w a W q c;unfold mF at j;split at j
 ·cases j
  rename_i x y b;obtain⟨⟨⟨t,R⟩,⟨z,U⟩,E,V⟩,p⟩:=p;cases c with
  | cons M c=>cases c with
   | cons N c=>cases c with
    | cons m c=>
     cases c
     obtain⟨rfl,_⟩:=ConcX.one M;obtain⟨rfl,_⟩:=ConcX.one N;obtain⟨rfl,_⟩:=ConcX.one m;obtain⟨x,rfl⟩:=Zu t;obtain⟨y,rfl⟩:=Zu z;obtain⟨b,rfl⟩:=Zu E;refine⟨.tuple #[.int .u64 ((x-y-b:D) % 18446744073709551616),.int .u64 (bif decide ((x:D)<y+b)then 1 else 0)],_,?_,?_,p⟩
     ·rw[run_callFunc_extern func193 o4 o4 o4 (e:=fun f=>do
       let (x,y,b)<-Extern.MathBitsCarry.three "Sub64" f
       pure (Extern.MathBitsCarry.pair ((x+Extern.MathBitsCarry.m64-y-b) % Extern.MathBitsCarry.m64) (if x<y+b then 1 else 0))) o4]
      have I:((x:D)-y-b) % 18446744073709551616=(((x+18446744073709551616-y-b) % 18446744073709551616:C):D):=o3
      have L:(bif decide ((x:D)<y+b)then(1:D)else 0)=((if x<y+b then 1 else 0:C):D):=by
       by_cases h:x<y+b
       ·have k:(x:D)<y+b:=o3
        simp[h,k]
       ·have k: ¬(x:D)<y+b:=o3
        simp[h,k]
      rw[I,L];have m:(Extern.MathBitsCarry.three "Sub64" #[.int .u64 x,.int .u64 y,.int .u64 b]).run Tryz.prog w= .ok (x,y,b) w:=by
       rcases(by omega:b=0\/b=1)with rfl | rfl<;>rfl
      simp only[Sem.run_bind,m,Result.andThen_ok,Sem.run_pure];rfl
     ·exact⟨_,.cons (Qg rfl) (.cons (Qg rfl) .nil),rfl⟩
 ·cases j
def L14:LC:=(191,lX)::L13
def M14:E (C×XS):=(176,mf)::(192,mC)::M12
def X4:E (C×U9):=(193,mF)::X3
noncomputable def T14:Qd:=mkT L14 M14 X4
theorem QdU:QF L14:= .cons QZ9 zB
theorem QdV:XK M14:= .cons QTX (.cons QfC qK)
theorem Qb:CtrXsOK Tryz.prog X4:= .cons QTb S1
theorem eC:Qr T14:=QP QdU QdV Qb
def sV (n v:C):AV:= .x F [.s 1 (V (fd 18446744073709551616 n v))]
def QQb (n v:C):LI:=fun _=> .inv ⟨C,fun i=>⟨[(0,sV n v),(3,iA .i64 i)],[]⟩,fun i=>i<n/\v % 18446744073709551616^i=0,fun i=>n-i,fun _=>0⟩
def QQc (n v m u:C):LI:=fun _=> .inv ⟨C,fun i=>⟨[(0,sV n v),(1,sV m u),(5,iA .i64 ((i:D)-1))],[]⟩,fun i=>i<=n/\v/18446744073709551616^i=u/18446744073709551616^i,fun i=>i,fun _=>0⟩
def Bu(a b:C):=V (fd 18446744073709551616 a b)
def By:C:=L.ofNat 0
def B0(a b:C):=(Bu a b).length
def CB(a b:C):=a%18446744073709551616^b=0
theorem QaA (n v:C)(K:AV->Prop)(E:n<=1099511627776)(h0:v≠0)(t:v<18446744073709551616^n)(z: ∀r,IsEv v r->r<64*n->K (iA .i64 (r:C))):QM (QN T14 (oF f177) (QQb n v) f177 [sV n v] K):=by
 refine HV ((∃(x:C),((x<n/\CB v x)/\By=0)/\1=1/\Bu n v=Bu n v/\0=A x/\I)/\∀(x:C),x<n/\CB v x->By=0->(0<=A x/\A x<A (B0 n v))/\∃(d:D),ldE (Bu n v) (A x).toNat 0 1=H [P (Q J d)]/\bif d ==0 then∃(k:C),((k<n/\CB v k)/\By=0/\n-k<n-x)/\1=1/\Bu n v=Bu n v/\G.wrap (A x+1)=A k/\I else(0<=A x/\A x<A (B0 n v))/\∃(d:D),ldE (Bu n v) (A x).toNat 0 1=H [P (Q J d)]/\(0<d/\d<18446744073709551616)/\∀(r:C),IsEv d.toNat r->K (AV.x F [P (Q G (G.wrap (G.wrap (64*A x)+A r)))])) ?_
 delta Bu By B0 CB
 simp only[Zs,R0,R1,R4];have l:0<n:=by
  rcases C.eq_zero_or_pos n with rfl | h
  ·rw[c]at t;omega
  ·exact h
 rw[Tf,Qn];refine⟨⟨0,⟨l,by rw[c,C.mod_one]⟩,rfl⟩,fun x j=>⟨o3,_,by rw[T];exact KO (J6 j.1),QE (fun b=> ?_) (fun b=> ?_)⟩⟩
 ·have b:v/18446744073709551616^x % 18446744073709551616=0:=by have:=eq_of_beq b;omega
  have p:v % 18446744073709551616^(x+1)=0:=by rw[e,Yy,j.2,b,C.mul_zero]
  refine⟨x+1,⟨⟨?_,p⟩,o3⟩,by rw[w64 o3];omega⟩;rcases Ye (x+1) n with h | h
  ·exact h
  ·have:x+1=n:=o3
   rw[this,Zp t]at p;exact absurd p h0
 ·have b:v/18446744073709551616^x % 18446744073709551616≠0:=fun a=>by rw[a]at b;simp at b
  have m:v/18446744073709551616^x % 18446744073709551616<18446744073709551616:=Yi _ o8;refine⟨o3,_,by rw[T];exact KO (J6 j.1),⟨o3,o3⟩,fun r q=> ?_⟩;rw[T]at q;have f:r<64:=q.lt (n:=64) m;have a:G.wrap (G.wrap (64*(x:D))+r)=((64*x+r:C):D):=by
   rw[w64 (n:=64*(x:D)) o3,w64 o3];omega
  rw[a];exact z _ (IsEv.digit j.2 rfl q f) o3
def Bv(a:C):=A a-1
def Bw(a b:C):=a/18446744073709551616^b
def CD(a:AV->Prop)(b:Bool):=a (AV.x F [P (Value.bool b)])
theorem QaB (n v m u:C)(K:AV->Prop)(V:n<=1099511627776)(U:n=vl v)(T:m=vl u)(p:K (.x F [.v (.bool (decide (v<u)))])):QM (QN T14 (oF f179) (QQc n v m u) f179 [sV n v,sV m u] K):=by
 refine HV (bif A (B0 n v) !=A (B0 m u)then CD K (decide (A (B0 n v)<A (B0 m u)))else(∃(x:C),((x<=n/\Bw v x=Bw u x)/\By=0)/\1=1/\Bu n v=Bu n v/\1=1/\Bu m u=Bu m u/\G.wrap (Bv (B0 n v))=Bv x/\I)/\∀(x:C),x<=n/\Bw v x=Bw u x->By=0->bif decide (Bv x>=0)then(0<=Bv x/\Bv x<A (B0 n v))/\∃(d:D),ldE (Bu n v) (Bv x).toNat 0 1=H [P (Q J d)]/\(0<=Bv x/\Bv x<A (B0 m u))/\∃(f:D),ldE (Bu m u) (Bv x).toNat 0 1=H [P (Q J f)]/\bif d !=f then(0<=Bv x/\Bv x<A (B0 n v))/\∃(d:D),ldE (Bu n v) (Bv x).toNat 0 1=H [P (Q J d)]/\(0<=Bv x/\Bv x<A (B0 m u))/\∃(j:D),ldE (Bu m u) (Bv x).toNat 0 1=H [P (Q J j)]/\CD K (decide (d<j))else∃(l:C),((l<=n/\Bw v l=Bw u l)/\By=0/\l<x)/\1=1/\Bu n v=Bu n v/\1=1/\Bu m u=Bu m u/\G.wrap (Bv x-1)=Bv l/\I else CD K F) ?_
 delta Bu Bv Bw By B0 CD
 simp only[Zs,R0,R1,R4];simp only[Tf,Qn];have z:=Vo v;have t:=Vo u;rw[<-U]at z;rw[<-T]at t;refine QE (fun b=> ?_) (fun b=> ?_)
 ·have b:n≠m:=by
   intro e;subst e;simp at b
  have e:decide ((n:D)<(m:D))=decide (v<u):=by
   rw[Bool.eq_iff_iff];simp only[R];constructor
   ·intro h;exact QTZ o3
   ·intro h;have:=kg (C.le_of_lt h);omega
  rw[e];exact p
 ·have b:n=m:=by
   simp at b;omega
  subst b;refine⟨⟨n,⟨Yw _,by rw[Yf z,Yf t]⟩,by rw[w64 o3]⟩,fun x q=>QE (fun k=> ?_) (fun k=> ?_)⟩
  ·have k:=R5 k;obtain⟨y,rfl⟩: ∃y,x=y+1:=⟨x-1,o3⟩;have N:(((y+1:C):D)-1).toNat=y:=o3
   have E:y<n:=o3
   simp only[N];have L:=KO (J6 (B:=18446744073709551616) (m:=v) E);have M:=KO (J6 (B:=18446744073709551616) (m:=u) E);refine⟨o3,_,L,o3,_,M,QE (fun a=> ?_) (fun a=> ?_)⟩
   ·refine⟨o3,_,L,o3,_,M,?_⟩;have a:v/18446744073709551616^y % 18446744073709551616≠u/18446744073709551616^y % 18446744073709551616:=fun e=>by rw[e]at a;simp at a
    have e:decide (((v/18446744073709551616^y % 18446744073709551616:C):D)<((u/18446744073709551616^y % 18446744073709551616:C):D))=decide (v<u):=by
     rw[Bool.eq_iff_iff];simp only[R];constructor
     ·intro h;exact tV o8 q.2 o3
     ·intro h;rcases Ye (v/18446744073709551616^y % 18446744073709551616) (u/18446744073709551616^y % 18446744073709551616)with h' | h'
      ·omega
      ·have:=tV (B:=18446744073709551616) o8 q.2.symm o3;omega
    rw[e];exact p
   ·have a:v/18446744073709551616^y % 18446744073709551616=u/18446744073709551616^y % 18446744073709551616:=by
     have:((v/18446744073709551616^y % 18446744073709551616:C):D)=((u/18446744073709551616^y % 18446744073709551616:C):D):=(j9 a)
     exact D.ofNat.inj this
    exact⟨y,⟨⟨o3,QI5 q.2 a⟩,o3⟩,by rw[w64 o3];omega⟩
  ·have k:=R6 k;have:x=0:=o3
   subst this;have h:=q.2;rw[c,Yn,Yn]at h;have e:decide (v<u)=F:=o9
   rw[e]at p;exact p
def sT:Ctr
 | [.x F [.s 1 a]]=>H fun K=> ∃n v,a=V (fd 18446744073709551616 n v)/\v<18446744073709551616^n/\v≠0/\n<=1099511627776/\ ∀r,IsEv v r->r<64*n->K (iA .i64 (r:C))
 | _=>S
def fS:Ctr
 | [.x F [.s 1 a],.x F [.s 1 b]]=>H fun K=> ∃v u,a=V (fd 18446744073709551616 (vl v) v)/\b=V (fd 18446744073709551616 (vl u) u)/\vl v<=1099511627776/\K (.x F [.v (.bool (decide (v<u)))])
 | _=>S
theorem QTc:QH 177 sT:=by
 refine okL func177 fun l T a K h=> ?_
 unfold sT at a;split at a<;>cases a
 obtain⟨n,v,rfl,e,b,c,h⟩:=h;exact spL eC QK func177 (QaA n v K c b e h)
theorem QTd:QH 179 fS:=by
 refine okL func179 fun l T a K h=> ?_
 unfold fS at a;split at a<;>cases a
 obtain⟨v,u,rfl,rfl,b,h⟩:=h;exact spL eC QK func179 (QaB _ v _ u K b rfl rfl h)
structure Su where
 us:E C
 b:C
 i:C
structure Tp (us0:E C)(o n u d:C)(x:Su):Prop where
  len:x.us.length=us0.length
  hi:x.i<=n
  hb:x.b<=1
  low: ∀j,j<x.i->x.us[o+j]? =H (d/18446744073709551616^j % 18446744073709551616)
  high: ∀j,x.i<=j->x.us[o+j]? =us0[o+j]?
  inv:u % 18446744073709551616^x.i+d % 18446744073709551616^x.i=(u+d) % 18446744073709551616^x.i+18446744073709551616^x.i*x.b
def QQd (us ws:E C)(o n a m u d:C):LI:=fun _=> .inv ⟨Su,fun x=>⟨[(0,wO 1000 o n),(1,wO 1001 a m),(5,iA .u64 x.b),(9,iA .i64 n),(10,iA .i64 x.i)],[(1000,Jg x.us),(1001,Jg ws)]⟩,Tp us o n u d,fun x=>n-x.i,fun _=>0⟩
theorem QaC{c e:C}(h:u+d+c=v+18446744073709551616*e)(j:d<18446744073709551616)(k:u<18446744073709551616)(f:c<=1):e<=1/\((v:D)-u-c) % 18446744073709551616=d/\(bif decide ((v:D)<u+c)then(1:D)else 0)=e:=by
 have b:e=0\/e=1:=o3
 rcases b with rfl | rfl
 ·have a: ¬(v:D)<u+c:=o3
  refine⟨o3,o3,?_⟩;simp[a]
 ·have a:(v:D)<u+c:=o3
  refine⟨o3,o3,?_⟩;simp[a]
theorem Tp.step {b:E C}{x:Su}(h:Tp b o n u d x)(m:x.i<n)(p:Sl 18446744073709551616 b o n (u+d)): ∃e v:C,x.us[o+x.i]? =H v/\v<18446744073709551616/\Tp b o n u d ⟨x.us.set (o+x.i) (d/18446744073709551616^x.i % 18446744073709551616),e,x.i+1⟩/\ 
  ((v:D)-(u/18446744073709551616^x.i % 18446744073709551616:C)-x.b) % 18446744073709551616=((d/18446744073709551616^x.i % 18446744073709551616:C):D)/\(bif decide ((v:D)<(u/18446744073709551616^x.i % 18446744073709551616:C)+(x.b:D))then(1:D)else 0)=e:=by
 obtain⟨l,_,z,k,a,f⟩:=h;obtain⟨q,t⟩:=QQZ (B:=18446744073709551616) o8 f;have K:=p.get x.i m;have L:=p.le;have M:=Yi (u/18446744073709551616^x.i) (by decide:0<18446744073709551616);have I:=Yi (d/18446744073709551616^x.i) (by decide:0<18446744073709551616);have N:=Yi ((u+d)/18446744073709551616^x.i) (by decide:0<18446744073709551616);obtain⟨R,T,U⟩:=QaC q I M z;refine⟨_,_,by rw[a x.i (Yw _)];exact K,N,⟨(j9 l),m,R,fun j c=> ?_,fun j c=> ?_,t⟩,T,U⟩
 ·simp only at c|-;by_cases e:j=x.i
  ·subst e;rw[Yd];simp;omega
  ·rw[Zr o3];exact k j o3
 ·simp only at c|-;rw[Zr o3];exact a j o3
def Bx(a:Su):=A a.i
def B4(a b c d:E C):=V a=V b\/QC (V c) (V d)
def B5(a:C)(b:Su):=a+(Bx b).toNat
def B8(a:Su)(b:C)(c:Su)(d e:D)(f:Su):=(V a.us).set (B5 b c) [P (Q J ((d-e-A f.b)%18446744073709551616))]
def B9(a b:C)(c:D)(d:Su)(e:Prop)(f g h i:E C):=A a=A b/\c=Bx d/\197=197/\1=1/\e/\197=197/\1=1/\B4 f g h i/\I
def CA(a b:D):=0<=a/\b<18446744073709551616
theorem QaD (us ws:E C)(o n h m u d:C)(hl:us.length<=1099511627776)(Lm:ws.length<=1099511627776)(U:Sl 18446744073709551616 us o n (u+d))(p:Sl 18446744073709551616 ws h m u):QM (Xp (X:=E C) T14 (oF f180) (QQd us ws o n h m u d) f180 [wO 1000 o n,wO 1001 h m] [(1000,Jg us),(1001,Jg ws)]
 (fun k=>N k=N us/\Sl 18446744073709551616 k o (vl d) d) (fun k=>⟨[(4,wO 1000 o (vl d))],[(1000,Jg k),(1001,Jg ws)]⟩)):=by
 refine HV ((∃(x:Su),(Tp us o n u d x/\By=0)/\o=o/\n=n/\h=h/\m=m/\0=A x.b/\B9 n n 0 x (B4 us x.us us x.us) ws ws ws ws)/\∀(x:Su),Tp us o n u d x->By=0->bif decide (Bx x<A n)then bif decide (Bx x<A m)then(0<=Bx x/\Bx x<A m)/\∃(a:D),ldE (V ws) (B5 h x) 0 1=H [P (Q J a)]/\(0<=Bx x/\Bx x<A n)/\∃(c:D),ldE (V x.us) (B5 o x) 0 1=H [P (Q J c)]/\(CA c c/\CA a a/\0<=A x.b/\A x.b<=1)/\(0<=Bx x/\Bx x<A n)/\B5 o x<(V x.us).length/\∃(f:Su),(Tp us o n u d f/\By=0/\n-f.i<n-x.i)/\o=o/\n=n/\h=h/\m=m/\(bif decide (c<a+A x.b)then 1 else 0)=A f.b/\B9 n n (G.wrap (Bx x+1)) f (B8 x o x c a x=V f.us\/QC (B8 x o x c a x) (V f.us)) ws ws ws ws else(0<=Bx x/\Bx x<A n)/\∃(a:D),ldE (V x.us) (B5 o x) 0 1=H [P (Q J a)]/\(CA a a/\((0:D)<=0/\(0:D)<18446744073709551616)/\0<=A x.b/\A x.b<=1)/\(0<=Bx x/\Bx x<A n)/\B5 o x<(V x.us).length/\∃(f:Su),(Tp us o n u d f/\By=0/\n-f.i<n-x.i)/\o=o/\n=n/\h=h/\m=m/\(bif decide (a<0+A x.b)then 1 else 0)=A f.b/\B9 n n (G.wrap (Bx x+1)) f (B8 x o x a 0 x=V f.us\/QC (B8 x o x a 0 x) (V f.us)) ws ws ws ws else∃(b:E C),V x.us=V b/\o+n<=N b/\b.length<=2199023255552/\∃(v:E C),(N v=N us/\Sl 18446744073709551616 v o (vl d) d)/\o=o/\Ky b o n=vl d/\197=197/\1=1/\B4 b v b v/\197=197/\1=1/\B4 ws ws ws ws/\I) ?_
 delta Bx By B4 B5 B8 B9 CA
 simp only[Zs,R0,R1,R4,R2];have be:=U.le;have At:=p.le;refine⟨⟨⟨us,0,0⟩,⟨rfl,o6,o6,fun j Z=>by simp at Z,fun _ _=>rfl,by simp[C.mod_one]⟩,o6,o6,.inl rfl⟩,fun x z=>QE (fun q=> ?_) (fun q=> ?_)⟩
 ·have q:x.i<n:=(j9 q)
  obtain⟨e,v,W,g2,Y,L,M⟩:=z.step q U;have K:=z.len;have hb:=z.hb;simp only[T];refine QE (fun t=> ?_) (fun t=> ?_)
  ·have t:x.i<m:=(j9 t)
   have hu:=Yi (u/18446744073709551616^x.i) (by decide:0<18446744073709551616);refine⟨o3,_,KO (p.get x.i t),o3,v,KO W,o3,o3,by rw[Tf];omega,_,⟨Y,o5⟩,M,by rw[w64 o3];simp,.inl ?_⟩;rw[L,aI]
  ·have t: ¬x.i<m:=(j9 t)
   have R:u/18446744073709551616^x.i=0:=Yf (C.lt_of_lt_of_le p.lt (Zn o8 o3));rw[R,C.zero_mod]at L M;refine⟨o3,v,KO W,o3,o3,by rw[Tf];omega,_,⟨Y,o5⟩,M,by rw[w64 o3];simp,.inl ?_⟩;have e1:((v:D)-0-x.b) % 18446744073709551616=((d/18446744073709551616^x.i % 18446744073709551616:C):D):=L;rw[e1,aI]
 ·have q: ¬x.i<n:=(j9 q)
  have hi:=z.hi;have K:=z.len;have:x.i=n:=o3
  have l:Sl 18446744073709551616 x.us o n d:=⟨Yj (C.le_add_left d u) U.lt,o3,fun j Z=>z.low j o3⟩;exact⟨x.us,rfl,o3,o3,x.us,⟨K,l.cut⟩,QI3 l,.inl rfl⟩
def nk:XS:=fun e a _=>match e with
 | [.x F [.w k o n],.x F [.w f h m]]=>match a k,a f with
  | some (.row t 1 l),H (.row j 1 p)=>bif t.beq 197&&j.beq 197&& !(k.beq f)then
    H fun K=> ∃us c v u,l=V us/\p=V c/\(N us<=1099511627776/\c.length<=1099511627776)/\Sl 18446744073709551616 us o n v/\Sl 18446744073709551616 c h m u/\u<=v/\
     ∀b,N b=N us->Sl 18446744073709551616 b o (vl (v-u)) (v-u)->K (wO k o (vl (v-u))) (XW [(1000,k),(1001,f)] (QO [(1000,Jg b),(1001,Jg c)]) a)
    else S
  | _,_=>S
 | _=>S
theorem QTe:Xg 180 nk:=by
 refine⟨Qf func180 o4,fun l a d0 T c K D=> ?_⟩;unfold nk at c;split at c
 ·rename_i k o n M W m;split at c
  ·rename_i t xs t2 ys Y Z;cases j:t.beq 197&&t2.beq 197&& !(k.beq M)with
   | false=>rw[j]at c;cases c
   | true=>
    rw[j]at c;cases c
    simp only[Bool.and_eq_true,Bool.not_eq_true']at j;obtain⟨⟨I,q⟩,z⟩:=j;have I:=Yq I;have q:=Yq q;have z:k≠M:=fun e=>by subst e;simp at z
    subst I q;obtain⟨us,X,v,u,rfl,rfl,⟨hl,E⟩,hw,L,At,D⟩:=D;obtain⟨d,rfl⟩: ∃d,v=u+d:=⟨v-u,o3⟩;rw[(o3:u+d-u=d)]at D;refine Xc (R:=[(1000,k),(1001,M)]) (N:=[]) (Hl:=[(1000,Jg us),(1001,Jg X)]) eC QK func180 o4 o4 j6
     (as0:=[wO 1000 o n,wO 1001 W m]) ?_ (bg Y Z z rfl rfl rfl rfl) rfl o6 o6 (fun _ h=>by cases h) (fun x=>⟨fun p C=> ?_,fun p C b j=> ?_⟩) (QaD us X o n W m u d hl E hw L) (fun U V=> ?_)
    ·simp[X7,X2,XZ,(TG z).1,(TG z).2,wO]
    ·simp at C;rcases C with rfl | rfl
     ·exact fun h=>by have f:H (Jg _)=S:=h;cases f
     ·exact fun h=>by have f:H (Jg _)=S:=h;cases f
    ·simp at C;rcases C with rfl | rfl
     ·have f:H (Jg _)=H b:=j;cases f;rfl
     ·have f:H (Jg _)=H b:=j;cases f;rfl
    ·exact⟨_,rfl,D U V.1 V.2⟩
  ·cases c
 ·cases c
structure Hb where
 us:E C
 i:C
structure UP (us0:E C)(o n v s:C)(x:Hb):Prop where
  len:x.us.length=us0.length
  hi:x.i<=n
  low: ∀j,j<x.i->x.us[o+j]? =H (v/2^s/18446744073709551616^j % 18446744073709551616)
  high: ∀j,x.i<=j->x.us[o+j]? =us0[o+j]?
def QQe (us:E C)(o n v s:C):LI:=fun _=> .inv ⟨Hb,fun x=>⟨[(0,wO 1000 o n),(1,iA .i64 s),(15,iA .i64 n),(16,iA .i64 x.i)],[(1000,Jg x.us)]⟩,UP us o n v s,fun x=>n-x.i,fun _=>0⟩
theorem UP.step {a:E C}{x:Hb}(h:UP a o n v s x)(k:x.i<n)(p:Sl 18446744073709551616 a o n v):UP a o n v s ⟨x.us.set (o+x.i) (v/2^s/18446744073709551616^x.i % 18446744073709551616),x.i+1⟩:=by
 obtain⟨l,_,f,b⟩:=h;have m:=p.le;refine⟨(j9 l),k,fun j c=> ?_,fun j c=> ?_⟩
 ·simp only at c|-;by_cases e:j=x.i
  ·subst e;rw[Yd];simp;omega
  ·rw[Zr o3];exact f j o3
 ·simp only at c|-;rw[Zr o3];exact b j o3
theorem QJA:v/2^s/18446744073709551616^i=v/18446744073709551616^i/2^s:=by
 rw[f,f,Yo]
theorem QaE{b:C}(f:0<s)(h:s<64):YM .u64 (b:D) ((64-s:C):D)=((2^(64-s)*(b % 2^s):C):D):=by
 rw[UI (by simp[IntKind.bits]),T,J5];have e:(b:D)*2^(64-s)=((b*2^(64-s):C):D):=o6
 have c:(18446744073709551616:C)=2^(64-s)*2^s:=by rw[<-Y,(o3:64-s+s=64)]
 have a:b*2^(64-s) % 18446744073709551616=2^(64-s)*(b % 2^s):=by
  conv=>lhs;rw[c,Yo b,C.mul_mod_mul_left]
 rw[e,<-a];omega
theorem QaF(h:s<=64):w % 18446744073709551616 % 2^s=w % 2^s:=by
 apply C.mod_mod_of_dvd;rw[show(18446744073709551616:C)=2^64 from rfl];exact C.pow_dvd_pow 2 h
theorem QaG(h:s<=64):XE .u64 (d:D) (s:D)=((d/2^s:C):D):=by
 rw[JC (by simpa [IntKind.bits]using h) o3,T];simp
def Bz(a:Hb):=A a.i
def B1(a b:C)(c:Hb):=a+b+(Bz c).toNat
def B2(a b:C):=G.wrap ((A (64*a+b)).tdiv 64)
def B3(a:Hb)(b c:C)(d:Hb)(e:D)(f:C):=(V a.us).set (B1 b c d) [P (Q J (XE J e (A f)))]
def B6(a:Hb):=G.wrap (Bz a+1)
def B7(a b c:C):=(A a).toNat-(B2 b c).toNat
theorem QaH (us:E C)(o n v r s:C)(hl:us.length<=1099511627776)(hw:Sl 18446744073709551616 us o n v)(hr:r<=n)(hs:s<64):QM (Xp (X:=E C) T14 (oF f178) (QQe us (o+r) (n-r) (v/18446744073709551616^r) s) f178 [wO 1000 o n,iA .i64 ((64*r+s:C):D)] [(1000,Jg us)]
 (fun q=>N q=N us/\Sl 18446744073709551616 q (o+r) (vl (v/18446744073709551616^r/2^s)) (v/18446744073709551616^r/2^s)) (fun q=>⟨[(4,wO 1000 (o+r) (vl (v/18446744073709551616^r/2^s)))],[(1000,Jg q)]⟩)):=by
 refine HV ((64:D)≠0/\(0<=B2 r s/\B2 r s<=A n/\A n<=A n)/\(64:D)≠0/\bif decide ((A (64*r+s)).tmod 64>0)then(∃(x:Hb),(UP us (o+r) (n-r) (Bw v r) s x/\By=0)/\o+(B2 r s).toNat=o+r/\B7 n r s=n-r/\(A (64*r+s)).tmod 64=A s/\A (B7 n r s)=A (n-r)/\0=Bz x/\197=197/\1=1/\B4 us x.us us x.us/\I)/\∀(x:Hb),UP us (o+r) (n-r) (Bw v r) s x->By=0->bif decide (Bz x<A (n-r))then(0<=Bz x/\Bz x<A (n-r))/\∃(d:D),ldE (V x.us) (B1 o r x) 0 1=H [P (Q J d)]/\0<=A s/\(0<=Bz x/\Bz x<A (n-r))/\B1 o r x<(V x.us).length/\bif decide (B6 x<A (n-r))then(0<=Bz x/\Bz x<A (n-r))/\∃(K:D),ldE (B3 x o r x d s) (B1 o r x) 0 1=H [P (Q J K)]/\(0<=B6 x/\B6 x<A (n-r))/\∃(L:D),ldE (B3 x o r x d s) (o+r+(B6 x).toNat) 0 1=H [P (Q J L)]/\0<=G.wrap (64-A s)/\(0<=Bz x/\Bz x<A (n-r))/\B1 o r x<(B3 x o r x d s).length/\∃(k:Hb),(UP us (o+r) (n-r) (Bw v r) s k/\By=0/\n-r-k.i<n-r-x.i)/\o+r=o+r/\n-r=n-r/\A s=A s/\A (n-r)=A (n-r)/\B6 x=Bz k/\197=197/\1=1/\((B3 x o r x d s).set (B1 o r x) [P (Q J (orI J K (YM J L (G.wrap (64-A s)))))]=V k.us\/QC ((B3 x o r x d s).set (B1 o r x) [P (Q J (orI J K (YM J L (G.wrap (64-A s)))))]) (V k.us))/\I else∃(k:Hb),(UP us (o+r) (n-r) (Bw v r) s k/\By=0/\n-r-k.i<n-r-x.i)/\o+r=o+r/\n-r=n-r/\A s=A s/\A (n-r)=A (n-r)/\B6 x=Bz k/\197=197/\1=1/\(B3 x o r x d s=V k.us\/QC (B3 x o r x d s) (V k.us))/\I else∃(a:E C),V x.us=V a/\o+r+(n-r)<=N a/\a.length<=2199023255552/\∃(u:E C),(N u=N us/\Sl 18446744073709551616 u (o+r) (vl (Bw v r/2^s)) (Bw v r/2^s))/\o+r=o+r/\Ky a (o+r) (n-r)=vl (Bw v r/2^s)/\197=197/\1=1/\B4 a u a u/\I else∃(a:E C),V us=V a/\o+(B2 r s).toNat+B7 n r s<=N a/\a.length<=2199023255552/\∃(z:E C),(N z=N us/\Sl 18446744073709551616 z (o+r) (vl (Bw v r/2^s)) (Bw v r/2^s))/\o+(B2 r s).toNat=o+r/\Ky a (o+(B2 r s).toNat) (B7 n r s)=vl (Bw v r/2^s)/\197=197/\1=1/\B4 a z a z/\I) ?_
 delta Bz Bw By B1 B2 B4 B3 B6 B7
 simp only[Zs,R0,R1,R4];have ja:=hw.le;have e1:((64*r+s:C):D).tdiv 64=(r:D):=by rw[te o3];omega
 have e2:((64*r+s:C):D).tmod 64=(s:D):=by rw[tm o3];omega
 simp only[e1,e2,w64 (n:=(r:D)) o3,T,R0];have h:=hw.skip hr;generalize v/18446744073709551616^r=w at h|-;have t:=h.le;generalize o+r=p at h t|-;generalize n-r=m at h t|-;have M: ∀x:E C,N x=N us->Sl 18446744073709551616 x p m (w/2^s)-> ∃a:E C,V x=V a/\p+m<=N a/\a.length<=2199023255552/\ ∃y:E C,(N y=N us/\Sl 18446744073709551616 y p (vl (w/2^s)) (w/2^s))/\Ky a p m=vl (w/2^s)/\(V a=V y\/QC (V a) (V y)):=
  fun x l Lm=>⟨x,rfl,o3,o3,x,⟨l,Lm.cut⟩,QI3 Lm,.inl rfl⟩
 refine⟨o3,o3,o3,QE (fun R=>⟨⟨⟨us,0⟩,⟨rfl,o6,fun j hj=>by simp at hj,fun _ _=>rfl⟩,o6,.inl rfl⟩,fun x l=>QE (fun U=> ?_) (fun U=> ?_)⟩) (fun R=> ?_)⟩
 ·have R:0<s:=(j7 R)
  have U:x.i<m:=(j7 U)
  have b:=l.step U h;have be:=l.len;have gi:x.us[p+x.i]? =H (w/18446744073709551616^x.i % 18446744073709551616):=by rw[l.high _ (Yw _)];exact h.get _ U
  have hd:=Yi (w/18446744073709551616^x.i) (by decide:0<18446744073709551616);have hZ:0<2^s:=Z o8;have sd:=QI4 (w:=w/18446744073709551616^x.i) (s:=s) o3;have e3:G.wrap ((x.i:D)+1)=((x.i+1:C):D):=by rw[w64 o3];simp
  have e4:G.wrap (64-(s:D))=((64-s:C):D):=by rw[w64 o3];omega
  have At:w/18446744073709551616^x.i % 18446744073709551616/2^s<2^(64-s):=by
   apply Yr;rw[<-Y,(o3:s+(64-s)=64)];exact hd
  simp only[e3,e4,T];refine⟨o3,_,KO gi,o3,o3,by rw[Tf];omega,?_⟩;rw[QaG o3,aI];have gs:(x.us.set (p+x.i) (w/18446744073709551616^x.i % 18446744073709551616/2^s))[p+x.i]? =H (w/18446744073709551616^x.i % 18446744073709551616/2^s):=by
   rw[Yd];simp;omega
  refine QE (fun W=> ?_) (fun W=> ?_)
  ·have W:x.i+1<m:=(j7 W)
   have gn:(x.us.set (p+x.i) (w/18446744073709551616^x.i % 18446744073709551616/2^s))[p+(x.i+1)]? =H (w/18446744073709551616^(x.i+1) % 18446744073709551616):=by
    rw[Zr o3,l.high _ o3];exact h.get _ W
   refine⟨o3,_,KO gs,o3,_,KO gn,o3,o3,by rw[Tf,Yx];omega,_,⟨b,o5⟩,rfl,.inl ?_⟩;rw[QaE R hs,VD,QaF o3,H8 At ?_,aI,E.set_set]
   ·have e5:2^(64-s)*(w/18446744073709551616^(x.i+1) % 2^s)+w/18446744073709551616^x.i % 18446744073709551616/2^s=w/2^s/18446744073709551616^x.i % 18446744073709551616:=by
     rw[QJA,sd,e,f,C.add_comm]
    rw[e5]
   ·have:=Yi (w/18446744073709551616^(x.i+1)) hZ;have hB:(18446744073709551616:C)=2^(64-s)*2^s:=by rw[<-Y,(o3:64-s+s=64)]
    have h6:2^(64-s)*(w/18446744073709551616^(x.i+1) % 2^s+1)<=2^(64-s)*2^s:=C.mul_le_mul_left _ this;rw[Ym,<-hB]at h6;omega
  ·have W: ¬x.i+1<m:=(j8 W)
   refine⟨_,⟨b,o5⟩,rfl,.inl ?_⟩;have hn:x.i+1=m:=o3
   have e5:w/18446744073709551616^x.i % 18446744073709551616/2^s=w/2^s/18446744073709551616^x.i % 18446744073709551616:=by
    rw[QJA,sd,f,<-e,show x.i.succ=m from hn,Yf h.lt,C.zero_mod,C.mul_zero,C.add_zero]
   rw[e5]
 ·have U: ¬x.i<m:=(j8 U)
  have hi:=l.hi;have be:=l.len;exact M x.us be ⟨Yj (Yt _ _) h.lt,o3,fun j hj=>l.low j o3⟩
 ·have R:s=0:=(j8 R)
  subst R;rw[c,Yn]at M⊢;exact M us rfl h
def mM:XS:=fun c a _=>match c with
 | [.x F [.w k o n],.x F [.v (.int .i64 y)]]=>match a k with
  | some (.row t 1 f)=>bif t.beq 197 then
    H fun K=> ∃us v,f=V us/\us.length<=1099511627776/\Sl 18446744073709551616 us o n v/\(0<=y/\y<=64*n)/\
     ∀b e,N b=N us->Sl 18446744073709551616 b e (vl (v/2^y.toNat)) (v/2^y.toNat)->K (wO k e (vl (v/2^y.toNat))) (XW [(1000,k)] (QO [(1000,Jg b)]) a)
    else S
  | _=>S
 | _=>S
theorem QTf:Xg 178 mM:=by
 refine⟨Qf func178 o4,fun l a d c e K q=> ?_⟩;unfold mM at e;split at e
 ·rename_i k o n y;split at e
  ·rename_i t xs M;cases j:t.beq 197 with
   | false=>rw[j]at e;cases e
   | true=>
    rw[j]at e;cases e
    have V:=Yq j;subst V;obtain⟨us,v,rfl,U,X,⟨E,Z⟩,q⟩:=q;obtain⟨y,rfl⟩:=Zu E;obtain⟨r,s,rfl,hs⟩: ∃r s,y=64*r+s/\s<64:=⟨y/64,y % 64,o3,o3⟩;have W:v/2^((64*r+s:C):D).toNat=v/18446744073709551616^r/2^s:=by
     rw[T,Y,<-f,Yk]
    rw[W]at q;refine Xc (R:=[(1000,k)]) (N:=[]) (Hl:=[(1000,Jg us)]) eC QK func178 o4 o4 j6
     (as0:=[wO 1000 o n,iA .i64 ((64*r+s:C):D)]) ?_ (Kk M rfl rfl) rfl o6 o6 (fun _ h=>by cases h) (fun x=>⟨fun p m=> ?_,fun p m b j=> ?_⟩) (QaH us o n v r s U X o3 hs) (fun I L=> ?_)
    ·simp[X7,X2,XZ,lkB,wO,iA]
    ·simp at m;subst m;exact fun h=>by have z:H (Jg _)=S:=h;cases z
    ·simp at m;subst m;have z:H (Jg _)=H b:=j;cases z;rfl
    ·exact⟨_,rfl,q I (o+r) L.1 L.2⟩
  ·cases e
 ·cases e
def vE (l k:E M)(K:AV->Prop):Prop:=QN T8 (oF f86) (QNs (fd 4294967296 (wl (QG l)) (QG l)) (fd 4294967296 (wl (QG k)) (QG k))) f86 [ZY l,ZY k] K
theorem QGc (l:E M)(k:E M)(K:AV->Prop):vE l k K=(bif decide (G.wrap (A (QB (QG (O l).toList)).length+A (QB (QG (O k).toList)).length)<=8)then QG (O l).toList<18446744073709551616/\QG (O k).toList<18446744073709551616/\(0<=J.wrap (A (QG (O l).toList)*A (QG (O k).toList))/\J.wrap (A (QG (O l).toList)*A (QG (O k).toList))<18446744073709551616)/\K (AV.x F [Ch.b (J.wrap (A (QG (O l).toList)*A (QG (O k).toList))).toNat 64])else 8*(O l).toList.length<=1099511627776/\8*(O k).toList.length<=1099511627776/\(0<=G.wrap (A (wl (QG (O l).toList))+A (wl (QG (O k).toList)))/\G.wrap (A (wl (QG (O l).toList))+A (wl (QG (O k).toList)))<=G.wrap (A (wl (QG (O l).toList))+A (wl (QG (O k).toList)))/\4*G.wrap (A (wl (QG (O l).toList))+A (wl (QG (O k).toList)))<=281474976710656/\G.wrap (A (wl (QG (O l).toList))+A (wl (QG (O k).toList)))<=9223372036854775807)/\(∃(x:Td),(Tu (fd 4294967296 (wl (QG l)) (QG l)) (fd 4294967296 (wl (QG k)) (QG k)) x/\L.ofNat 0=0)/\0=0/\wl (QG (O l).toList)=(fd 4294967296 (wl (QG l)) (QG l)).length/\0=0/\wl (QG (O k).toList)=(fd 4294967296 (wl (QG k)) (QG k)).length/\0=0/\(G.wrap (A (wl (QG (O l).toList))+A (wl (QG (O k).toList)))).toNat=(fd 4294967296 (wl (QG l)) (QG l)).length+(fd 4294967296 (wl (QG k)) (QG k)).length/\0=0/\wl (QG (O l).toList)=(fd 4294967296 (wl (QG l)) (QG l)).length/\A (wl (QG (O l).toList))=A (fd 4294967296 (wl (QG l)) (QG l)).length/\0=A x.i/\202=202/\1=1/\(W (fd 4294967296 (wl (QG (O l).toList)) (QG (O l).toList))=W (fd 4294967296 (wl (QG l)) (QG l))\/QC (W (fd 4294967296 (wl (QG (O l).toList)) (QG (O l).toList))) (W (fd 4294967296 (wl (QG l)) (QG l))))/\202=202/\1=1/\(W (fd 4294967296 (wl (QG (O k).toList)) (QG (O k).toList))=W (fd 4294967296 (wl (QG k)) (QG k))\/QC (W (fd 4294967296 (wl (QG (O k).toList)) (QG (O k).toList))) (W (fd 4294967296 (wl (QG k)) (QG k))))/\202=202/\1=1/\(X (G.wrap (A (wl (QG (O l).toList))+A (wl (QG (O k).toList)))).toNat [P (Q Zo 0)]=W x.out\/QC (X (G.wrap (A (wl (QG (O l).toList))+A (wl (QG (O k).toList)))).toNat [P (Q Zo 0)]) (W x.out))/\I)/\∀(x:Td),Tu (fd 4294967296 (wl (QG l)) (QG l)) (fd 4294967296 (wl (QG k)) (QG k)) x->L.ofNat 0=0->bif decide (A x.i<A (fd 4294967296 (wl (QG l)) (QG l)).length)then(0<=A x.i/\A x.i<A (fd 4294967296 (wl (QG l)) (QG l)).length)/\∃(d:D),ldE (W (fd 4294967296 (wl (QG l)) (QG l))) (0+(A x.i).toNat) 0 1=H [P (Q Zo d)]/\(∃(a:TQ),(Sv (fd 4294967296 (wl (QG l)) (QG l)) (fd 4294967296 (wl (QG k)) (QG k)) a/\(fd 4294967296 (wl (QG l)) (QG l)).length-a.i=(fd 4294967296 (wl (QG l)) (QG l)).length-x.i)/\A x.i=A a.i/\d=A ((fd 4294967296 (wl (QG l)) (QG l)).getD a.i 0)/\0=A a.carry/\0=0/\(fd 4294967296 (wl (QG k)) (QG k)).length=(fd 4294967296 (wl (QG k)) (QG k)).length/\A (fd 4294967296 (wl (QG k)) (QG k)).length=A (fd 4294967296 (wl (QG k)) (QG k)).length/\0=A a.k/\0=0/\(fd 4294967296 (wl (QG l)) (QG l)).length=(fd 4294967296 (wl (QG l)) (QG l)).length/\0=0/\(fd 4294967296 (wl (QG k)) (QG k)).length=(fd 4294967296 (wl (QG k)) (QG k)).length/\0=0/\(fd 4294967296 (wl (QG l)) (QG l)).length+(fd 4294967296 (wl (QG k)) (QG k)).length=(fd 4294967296 (wl (QG l)) (QG l)).length+(fd 4294967296 (wl (QG k)) (QG k)).length/\0=0/\(fd 4294967296 (wl (QG l)) (QG l)).length=(fd 4294967296 (wl (QG l)) (QG l)).length/\A (fd 4294967296 (wl (QG l)) (QG l)).length=A (fd 4294967296 (wl (QG l)) (QG l)).length/\A x.i=A a.i/\202=202/\1=1/\(W (fd 4294967296 (wl (QG l)) (QG l))=W (fd 4294967296 (wl (QG l)) (QG l))\/QC (W (fd 4294967296 (wl (QG l)) (QG l))) (W (fd 4294967296 (wl (QG l)) (QG l))))/\202=202/\1=1/\(W (fd 4294967296 (wl (QG k)) (QG k))=W (fd 4294967296 (wl (QG k)) (QG k))\/QC (W (fd 4294967296 (wl (QG k)) (QG k))) (W (fd 4294967296 (wl (QG k)) (QG k))))/\202=202/\1=1/\(W x.out=W a.out\/QC (W x.out) (W a.out))/\I)/\∀(a:TQ),Sv (fd 4294967296 (wl (QG l)) (QG l)) (fd 4294967296 (wl (QG k)) (QG k)) a->(fd 4294967296 (wl (QG l)) (QG l)).length-a.i=(fd 4294967296 (wl (QG l)) (QG l)).length-x.i->bif decide (A a.k<A (fd 4294967296 (wl (QG k)) (QG k)).length)then(0<=A a.k/\A a.k<A (fd 4294967296 (wl (QG k)) (QG k)).length)/\∃(d:D),ldE (W (fd 4294967296 (wl (QG k)) (QG k))) (0+(A a.k).toNat) 0 1=H [P (Q Zo d)]/\(0<=G.wrap (A a.i+A a.k)/\G.wrap (A a.i+A a.k)<A ((fd 4294967296 (wl (QG l)) (QG l)).length+(fd 4294967296 (wl (QG k)) (QG k)).length))/\∃(c:D),ldE (W a.out) (0+(G.wrap (A a.i+A a.k)).toNat) 0 1=H [P (Q Zo c)]/\(0<=G.wrap (A a.i+A a.k)/\G.wrap (A a.i+A a.k)<A ((fd 4294967296 (wl (QG l)) (QG l)).length+(fd 4294967296 (wl (QG k)) (QG k)).length))/\0+(G.wrap (A a.i+A a.k)).toNat<(W a.out).length/\(0:D)<=32/\∃(b:TQ),(Sv (fd 4294967296 (wl (QG l)) (QG l)) (fd 4294967296 (wl (QG k)) (QG k)) b/\(fd 4294967296 (wl (QG l)) (QG l)).length-b.i=(fd 4294967296 (wl (QG l)) (QG l)).length-x.i/\(fd 4294967296 (wl (QG k)) (QG k)).length-b.k<(fd 4294967296 (wl (QG k)) (QG k)).length-a.k)/\A a.i=A b.i/\A ((fd 4294967296 (wl (QG l)) (QG l)).getD a.i 0)=A ((fd 4294967296 (wl (QG l)) (QG l)).getD b.i 0)/\XE J (J.wrap (A a.carry+J.wrap (J.wrap (J.wrap (A ((fd 4294967296 (wl (QG l)) (QG l)).getD a.i 0))*J.wrap d)+J.wrap c))) 32=A b.carry/\0=0/\(fd 4294967296 (wl (QG k)) (QG k)).length=(fd 4294967296 (wl (QG k)) (QG k)).length/\A (fd 4294967296 (wl (QG k)) (QG k)).length=A (fd 4294967296 (wl (QG k)) (QG k)).length/\G.wrap (A a.k+1)=A b.k/\0=0/\(fd 4294967296 (wl (QG l)) (QG l)).length=(fd 4294967296 (wl (QG l)) (QG l)).length/\0=0/\(fd 4294967296 (wl (QG k)) (QG k)).length=(fd 4294967296 (wl (QG k)) (QG k)).length/\0=0/\(fd 4294967296 (wl (QG l)) (QG l)).length+(fd 4294967296 (wl (QG k)) (QG k)).length=(fd 4294967296 (wl (QG l)) (QG l)).length+(fd 4294967296 (wl (QG k)) (QG k)).length/\0=0/\(fd 4294967296 (wl (QG l)) (QG l)).length=(fd 4294967296 (wl (QG l)) (QG l)).length/\A (fd 4294967296 (wl (QG l)) (QG l)).length=A (fd 4294967296 (wl (QG l)) (QG l)).length/\A a.i=A b.i/\202=202/\1=1/\(W (fd 4294967296 (wl (QG l)) (QG l))=W (fd 4294967296 (wl (QG l)) (QG l))\/QC (W (fd 4294967296 (wl (QG l)) (QG l))) (W (fd 4294967296 (wl (QG l)) (QG l))))/\202=202/\1=1/\(W (fd 4294967296 (wl (QG k)) (QG k))=W (fd 4294967296 (wl (QG k)) (QG k))\/QC (W (fd 4294967296 (wl (QG k)) (QG k))) (W (fd 4294967296 (wl (QG k)) (QG k))))/\202=202/\1=1/\((W a.out).set (0+(G.wrap (A a.i+A a.k)).toNat) [P (Q Zo (Zo.wrap (J.wrap (A a.carry+J.wrap (J.wrap (J.wrap (A ((fd 4294967296 (wl (QG l)) (QG l)).getD a.i 0))*J.wrap d)+J.wrap c)))))]=W b.out\/QC ((W a.out).set (0+(G.wrap (A a.i+A a.k)).toNat) [P (Q Zo (Zo.wrap (J.wrap (A a.carry+J.wrap (J.wrap (J.wrap (A ((fd 4294967296 (wl (QG l)) (QG l)).getD a.i 0))*J.wrap d)+J.wrap c)))))]) (W b.out))/\I else(0<=G.wrap (A a.i+A (fd 4294967296 (wl (QG k)) (QG k)).length)/\G.wrap (A a.i+A (fd 4294967296 (wl (QG k)) (QG k)).length)<A ((fd 4294967296 (wl (QG l)) (QG l)).length+(fd 4294967296 (wl (QG k)) (QG k)).length))/\0+(G.wrap (A a.i+A (fd 4294967296 (wl (QG k)) (QG k)).length)).toNat<(W a.out).length/\∃(b:Td),(Tu (fd 4294967296 (wl (QG l)) (QG l)) (fd 4294967296 (wl (QG k)) (QG k)) b/\L.ofNat 0=0/\(fd 4294967296 (wl (QG l)) (QG l)).length-b.i<(fd 4294967296 (wl (QG l)) (QG l)).length-x.i)/\0=0/\(fd 4294967296 (wl (QG l)) (QG l)).length=(fd 4294967296 (wl (QG l)) (QG l)).length/\0=0/\(fd 4294967296 (wl (QG k)) (QG k)).length=(fd 4294967296 (wl (QG k)) (QG k)).length/\0=0/\(fd 4294967296 (wl (QG l)) (QG l)).length+(fd 4294967296 (wl (QG k)) (QG k)).length=(fd 4294967296 (wl (QG l)) (QG l)).length+(fd 4294967296 (wl (QG k)) (QG k)).length/\0=0/\(fd 4294967296 (wl (QG l)) (QG l)).length=(fd 4294967296 (wl (QG l)) (QG l)).length/\A (fd 4294967296 (wl (QG l)) (QG l)).length=A (fd 4294967296 (wl (QG l)) (QG l)).length/\G.wrap (A a.i+1)=A b.i/\202=202/\1=1/\(W (fd 4294967296 (wl (QG l)) (QG l))=W (fd 4294967296 (wl (QG l)) (QG l))\/QC (W (fd 4294967296 (wl (QG l)) (QG l))) (W (fd 4294967296 (wl (QG l)) (QG l))))/\202=202/\1=1/\(W (fd 4294967296 (wl (QG k)) (QG k))=W (fd 4294967296 (wl (QG k)) (QG k))\/QC (W (fd 4294967296 (wl (QG k)) (QG k))) (W (fd 4294967296 (wl (QG k)) (QG k))))/\202=202/\1=1/\((W a.out).set (0+(G.wrap (A a.i+A (fd 4294967296 (wl (QG k)) (QG k)).length)).toNat) [P (Q Zo (Zo.wrap (A a.carry)))]=W b.out\/QC ((W a.out).set (0+(G.wrap (A a.i+A (fd 4294967296 (wl (QG k)) (QG k)).length)).toNat) [P (Q Zo (Zo.wrap (A a.carry)))]) (W b.out))/\I else ∃(e:E C),Yg ((fd 4294967296 (wl (QG l)) (QG l)).length+(fd 4294967296 (wl (QG k)) (QG k)).length) (Yh 0 (W x.out))=W e/\(∀(d:C),d∈e->d<4294967296)/\e.length<=1099511627776/\K (AV.x F [Ch.b (QI 4294967296 e) (32*N e)])):=o4
theorem QGd (l k:E M)(K:AV->Prop):vE l k K=qu (QG l) (8*N l) (QG k) (8*N k) K:=(QGc l k K).trans (QAz (QG l) (8*N l) (QG k) (8*N k) K).symm
def mI:Ctr:=fun a=>match a with
 | [.x F [.v (.string s)],.x F [.v (.string t)]]=>H fun K=>(N s.data.toList<=34359738368/\t.data.toList.length<=34359738368)/\K (bA (QG s.data.toList*QG t.data.toList) (8*N s.data.toList+8*N t.data.toList))
 | a=>af a
variable{g:C}
theorem QaI{z:E Value}:CtrOK Tryz.prog g z 86 mI:=by
 refine⟨Qf func86 o4,fun l T a K c=> ?_⟩;unfold mI at a;split at a
 ·rename_i s t;cases a
  have b:=tu (QG s.data.toList) (8*N s.data.toList) (QG t.data.toList) (8*N t.data.toList) (NatIs (QG s.data.toList*QG t.data.toList) (8*N s.data.toList+8*N t.data.toList)) o3 o3 (HW _) (HW _) fun _ h=>h;rw[<-QGd]at b;exact KN (Qk Qiu QK func86 o4 o4 j6 b) c.2
 ·exact ok_Mul.sound _ _ a K c
def L15:LC:=(177,sT)::(179,fS)::(86,mI)::L14
def M15:E (C×XS):=(180,nk)::(178,mM)::M14
theorem QdW:QF L15:= .cons QTc (.cons QTd (.cons QaI QdU))
theorem Tj:XK M15:= .cons QTe (.cons QTf QdV)
structure VG where
 xs:E C
 ys:E C
 ox:C
 oy:C
 x:C
 y:C
structure Hc (g:C)(z:VG):Prop where
 wx:Sl 18446744073709551616 z.xs z.ox (vl z.x) z.x
 wy:Sl 18446744073709551616 z.ys z.oy (vl z.y) z.y
 lx:z.xs.length<=1099511627776
 ly:z.ys.length<=1099511627776
 ex:z.x % 2=1
 ey:z.y % 2=1
 hg:K z.x z.y=g
structure eL (g:C)(z:VG):Prop where
 wx:Sl 18446744073709551616 z.xs z.ox (vl z.x) z.x
 wy:Sl 18446744073709551616 z.ys z.oy (vl z.y) z.y
 lx:z.xs.length<=1099511627776
 ly:z.ys.length<=1099511627776
 h:(z.x=0/\z.y=g)\/(vl z.x=1/\vl z.y=1/\K z.x z.y=g)
def eF (n m:C)(z:VG):SL:=⟨[(5,wO 15 z.ox (vl z.x)),(6,wO 17 z.oy (vl z.y)),(7,iA .i64 n),(8,iA .i64 m)],[(15,Jg z.xs),(17,Jg z.ys)]⟩
structure Vt where
 ys:E C
 oy:C
structure Ta (g:C)(z:Vt):Prop where
 wy:Sl 18446744073709551616 z.ys z.oy (vl g) g
 ly:z.ys.length<=1099511627776
def Bt (bs:E M)(g p:C):Prop:=bs[N bs-1-p]? =H (l (g/256^p))
structure fE (g:C)(z:Vt×E M×C):Prop where
 d:Ta g z.1
 len:z.2.1.length=8*vl g
 hi:z.2.2<=vl g
 low: ∀p,p<8*z.2.2->Bt z.2.1 g p
structure ZC (g:C)(z:Vt×E M×C×C):Prop where
 d:Ta g z.1
 len:z.2.1.length=8*vl g
 hi:z.2.2.1<vl g
 hk:z.2.2.2<=8
 low: ∀p,p<8*z.2.2.1->Bt z.2.1 g p
 new: ∀p,8*z.2.2.1+8-z.2.2.2<=p->p<8*z.2.2.1+8->Bt z.2.1 g p
def TF (bs:E M):Blk:= .row 5 1 (bs.map QW)
def QLc (n m g:C):LI:=fun a=>bif a.beq 4 then .inv ⟨VG,eF n m,Hc g,fun z=>z.x+z.y,fun _=>0⟩
 else bif a.beq 5 then .cut ⟨VG,eF n m,Hc g,fun _=>0,fun z=>z.x+z.y⟩
 else bif a.beq 7 then .cut ⟨VG,eF n m,fun z=>Hc g z/\z.y<=z.x,fun _=>0,fun z=>z.x+z.y⟩
 else bif a.beq 10 then .cut ⟨VG,eF n m,eL g,fun _=>0,fun _=>0⟩
 else bif a.beq 12 then .cut ⟨Vt,fun z=>⟨[(6,wO 17 z.oy (vl g)),(7,iA .i64 n),(8,iA .i64 m)],[(17,Jg z.ys)]⟩,Ta g,fun _=>0,fun _=>0⟩
 else bif a.beq 14 then .inv ⟨Vt×E M×C,fun z=>⟨[(6,wO 17 z.1.oy (vl g)),(7,iA .i64 n),(8,iA .i64 m),(9,.x F [.w 71 0 (8*vl g)]),(72,wO 17 z.1.oy (vl g)),(73,iA .i64 (vl g)),(74,iA .i64 z.2.2)],[(17,Jg z.1.ys),(71,TF z.2.1)]⟩,fE g,fun z=>vl g-z.2.2,fun _=>0⟩
 else .inv ⟨Vt×E M×C×C,fun z=>⟨[(6,wO 17 z.1.oy (vl g)),(7,iA .i64 n),(8,iA .i64 m),(9,.x F [.w 71 0 (8*vl g)]),(10,iA .i64 z.2.2.1),(11,iA .u64 (g/18446744073709551616^z.2.2.1 % 18446744073709551616:C)),(72,wO 17 z.1.oy (vl g)),(73,iA .i64 (vl g)),(74,iA .i64 z.2.2.1),(79,iA .i64 z.2.2.2)],[(17,Jg z.1.ys),(71,TF z.2.1)]⟩,ZC g,fun z=>8-z.2.2.2,fun z=>vl g-z.2.2.1⟩
def tC (m a n b r s:C)(g:C)(K:AV->Prop):Prop:=QN (mkT L15 M15 X4) (oF f154) (QLc r s g) f154 [bA m a,bA n b] K
theorem QC1 (m:C)(a:C)(n:C)(b:C)(r:C)(s:C)(g:C)(K:AV->Prop):tC m a n b r s g K=(a<=1099511627776/\b<=1099511627776/\∃(z:C)(v:C),Yg (vl m) (Yh 0 (V (fd 18446744073709551616 (vl m) m)))=V (fd 18446744073709551616 z v)/\v<18446744073709551616^z/\v≠0/\z<=1099511627776/\∀(k:C),IsEv v k->k<64*z->∃(R:C)(v:C),Yg (vl n) (Yh 0 (V (fd 18446744073709551616 (vl n) n)))=V (fd 18446744073709551616 R v)/\v<18446744073709551616^R/\v≠0/\R<=1099511627776/\∀(l:C),IsEv v l->l<64*R->∃(us:E C)(v:C),V (fd 18446744073709551616 (vl m) m)=V us/\us.length<=1099511627776/\Sl 18446744073709551616 us 0 (vl m) v/\(0<=A k/\A k<=64*A (vl m))/\∀(h:E C) (o':C),N h=N us->Sl 18446744073709551616 h o' (vl (v/2^(A k).toNat)) (v/2^(A k).toNat)->∃(us:E C)(T:C),V (fd 18446744073709551616 (vl n) n)=V us/\us.length<=1099511627776/\Sl 18446744073709551616 us 0 (vl n) T/\(0<=A l/\A l<=64*A (vl n))/\∀(j:E C) (Z:C),N j=N us->Sl 18446744073709551616 j Z (vl (T/2^(A l).toNat)) (T/2^(A l).toNat)->((∃(x:VG),(Hc g x/\L.ofNat 0=0)/\o'=x.ox/\vl (v/2^(A k).toNat)=vl x.x/\Z=x.oy/\vl (T/2^(A l).toNat)=vl x.y/\A k=A r/\A l=A s/\197=197/\1=1/\(V h=V x.xs\/QC (V h) (V x.xs))/\197=197/\1=1/\(V j=V x.ys\/QC (V j) (V x.ys))/\I)/\∀(x:VG),Hc g x->L.ofNat 0=0->(bif decide (A (vl x.x)>1)then ∃(c:VG),(Hc g c/\c.x+c.y=x.x+x.y)/\x.ox=c.ox/\vl x.x=vl c.x/\x.oy=c.oy/\vl x.y=vl c.y/\A r=A r/\A s=A s/\197=197/\1=1/\(V x.xs=V c.xs\/QC (V x.xs) (V c.xs))/\197=197/\1=1/\(V x.ys=V c.ys\/QC (V x.ys) (V c.ys))/\I else bif decide (A (vl x.y)>1)then ∃(c:VG),(Hc g c/\c.x+c.y=x.x+x.y)/\x.ox=c.ox/\vl x.x=vl c.x/\x.oy=c.oy/\vl x.y=vl c.y/\A r=A r/\A s=A s/\197=197/\1=1/\(V x.xs=V c.xs\/QC (V x.xs) (V c.xs))/\197=197/\1=1/\(V x.ys=V c.ys\/QC (V x.ys) (V c.ys))/\I else ∃(c:VG),(eL g c/\L.ofNat 0=0)/\x.ox=c.ox/\vl x.x=vl c.x/\x.oy=c.oy/\vl x.y=vl c.y/\A r=A r/\A s=A s/\197=197/\1=1/\(V x.xs=V c.xs\/QC (V x.xs) (V c.xs))/\197=197/\1=1/\(V x.ys=V c.ys\/QC (V x.ys) (V c.ys))/\I)/\∀(c:VG),Hc g c->c.x+c.y=x.x+x.y->(∃(v:C)(u:C),Yg (vl c.x) (Yh c.ox (V c.xs))=V (fd 18446744073709551616 (vl v) v)/\Yg (vl c.y) (Yh c.oy (V c.ys))=V (fd 18446744073709551616 (vl u) u)/\vl v<=1099511627776/\bif decide (v<u)then ∃(e:VG),((Hc g e/\e.y<=e.x)/\e.x+e.y=x.x+x.y)/\c.oy=e.ox/\vl c.y=vl e.x/\c.ox=e.oy/\vl c.x=vl e.y/\A r=A r/\A s=A s/\197=197/\1=1/\(V c.ys=V e.xs\/QC (V c.ys) (V e.xs))/\197=197/\1=1/\(V c.xs=V e.ys\/QC (V c.xs) (V e.ys))/\I else ∃(e:VG),((Hc g e/\e.y<=e.x)/\e.x+e.y=x.x+x.y)/\c.ox=e.ox/\vl c.x=vl e.x/\c.oy=e.oy/\vl c.y=vl e.y/\A r=A r/\A s=A s/\197=197/\1=1/\(V c.xs=V e.xs\/QC (V c.xs) (V e.xs))/\197=197/\1=1/\(V c.ys=V e.ys\/QC (V c.ys) (V e.ys))/\I)/\∀(e:VG),Hc g e/\e.y<=e.x->e.x+e.y=x.x+x.y->∃(us:E C)(ws:E C)(v:C)(u:C),V e.xs=V us/\V e.ys=V ws/\(N us<=1099511627776/\ws.length<=1099511627776)/\Sl 18446744073709551616 us e.ox (vl e.x) v/\Sl 18446744073709551616 ws e.oy (vl e.y) u/\u<=v/\∀(h:E C),N h=N us->Sl 18446744073709551616 h e.ox (vl (v-u)) (v-u)->bif A (vl (v-u))==0 then ∃(x:VG),(eL g x/\L.ofNat 0=0)/\e.ox=x.ox/\vl (v-u)=vl x.x/\e.oy=x.oy/\vl e.y=vl x.y/\A r=A r/\A s=A s/\197=197/\1=1/\(V h=V x.xs\/QC (V h) (V x.xs))/\197=197/\1=1/\(V ws=V x.ys\/QC (V ws) (V x.ys))/\I else ∃(n:C)(W:C),Yg (vl (v-u)) (Yh e.ox (V h))=V (fd 18446744073709551616 n W)/\W<18446744073709551616^n/\W≠0/\n<=1099511627776/\∀(p:C),IsEv W p->p<64*n->∃(us:E C)(Y:C),V h=V us/\us.length<=1099511627776/\Sl 18446744073709551616 us e.ox (vl (v-u)) Y/\(0<=A p/\A p<=64*A (vl (v-u)))/\∀(h:E C) (o':C),N h=N us->Sl 18446744073709551616 h o' (vl (Y/2^(A p).toNat)) (Y/2^(A p).toNat)->∃(f:VG),(Hc g f/\L.ofNat 0=0/\f.x+f.y<x.x+x.y)/\o'=f.ox/\vl (Y/2^(A p).toNat)=vl f.x/\e.oy=f.oy/\vl e.y=vl f.y/\A r=A r/\A s=A s/\197=197/\1=1/\(V h=V f.xs\/QC (V h) (V f.xs))/\197=197/\1=1/\(V ws=V f.ys\/QC (V ws) (V f.ys))/\I)/\∀(x:VG),eL g x->L.ofNat 0=0->(bif A (vl x.x)==1 then bif A (vl x.y)==1 then((0:D)<=0/\0<A (vl x.x))/\∃(d:D),ldE (V x.xs) (x.ox+0) 0 1=H [P (Q J d)]/\((0:D)<=0/\0<A (vl x.y))/\∃(t:D),ldE (V x.ys) (x.oy+0) 0 1=H [P (Q J t)]/\((0<=d/\d<18446744073709551616)/\0<=t/\t<18446744073709551616)/\((0:D)<=0/\0<A (vl x.y))/\x.oy+0<(V x.ys).length/\∃(c:Vt),(Ta g c/\L.ofNat 0=0)/\x.oy=c.oy/\vl x.y=vl g/\A r=A r/\A s=A s/\197=197/\1=1/\((V x.ys).set (x.oy+0) [P (Q J (A (d.toNat.gcd t.toNat)))]=V c.ys\/QC ((V x.ys).set (x.oy+0) [P (Q J (A (d.toNat.gcd t.toNat)))]) (V c.ys))/\I else ∃(c:Vt),(Ta g c/\L.ofNat 0=0)/\x.oy=c.oy/\vl x.y=vl g/\A r=A r/\A s=A s/\197=197/\1=1/\(V x.ys=V c.ys\/QC (V x.ys) (V c.ys))/\I else ∃(c:Vt),(Ta g c/\L.ofNat 0=0)/\x.oy=c.oy/\vl x.y=vl g/\A r=A r/\A s=A s/\197=197/\1=1/\(V x.ys=V c.ys\/QC (V x.ys) (V c.ys))/\I)/\∀(x:Vt),Ta g x->L.ofNat 0=0->(0<=G.wrap (8*A (vl g))/\G.wrap (8*A (vl g))<=G.wrap (8*A (vl g))/\1*G.wrap (8*A (vl g))<=281474976710656/\G.wrap (8*A (vl g))<=9223372036854775807)/\(∃(c:Vt×E M×C),(fE g c/\L.ofNat 0=0)/\x.oy=c.1.oy/\vl g=vl g/\A r=A r/\A s=A s/\0=0/\(G.wrap (8*A (vl g))).toNat=8*vl g/\x.oy=c.1.oy/\vl g=vl g/\A (vl g)=A (vl g)/\0=A c.2.2/\197=197/\1=1/\(V x.ys=V c.1.ys\/QC (V x.ys) (V c.1.ys))/\5=5/\1=1/\(X (G.wrap (8*A (vl g))).toNat [P (Q Zw 0)]=U QW c.2.1\/QC (X (G.wrap (8*A (vl g))).toNat [P (Q Zw 0)]) (U QW c.2.1))/\I)/\∀(x:Vt×E M×C),fE g x->L.ofNat 0=0->bif decide (A x.2.2<A (vl g))then(0<=A x.2.2/\A x.2.2<A (vl g))/\∃(d:D),ldE (V x.1.ys) (x.1.oy+(A x.2.2).toNat) 0 1=H [P (Q J d)]/\(∃(c:Vt×E M×C×C),(ZC g c/\vl g-c.2.2.1=vl g-x.2.2)/\x.1.oy=c.1.oy/\vl g=vl g/\A r=A r/\A s=A s/\0=0/\8*vl g=8*vl g/\A x.2.2=A c.2.2.1/\d=A (g/18446744073709551616^c.2.2.1%18446744073709551616)/\x.1.oy=c.1.oy/\vl g=vl g/\A (vl g)=A (vl g)/\A x.2.2=A c.2.2.1/\0=A c.2.2.2/\197=197/\1=1/\(V x.1.ys=V c.1.ys\/QC (V x.1.ys) (V c.1.ys))/\5=5/\1=1/\(U QW x.2.1=U QW c.2.1\/QC (U QW x.2.1) (U QW c.2.1))/\I)/\∀(c:Vt×E M×C×C),ZC g c->vl g-c.2.2.1=vl g-x.2.2->bif decide (A c.2.2.2<8)then 0<=G.wrap (56-G.wrap (8*A c.2.2.2))/\(0<=G.wrap (G.wrap (8*G.wrap (G.wrap (A (vl g)-1)-A c.2.2.1))+A c.2.2.2)/\G.wrap (G.wrap (8*G.wrap (G.wrap (A (vl g)-1)-A c.2.2.1))+A c.2.2.2)<A (8*vl g))/\0+(G.wrap (G.wrap (8*G.wrap (G.wrap (A (vl g)-1)-A c.2.2.1))+A c.2.2.2)).toNat<(U QW c.2.1).length/\∃(f:Vt×E M×C×C),(ZC g f/\vl g-f.2.2.1=vl g-x.2.2/\8-f.2.2.2<8-c.2.2.2)/\c.1.oy=f.1.oy/\vl g=vl g/\A r=A r/\A s=A s/\0=0/\8*vl g=8*vl g/\A c.2.2.1=A f.2.2.1/\A (g/18446744073709551616^c.2.2.1%18446744073709551616)=A (g/18446744073709551616^f.2.2.1%18446744073709551616)/\c.1.oy=f.1.oy/\vl g=vl g/\A (vl g)=A (vl g)/\A c.2.2.1=A f.2.2.1/\G.wrap (A c.2.2.2+1)=A f.2.2.2/\197=197/\1=1/\(V c.1.ys=V f.1.ys\/QC (V c.1.ys) (V f.1.ys))/\5=5/\1=1/\((U QW c.2.1).set (0+(G.wrap (G.wrap (8*G.wrap (G.wrap (A (vl g)-1)-A c.2.2.1))+A c.2.2.2)).toNat) [P (Q Zw (Zw.wrap (XE J (A (g/18446744073709551616^c.2.2.1%18446744073709551616)) (G.wrap (56-G.wrap (8*A c.2.2.2))))))]=U QW f.2.1\/QC ((U QW c.2.1).set (0+(G.wrap (G.wrap (8*G.wrap (G.wrap (A (vl g)-1)-A c.2.2.1))+A c.2.2.2)).toNat) [P (Q Zw (Zw.wrap (XE J (A (g/18446744073709551616^c.2.2.1%18446744073709551616)) (G.wrap (56-G.wrap (8*A c.2.2.2))))))]) (U QW f.2.1))/\I else ∃(f:Vt×E M×C),(fE g f/\L.ofNat 0=0/\vl g-f.2.2<vl g-x.2.2)/\c.1.oy=f.1.oy/\vl g=vl g/\A r=A r/\A s=A s/\0=0/\8*vl g=8*vl g/\c.1.oy=f.1.oy/\vl g=vl g/\A (vl g)=A (vl g)/\G.wrap (A c.2.2.1+1)=A f.2.2/\197=197/\1=1/\(V c.1.ys=V f.1.ys\/QC (V c.1.ys) (V f.1.ys))/\5=5/\1=1/\(U QW c.2.1=U QW f.2.1\/QC (U QW c.2.1) (U QW f.2.1))/\I else(8:D)≠0/\(0<=G.wrap (G.wrap ((bif F then if A s>A r then A s else A r else if A s<A r then A s else A r).tdiv 8)+1)/\G.wrap (G.wrap ((bif F then if A s>A r then A s else A r else if A s<A r then A s else A r).tdiv 8)+1)<=G.wrap (G.wrap ((bif F then if A s>A r then A s else A r else if A s<A r then A s else A r).tdiv 8)+1)/\1*G.wrap (G.wrap ((bif F then if A s>A r then A s else A r else if A s<A r then A s else A r).tdiv 8)+1)<=281474976710656/\G.wrap (G.wrap ((bif F then if A s>A r then A s else A r else if A s<A r then A s else A r).tdiv 8)+1)<=9223372036854775807)/\(8:D)≠0/\0<=(bif F then if A s>A r then A s else A r else if A s<A r then A s else A r).tmod 8/\((0:D)<=0/\0<A (G.wrap (G.wrap ((bif F then if A s>A r then A s else A r else if A s<A r then A s else A r).tdiv 8)+1)).toNat)/\0<(X (G.wrap (G.wrap ((bif F then if A s>A r then A s else A r else if A s<A r then A s else A r).tdiv 8)+1)).toNat [P (Q Zw 0)]).length/\∃(bs:E M),Yg (8*vl g) (Yh 0 (U QW x.2.1))=U QW bs/\∃(q:E M),Yg (G.wrap (G.wrap ((bif F then if A s>A r then A s else A r else if A s<A r then A s else A r).tdiv 8)+1)).toNat (Yh 0 ((X (G.wrap (G.wrap ((bif F then if A s>A r then A s else A r else if A s<A r then A s else A r).tdiv 8)+1)).toNat [P (Q Zw 0)]).set 0 [P (Q Zw (YM Zw 1 ((bif F then if A s>A r then A s else A r else if A s<A r then A s else A r).tmod 8)))]))=U QW q/\((O bs).toList.length<=34359738368/\(O q).toList.length<=34359738368)/\K (AV.x F [Ch.b (QG (O bs).toList*QG (O q).toList) (8*(O bs).toList.length+8*(O q).toList.length)])):=o4
theorem IsEv.le_of(h:IsEv v r)(k:IsEv v s):s<=r:=by
 obtain⟨q,c⟩:=h;obtain⟨p,b⟩:=k;rcases Ye r s with a | a
 ·exfalso;rw[(o3:s=r+(s-r-1+1)),Y,Yb]at b;have e:2^r*(2*q+1)=2^r*(2*(2^(s-r-1)*(2*p+1))):=by rw[<-c,b];simp only[Zy]
  have:=C.eq_of_mul_eq_mul_left (Z o8) e;omega
 ·exact a
theorem IsEv.uniq(h:IsEv v r)(k:IsEv v s):r=s:=C.le_antisymm (k.le_of h) (h.le_of k)
theorem Hc.swap{z:VG}(h:Hc g z):Hc g ⟨z.ys,z.xs,z.oy,z.ox,z.y,z.x⟩:=⟨h.wy,h.wx,h.ly,h.lx,h.ey,h.ex,by simp only;rw[Yp];exact h.hg⟩
theorem mK (bs:E M)(i:C)(b:M)(n:D)(h:n=(b.toNat:D)):(bs.map QW).set i [.v (.int .u8 n)]=(bs.set i b).map QW:=by rw[E.map_set,h];rfl
theorem QJC{j:C}(h:j<=7):l (w % 18446744073709551616/2^(8*j))=l (w/256^j):=by
 have e:(18446744073709551616:C)=256^j*256^(8-j):=by rw[<-Y,(o3:j+(8-j)=8)]
 rw[<-J8];have a:w % 18446744073709551616/256^j=w/256^j % 256^(8-j):=by
  conv=>lhs;rw[e]
  rw[C.mod_mul_right_div_self]
 rw[a];apply M.toNat_inj.1;rw[Zz,Zz];apply C.mod_mod_of_dvd;exact⟨256^(7-j),by rw[(o3:8-j=(7-j)+1),Yb (m:=256)]⟩
variable{bs:E M}
theorem QTg: ∀{g:Nat},(∀p,p<Sj bs->Bt bs g p)->QG bs=g % 256^bs.length:=by
 induction bs using Up with
 | h0=>intro g _;simp[KA,Nat.mod_one]
 | h1 l b ih=>
  intro g h;have hb:=h 0 o6;unfold Bt at hb;simp at hb;have hl: ∀p,p<Sj l->Bt l (g/256) p:=by
   intro p hp;have:=h (p+1) o9;unfold Bt at this|-;rw[List.length_append,List.length_singleton,(o3:l.length+1-1-(p+1)=Sj l-1-p),List.getElem?_append_left o3]at this;rw[this,Zg,<-Yb]
  rw[YX,ih hl,List.length_append,List.length_singleton,hb,Zz,Yb (m:=256) (n:=Sj l),Yy];omega
theorem QTh (q:C):QG (X q 0)=0:=by
 induction q with
 | zero=>rfl
 | succ q a=>rw[E.replicate_succ,Vd,a];simp
theorem QQf (q x:C)(h:x<256):(X (q+1) [P (.int .u8 0)]).set 0 [.v (.int .u8 (x:D))]=(l x::X q 0).map QW:=by
 rw[E.replicate_succ,E.set_cons_zero,E.map_cons,E.map_replicate];congr 1;show[P (.int .u8 (x:D))]=[P (.int .u8 ((l x).toNat:D))]
 rw[Zz,Zp h]
theorem QQg (q t:C)(h:t<8):QG (l (2^t)::X q 0)=2^(8*q+t):=by
 have:(2:C)^t<=2^7:=Zn o8 o3;rw[Vd,QTh,E.length_replicate,Zz,Zp o3,C.add_zero,Y,Yo,J8]
theorem Bt.set{p q:C}{b:M}(h:Bt bs g p)(a:q=N bs-1-p->False):Bt (bs.set q b) g p:=by
 unfold Bt at h|-;rw[Yx,Zr a];exact h
theorem Bt.new{p:C}(h:p<N bs):Bt (bs.set (N bs-1-p) (l (g/256^p))) g p:=by
 unfold Bt;rw[Yx,Yd];simp;omega
theorem ZC.step{q:Vt}{k:C}(h:ZC g (q,bs,i,k))(hk:k<8):ZC g (q,bs.set (8*(vl g-1-i)+k) (l (g/256^(8*i+7-k))),i,k+1):=by
 obtain⟨d,a,j,_,b,c⟩:=h;simp only at a j b c;have e:8*(vl g-1-i)+k=N bs-1-(8*i+7-k):=o3
 refine⟨d,(j9 a),j,o5,fun p m=> ?_,fun p z f=> ?_⟩
 ·simp only at m|-;exact(b p m).set o3
 ·simp only at z f|-;by_cases t:p=8*i+7-k
  ·rw[e,t];exact Bt.new o3
  ·exact(c p o3 f).set o3
theorem QTi (m a n b r s:Nat)(ha:a<=8589934592)(hb:b<=8589934592)(hm:m<2^a)(hn:n<2^b)(er:IsEv m r)(es:IsEv n s):QM (tC m a n b r s (Zk (m/2^r) (n/2^s)) (NatIs (Zk m n) a)):=by
 refine⟨?_⟩;rw[QC1];have m0:=er.ne;have n0:=es.ne;have lm:=Xe hm;have ln:=Xe hn;have vm:vl m<=1073741825:=by unfold vl;omega
 have vn:vl n<=1073741825:=by unfold vl;omega
 have om:=er.odd;have on:=es.odd;have hgcd:Zk m n=2^min r s*Zk (m/2^r) (n/2^s):=by
  conv=>lhs;rw[er.back,es.back]
  exact QI7 om on
 have g0:Zk (m/2^r) (n/2^s)≠0:=by
  intro e;have:=Nat.gcd_eq_zero_iff.1 e;omega
 have hpos:0<m/2^r:=Nat.pos_of_ne_zero fun e=>by rw[e]at om;cases om
 have gle:Zk (m/2^r) (n/2^s)<=m:=Nat.le_trans (Ys _ hpos) (Yt _ _);have hga:Zk m n<2^a:=Yj (Ys _ o3) hm;have hr:r<64*vl m:=er.lt (by have:=Vo m;rwa [show(18446744073709551616:Nat)=2^64 from rfl,<-Yk]at this);have hs:s<64*vl n:=es.lt (by have:=Vo n;rwa [show(18446744073709551616:Nat)=2^64 from rfl,<-Yk]at this);have vg:vl (Zk (m/2^r) (n/2^s))<=1073741825:=Nat.le_trans (kg gle) vm;simp only[Zs,R0,R1,Nat.zero_add,R4];have wm:Sl 18446744073709551616 (fd 18446744073709551616 (vl m) m) 0 (vl m) m:= .of_fd (Vo m) rfl;have wn:Sl 18446744073709551616 (fd 18446744073709551616 (vl n) n) 0 (vl n) n:= .of_fd (Vo n) rfl
 have fm:(fd 18446744073709551616 (vl m) m).length=vl m:=Qn;have fn:(fd 18446744073709551616 (vl n) n).length=vl n:=Qn;have tm':Yg (vl m) (Yh 0 (V (fd 18446744073709551616 (vl m) m)))=V (fd 18446744073709551616 (vl m) m):=by rw[Yv,aq,Ya o3]
 have tn':Yg (vl n) (Yh 0 (V (fd 18446744073709551616 (vl n) n)))=V (fd 18446744073709551616 (vl n) n):=by rw[Yv,aq,Ya o3]
 refine⟨o3,o3,vl m,m,tm',Vo m,m0,o3,fun r1 h1 _=> ?_⟩;have:=er.uniq h1;subst this;refine⟨vl n,n,tn',Vo n,n0,o3,fun s1 h1 _=> ?_⟩;have:=es.uniq h1;subst this;refine⟨_,m,rfl,o3,wm,o3,fun us ox lus wus=>⟨_,n,rfl,o3,wn,o3,fun ws oy lws wws=> ?_⟩⟩;simp only[Zf,R0]at wus wws⊢;have hq1:m/2^r<=m:=Yt _ _;have hq2:n/2^s<=n:=Yt _ _;generalize hgg:Zk (m/2^r) (n/2^s)=g at*;generalize m/2^r=m1 at*;generalize n/2^s=n1 at*;refine⟨⟨⟨⟨us,ws,ox,oy,m1,n1⟩,⟨wus,wws,o5,o5,om,on,hgg⟩,rfl,rfl,rfl,rfl,.inl rfl,.inl rfl⟩,fun z hz=>⟨?_,fun z1 hz1 e1=>⟨?_,fun z2 hz2 e2=> ?_⟩⟩⟩,fun z hz=>⟨?_,fun y hy=> ?_⟩⟩
 ·-- the head
  refine QE (fun h=>⟨z,⟨hz,rfl⟩,rfl,rfl,rfl,rfl,.inl rfl,.inl rfl⟩) (fun h=>QE (fun h'=>⟨z,⟨hz,rfl⟩,rfl,rfl,rfl,rfl,.inl rfl,.inl rfl⟩) (fun h'=> ?_));have h:=R6 h;have h':=R6 h';have h1:vl z.x≠0:=fun e=>by have:=W5.1 e;have:=hz.ex;omega
  have h2:vl z.y≠0:=fun e=>by have:=W5.1 e;have:=hz.ey;omega
  exact⟨z,⟨hz.wx,hz.wy,hz.lx,hz.ly,.inr ⟨o3,o3,hz.hg⟩⟩,rfl,rfl,rfl,rfl,.inl rfl,.inl rfl⟩
 ·-- the greater one first
  have lx:=hz1.wx.le;have llx:=hz1.lx;refine⟨z1.x,z1.y,by rw[sm,aq,hz1.wx.win],by rw[sm,aq,hz1.wy.win],o3,QE (fun h=> ?_) (fun h=> ?_)⟩
  ·have h:=R5 h;exact⟨⟨z1.ys,z1.xs,z1.oy,z1.ox,z1.y,z1.x⟩,⟨⟨hz1.swap,Nat.le_of_lt h⟩,o5⟩,rfl,rfl,rfl,rfl,.inl rfl,.inl rfl⟩
  ·have h:=R6 h;exact⟨z1,⟨⟨hz1,o3⟩,e1⟩,rfl,rfl,rfl,rfl,.inl rfl,.inl rfl⟩
 ·-- the difference, halved
  obtain⟨hz2,hle⟩:=hz2;have llx:=hz2.lx;have lly:=hz2.ly;have hey:=hz2.ey;have hex:=hz2.ex;refine⟨z2.xs,z2.ys,z2.x,z2.y,rfl,rfl,⟨llx,lly⟩,hz2.wx,hz2.wy,hle,fun us' lus' wus'=>QE (fun h=> ?_) (fun h=> ?_)⟩
  ·have h:vl (z2.x-z2.y)=0:=by have:=eq_of_beq h;omega
   have h0:=W5.1 h;refine⟨⟨us',z2.ys,z2.ox,z2.oy,z2.x-z2.y,z2.y⟩,⟨wus',hz2.wy,o5,lly,.inl ⟨h0,?_⟩⟩,rfl,rfl,rfl,rfl,.inl rfl,.inl rfl⟩;simp only;have:=hz2.hg;rw[(o3:z2.x=z2.y),Nat.gcd_self]at this;exact this
  ·have h:vl (z2.x-z2.y)≠0:=fun e=>by rw[e]at h;simp at h
   have h0:z2.x-z2.y≠0:=fun e=>h (W5.2 e);have lx':=wus'.le;refine⟨_,z2.x-z2.y,by rw[sm,aq,wus'.win],wus'.lt,h0,o3,fun t ht htl=>⟨us',z2.x-z2.y,rfl,o3,wus',o3,fun us2 o2 lus2 wus2=> ?_⟩⟩;have hodd:=ht.odd;have hback:=ht.back;have ht1:t≠0:=fun e=>by
    subst e;rw[Zl,Yn]at hodd;omega
   have hp2:2*((z2.x-z2.y)/2^t)<=z2.x-z2.y:=by
    have e:2^t=2*2^(t-1):=by rw[<-Yb];congr 1;omega
    have h1:1*((z2.x-z2.y)/2^t)<=2^(t-1)*((z2.x-z2.y)/2^t):=Nat.mul_le_mul_right _ (Zi o8);have h2:z2.x-z2.y=2*(2^(t-1)*((z2.x-z2.y)/2^t)):=by
     rw[<-Zy,<-e];exact hback
    omega
   refine⟨⟨us2,z2.ys,o2,z2.oy,(z2.x-z2.y)/2^t,z2.y⟩,⟨⟨wus2,hz2.wy,o5,lly,hodd,hey,?_⟩,?_⟩,rfl,rfl,rfl,rfl,.inl rfl,.inl rfl⟩
   ·simp only;rw[<-hz2.hg,<-QTa hle];conv=>rhs;rw[hback]
    exact(UO t hey).symm
   ·simp only;omega
 ·-- behind the loop
  have wy:=hz.wy;have wx:=hz.wx;have lly:=hz.ly;have fin:z.y=g-> ∃x_1:Vt,Ta g x_1/\z.oy=x_1.oy/\vl z.y=vl g/\(V z.ys=V x_1.ys\/QC (V z.ys) (V x_1.ys)):=fun e=>by
   subst e;exact⟨⟨z.ys,z.oy⟩,⟨wy,lly⟩,rfl,rfl,.inl rfl⟩
  refine QE (fun h=>QE (fun h'=> ?_) (fun h'=> ?_)) (fun h=> ?_)
  ·have h:vl z.x=1:=by have:=eq_of_beq h;omega
   have h':vl z.y=1:=by have:=eq_of_beq h';omega
   have hc:Zk z.x z.y=g:=by
    rcases hz.h with⟨h0,_⟩ | ⟨_,_,h⟩
    ·rw[W5.2 h0]at h;cases h
    ·exact h
   rw[h]at wx;rw[h']at wy;have gx:=wx.get 0 o3;have gy:=wy.get 0 o3;have lx:=wx.lt;have ly:=wy.lt;have hle:=wy.le;rw[Nat.pow_one]at lx ly;rw[Zl,Yn,Zp lx]at gx;rw[Zl,Yn,Zp ly]at gy;have y0:0<z.y:=Nat.pos_of_ne_zero fun e=>by rw[W5.2 e]at h';cases h'
   have gy2:g<=z.y:=by rw[<-hc];exact Nat.gcd_le_right _ y0
   have vg1:vl g=1:=by
    have h1:vl g<=1:=Ha.2 (by rw[Nat.pow_one];omega);have h2:vl g≠0:=fun e=>g0 (W5.1 e);omega
   refine⟨o3,_,KO gx,o3,_,KO gy,o3,o3,by rw[Tf];omega,⟨z.ys.set z.oy g,z.oy⟩,⟨?_,(j9 lly)⟩,rfl,o3,.inl ?_⟩
   ·rw[vg1];refine⟨by rw[Nat.pow_one];omega,(j9 hle),fun i hi=> ?_⟩;have:i=0:=o3
    subst this;simp only;rw[Yd,Zl,Yn,Zp o3];simp;omega
   ·simp only;rw[Zf,Zf,hc,aI,Nat.add_zero]
  ·have h:vl z.x=1:=by have:=eq_of_beq h;omega
   have h': ¬vl z.y=1:=fun e=>by rw[e]at h';simp at h'
   rcases hz.h with⟨h0,_⟩ | ⟨_,h2,_⟩
   ·rw[W5.2 h0]at h;cases h
   ·exact absurd h2 h'
  ·have h: ¬vl z.x=1:=fun e=>by rw[e]at h;simp at h
   rcases hz.h with⟨_,h1⟩ | ⟨h2,_⟩
   ·exact fin h1
   ·exact absurd h2 h
 ·-- bytes
  have ew:Zb.wrap (8*(vl g:Int))=((8*vl g:Nat):Int):=by rw[w64 o3];omega
  rw[ew,Zf];refine⟨⟨o3,o3,o3,o3⟩,⟨(y,Zh (8*vl g) 0,0),⟨hy,o6,o6,fun p hp=>by simp at hp⟩,rfl,rfl,rfl,rfl,.inl rfl,.inl ?_⟩,fun x hx=> ?_⟩
  ·simp[QW]
  obtain⟨y,bs,i⟩:=x;have len:=hx.len;have hi:=hx.hi;have wy:=hx.d.wy;have lyl:=hx.d.ly;have hle:=wy.le;simp only at len hi|-;refine QE (fun h=> ?_) (fun h=> ?_)
  ·have h:i<vl g:=(j7 h)
   refine⟨o3,_,KO (wy.get i h),⟨(y,bs,i,0),⟨⟨hx.d,len,h,o6,hx.low,fun p h1 h2=>by simp only at h1 h2;omega⟩,rfl⟩,rfl,rfl,rfl,rfl,rfl,rfl,.inl rfl,.inl rfl⟩,fun x1 hx1 ht=> ?_⟩;obtain⟨y1,bs1,i1,k⟩:=x1;have len1:=hx1.len;have hi1:=hx1.hi;have hk1:=hx1.hk;simp only at len1 hi1 hk1 ht|-;refine QE (fun hq=> ?_) (fun hq=> ?_)
   ·have hq:k<8:=(j7 hq)
    have f1:Zb.wrap (Zb.wrap (8*Zb.wrap (Zb.wrap ((vl g:Int)-1)-i1))+k)=((8*(vl g-1-i1)+k:Nat):Int):=by
     rw[w64 (n:=(vl g:Int)-1) o3,w64 (n:=(vl g:Int)-1-i1) o3,w64 (n:=8*((vl g:Int)-1-i1)) o3,w64 o3];omega
    have f2:Zb.wrap (56-Zb.wrap (8*(k:Int)))=((8*(7-k):Nat):Int):=by
     rw[w64 (n:=8*(k:Int)) o3,w64 o3];omega
    have f3:Zw.wrap (XE .u64 ((g/18446744073709551616^i1 % 18446744073709551616:Nat):Int) ((8*(7-k):Nat):Int))=((Zv (g/256^(8*i1+7-k))).toNat:Int):=by
     rw[show Zw.wrap (XE .u64 ((g/18446744073709551616^i1 % 18446744073709551616:Nat):Int) ((8*(7-k):Nat):Int))=_ from J9 o3,QJC o3];congr 3;rw[Zg];congr 1;rw[show(18446744073709551616:Nat)=256^8 from rfl,<-Yk,<-Zj];congr 1;omega
    simp only[f1,f2,f3,Zf];refine⟨o3,o3,by rw[List.length_map];omega,(y1,bs1.set (8*(vl g-1-i1)+k) (Zv (g/256^(8*i1+7-k))),i1,k+1),⟨hx1.step hq,ht,o5⟩,rfl,rfl,rfl,rfl,rfl,by rw[w64 o3];simp,.inl rfl,.inl ?_⟩;exact mK _ _ _ _ rfl
   ·have hq:k=8:=(j8 hq)
    subst hq;refine⟨(y1,bs1,i1+1),⟨⟨hx1.d,len1,hi1,fun p hp=> ?_⟩,o5⟩,rfl,rfl,by rw[w64 o3];simp,.inl rfl,.inl rfl⟩;simp only at hp|-;by_cases hp2:p<8*i1
    ·exact hx1.low p hp2
    ·exact hx1.new p o5 o5
  ·have h:i=vl g:=(j8 h)
   subst h;have hbe:QG bs=g:=by
    have hlow: ∀p,p<Sj bs->Bt bs g p:=fun p hp=>hx.low p (by show p<8*vl g;omega);rw[QTg hlow,Zp];rw[len,Yk];exact Vo g
   have hmin:(bif false then(if(s:Int)>r then(s:Int)else r)else if(s:Int)<r then(s:Int)else r)=((min r s:Nat):Int):=by
    simp only[R8];split<;>omega
   rw[hmin];have hml:min r s<68719476800:=o3
   generalize min r s=e at hmin hml hgcd|-;have f1:Zb.wrap (Zb.wrap ((e:Int).tdiv 8)+1)=((e/8+1:Nat):Int):=by
    rw[te o3,w64 (n:=(e:Int)/8) o3,w64 o3];omega
   have f2:(e:Int).tmod 8=((e % 8:Nat):Int):=by rw[tm o3];omega
   have f3:YM .u8 1 ((e % 8:Nat):Int)=((2^(e % 8):Nat):Int):=by
    have:(2:Nat)^(e % 8)<=2^7:=Zn o8 o3;rw[UI (by simp[IntKind.bits];omega),Zf,Int.one_mul];have e1:(2:Int)^(e % 8)=((2^(e % 8):Nat):Int):=o6
    rw[e1];generalize 2^(e % 8)=q at this;exact wu8 o3
   have hp7:(2:Nat)^(e % 8)<=2^7:=Zn o8 o3;simp only[f1,f2,f3,Zf];refine⟨o3,o3,o3,o3,o3,by rw[List.length_replicate];omega,bs,?_,Zv (2^(e % 8))::Zh (e/8) 0,?_,⟨o3,o9⟩,?_⟩
   ·rw[Yv,Ya (by rw[List.length_map];omega)]
   ·rw[Yv,QQf _ _ o3,Ya o6]
   ·rw[hbe,QQg _ _ o3,(o3:8*(e/8)+e % 8=e),Yo,<-hgcd];exact .b hga
def np:Ctr
 | [.x F [.b m a],.x F [.b n b]]=>H fun c=>(a<=8589934592/\b<=8589934592)/\(m≠0/\n≠0)/\c (bA (K m n) a)
 | _=>S
theorem QQh:QH 154 np:=by
 refine⟨Qf func154 o4,fun l T h K e=> ?_⟩;unfold np at h;split at h
 ·rename_i m a n b;cases h
  obtain⟨⟨k,p⟩,⟨q,t⟩,e⟩:=e;obtain⟨r,z⟩:=IsEv.ex q;obtain⟨s,C⟩:=IsEv.ex t;exact Y5 fun w c D j f=>KN (Qk (QP QdW Tj Qb) QK func154 o4 o4 j6 (QTi m a n b r s k p (W4 f) (WA f) z C)) e
 ·cases h
def L16:LC:=(154,np)::L15
theorem QdX:QF L16:= .cons QQh QdW
structure HB where
 x:C
 y:C
def dA (m a n b:C)(z:HB):Prop:=z.x<2^(a+b)/\z.y<2^(a+b)/\K z.x z.y=K m n
def QaN (m a n b:C):LI:=fun c=>bif c.beq 2 then .inv ⟨HB,fun z=>⟨[(0,bA z.x (a+b)),(1,bA z.y (a+b))],[]⟩,dA m a n b,fun z=>z.x+z.y,fun _=>0⟩
 else bif c.beq 3 then .cut ⟨HB,fun z=>⟨[(0,bA z.x (a+b)),(1,bA z.y (a+b))],[]⟩,fun z=>dA m a n b z/\z.x≠0/\z.y≠0,fun _=>0,fun z=>z.x+z.y⟩
 else bif c.beq 5 then .cut ⟨HB,fun z=>⟨[(0,bA z.x (a+b)),(1,bA z.y (a+b))],[]⟩,fun z=>dA m a n b z/\z.x≠0/\z.y≠0/\(QB z.y).length<=(QB z.x).length,fun _=>0,fun z=>z.x+z.y⟩
 else bif c.beq 11 then .cut ⟨HB,fun z=>⟨[(0,bA z.x (a+b)),(1,bA z.y (a+b))],[]⟩,fun z=>dA m a n b z/\(z.x=0\/z.y=0),fun _=>0,fun _=>0⟩else .no
def QJD (m a n b:C)(K:AV->Prop):Prop:=QN (mkT L16 M15 X4) (oF f118) (QaN m a n b) f118 [bA m a,bA n b] K
theorem QJE (m:C)(a:C)(n:C)(b:C)(K:AV->Prop):QJD m a n b K=(((∃(x:HB),((x.x<2^(a+b)/\x.y<2^(a+b)/\x.x.gcd x.y=m.gcd n)/\L.ofNat 0=0)/\m=x.x/\a<=a+b/\n=x.y/\b<=a+b/\I)/\∀(x:HB),x.x<2^(a+b)/\x.y<2^(a+b)/\x.x.gcd x.y=m.gcd n->L.ofNat 0=0->(bif !decide (QB x.x=(ByteArray.mk #[]).data.toList)then bif !decide (QB x.y=(ByteArray.mk #[]).data.toList)then ∃(e:HB),(((e.x<2^(a+b)/\e.y<2^(a+b)/\e.x.gcd e.y=m.gcd n)/\e.x≠0/\e.y≠0)/\e.x+e.y=x.x+x.y)/\x.x=e.x/\a+b<=a+b/\x.y=e.y/\a+b<=a+b/\I else ∃(e:HB),(((e.x<2^(a+b)/\e.y<2^(a+b)/\e.x.gcd e.y=m.gcd n)/\(e.x=0\/e.y=0))/\L.ofNat 0=0)/\x.x=e.x/\a+b<=a+b/\x.y=e.y/\a+b<=a+b/\I else ∃(e:HB),(((e.x<2^(a+b)/\e.y<2^(a+b)/\e.x.gcd e.y=m.gcd n)/\(e.x=0\/e.y=0))/\L.ofNat 0=0)/\x.x=e.x/\a+b<=a+b/\x.y=e.y/\a+b<=a+b/\I)/\∀(e:HB),(e.x<2^(a+b)/\e.y<2^(a+b)/\e.x.gcd e.y=m.gcd n)/\e.x≠0/\e.y≠0->e.x+e.y=x.x+x.y->(bif decide (A (QB e.x).length<A (QB e.y).length)then ∃(c:HB),(((c.x<2^(a+b)/\c.y<2^(a+b)/\c.x.gcd c.y=m.gcd n)/\c.x≠0/\c.y≠0/\(QB c.y).length<=(QB c.x).length)/\c.x+c.y=x.x+x.y)/\e.y=c.x/\a+b<=a+b/\e.x=c.y/\a+b<=a+b/\I else ∃(c:HB),(((c.x<2^(a+b)/\c.y<2^(a+b)/\c.x.gcd c.y=m.gcd n)/\c.x≠0/\c.y≠0/\(QB c.y).length<=(QB c.x).length)/\c.x+c.y=x.x+x.y)/\e.x=c.x/\a+b<=a+b/\e.y=c.y/\a+b<=a+b/\I)/\∀(c:HB),(c.x<2^(a+b)/\c.y<2^(a+b)/\c.x.gcd c.y=m.gcd n)/\c.x≠0/\c.y≠0/\(QB c.y).length<=(QB c.x).length->c.x+c.y=x.x+x.y->bif decide (A (QB c.x).length<=8)then c.x<18446744073709551616/\c.y<18446744073709551616/\((0<=A c.x/\A c.x<18446744073709551616)/\0<=A c.y/\A c.y<18446744073709551616)/\(0<=A ((A c.x).toNat.gcd (A c.y).toNat)/\A ((A c.x).toNat.gcd (A c.y).toNat)<18446744073709551616)/\K (AV.x F [Ch.b (A ((A c.x).toNat.gcd (A c.y).toNat)).toNat 64])else bif decide (A (QB c.x).length<=G.wrap (A (QB c.y).length+8))then(a+b<=8589934592/\a+b<=8589934592)/\(c.x≠0/\c.y≠0)/\K (AV.x F [Ch.b (c.x.gcd c.y) (a+b)])else(a+b<=549755813888/\a+b<=549755813888)/\∃(f:HB),((f.x<2^(a+b)/\f.y<2^(a+b)/\f.x.gcd f.y=m.gcd n)/\L.ofNat 0=0/\f.x+f.y<x.x+x.y)/\c.y=f.x/\a+b<=a+b/\(bif decide (c.y=0)then 0 else c.x%c.y)=f.y/\a+b<=a+b/\I)/\∀(x:HB),(x.x<2^(a+b)/\x.y<2^(a+b)/\x.x.gcd x.y=m.gcd n)/\(x.x=0\/x.y=0)->L.ofNat 0=0->((x.x=0\/x.y=0)/\a+b+(a+b)<=1152921504606846976)/\K (AV.x F [Ch.b (x.x+x.y) (a+b+(a+b))])):=o4
theorem Qi4 (m a n b:C)(ha:a<=4294967296)(hb:b<=4294967296)(hm:m<2^a)(hn:n<2^b):QM (QJD m a n b (NatIs (K m n) (a+b))):=by
 refine⟨?_⟩;rw[QJE];have Y:(2:C)^a<=2^(a+b):=Zn o8 o3;have Z:(2:C)^b<=2^(a+b):=Zn o8 o3;have E:K m n<2^(a+b):=by
  rcases C.eq_zero_or_pos m with rfl | h
  ·rw[C.gcd_zero_left];omega
  ·have:=Ys n h;omega
 have nil: ∀x:C,(!decide (QB x=(ByteArray.mk #[]).data.toList))= !decide (x=0):=fun x=>by
  congr 1;rw[Bool.eq_iff_iff,R,R];exact Qo
 simp only[nil];simp only[Zs,R0,R1,Yw,R4];refine⟨⟨⟨⟨m,n⟩,⟨o5,o5,rfl⟩,rfl,o3,rfl,o3⟩,fun z D=>⟨?_,fun N L W=>⟨?_,fun c M e2=> ?_⟩⟩⟩,fun z D=> ?_⟩
 ·refine QE (fun h=>QE (fun l=> ?_) (fun l=> ?_)) (fun h=> ?_)
  ·exact⟨z,⟨⟨D,(j9 h),(j9 l)⟩,rfl⟩,rfl,rfl⟩
  ·exact⟨z,⟨D,.inr ((j9 l))⟩,rfl,rfl⟩
  ·exact⟨z,⟨D,.inl ((j9 h))⟩,rfl,rfl⟩
 ·obtain⟨⟨q,p,f⟩,j,t⟩:=L;refine QE (fun h=> ?_) (fun h=> ?_)
  ·have h:=R5 h;exact⟨⟨N.y,N.x⟩,⟨⟨⟨p,q,by simp only;rw[Yp];exact f⟩,t,j,o5⟩,o5⟩,rfl,rfl⟩
  ·have h:=R6 h;exact⟨N,⟨⟨⟨q,p,f⟩,j,t,o3⟩,W⟩,rfl,rfl⟩
 ·obtain⟨⟨q,p,f⟩,j,t,h6⟩:=M;have l1:=Xe q;have l2:=Xe p;refine QE (fun h=> ?_) (fun h=>QE (fun l=> ?_) (fun l=> ?_))
  ·have h:=R5 h;have x8:=Qh (m:=c.x) (k:=8) |>.1 o3
   have y8:=Qh (m:=c.y) (k:=8) |>.1 o3
   simp only[T];have I:=Ys c.y (by omega:0<c.x);rw[f]at I⊢;exact⟨o3,o3,o3,o3,.b E⟩
  ·rw[f];exact⟨o3,⟨j,t⟩,.b E⟩
  ·have V:=Yi c.x (by omega:0<c.y);have U: ¬(QB c.x).length<=(QB c.y).length+8:=by
    have:=R6 l;rw[w64 o3]at this;omega
   have X:=rP (m:=c.y) (n:=c.x) o3;simp only[t,decide_false,R8];refine⟨o3,⟨c.y,c.x % c.y⟩,⟨⟨p,o5,?_⟩,o5⟩,rfl,rfl⟩;simp only;rw[<-f,Yp c.y,<-C.gcd_rec,Yp]
 ·obtain⟨⟨q,p,f⟩,j⟩:=D;have e:z.x+z.y=K m n:=by
   rw[<-f];rcases j with h | h
   ·rw[h,C.gcd_zero_left];omega
   ·rw[h,C.gcd_zero_right];omega
  refine⟨⟨j,o3⟩,?_⟩;rw[e];exact .b E
def cx:Ctr
 | [.x F [.b m a],.x F [.b n b]]=>H fun c=>(a<=4294967296/\b<=4294967296)/\c (bA (K m n) (a+b))
 | _=>S
theorem ok_Gcd:QH 118 cx:=by
 refine⟨Qf func118 o4,fun l T h K e=> ?_⟩;unfold cx at h;split at h
 ·rename_i m a n b;cases h
  exact Y5 fun w c k j f=>KN (Qk (QP QdX Tj Qb) QK func118 o4 o4 j6 (Qi4 m a n b e.1.1 e.1.2 (W4 f) (WA f))) e.2
 ·cases h
def L17:LC:=(118,cx)::L16
theorem Qi5:QF L17:= .cons ok_Gcd QdX
end Go.Proofs
