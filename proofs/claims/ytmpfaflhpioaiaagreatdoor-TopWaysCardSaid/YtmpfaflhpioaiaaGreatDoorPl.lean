/- Natural numbers as bytes and as digits: plain facts. -/
import Derived.Test.YtmpfaflhpioaiaaGreatDoorE4
import Derived.IntWalk
open _root_ renaming Nat → A, Int → C, List → D, Rat → E, Bool → F, decide_false → G, UInt8 → H, decide_true → I, if_neg → J, BitVec → K
open Nat renaming pow_succ → M, mul_add → N, gcd → P, mul_assoc → Zg, mul_le_mul_left → Za, pow_le_pow_right → Zd, div_lt_of_lt_mul → Ze, mod_lt → Zq, mul_comm → Zp, pow_pos → Zs, mod_eq_of_lt → Zi, add_mul → Zu, min_eq_left → Zo, pow_succ' → Zv, mul_le_mul_right → Zm
open Int renaming natCast_mul → O, neg_mul → Zx
open Rat renaming mkRat_self → Zh, mkRat_eq_div → Zw
open List renaming replicate → Zk, getElem?_eq_some_iff → Zj, length_append → Zr, length_singleton → Zl, eq_nil_of_length_eq_zero → Zn
namespace Go.Eng
open Go
theorem QZX {b:F}{p q:Prop}:(bif b then p else q)↔(b=true->p)/\(b=false->q):=by cases b<;>simp
theorem QE {b:F}{p q:Prop}(h:b=true->p)(h':b=false->q):bif b then p else q:=QZX.2 ⟨h,h'⟩
theorem J5 (n:C):IntKind.u64.wrap n=n % 18446744073709551616:=by simp[IntKind.wrap,IntKind.bits,IntKind.signed]
variable{n:C}
theorem Ki(h0:0<=n)(h1:n<18446744073709551616):IntKind.u64.wrap n=n:=by rw[J5];omega
theorem zy(h0:0<=n)(h1:n<4294967296):IntKind.u32.wrap n=n:=by rw[IntKind.wrap_u32];omega
theorem QK8(h0:0<=n)(h1:n<256):IntKind.u8.wrap n=n:=by rw[IntKind.wrap_u8];omega
theorem zx(h0: -9223372036854775808<=n)(h1:n<9223372036854775808):IntKind.i64.wrap n=n:=by rw[IntKind.wrap_i64];omega
theorem w64(h: -9223372036854775808<=n/\n<9223372036854775808):IntKind.i64.wrap n=n:=zx h.1 h.2
theorem o7{p:Prop}(h:p:=by rw[w64 (by omega)];simp):p:=h
theorem j2{p:Prop}(h:p:=by rw[w64 (by omega)];omega):p:=h
theorem YE(h:0<=n/\n<18446744073709551616):IntKind.u64.wrap n=n:=Ki h.1 h.2
theorem ZM(h:0<=n/\n<4294967296):IntKind.u32.wrap n=n:=zy h.1 h.2
theorem wu8(h:0<=n/\n<256):IntKind.u8.wrap n=n:=QK8 h.1 h.2
variable{a b:C}
theorem te(h:0<=a):a.tdiv b=a/b:=C.tdiv_eq_ediv_of_nonneg h
theorem tm(h:0<=a):a.tmod b=a % b:=C.tmod_eq_emod_of_nonneg h
theorem UI {k:IntKind}(h:b.toNat<=k.bits):YM k a b=k.wrap (a*2^b.toNat):=by
  unfold YM;rw[Zo h]
theorem JC {k:IntKind}(h:b.toNat<=k.bits)(_h0:0<=a):XE k a b=a/2^b.toNat:=by
 unfold XE;rw[Zo h,C.fdiv_eq_ediv_of_nonneg];exact C.le_of_lt (C.pow_pos o3)
theorem toNat_ofInt {n:A}{x:A}(h:x<2^n):(K.ofInt n (x:C)).toNat=x:=by
 rw[K.toNat_ofInt];have:(x:C) % ((2^n:A):C)=x:=C.emod_eq_of_lt o3 o3;rw[this];simp
variable{s:A}
theorem uw{a b:A}(h:b<2^s):(2^s*a) ||| b=2^s*a+b:=(A.two_pow_add_eq_or_of_lt h a).symm
theorem H8{a b:A}(h:b<2^s)(e:2^s*a+b<18446744073709551616):orI .u64 ((2^s*a:A):C) (b:C)=((2^s*a+b:A):C):=by
 unfold orI;have c:(K.ofInt IntKind.u64.bits ((2^s*a:A):C) ||| BitVec.ofInt IntKind.u64.bits (b:C)).toNat=2^s*a+b:=by
  rw[K.toNat_or,toNat_ofInt (by show _<2^64;omega),toNat_ofInt (by show _<2^64;omega),uw h]
 rw[c];exact Ki o3 o3
theorem pP{a b:A}(h:b<2^s)(e:2^s*a+b<4294967296):orI .u32 ((2^s*a:A):C) (b:C)=((2^s*a+b:A):C):=by
 unfold orI;have c:(K.ofInt IntKind.u32.bits ((2^s*a:A):C) ||| BitVec.ofInt IntKind.u32.bits (b:C)).toNat=2^s*a+b:=by
  rw[K.toNat_or,toNat_ofInt (by show _<2^32;omega),toNat_ofInt (by show _<2^32;omega),uw h]
 rw[c];exact zy o3 o3
theorem VD (k:IntKind)(a b:C):orI k a b=orI k b a:=by unfold orI;rw[K.or_comm]
theorem Up {c:Type}{p:D c->Prop}(h0:p [])(h1: ∀l a,p l->p (l++[a]))(l:D c):p l:=by
 have k: ∀r:D c,p r.reverse:=by
  intro r;induction r with
  | nil=>exact h0
  | cons a r e=>rw[D.reverse_cons];exact h1 _ _ e
 have:=k l.reverse;rwa [D.reverse_reverse]at this
def WO (l:D H):D H:=l.dropWhile (· ==0)
variable{m:A}
theorem Qo:QB m=[]↔m=0:=by
 constructor
 ·intro h;have:=Xv m;rw[h]at this;exact this.symm
 ·rintro rfl;exact XA
theorem KA:QG []=0:=rfl
theorem Vb (l k:D H):QG (l++k)=QG l*256^k.length+QG k:=by
  induction k using Up with
  | h0=>simp[KA]
  | h1 k b c => rw [← D.append_assoc, YX, YX, c, D.length_append, D.length_singleton, A.pow_succ, A.mul_add]; 
                               rw[Zp 256 (QG l*_),Zg];omega

theorem H9 (l:D H):QG l<256^l.length:=by
 induction l using Up with
 | h0=>simp[KA]
 | h1 l b c=>
  rw[YX,Zr,Zl,M];have:=b.toNat_lt;omega
theorem HA {l:D H}{b:H}(h:QG (l++[b])≠0):QB (QG (l++[b]))=QB (QG l)++[b]:=by
 rw[YJ _ h,YX];have f:=b.toNat_lt;have c:(256*QG l+b.toNat)/256=QG l:=o3
 have e:(256*QG l+b.toNat) % 256=b.toNat:=o3
 rw[c,e];simp
theorem QCh (l:D H):QB (QG l)=WO l:=by
  induction l using Up with
  | h0=>simp[KA,XA,WO]
  | h1 l b c=>
    by_cases h:QG (l++[b])=0
    · rw[h,XA];rw[YX]at h;have o:QG l=0:=o3
      have g:b.toNat=0:=o3
      rw[o,XA]at c;have j:b=0:=H.toNat_inj.1 ((j9 g));unfold WO at c|-;rw[D.dropWhile_append,<-c];simp[j]
    · rw[HA h,c];unfold WO;rw[D.dropWhile_append];split
      · rename_i k;have f:D.dropWhile (fun x=>x==0) l=[]:=(j9 k)
        have p:QG l=0:=by
          unfold WO at c;rw[f]at c;exact Qo.1 c
        rw[YX,p]at h;have g: ¬b=0:=fun e=>h (by rw[e];rfl);rw[f];simp[g]
      · rfl

theorem XM (m:A):m<256^(QB m).length:=by
 have:=H9 (QB m);rwa [Xv]at this
theorem Qh{k:A}:(QB m).length<=k↔m<256^k:=by
 constructor
 ·intro h;exact A.lt_of_lt_of_le (XM m) (Zd o3 h)
 ·induction m using A.strongRecOn generalizing k with
  | _ m e=>
   intro h;by_cases c:m=0
   ·subst c;simp[XA]
   ·rw[YJ m c,Zr,Zl];cases k with
    | zero=>simp at h;omega
    | succ k=>
     have:m/256<256^k:=by
      apply Ze;rw[Zp,<-M];exact h
     have:=e (m/256) o3 this;omega
theorem W3{i:A}(h:i<(QB m).length):(QB m)[i]? =some (H.ofNat (m/256^((QB m).length-1-i) % 256)):=by
 induction m using A.strongRecOn generalizing i with
 | _ m o=>
  by_cases f:m=0
  ·subst f;simp[XA]at h
  ·have e:=YJ m f;have j:(QB m).length=(QB (m/256)).length+1:=by rw[e];simp
   by_cases g:i<(QB (m/256)).length
   ·have k:=o (m/256) o3 g;have:(QB m)[i]? =(QB (m/256))[i]? :=by rw[e,D.getElem?_append_left g]
    rw[this,k,A.div_div_eq_div_mul,<-Zv,j];congr 5;omega
   ·have c:i=(QB (m/256)).length:=o3
    rw[j,c];rw[e,D.getElem?_append_right (A.le_refl _)];simp
theorem Kx(h:m≠0): ∃b:H,(QB m)[0]? =some b/\b.toNat≠0:=by
 have g:0<(QB m).length:=by
  rcases A.eq_zero_or_pos (QB m).length with c | c
  ·exact absurd (Qo.1 (Zn c)) h
  ·exact c
 refine⟨_,W3 g,?_⟩;have k: ¬m<256^((QB m).length-1):=fun c=>by
  have:=Qh.2 c;omega
 have e:=XM m;have f:256^(QB m).length=256*256^((QB m).length-1):=by rw[<-Zv];congr 1;omega
 have j:0<256^((QB m).length-1):=Zs o3;have o:m/256^((QB m).length-1)<256:=Ze (by rw[Zp];rw[f]at e;exact e);have p:0<m/256^((QB m).length-1):=A.div_pos o3 j;rw[H.toNat_ofNat',A.sub_zero,Zi o3];omega
def fd (B L m:A):D A:=(D.range L).map fun j=>m/B^j % B
variable{B L:A}
theorem Qn:(fd B L m).length=L:=by simp[fd]
theorem J6{j:A}(h:j<L):(fd B L m)[j]? =some (m/B^j % B):=by simp[fd,h]
def QI (B:A):D A->A
  | []=>0
  | d::c=>d+B*QI B c

theorem QZY:fd B (L+1) m=m % B::fd B L (m/B):=by
 unfold fd;rw[D.range_succ_eq_map,D.map_cons,D.map_map];simp only[A.pow_zero,A.div_one,Function.comp_def,Zv,A.div_div_eq_div_mul]
theorem Qz: ∀{L m:A},m<B^L->QI B (fd B L m)=m:=by
 intro L;induction L with
 | zero=>intro m h;simp at h;subst h;rfl
 | succ L c=>
  intro m h;rw[QZY,QI,c (Ze (by rw[<-Zv];exact h))];exact A.mod_add_div m B
end Go.Eng
namespace Go.Eng
open Go
def Dig (B:A)(l:D A):Prop:= ∀d∈l,d<B

variable{B:A}
theorem Dig.nil:Dig B []:=fun _ h=>by cases h
variable{l:D A}{d:A}
theorem Dig.cons(h:d<B)(e:Dig B l):Dig B (d::l):=fun x c=>by
 rcases D.mem_cons.1 c with rfl | c
 ·exact h
 ·exact e x c
variable{i:A}
theorem Dig.get(h:Dig B l)(c:l[i]? =some d):d<B:=h d (D.mem_of_getElem? c)
theorem Dig.getD(h:Dig B l)(c:0<B):l.getD i 0<B:=by
 rw[D.getD_eq_getElem?_getD];cases e:l[i]? with
 | none=>simpa using c
 | some d=>simpa using h.get e
variable{v:A}
theorem Dig.set(h:Dig B l)(e:v<B):Dig B (l.set i v):=fun x c=>by
 rcases D.mem_or_eq_of_mem_set c with c | rfl
 ·exact h x c
 ·exact e
theorem Dig.append{k:D A}(h:Dig B l)(hk:Dig B k):Dig B (l++k):=fun x c=>by
 rcases D.mem_append.1 c with c | c
 ·exact h x c
 ·exact hk x c
theorem Dig.take(h:Dig B l):Dig B (l.take i):=fun x c=>h x (D.mem_of_mem_take c)
theorem Dig.drop(h:Dig B l):Dig B (l.drop i):=fun x c=>h x (D.mem_of_mem_drop c)
theorem Dig.zeros{n:A}(h:0<B):Dig B (Zk n 0):=fun x c=>by
 rw[(D.mem_replicate.1 c).2];exact h
variable{L m:A}
theorem Dig.fd(c:0<B):Dig B (Eng.fd B L m):=fun x h=>by
 simp only[Eng.fd,D.mem_map]at h;obtain⟨j,_,rfl⟩:=h;exact Zq _ c
theorem J7(l k:D A):QI B (l++k)=QI B l+B^l.length*QI B k:=by
 induction l with
 | nil=>simp[QI]
 | cons d l c=>
  simp only[D.cons_append,QI,c,D.length_cons,M];grind
theorem UJ{n:A}:QI B (Zk n 0)=0:=by
 induction n with
 | zero=>rfl
 | succ n c=>simp[D.replicate_succ,QI,c]
theorem Jl(h:Dig B l):QI B l<B^l.length:=by
 induction l with
 | nil=>simp[QI]
 | cons d l f=>
  have c:=f (fun x e=>h x (by simp[e]));have g:=h d o6;simp only[QI,D.length_cons,M];have:B*(QI B l+1)<=B*B^l.length:=Za _ c;rw[Zp (B^l.length) B];rw[N]at this;omega
theorem Qa(h:l[i]? =some d):QI B (l.take (i+1))=QI B (l.take i)+B^i*d:=by
 have c:=(Zj.1 h).1;rw[D.take_add_one,h,J7];simp only[Option.toList_some,QI,A.mul_zero,A.add_zero,D.length_take];rw[Zo o3]
theorem Qi(h:l.length<=i):QI B (l.take i)=QI B l:=by rw[D.take_of_length_le h]
theorem X1(h:i<=l.length):QI B l=QI B (l.take i)+B^i*QI B (l.drop i):=by
 conv=>lhs;rw[<-D.take_append_drop i l,J7]
 rw[D.length_take,Zo h]
theorem Uq(h:l[i]? =some d):QI B (l.set i v)+B^i*d=QI B l+B^i*v:=by
 induction l generalizing i with
 | nil=>simp at h
 | cons a l c=>
  cases i with
  | zero=>simp at h;subst h;simp[QI];omega
  | succ i=>
   have:=c (i:=i) ((j9 h));simp only[D.set_cons_succ,QI,M];have e: ∀y,B^i*B*y=B*(B^i*y):=fun y=>by rw[Zp (B^i) B,Zg]
   rw[e,e];have:B*(QI B (l.set i v)+B^i*d)=B*(QI B l+B^i*v):=by rw[this]
   rw[N,N]at this;omega
theorem Xx:(l.set i v).take i=l.take i:=by
 rw[D.take_set];rw[D.set_eq_of_length_le];simp;omega
theorem VE: ∀{l k:D A},Dig B l->Dig B k->l.length=k.length->QI B l=QI B k->l=k:=by
 intro l;induction l with
 | nil=>intro k _ _ h _;exact(Zn h.symm).symm
 | cons d l w=>
  intro k o j c g;cases k with
  | nil=>cases c
  | cons e k=>
   simp only[QI]at g;have r:=o d o6;have t:=j e o6;have u:0<B:=o3
   have p:d=e:=by
    have:=congrArg (· % B) g;simp only[A.add_mul_mod_self_left]at this;rwa [Zi r,Zi t]at this
   subst p;have q:QI B l=QI B k:=by
    have:B*QI B l=B*QI B k:=o3
    exact A.eq_of_mul_eq_mul_left u this
   rw[w (fun x f=>o x (by simp[f])) (fun x f=>j x (by simp[f])) ((j9 c)) q]
theorem VF(h:Dig B l)(c:0<B):fd B l.length (QI B l)=l:=
 VE (Dig.fd c) h (by simp[Qn]) (Qz (Jl h))
theorem Vn(h:l[i]? =some d):B^i*d<=QI B l:=by
 have c:=(Zj.1 h).1;rw[X1 (B:=B) (i:=i) o3];have:l.drop i=d::l.drop (i+1):=by
  rw[D.drop_eq_getElem_cons c];rw[(Zj.1 h).2]
 rw[this,QI];have:B^i*d<=B^i*(d+B*QI B (l.drop (i+1))):=Za _ o3;omega
theorem QIi(c:0<L)(h:m<B^L):(fd B L m)[L-1]? =some (m/B^(L-1)):=by
 rw[J6 o3,Zi];apply Ze;rw[<-M,(o3:(L-1).succ=L)];exact h
variable{U V top v1:A}
theorem QIj{q n1:A}(c:v1*B^n1<=V)(f:U<(top+1)*B^n1)(g:q*V<=U)(h1:0<v1):q<=top/v1:=by
 rw[A.le_div_iff_mul_le h1];have e:q*v1*B^n1<=q*V:=by rw[Zg];exact Za _ c
 have h:q*v1*B^n1<(top+1)*B^n1:=o3
 have:=A.lt_of_mul_lt_mul_right h;omega
theorem QLA{q c u r n2:A}(g:(v1*B+c)*B^n2<=V)(o:U<(top*B+u+1)*B^n2)(t:q*V<=U)(j:d*v1+r=top)(p:r*B+u<d*c):q<d:=by
  rcases A.lt_or_ge q d with h | h
  · exact h
  · exfalso;have e:top*B+u+1<=d*(v1*B+c):=by
      have:top*B=d*v1*B+r*B:=by rw[<-j,Zu]
      rw[N,<-Zg];omega
    have k:(top*B+u+1)*B^n2<=d*(v1*B+c)*B^n2:=Zm _ e;have f:d*((v1*B+c)*B^n2)<=q*V:=A.le_trans (Za _ g) (Zm _ h);rw[<-Zg]at f;omega

theorem QQF{c u r n2:A}(g:V<(v1*B+c+1)*B^n2)(f:(top*B+u)*B^n2<=U)(j:d*v1+r=top)(w:d*c<=r*B+u)(t:d<=v1*B):(d-1)*V<=U:=by
  cases d with
  | zero=>simp
  | succ d=>
    simp only[A.add_sub_cancel];have e:d*(v1*B+c+1)<=top*B+u:=by
      have k:top*B=(d+1)*v1*B+r*B:=by rw[<-j,Zu]
      have o:d*(v1*B+c+1)=d*v1*B+d*c+d:=by rw[N,N,A.mul_one,<-Zg]
      have p:(d+1)*v1*B=d*v1*B+v1*B:=by rw[Zu,A.one_mul,Zu]
      have q:(d+1)*c=d*c+c:=by rw[Zu,A.one_mul]
      omega
    have h:d*V<=d*((v1*B+c+1)*B^n2):=Za _ (A.le_of_lt g);rw[<-Zg]at h;exact A.le_trans h (A.le_trans (Zm _ e) f)

theorem GA (m B k:A):m % B^(k+1)=m % B^k+B^k*(m/B^k % B):=by
 rw[M,A.mod_mul]
theorem QZZ{x:A}(z:x<4*L):(fd 4294967296 L (m % 256^x)).set (x/4) ((m % 256^x)/4294967296^(x/4) % 4294967296+256^(x % 4)*(m/256^x % 256))=fd 4294967296 L (m % 256^(x+1)):=by
  have k:x/4<L:=o3
  have h: ∀y,(4294967296:A)^y=256^(4*y):=fun y=>by rw[show(4294967296:A)=256^4 from rfl,<-A.pow_mul]
  have f:256^x=4294967296^(x/4)*256^(x % 4):=by
    rw[h,<-A.pow_add];congr 1;omega
  have e:m % 256^x<256^x:=Zq _ (Zs o3);have q:m % 256^(x+1)<256^(x+1):=Zq _ (Zs o3);have o:(256:A)^x<=4294967296^L:=by rw[h];exact Zd o3 o3
  have p:(256:A)^(x+1)<=4294967296^L:=by rw[h];exact Zd o3 o3
  have t:(m % 256^x)/4294967296^(x/4)<256^(x % 4):=by
    apply Ze;rw[<-f];exact e
  have w:x % 4<4:=Zq _ o3;have u:256^(x % 4)*256<=4294967296:=by
    have:(256:A)^(x % 4)*256=256^(x % 4+1):=by rw[M]
    rw[this,show(4294967296:A)=256^4 from rfl];exact Zd o3 o3
  have j:m/256^x % 256<256:=Zq _ o3;have c:(m % 256^x)/4294967296^(x/4) % 4294967296=(m % 256^x)/4294967296^(x/4):=Zi o3;have r:(m % 256^x)/4294967296^(x/4) % 4294967296+256^(x % 4)*(m/256^x % 256)<4294967296:=by
    rw[c];have:256^(x % 4)*(m/256^x % 256+1)<=256^(x % 4)*256:=Za _ j;rw[N]at this;omega
  apply VE ((Dig.fd o3).set r) (Dig.fd o3) (by simp[Qn]);have g:=Uq (B:=4294967296) (v:=(m % 256^x)/4294967296^(x/4) % 4294967296+256^(x % 4)*(m/256^x % 256)) (J6 (B:=4294967296) (m:=m % 256^x) k);rw[Qz o3,N,<-Zg,<-f]at g;rw[Qz o3,GA];omega

theorem QS4:fd 4294967296 L 0=Zk L 0:=
 VE (Dig.fd o3) (Dig.zeros o3) (by simp[Qn]) (by rw[Qz (Zs o3),UJ])
def W (c:D A):D (D Ch):=c.map fun(d:A)=>[.v (.int .u32 (d:C))]
theorem Wj (c:D A):(W c).length=c.length:=by simp[W]
theorem Qif {c:D A}(h:c[i]? =some d):(W c)[i]? =some [.v (.int .u32 (d:C))]:=by simp[W,h]
theorem JF {c:D A}(h:c[i]? =some d):ldE (W c) i 0 1=some [.v (.int .u32 (d:C))]:=by simp only[ldE,Qif h];rfl
theorem Wy (c:D A)(i v:A):(W c).set i [.v (.int .u32 (v:C))]=W (c.set i v):=by simp[W,D.map_set]
theorem aN (c:D A)(i:A):(W c).take i=W (c.take i):=by simp[W,D.map_take]
theorem dD (n:A):Zk n [Ch.v (.int .u32 0)]=W (Zk n 0):=by simp[W]
theorem J8 (r:A):(256:A)^r=2^(8*r):=by rw[show(256:A)=2^8 from rfl,<-A.pow_mul]
theorem QQG{b r:A}(g:d<256^r)(k:r<4)(f:b<256):orI .u32 (d:C) (YM .u32 (IntKind.u32.wrap (b:C)) ((r:C)*8))=((d+256^r*b:A):C):=by
  have j:(256:A)^r*256<=4294967296:=by
    have:(256:A)^r*256=256^(r+1):=by rw[M]
    rw[this,show(4294967296:A)=256^4 from rfl];exact Zd o3 o3
  have h:256^r*(b+1)<=256^r*256:=Za _ f;rw[N]at h;have c:YM .u32 (IntKind.u32.wrap (b:C)) ((r:C)*8)=((2^(8*r)*b:A):C):=by
    have e:((r:C)*8).toNat=8*r:=o3
    rw[ZM o3,UI (by rw[e];simp only[IntKind.bits];omega),e];have:(b:C)*2^(8*r)=((2^(8*r)*b:A):C):=by rw[O,C.mul_comm];simp
    rw[this];refine ZM ⟨o3,?_⟩;rw[<-J8];omega
  rw[c,VD,pP (by rw[<-J8];exact g) (by rw[<-J8];omega),<-J8];congr 1;omega

theorem or_byte64{b r:A}(g:d<256^r)(k:r<8)(f:b<256):orI .u64 (d:C) (YM .u64 (IntKind.u64.wrap (b:C)) ((r:C)*8))=((d+256^r*b:A):C):=by
  have j:(256:A)^r*256<=18446744073709551616:=by
    have:(256:A)^r*256=256^(r+1):=by rw[M]
    rw[this,show(18446744073709551616:A)=256^8 from rfl];exact Zd o3 o3
  have h:256^r*(b+1)<=256^r*256:=Za _ f;rw[N]at h;have c:YM .u64 (IntKind.u64.wrap (b:C)) ((r:C)*8)=((2^(8*r)*b:A):C):=by
    have e:((r:C)*8).toNat=8*r:=o3
    rw[YE o3,UI (by rw[e];simp only[IntKind.bits];omega),e];have:(b:C)*2^(8*r)=((2^(8*r)*b:A):C):=by rw[O,C.mul_comm];simp
    rw[this];refine YE ⟨o3,?_⟩;rw[<-J8];omega
  rw[c,VD,H8 (by rw[<-J8];exact g) (by rw[<-J8];omega),<-J8];congr 1;omega

theorem QZa (m x:A):m % 256^x/4294967296^(x/4) % 4294967296<256^(x % 4):=by
 have h:(4294967296:A)^(x/4)=256^(4*(x/4)):=by rw[show(4294967296:A)=256^4 from rfl,<-A.pow_mul]
 have e:256^x=4294967296^(x/4)*256^(x % 4):=by
  rw[h,<-A.pow_add];congr 1;omega
 have c:m % 256^x<256^x:=Zq _ (Zs o3);refine A.lt_of_le_of_lt (A.mod_le _ _) (Ze ?_);rw[<-e];exact c
end Go.Eng
namespace Go.Eng
open Go
def XT (c:F)(n d:A):E:=mkRat (bif c then-(n:C)else n) d

theorem wv (c:F)(n:A):(bif c then-(n:C)else n).natAbs=n:=by cases c<;>simp
theorem nr (c:F)(n d:A)(e:d≠0):(XT c n d).num=bif c then-((n/P n d:A):C)else((n/P n d:A):C):=by
 unfold XT;rw[E.num_mkRat,J e,wv,A.gcd_comm d n];cases c with
 | false=>simp only[R8];rw[C.natCast_ediv]
 | true=>
  simp only[R7];have h:((P n d:A):C)∣(n:C):=C.natCast_dvd_natCast.2 (A.gcd_dvd_left n d);rw[C.neg_ediv_of_dvd h,C.natCast_ediv]
theorem QGJ (c:F)(n d:A)(h:d≠0):(XT c n d).num.natAbs=n/P n d:=by
 rw[nr c n d h];generalize n/P n d=k;cases c
 ·simp only[R8];omega
 ·simp only[R7];omega
theorem vL (c:F)(n d:A)(h:d≠0):(XT c n d).den=d/P n d:=by
 unfold XT;rw[E.den_mkRat,J h,wv,A.gcd_comm d n]
theorem QLB {n d:A}(h:n≠0):n/P n d≠0:=by
 have c:=A.gcd_le_left d (by omega:0<n);have e:0<P n d:=A.gcd_pos_of_pos_left _ o3;have:=A.div_pos c e;omega
theorem QQH (c:F)(n d:A)(h:d≠0)(e:n≠0):decide ((XT c n d).num<0)=c:=by
 rw[nr c n d h];have:=QLB (d:=d) e;generalize n/P n d=k at this;cases c
 ·simp only[R8,decide_eq_false_iff_not];omega
 ·simp only[R7,decide_eq_true_eq];omega
theorem zF (c:F)(d:A):XT c 0 d=0:=by unfold XT;cases c<;>simp
theorem Wb (q:E):(bif decide (q.num<0)then-(q.num.natAbs:C)else q.num.natAbs)=q.num:=by
 by_cases h:q.num<0
 ·simp only[h,I,R7];omega
 ·simp only[h,G,R8];omega
theorem QQI (a b:E):XT (decide (a.num<0) !=decide (b.num<0)) (a.num.natAbs*b.num.natAbs) (a.den*b.den)=a*b:=by
 unfold XT;rw[E.mul_def'];congr 1;rw[O];have e:=Wb a;have c:=Wb b;by_cases h:a.num<0<;>by_cases f:b.num<0<;>simp only[h,f,I,G,R7,R8,bne_self_eq_false,F.true_bne,F.false_bne,F.not_false,F.not_true]at e c⊢ <;>rw[<-e,<-c]<;>simp[Zx,C.mul_neg]
theorem QQJ (a b:E)(q:b.num≠0):XT (decide (a.num<0) !=decide (b.num<0)) (a.num.natAbs*b.den) (a.den*b.num.natAbs)=a/b:=by
 have c:b≠0:=fun e=>q (by rw[e];rfl);have h:a/b*b=a:=E.div_mul_cancel c;have k:XT (decide (a.num<0) !=decide (b.num<0)) (a.num.natAbs*b.den) (a.den*b.num.natAbs)*mkRat b.num b.den=mkRat a.num a.den:=by
  have f:b.num.natAbs≠0:=o3
  unfold XT;rw[E.mkRat_mul_mkRat,E.mkRat_eq_iff (A.mul_ne_zero (A.mul_ne_zero a.den_nz f) b.den_nz) a.den_nz];have j:=Wb a;have o:=Wb b;simp only[O];generalize (b.den:C)=t;generalize (a.den:C)=r;by_cases f:a.num<0<;>by_cases p:b.num<0<;>simp only[f,p,I,G,R7,R8,bne_self_eq_false,F.true_bne,F.false_bne,F.not_false,F.not_true]at j o⊢ <;>rw[<-j,<-o]<;>simp<;>grind
 have g:XT (decide (a.num<0) !=decide (b.num<0)) (a.num.natAbs*b.den) (a.den*b.num.natAbs)*b=a:=by
  rwa [Zh,Zh]at k
 have:(XT (decide (a.num<0) !=decide (b.num<0)) (a.num.natAbs*b.den) (a.den*b.num.natAbs)*b)*b⁻¹=a*b⁻¹:=by rw[g]
 rw[E.mul_assoc,E.mul_inv_cancel b c,E.mul_one]at this;rw[this,E.div_def]
def Jd (n1:F)(a:A)(n2:F)(b:A):F×A:=
  bif n1==n2 then(n1,a+b)else bif decide (b<=a)then(n1,a-b)else(n2,b-a)
theorem QCk (n1:F)(a:A)(n2:F)(b:A):(bif(Jd n1 a n2 b).1 then-((Jd n1 a n2 b).2:C)else(Jd n1 a n2 b).2)=(bif n1 then-(a:C)else a)+(bif n2 then-(b:C)else b):=by
 unfold Jd;cases n1<;>cases n2<;>by_cases h:b<=a<;>simp[h]<;>omega
theorem QQK (a b:E):XT (Jd (decide (a.num<0)) (a.num.natAbs*b.den) (decide (b.num<0)) (b.num.natAbs*a.den)).1 (Jd (decide (a.num<0)) (a.num.natAbs*b.den) (decide (b.num<0)) (b.num.natAbs*a.den)).2 (a.den*b.den)=a+b:=by
 unfold XT;rw[QCk,E.add_def'];congr 1;have e:=Wb a;have c:=Wb b;simp only[O];by_cases h:a.num<0<;>by_cases f:b.num<0<;>simp only[h,f,I,G,R7,R8]at e c⊢ <;>rw[<-e,<-c]<;>simp[Zx]
theorem QCl (a b:E)(h:a.den=b.den):XT (Jd (decide (a.num<0)) a.num.natAbs (decide (b.num<0)) b.num.natAbs).1 (Jd (decide (a.num<0)) a.num.natAbs (decide (b.num<0)) b.num.natAbs).2 a.den=a+b:=by
 unfold XT;rw[QCk,Wb,Wb,E.add_def',<-h];have:mkRat (a.num*a.den+b.num*a.den) (a.den*a.den)=mkRat (a.num+b.num) a.den:=by
  rw[<-C.add_mul];exact E.mkRat_mul_right a.den_nz
 rw[this]
def YY (a b:E):C:=if a<b then-1 else if a=b then 0 else 1
def Je (a b:A):C:=if a<b then-1 else if a=b then 0 else 1
def aO (a b:C):C:=if a<b then-1 else if a=b then 0 else 1
theorem uZ (a b:E):a=b↔a.num*b.den=b.num*a.den:=by
 constructor
 ·rintro rfl;rfl
 ·intro h;have c:=Zh a;have e:=Zh b;rw[<-c,<-e,E.mkRat_eq_iff a.den_nz b.den_nz];exact h
theorem QZb (a b:E):YY a b=aO (a.num*b.den) (b.num*a.den):=by
 unfold YY aO;simp only[E.lt_iff,uZ]
theorem QS5 {a b:A}:aO a b=Je a b:=by unfold aO Je;simp only[C.ofNat_lt,C.natCast_inj]
theorem QS6 {a b:A}:aO (-(a:C)) (-(b:C))= -Je a b:=by
 unfold aO Je;rcases A.lt_trichotomy a b with h | h | h
 ·have c: ¬ -(a:C)< -(b:C):=o3
  have e: ¬ -(a:C)= -(b:C):=o3
  rw[J c,J e,if_pos h];rfl
 ·subst h;simp
 ·have c: -(a:C)< -(b:C):=o3
  have e: ¬a<b:=o3
  have f: ¬a=b:=o3
  rw[if_pos c,J e,J f]
theorem QQM (a b:E)(h:decide (a.num<0)=decide (b.num<0)):YY a b=bif decide (a.num<0)then-Je (a.num.natAbs*b.den) (b.num.natAbs*a.den)else Je (a.num.natAbs*b.den) (b.num.natAbs*a.den):=by
 rw[QZb];have c:=Wb a;have e:=Wb b;rw[<-h]at e;by_cases f:a.num<0
 ·simp only[f,I,R7]at c e⊢;rw[<-QS6];congr 1
  ·rw[O,<-Zx,c]
  ·rw[O,<-Zx,e]
 ·simp only[f,G,R8]at c e⊢;rw[<-QS5];congr 1
  ·rw[O,c]
  ·rw[O,e]
theorem QZc {a b:E}(h:a.num<0)(f: ¬b.num<0):YY a b= -1:=by
 unfold YY;rw[if_pos];rw[E.lt_iff];have c:a.num*(b.den:C)<0:=C.mul_neg_of_neg_of_pos h (by have:=b.den_nz;omega);have e:0<=b.num*(a.den:C):=C.mul_nonneg o3 o3;omega
theorem QZd {a b:E}(f: ¬a.num<0)(h:b.num<0):YY a b=1:=by
 unfold YY;have c:0<=a.num*(b.den:C):=C.mul_nonneg o3 o3;have e:b.num*(a.den:C)<0:=C.mul_neg_of_neg_of_pos h (by have:=a.den_nz;omega);rw[J,J]
 ·rw[uZ];omega
 ·rw[E.lt_iff];omega
end Go.Eng
namespace Go.Proofs
def Qx (a b:E):E:=if a<=b then a else b
end Go.Proofs
namespace Go.Proofs
def ZZ (c h:E)(k:C):E:=mkRat (8*c.num*h.den+(h.num*c.den-c.num*h.den)*k) (8*c.den*h.den)
theorem QS7 (c h:E)(k:C):ZZ c h k=c+(h-c)*((k:E)/8):=by
 unfold ZZ;rw[Zw];have j:(c.den:E)≠0:=by exact_mod_cast c.den_nz
 have o:(h.den:E)≠0:=by exact_mod_cast h.den_nz
 have f:c=(c.num:E)/(c.den:E):=by rw[<-Zw,Zh]
 have g:h=(h.num:E)/(h.den:E):=by rw[<-Zw,Zh]
 generalize c.num=n at*;generalize c.den=d at*;generalize h.num=m at*;generalize h.den=e at*;subst f g;simp only[E.intCast_add,E.intCast_mul,E.intCast_sub,E.intCast_natCast,E.natCast_mul];grind
theorem QIk {e c:E}(h:e<=c){k:C}(hk:0<=k/\k<=8):e<=ZZ e c k/\ZZ e c k<=c:=by
 rw[QS7];have f:(0:E)<=(k:E):=by exact_mod_cast hk.1
 have g:(k:E)<=8:=by exact_mod_cast hk.2
 have a:=E.mul_nonneg (show 0<=c-e by grind) (show 0<=(k:E)/8 by grind);have b:=E.mul_nonneg (show 0<=c-e by grind) (show 0<=1-(k:E)/8 by grind);constructor<;>grind
end Go.Proofs
