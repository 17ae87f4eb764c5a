/- Natural numbers as bytes and as digits: plain facts. -/
import Derived.Test.YtjdhppdpbkoihaaGreatDoorE4
import Derived.IntWalk
open Nat renaming mul_le_mul_left → Za, pow_succ → Zc, pow_le_pow_right → Zd, div_lt_of_lt_mul → Ze, mul_add → Zf, mul_assoc → Zg, mod_eq_of_lt → Zi, mul_le_mul_right → Zm, min_eq_left → Zo, mul_comm → Zp, mod_lt → Zq, pow_pos → Zs, gcd → Zt, add_mul → Zu, pow_succ' → Zv
open Int renaming natCast_mul → Zb, neg_mul → Zx
open Rat renaming mkRat_self → Zh, mkRat_eq_div → Zw
open List renaming getElem?_eq_some_iff → Zj, replicate → Zk, length_singleton → Zl, eq_nil_of_length_eq_zero → Zn, length_append → Zr
namespace Go.Eng
open Go
theorem QRP {b:Bool}{p q:Prop}:(bif b then p else q)↔(b=true->p)/\(b=false->q):=by cases b<;>simp
theorem QF {b:Bool}{p q:Prop}(h:b=true->p)(h':b=false->q):bif b then p else q:=QRP.2 ⟨h,h'⟩
theorem Jl (n:Int):IntKind.u64.wrap n=n % 18446744073709551616:=by simp[IntKind.wrap,IntKind.bits,IntKind.signed]
theorem W9 {n:Int}(h0:0<=n)(h1:n<18446744073709551616):IntKind.u64.wrap n=n:=by rw[Jl];omega
theorem Ga {n:Int}(h0:0<=n)(h1:n<4294967296):IntKind.u32.wrap n=n:=by rw[IntKind.wrap_u32];omega
theorem QHX {n:Int}(h0:0<=n)(h1:n<256):IntKind.u8.wrap n=n:=by rw[IntKind.wrap_u8];omega
theorem Gb {n:Int}(h0: -9223372036854775808<=n)(h1:n<9223372036854775808):IntKind.i64.wrap n=n:=by rw[IntKind.wrap_i64];omega
theorem w64 {n:Int}(h: -9223372036854775808<=n/\n<9223372036854775808):IntKind.i64.wrap n=n:=Gb h.1 h.2
theorem Xv {n:Int}(h:0<=n/\n<18446744073709551616):IntKind.u64.wrap n=n:=W9 h.1 h.2
theorem QHY {n:Int}(h:0<=n/\n<4294967296):IntKind.u32.wrap n=n:=Ga h.1 h.2
theorem wu8 {n:Int}(h:0<=n/\n<256):IntKind.u8.wrap n=n:=QHX h.1 h.2
theorem te {a b:Int}(h:0<=a):a.tdiv b=a/b:=Int.tdiv_eq_ediv_of_nonneg h
theorem tm {a b:Int}(h:0<=a):a.tmod b=a % b:=Int.tmod_eq_emod_of_nonneg h
theorem Vf {k:IntKind}{a b:Int}(h:b.toNat<=k.bits):X8 k a b=k.wrap (a*2^b.toNat):=by
  unfold X8;rw[Zo h]
theorem YT {k:IntKind}{a b:Int}(h:b.toNat<=k.bits)(_h0:0<=a):XA k a b=a/2^b.toNat:=by
 unfold XA;rw[Zo h,Int.fdiv_eq_ediv_of_nonneg];exact Int.le_of_lt (Int.pow_pos (by omega))
theorem toNat_ofInt {n:Nat}{x:Nat}(h:x<2^n):(BitVec.ofInt n (x:Int)).toNat=x:=by
 rw[BitVec.toNat_ofInt];have:(x:Int) % ((2^n:Nat):Int)=x:=Int.emod_eq_of_lt (by omega) (by omega);rw[this];simp
theorem QNQ {a b s:Nat}(h:b<2^s):(2^s*a) ||| b=2^s*a+b:=(Nat.two_pow_add_eq_or_of_lt h a).symm
theorem U4 {a b s:Nat}(h:b<2^s)(hl:2^s*a+b<18446744073709551616):orI .u64 ((2^s*a:Nat):Int) (b:Int)=((2^s*a+b:Nat):Int):=by
 unfold orI;have h1:(BitVec.ofInt IntKind.u64.bits ((2^s*a:Nat):Int) ||| BitVec.ofInt IntKind.u64.bits (b:Int)).toNat=2^s*a+b:=by
  rw[BitVec.toNat_or,toNat_ofInt (by show _<2^64;omega),toNat_ofInt (by show _<2^64;omega),QNQ h]
 rw[h1];exact W9 (by omega) (by omega)
theorem QDd {a b s:Nat}(h:b<2^s)(hl:2^s*a+b<4294967296):orI .u32 ((2^s*a:Nat):Int) (b:Int)=((2^s*a+b:Nat):Int):=by
 unfold orI;have h1:(BitVec.ofInt IntKind.u32.bits ((2^s*a:Nat):Int) ||| BitVec.ofInt IntKind.u32.bits (b:Int)).toNat=2^s*a+b:=by
  rw[BitVec.toNat_or,toNat_ofInt (by show _<2^32;omega),toNat_ofInt (by show _<2^32;omega),QNQ h]
 rw[h1];exact Ga (by omega) (by omega)
theorem KW (k:IntKind)(a b:Int):orI k a b=orI k b a:=by unfold orI;rw[BitVec.or_comm]
theorem V6 {α:Type}{p:List α->Prop}(h0:p [])(h1: ∀l a,p l->p (l++[a]))(l:List α):p l:=by
 have key: ∀r:List α,p r.reverse:=by
  intro r;induction r with
  | nil=>exact h0
  | cons a r ih=>rw[List.reverse_cons];exact h1 _ _ ih
 have:=key l.reverse;rwa [List.reverse_reverse]at this
def Jw (l:List UInt8):List UInt8:=l.dropWhile (· ==0)
theorem Qq {m:Nat}:QA m=[]↔m=0:=by
 constructor
 ·intro h;have:=Xc m;rw[h]at this;exact this.symm
 ·rintro rfl;exact Q6
theorem Wc:QB []=0:=rfl
theorem Kw (l k:List UInt8):QB (l++k)=QB l*256^k.length+QB k:=by
  induction k using V6 with
  | h0=>simp[Wc]
  | h1 k b ih => rw [← List.append_assoc, YI, YI, ih, List.length_append, List.length_singleton, Nat.pow_succ, Nat.mul_add]; 
                               rw[Zp 256 (QB l*_),Zg];omega

theorem U5 (l:List UInt8):QB l<256^l.length:=by
 induction l using V6 with
 | h0=>simp[Wc]
 | h1 l b ih=>
  rw[YI,Zr,Zl,Zc];have:=b.toNat_lt;omega
theorem UK {l:List UInt8}{b:UInt8}(h:QB (l++[b])≠0):QA (QB (l++[b]))=QA (QB l)++[b]:=by
 rw[X2 _ h,YI];have hb:=b.toNat_lt;have h1:(256*QB l+b.toNat)/256=QB l:=by omega
 have h2:(256*QB l+b.toNat) % 256=b.toNat:=by omega
 rw[h1,h2];simp
theorem QA4 (l:List UInt8):QA (QB l)=Jw l:=by
  induction l using V6 with
  | h0=>simp[Wc,Q6,Jw]
  | h1 l b ih=>
    by_cases h:QB (l++[b])=0
    · rw[h,Q6];rw[YI]at h;have hl:QB l=0:=by omega
      have hb:b.toNat=0:=by omega
      rw[hl,Q6]at ih;have hb0:b=0:=UInt8.toNat_inj.1 (by simpa using hb);unfold Jw at ih⊢;rw[List.dropWhile_append,<-ih];simp[hb0]
    · rw[UK h,ih];unfold Jw;rw[List.dropWhile_append];split
      · rename_i he;have he':List.dropWhile (fun x=>x==0) l=[]:=by simpa using he
        have hz:QB l=0:=by
          unfold Jw at ih;rw[he']at ih;exact Qq.1 ih
        rw[YI,hz]at h;have hb: ¬b=0:=fun e=>h (by rw[e];rfl);rw[he'];simp[hb]
      · rfl

theorem XH (m:Nat):m<256^(QA m).length:=by
 have:=U5 (QA m);rwa [Xc]at this
theorem Qe {m k:Nat}:(QA m).length<=k↔m<256^k:=by
 constructor
 ·intro h;exact Nat.lt_of_lt_of_le (XH m) (Zd (by omega) h)
 ·induction m using Nat.strongRecOn generalizing k with
  | _ m ih=>
   intro h;by_cases h0:m=0
   ·subst h0;simp[Q6]
   ·rw[X2 m h0,Zr,Zl];cases k with
    | zero=>simp at h;omega
    | succ k=>
     have:m/256<256^k:=by
      apply Ze;rw[Zp,<-Zc];exact h
     have:=ih (m/256) (by omega) this;omega
theorem WW {m i:Nat}(h:i<(QA m).length):(QA m)[i]? =some (UInt8.ofNat (m/256^((QA m).length-1-i) % 256)):=by
 induction m using Nat.strongRecOn generalizing i with
 | _ m ih=>
  by_cases h0:m=0
  ·subst h0;simp[Q6]at h
  ·have e:=X2 m h0;have hl:(QA m).length=(QA (m/256)).length+1:=by rw[e];simp
   by_cases hi:i<(QA (m/256)).length
   ·have h1:=ih (m/256) (by omega) hi;have:(QA m)[i]? =(QA (m/256))[i]? :=by rw[e,List.getElem?_append_left hi]
    rw[this,h1,Nat.div_div_eq_div_mul,<-Zv,hl];congr 5;omega
   ·have hi':i=(QA (m/256)).length:=by omega
    rw[hl,hi'];rw[e,List.getElem?_append_right (Nat.le_refl _)];simp
theorem KJ {m:Nat}(h:m≠0): ∃b:UInt8,(QA m)[0]? =some b/\b.toNat≠0:=by
 have hl:0<(QA m).length:=by
  rcases Nat.eq_zero_or_pos (QA m).length with h' | h'
  ·exact absurd (Qq.1 (Zn h')) h
  ·exact h'
 refine⟨_,WW hl,?_⟩;have h1: ¬m<256^((QA m).length-1):=fun h'=>by
  have:=Qe.2 h';omega
 have h2:=XH m;have h3:256^(QA m).length=256*256^((QA m).length-1):=by rw[<-Zv];congr 1;omega
 have hp:0<256^((QA m).length-1):=Zs (by omega);have h4:m/256^((QA m).length-1)<256:=Ze (by rw[Zp];rw[h3]at h2;exact h2);have h5:0<m/256^((QA m).length-1):=Nat.div_pos (by omega) hp;rw[UInt8.toNat_ofNat',Nat.sub_zero,Zi (by omega)];omega
def fd (B L m:Nat):List Nat:=(List.range L).map fun j=>m/B^j % B
theorem Qk {B L m:Nat}:(fd B L m).length=L:=by simp[fd]
theorem Jm {B L m j:Nat}(h:j<L):(fd B L m)[j]? =some (m/B^j % B):=by simp[fd,h]
def QE (B:Nat):List Nat->Nat
  | []=>0
  | d::ds=>d+B*QE B ds

theorem QRQ {B L m:Nat}:fd B (L+1) m=m % B::fd B L (m/B):=by
 unfold fd;rw[List.range_succ_eq_map,List.map_cons,List.map_map];simp only[Nat.pow_zero,Nat.div_one,Function.comp_def,Zv,Nat.div_div_eq_div_mul]
theorem Qv {B:Nat}: ∀{L m:Nat},m<B^L->QE B (fd B L m)=m:=by
 intro L;induction L with
 | zero=>intro m h;simp at h;subst h;rfl
 | succ L ih=>
  intro m h;rw[QRQ,QE,ih (Ze (by rw[<-Zv];exact h))];exact Nat.mod_add_div m B
end Go.Eng
namespace Go.Eng
open Go
def Dig (B:Nat)(l:List Nat):Prop:= ∀d∈l,d<B

theorem Dig.nil {B:Nat}:Dig B []:=fun _ h=>by cases h
theorem Dig.cons {B d:Nat}{l:List Nat}(h:d<B)(hl:Dig B l):Dig B (d::l):=fun x hx=>by
 rcases List.mem_cons.1 hx with rfl | hx
 ·exact h
 ·exact hl x hx
theorem Dig.get {B i d:Nat}{l:List Nat}(h:Dig B l)(hi:l[i]? =some d):d<B:=h d (List.mem_of_getElem? hi)
theorem Dig.getD {B i:Nat}{l:List Nat}(h:Dig B l)(hB:0<B):l.getD i 0<B:=by
 rw[List.getD_eq_getElem?_getD];cases he:l[i]? with
 | none=>simpa using hB
 | some d=>simpa using h.get he
theorem Dig.set {B i v:Nat}{l:List Nat}(h:Dig B l)(hv:v<B):Dig B (l.set i v):=fun x hx=>by
 rcases List.mem_or_eq_of_mem_set hx with hx | rfl
 ·exact h x hx
 ·exact hv
theorem Dig.append {B:Nat}{l k:List Nat}(h:Dig B l)(hk:Dig B k):Dig B (l++k):=fun x hx=>by
 rcases List.mem_append.1 hx with hx | hx
 ·exact h x hx
 ·exact hk x hx
theorem Dig.take {B i:Nat}{l:List Nat}(h:Dig B l):Dig B (l.take i):=fun x hx=>h x (List.mem_of_mem_take hx)
theorem Dig.drop {B i:Nat}{l:List Nat}(h:Dig B l):Dig B (l.drop i):=fun x hx=>h x (List.mem_of_mem_drop hx)
theorem Dig.zeros {B n:Nat}(hB:0<B):Dig B (Zk n 0):=fun x hx=>by
 rw[(List.mem_replicate.1 hx).2];exact hB
theorem Dig.fd {B L m:Nat}(hB:0<B):Dig B (Eng.fd B L m):=fun x hx=>by
 simp only[Eng.fd,List.mem_map]at hx;obtain⟨j,_,rfl⟩:=hx;exact Zq _ hB
theorem Jn {B:Nat}(l k:List Nat):QE B (l++k)=QE B l+B^l.length*QE B k:=by
 induction l with
 | nil=>simp[QE]
 | cons d l ih=>
  simp only[List.cons_append,QE,ih,List.length_cons,Zc];grind
theorem Vg {B n:Nat}:QE B (Zk n 0)=0:=by
 induction n with
 | zero=>rfl
 | succ n ih=>simp[List.replicate_succ,QE,ih]
theorem JS {B:Nat}{l:List Nat}(h:Dig B l):QE B l<B^l.length:=by
 induction l with
 | nil=>simp[QE]
 | cons d l ih=>
  have h1:=ih (fun x hx=>h x (by simp[hx]));have h2:=h d (by simp);simp only[QE,List.length_cons,Zc];have:B*(QE B l+1)<=B*B^l.length:=Za _ h1;rw[Zp (B^l.length) B];rw[Zf]at this;omega
theorem QW {B i d:Nat}{l:List Nat}(h:l[i]? =some d):QE B (l.take (i+1))=QE B (l.take i)+B^i*d:=by
 have hi:=(Zj.1 h).1;rw[List.take_add_one,h,Jn];simp only[Option.toList_some,QE,Nat.mul_zero,Nat.add_zero,List.length_take];rw[Zo (by omega)]
theorem Qd {B i:Nat}{l:List Nat}(h:l.length<=i):QE B (l.take i)=QE B l:=by rw[List.take_of_length_le h]
theorem Xj {B i:Nat}{l:List Nat}(h:i<=l.length):QE B l=QE B (l.take i)+B^i*QE B (l.drop i):=by
 conv=>lhs;rw[<-List.take_append_drop i l,Jn]
 rw[List.length_take,Zo h]
theorem V7 {B i v d:Nat}{l:List Nat}(h:l[i]? =some d):QE B (l.set i v)+B^i*d=QE B l+B^i*v:=by
 induction l generalizing i with
 | nil=>simp at h
 | cons a l ih=>
  cases i with
  | zero=>simp at h;subst h;simp[QE];omega
  | succ i=>
   have:=ih (i:=i) (by simpa using h);simp only[List.set_cons_succ,QE,Zc];have e: ∀y,B^i*B*y=B*(B^i*y):=fun y=>by rw[Zp (B^i) B,Zg]
   rw[e,e];have:B*(QE B (l.set i v)+B^i*d)=B*(QE B l+B^i*v):=by rw[this]
   rw[Zf,Zf]at this;omega
theorem Xf {i v:Nat}{l:List Nat}:(l.set i v).take i=l.take i:=by
 rw[List.take_set];rw[List.set_eq_of_length_le];simp;omega
theorem KX {B:Nat}: ∀{l k:List Nat},Dig B l->Dig B k->l.length=k.length->QE B l=QE B k->l=k:=by
 intro l;induction l with
 | nil=>intro k _ _ h _;exact(Zn h.symm).symm
 | cons d l ih=>
  intro k hl hk hlen he;cases k with
  | nil=>cases hlen
  | cons e k=>
   simp only[QE]at he;have h1:=hl d (by simp);have h2:=hk e (by simp);have hB:0<B:=by omega
   have e1:d=e:=by
    have:=congrArg (· % B) he;simp only[Nat.add_mul_mod_self_left]at this;rwa [Zi h1,Zi h2]at this
   subst e1;have e2:QE B l=QE B k:=by
    have:B*QE B l=B*QE B k:=by omega
    exact Nat.eq_of_mul_eq_mul_left hB this
   rw[ih (fun x hx=>hl x (by simp[hx])) (fun x hx=>hk x (by simp[hx])) (by simpa using hlen) e2]
theorem KY {B:Nat}{l:List Nat}(h:Dig B l)(hB:0<B):fd B l.length (QE B l)=l:=
 KX (Dig.fd hB) h (by simp[Qk]) (Qv (JS h))
theorem VD {B i d:Nat}{l:List Nat}(h:l[i]? =some d):B^i*d<=QE B l:=by
 have hi:=(Zj.1 h).1;rw[Xj (B:=B) (i:=i) (by omega)];have:l.drop i=d::l.drop (i+1):=by
  rw[List.drop_eq_getElem_cons hi];rw[(Zj.1 h).2]
 rw[this,QE];have:B^i*d<=B^i*(d+B*QE B (l.drop (i+1))):=Za _ (by omega);omega
theorem QFW {B L m:Nat}(hL:0<L)(h:m<B^L):(fd B L m)[L-1]? =some (m/B^(L-1)):=by
 rw[Jm (by omega),Zi];apply Ze;rw[<-Zc,show(L-1).succ=L by omega];exact h
theorem QFX {B q V U v1 top n1:Nat}(hV:v1*B^n1<=V)(hU:U<(top+1)*B^n1)(hq:q*V<=U)(h1:0<v1):q<=top/v1:=by
 rw[Nat.le_div_iff_mul_le h1];have h2:q*v1*B^n1<=q*V:=by rw[Zg];exact Za _ hV
 have h3:q*v1*B^n1<(top+1)*B^n1:=by omega
 have:=Nat.lt_of_mul_lt_mul_right h3;omega
theorem QHZ {B q V U v1 v2 u3 top d rest n2:Nat}(hV:(v1*B+v2)*B^n2<=V)(hU:U<(top*B+u3+1)*B^n2)(hq:q*V<=U)(hs:d*v1+rest=top)(hd:rest*B+u3<d*v2):q<d:=by
  rcases Nat.lt_or_ge q d with h | h
  · exact h
  · exfalso;have h1:top*B+u3+1<=d*(v1*B+v2):=by
      have:top*B=d*v1*B+rest*B:=by rw[<-hs,Zu]
      rw[Zf,<-Zg];omega
    have h2:(top*B+u3+1)*B^n2<=d*(v1*B+v2)*B^n2:=Zm _ h1;have h3:d*((v1*B+v2)*B^n2)<=q*V:=Nat.le_trans (Za _ hV) (Zm _ h);rw[<-Zg]at h3;omega

theorem QLS {B V U v1 v2 u3 top d rest n2:Nat}(hV:V<(v1*B+v2+1)*B^n2)(hU:(top*B+u3)*B^n2<=U)(hs:d*v1+rest=top)(hd:d*v2<=rest*B+u3)(hB:d<=v1*B):(d-1)*V<=U:=by
  cases d with
  | zero=>simp
  | succ d=>
    simp only[Nat.add_sub_cancel];have h1:d*(v1*B+v2+1)<=top*B+u3:=by
      have e1:top*B=(d+1)*v1*B+rest*B:=by rw[<-hs,Zu]
      have e2:d*(v1*B+v2+1)=d*v1*B+d*v2+d:=by rw[Zf,Zf,Nat.mul_one,<-Zg]
      have e3:(d+1)*v1*B=d*v1*B+v1*B:=by rw[Zu,Nat.one_mul,Zu]
      have e4:(d+1)*v2=d*v2+v2:=by rw[Zu,Nat.one_mul]
      omega
    have h2:d*V<=d*((v1*B+v2+1)*B^n2):=Za _ (Nat.le_of_lt hV);rw[<-Zg]at h2;exact Nat.le_trans h2 (Nat.le_trans (Zm _ h1) hU)

theorem U6 (m B k:Nat):m % B^(k+1)=m % B^k+B^k*(m/B^k % B):=by
 rw[Zc,Nat.mod_mul]
theorem QRR {m x L:Nat}(hx:x<4*L):(fd 4294967296 L (m % 256^x)).set (x/4) ((m % 256^x)/4294967296^(x/4) % 4294967296+256^(x % 4)*(m/256^x % 256))=fd 4294967296 L (m % 256^(x+1)):=by
  have hj:x/4<L:=by omega
  have hBx: ∀y,(4294967296:Nat)^y=256^(4*y):=fun y=>by rw[show(4294967296:Nat)=256^4 from rfl,<-Nat.pow_mul]
  have e4:256^x=4294967296^(x/4)*256^(x % 4):=by
    rw[hBx,<-Nat.pow_add];congr 1;omega
  have hm1:m % 256^x<256^x:=Zq _ (Zs (by omega));have hm2:m % 256^(x+1)<256^(x+1):=Zq _ (Zs (by omega));have hl1:(256:Nat)^x<=4294967296^L:=by rw[hBx];exact Zd (by omega) (by omega)
  have hl2:(256:Nat)^(x+1)<=4294967296^L:=by rw[hBx];exact Zd (by omega) (by omega)
  have hd:(m % 256^x)/4294967296^(x/4)<256^(x % 4):=by
    apply Ze;rw[<-e4];exact hm1
  have hr:x % 4<4:=Zq _ (by omega);have hp:256^(x % 4)*256<=4294967296:=by
    have:(256:Nat)^(x % 4)*256=256^(x % 4+1):=by rw[Zc]
    rw[this,show(4294967296:Nat)=256^4 from rfl];exact Zd (by omega) (by omega)
  have hb:m/256^x % 256<256:=Zq _ (by omega);have hdm:(m % 256^x)/4294967296^(x/4) % 4294967296=(m % 256^x)/4294967296^(x/4):=Zi (by omega);have hv:(m % 256^x)/4294967296^(x/4) % 4294967296+256^(x % 4)*(m/256^x % 256)<4294967296:=by
    rw[hdm];have:256^(x % 4)*(m/256^x % 256+1)<=256^(x % 4)*256:=Za _ hb;rw[Zf]at this;omega
  apply KX ((Dig.fd (by omega)).set hv) (Dig.fd (by omega)) (by simp[Qk]);have h1:=V7 (B:=4294967296) (v:=(m % 256^x)/4294967296^(x/4) % 4294967296+256^(x % 4)*(m/256^x % 256)) (Jm (B:=4294967296) (m:=m % 256^x) hj);rw[Qv (by omega),Zf,<-Zg,<-e4]at h1;rw[Qv (by omega),U6];omega

theorem QNR {L:Nat}:fd 4294967296 L 0=Zk L 0:=
 KX (Dig.fd (by omega)) (Dig.zeros (by omega)) (by simp[Qk]) (by rw[Qv (Zs (by omega)),Vg])
def W (ds:List Nat):List (List Ch):=ds.map fun(d:Nat)=>[.v (.int .u32 (d:Int))]
theorem WE (ds:List Nat):(W ds).length=ds.length:=by simp[W]
theorem QYB {ds:List Nat}{i d:Nat}(h:ds[i]? =some d):(W ds)[i]? =some [.v (.int .u32 (d:Int))]:=by simp[W,h]
theorem Y0 {ds:List Nat}{i d:Nat}(h:ds[i]? =some d):ldE (W ds) i 0 1=some [.v (.int .u32 (d:Int))]:=by simp only[ldE,QYB h];rfl
theorem WU (ds:List Nat)(i v:Nat):(W ds).set i [.v (.int .u32 (v:Int))]=W (ds.set i v):=by simp[W,List.map_set]
theorem Hy (ds:List Nat)(i:Nat):(W ds).take i=W (ds.take i):=by simp[W,List.map_take]
theorem QAG (n:Nat):Zk n [Ch.v (.int .u32 0)]=W (Zk n 0):=by simp[W]
theorem Jo (r:Nat):(256:Nat)^r=2^(8*r):=by rw[show(256:Nat)=2^8 from rfl,<-Nat.pow_mul]
theorem QLT {d b r:Nat}(hd:d<256^r)(hr:r<4)(hb:b<256):orI .u32 (d:Int) (X8 .u32 (IntKind.u32.wrap (b:Int)) ((r:Int)*8))=((d+256^r*b:Nat):Int):=by
  have hp:(256:Nat)^r*256<=4294967296:=by
    have:(256:Nat)^r*256=256^(r+1):=by rw[Zc]
    rw[this,show(4294967296:Nat)=256^4 from rfl];exact Zd (by omega) (by omega)
  have h2:256^r*(b+1)<=256^r*256:=Za _ hb;rw[Zf]at h2;have e1:X8 .u32 (IntKind.u32.wrap (b:Int)) ((r:Int)*8)=((2^(8*r)*b:Nat):Int):=by
    have e0:((r:Int)*8).toNat=8*r:=by omega
    rw[QHY (by omega),Vf (by rw[e0];simp only[IntKind.bits];omega),e0];have:(b:Int)*2^(8*r)=((2^(8*r)*b:Nat):Int):=by rw[Zb,Int.mul_comm];simp
    rw[this];refine QHY ⟨by omega,?_⟩;rw[<-Jo];omega
  rw[e1,KW,QDd (by rw[<-Jo];exact hd) (by rw[<-Jo];omega),<-Jo];congr 1;omega

theorem or_byte64 {d b r:Nat}(hd:d<256^r)(hr:r<8)(hb:b<256):orI .u64 (d:Int) (X8 .u64 (IntKind.u64.wrap (b:Int)) ((r:Int)*8))=((d+256^r*b:Nat):Int):=by
  have hp:(256:Nat)^r*256<=18446744073709551616:=by
    have:(256:Nat)^r*256=256^(r+1):=by rw[Zc]
    rw[this,show(18446744073709551616:Nat)=256^8 from rfl];exact Zd (by omega) (by omega)
  have h2:256^r*(b+1)<=256^r*256:=Za _ hb;rw[Zf]at h2;have e1:X8 .u64 (IntKind.u64.wrap (b:Int)) ((r:Int)*8)=((2^(8*r)*b:Nat):Int):=by
    have e0:((r:Int)*8).toNat=8*r:=by omega
    rw[Xv (by omega),Vf (by rw[e0];simp only[IntKind.bits];omega),e0];have:(b:Int)*2^(8*r)=((2^(8*r)*b:Nat):Int):=by rw[Zb,Int.mul_comm];simp
    rw[this];refine Xv ⟨by omega,?_⟩;rw[<-Jo];omega
  rw[e1,KW,U4 (by rw[<-Jo];exact hd) (by rw[<-Jo];omega),<-Jo];congr 1;omega

theorem QRS (m x:Nat):m % 256^x/4294967296^(x/4) % 4294967296<256^(x % 4):=by
 have hBx:(4294967296:Nat)^(x/4)=256^(4*(x/4)):=by rw[show(4294967296:Nat)=256^4 from rfl,<-Nat.pow_mul]
 have e4:256^x=4294967296^(x/4)*256^(x % 4):=by
  rw[hBx,<-Nat.pow_add];congr 1;omega
 have hm1:m % 256^x<256^x:=Zq _ (Zs (by omega));refine Nat.lt_of_le_of_lt (Nat.mod_le _ _) (Ze ?_);rw[<-e4];exact hm1
end Go.Eng
namespace Go.Eng
open Go
def Xh (neg:Bool)(n d:Nat):Rat:=mkRat (bif neg then-(n:Int)else n) d

theorem QA5 (neg:Bool)(n:Nat):(bif neg then-(n:Int)else n).natAbs=n:=by cases neg<;>simp
theorem Hz (neg:Bool)(n d:Nat)(hd:d≠0):(Xh neg n d).num=bif neg then-((n/Zt n d:Nat):Int)else((n/Zt n d:Nat):Int):=by
 unfold Xh;rw[Rat.num_mkRat,if_neg hd,QA5,Nat.gcd_comm d n];cases neg with
 | false=>simp only[R8];rw[Int.natCast_ediv]
 | true=>
  simp only[R7];have hdvd:((Zt n d:Nat):Int)∣(n:Int):=Int.natCast_dvd_natCast.2 (Nat.gcd_dvd_left n d);rw[Int.neg_ediv_of_dvd hdvd,Int.natCast_ediv]
theorem QDe (neg:Bool)(n d:Nat)(hd:d≠0):(Xh neg n d).num.natAbs=n/Zt n d:=by
 rw[Hz neg n d hd];generalize n/Zt n d=k;cases neg
 ·simp only[R8];omega
 ·simp only[R7];omega
theorem QCl (neg:Bool)(n d:Nat)(hd:d≠0):(Xh neg n d).den=d/Zt n d:=by
 unfold Xh;rw[Rat.den_mkRat,if_neg hd,QA5,Nat.gcd_comm d n]
theorem QHa {n d:Nat}(h:n≠0):n/Zt n d≠0:=by
 have h1:=Nat.gcd_le_left d (by omega:0<n);have h2:0<Zt n d:=Nat.gcd_pos_of_pos_left _ (by omega);have:=Nat.div_pos h1 h2;omega
theorem QLU (neg:Bool)(n d:Nat)(hd:d≠0)(hn:n≠0):decide ((Xh neg n d).num<0)=neg:=by
 rw[Hz neg n d hd];have:=QHa (d:=d) hn;generalize n/Zt n d=k at this;cases neg
 ·simp only[R8,decide_eq_false_iff_not];omega
 ·simp only[R7,decide_eq_true_eq];omega
theorem QHb (neg:Bool)(d:Nat):Xh neg 0 d=0:=by unfold Xh;cases neg<;>simp
theorem J8 (q:Rat):(bif decide (q.num<0)then-(q.num.natAbs:Int)else q.num.natAbs)=q.num:=by
 by_cases h:q.num<0
 ·simp only[h,decide_true,R7];omega
 ·simp only[h,decide_false,R8];omega
theorem QLV (a b:Rat):Xh (decide (a.num<0) !=decide (b.num<0)) (a.num.natAbs*b.num.natAbs) (a.den*b.den)=a*b:=by
 unfold Xh;rw[Rat.mul_def'];congr 1;rw[Zb];have e1:=J8 a;have e2:=J8 b;by_cases h1:a.num<0<;>by_cases h2:b.num<0<;>simp only[h1,h2,decide_true,decide_false,R7,R8,bne_self_eq_false,Bool.true_bne,Bool.false_bne,Bool.not_false,Bool.not_true]at e1 e2⊢ <;>rw[<-e1,<-e2]<;>simp[Zx,Int.mul_neg]
theorem QLW (a b:Rat)(hb:b.num≠0):Xh (decide (a.num<0) !=decide (b.num<0)) (a.num.natAbs*b.den) (a.den*b.num.natAbs)=a/b:=by
 have hb0:b≠0:=fun e=>hb (by rw[e];rfl);have h:a/b*b=a:=Rat.div_mul_cancel hb0;have key0:Xh (decide (a.num<0) !=decide (b.num<0)) (a.num.natAbs*b.den) (a.den*b.num.natAbs)*mkRat b.num b.den=mkRat a.num a.den:=by
  have h1:b.num.natAbs≠0:=by omega
  unfold Xh;rw[Rat.mkRat_mul_mkRat,Rat.mkRat_eq_iff (Nat.mul_ne_zero (Nat.mul_ne_zero a.den_nz h1) b.den_nz) a.den_nz];have e1:=J8 a;have e2:=J8 b;simp only[Zb];generalize (b.den:Int)=bd;generalize (a.den:Int)=ad;by_cases h1:a.num<0<;>by_cases h2:b.num<0<;>simp only[h1,h2,decide_true,decide_false,R7,R8,bne_self_eq_false,Bool.true_bne,Bool.false_bne,Bool.not_false,Bool.not_true]at e1 e2⊢ <;>rw[<-e1,<-e2]<;>simp<;>grind
 have key:Xh (decide (a.num<0) !=decide (b.num<0)) (a.num.natAbs*b.den) (a.den*b.num.natAbs)*b=a:=by
  rwa [Zh,Zh]at key0
 have:(Xh (decide (a.num<0) !=decide (b.num<0)) (a.num.natAbs*b.den) (a.den*b.num.natAbs)*b)*b⁻¹=a*b⁻¹:=by rw[key]
 rw[Rat.mul_assoc,Rat.mul_inv_cancel b hb0,Rat.mul_one]at this;rw[this,Rat.div_def]
def JM (n1:Bool)(a:Nat)(n2:Bool)(b:Nat):Bool×Nat:=
  bif n1==n2 then(n1,a+b)else bif decide (b<=a)then(n1,a-b)else(n2,b-a)
theorem QA6 (n1:Bool)(a:Nat)(n2:Bool)(b:Nat):(bif(JM n1 a n2 b).1 then-((JM n1 a n2 b).2:Int)else(JM n1 a n2 b).2)=(bif n1 then-(a:Int)else a)+(bif n2 then-(b:Int)else b):=by
 unfold JM;cases n1<;>cases n2<;>by_cases h:b<=a<;>simp[h]<;>omega
theorem QLX (a b:Rat):Xh (JM (decide (a.num<0)) (a.num.natAbs*b.den) (decide (b.num<0)) (b.num.natAbs*a.den)).1 (JM (decide (a.num<0)) (a.num.natAbs*b.den) (decide (b.num<0)) (b.num.natAbs*a.den)).2 (a.den*b.den)=a+b:=by
 unfold Xh;rw[QA6,Rat.add_def'];congr 1;have e1:=J8 a;have e2:=J8 b;simp only[Zb];by_cases h1:a.num<0<;>by_cases h2:b.num<0<;>simp only[h1,h2,decide_true,decide_false,R7,R8]at e1 e2⊢ <;>rw[<-e1,<-e2]<;>simp[Zx]
theorem QA7 (a b:Rat)(h:a.den=b.den):Xh (JM (decide (a.num<0)) a.num.natAbs (decide (b.num<0)) b.num.natAbs).1 (JM (decide (a.num<0)) a.num.natAbs (decide (b.num<0)) b.num.natAbs).2 a.den=a+b:=by
 unfold Xh;rw[QA6,J8,J8,Rat.add_def',<-h];have:mkRat (a.num*a.den+b.num*a.den) (a.den*a.den)=mkRat (a.num+b.num) a.den:=by
  rw[<-Int.add_mul];exact Rat.mkRat_mul_right a.den_nz
 rw[this]
def Xk (a b:Rat):Int:=if a<b then-1 else if a=b then 0 else 1
def JN (a b:Nat):Int:=if a<b then-1 else if a=b then 0 else 1
def QLY (a b:Int):Int:=if a<b then-1 else if a=b then 0 else 1
theorem QA8 (a b:Rat):a=b↔a.num*b.den=b.num*a.den:=by
 constructor
 ·rintro rfl;rfl
 ·intro h;have h1:=Zh a;have h2:=Zh b;rw[<-h1,<-h2,Rat.mkRat_eq_iff a.den_nz b.den_nz];exact h
theorem QRT (a b:Rat):Xk a b=QLY (a.num*b.den) (b.num*a.den):=by
 unfold Xk QLY;simp only[Rat.lt_iff,QA8]
theorem QNS {a b:Nat}:QLY a b=JN a b:=by unfold QLY JN;simp only[Int.ofNat_lt,Int.natCast_inj]
theorem QNT {a b:Nat}:QLY (-(a:Int)) (-(b:Int))= -JN a b:=by
 unfold QLY JN;rcases Nat.lt_trichotomy a b with h | h | h
 ·have h1: ¬ -(a:Int)< -(b:Int):=by omega
  have h2: ¬ -(a:Int)= -(b:Int):=by omega
  rw[if_neg h1,if_neg h2,if_pos h];rfl
 ·subst h;simp
 ·have h1: -(a:Int)< -(b:Int):=by omega
  have h2: ¬a<b:=by omega
  have h3: ¬a=b:=by omega
  rw[if_pos h1,if_neg h2,if_neg h3]
theorem QLZ (a b:Rat)(h:decide (a.num<0)=decide (b.num<0)):Xk a b=bif decide (a.num<0)then-JN (a.num.natAbs*b.den) (b.num.natAbs*a.den)else JN (a.num.natAbs*b.den) (b.num.natAbs*a.den):=by
 rw[QRT];have e1:=J8 a;have e2:=J8 b;rw[<-h]at e2;by_cases h1:a.num<0
 ·simp only[h1,decide_true,R7]at e1 e2⊢;rw[<-QNT];congr 1
  ·rw[Zb,<-Zx,e1]
  ·rw[Zb,<-Zx,e2]
 ·simp only[h1,decide_false,R8]at e1 e2⊢;rw[<-QNS];congr 1
  ·rw[Zb,e1]
  ·rw[Zb,e2]
theorem QRU {a b:Rat}(ha:a.num<0)(hb: ¬b.num<0):Xk a b= -1:=by
 unfold Xk;rw[if_pos];rw[Rat.lt_iff];have h1:a.num*(b.den:Int)<0:=Int.mul_neg_of_neg_of_pos ha (by have:=b.den_nz;omega);have h2:0<=b.num*(a.den:Int):=Int.mul_nonneg (by omega) (by omega);omega
theorem QRV {a b:Rat}(ha: ¬a.num<0)(hb:b.num<0):Xk a b=1:=by
 unfold Xk;have h1:0<=a.num*(b.den:Int):=Int.mul_nonneg (by omega) (by omega);have h2:b.num*(a.den:Int)<0:=Int.mul_neg_of_neg_of_pos hb (by have:=a.den_nz;omega);rw[if_neg,if_neg]
 ·rw[QA8];omega
 ·rw[Rat.lt_iff];omega
end Go.Eng
namespace Go.Proofs
def Q9 (a b:Rat):Rat:=if a<=b then a else b
end Go.Proofs
namespace Go.Proofs
def WG (lo hi:Rat)(k:Int):Rat:=mkRat (8*lo.num*hi.den+(hi.num*lo.den-lo.num*hi.den)*k) (8*lo.den*hi.den)
theorem QFY (lo hi:Rat)(k:Int):WG lo hi k=lo+(hi-lo)*((k:Rat)/8):=by
 unfold WG;rw[Zw];have h1:(lo.den:Rat)≠0:=by exact_mod_cast lo.den_nz
 have h2:(hi.den:Rat)≠0:=by exact_mod_cast hi.den_nz
 have e1:lo=(lo.num:Rat)/(lo.den:Rat):=by rw[<-Zw,Zh]
 have e2:hi=(hi.num:Rat)/(hi.den:Rat):=by rw[<-Zw,Zh]
 generalize lo.num=n at*;generalize lo.den=d at*;generalize hi.num=m at*;generalize hi.den=e at*;subst e1 e2;simp only[Rat.intCast_add,Rat.intCast_mul,Rat.intCast_sub,Rat.intCast_natCast,Rat.natCast_mul];grind
theorem Gc {lo hi:Rat}(h:lo<=hi){k:Int}(hk:0<=k/\k<=8):lo<=WG lo hi k/\WG lo hi k<=hi:=by
 rw[QFY];have k0:(0:Rat)<=(k:Rat):=by exact_mod_cast hk.1
 have k1:(k:Rat)<=8:=by exact_mod_cast hk.2
 have a:=Rat.mul_nonneg (show 0<=hi-lo by grind) (show 0<=(k:Rat)/8 by grind);have b:=Rat.mul_nonneg (show 0<=hi-lo by grind) (show 0<=1-(k:Rat)/8 by grind);constructor<;>grind
end Go.Proofs
