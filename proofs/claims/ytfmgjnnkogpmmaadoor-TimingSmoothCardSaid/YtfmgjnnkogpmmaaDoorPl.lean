/- Natural numbers as bytes and as digits: plain facts. -/
import Derived.Test.YtfmgjnnkogpmmaaDoorE4
import Derived.IntWalk
open Nat renaming mul_le_mul_left → Za, pow_succ → Zc, pow_le_pow_right → Zd, div_lt_of_lt_mul → Ze, mul_add → Zf, mul_assoc → Zg, mod_eq_of_lt → Zi, mul_le_mul_right → Zm, min_eq_left → Zo, mul_comm → Zp, mod_lt → Zq, pow_pos → Zs, gcd → Zt, add_mul → Zu, pow_succ' → Zv
open Int renaming natCast_mul → Zb, neg_mul → Zx
open Rat renaming mkRat_self → Zh, mkRat_eq_div → Zw
open List renaming getElem?_eq_some_iff → Zj, replicate → Zk, length_singleton → Zl, eq_nil_of_length_eq_zero → Zn, length_append → Zr
namespace Go.Eng
open Go
theorem QLx {b:Bool}{p q:Prop}:(bif b then p else q)↔(b=true->p)/\(b=false->q):=by cases b<;>simp
theorem QE {b:Bool}{p q:Prop}(h:b=true->p)(h':b=false->q):bif b then p else q:=QLx.2 ⟨h,h'⟩
theorem JD (n:Int):IntKind.u64.wrap n=n % 18446744073709551616:=by simp[IntKind.wrap,IntKind.bits,IntKind.signed]
theorem WO {n:Int}(h0:0<=n)(h1:n<18446744073709551616):IntKind.u64.wrap n=n:=by rw[JD];omega
theorem Uh {n:Int}(h0:0<=n)(h1:n<4294967296):IntKind.u32.wrap n=n:=by rw[IntKind.wrap_u32];omega
theorem QEc {n:Int}(h0:0<=n)(h1:n<256):IntKind.u8.wrap n=n:=by rw[IntKind.wrap_u8];omega
theorem Ui {n:Int}(h0: -9223372036854775808<=n)(h1:n<9223372036854775808):IntKind.i64.wrap n=n:=by rw[IntKind.wrap_i64];omega
theorem w64 {n:Int}(h: -9223372036854775808<=n/\n<9223372036854775808):IntKind.i64.wrap n=n:=Ui h.1 h.2
theorem XV {n:Int}(h:0<=n/\n<18446744073709551616):IntKind.u64.wrap n=n:=WO h.1 h.2
theorem QEd {n:Int}(h:0<=n/\n<4294967296):IntKind.u32.wrap n=n:=Uh h.1 h.2
theorem wu8 {n:Int}(h:0<=n/\n<256):IntKind.u8.wrap n=n:=QEc h.1 h.2
theorem te {a b:Int}(h:0<=a):a.tdiv b=a/b:=Int.tdiv_eq_ediv_of_nonneg h
theorem tm {a b:Int}(h:0<=a):a.tmod b=a % b:=Int.tmod_eq_emod_of_nonneg h
theorem KU {k:IntKind}{a b:Int}(h:b.toNat<=k.bits):Xh k a b=k.wrap (a*2^b.toNat):=by
  unfold Xh;rw[Zo h]
theorem X2 {k:IntKind}{a b:Int}(h:b.toNat<=k.bits)(_h0:0<=a):Q0 k a b=a/2^b.toNat:=by
 unfold Q0;rw[Zo h,Int.fdiv_eq_ediv_of_nonneg];exact Int.le_of_lt (Int.pow_pos (by omega))
theorem toNat_ofInt {n:Nat}{x:Nat}(h:x<2^n):(BitVec.ofInt n (x:Int)).toNat=x:=by
 rw[BitVec.toNat_ofInt];have:(x:Int) % ((2^n:Nat):Int)=x:=Int.emod_eq_of_lt (by omega) (by omega);rw[this];simp
theorem QJD {a b s:Nat}(h:b<2^s):(2^s*a) ||| b=2^s*a+b:=(Nat.two_pow_add_eq_or_of_lt h a).symm
theorem Ve {a b s:Nat}(h:b<2^s)(hl:2^s*a+b<18446744073709551616):orI .u64 ((2^s*a:Nat):Int) (b:Int)=((2^s*a+b:Nat):Int):=by
 unfold orI;have h1:(BitVec.ofInt IntKind.u64.bits ((2^s*a:Nat):Int) ||| BitVec.ofInt IntKind.u64.bits (b:Int)).toNat=2^s*a+b:=by
  rw[BitVec.toNat_or,toNat_ofInt (by show _<2^64;omega),toNat_ofInt (by show _<2^64;omega),QJD h]
 rw[h1];exact WO (by omega) (by omega)
theorem QBJ {a b s:Nat}(h:b<2^s)(hl:2^s*a+b<4294967296):orI .u32 ((2^s*a:Nat):Int) (b:Int)=((2^s*a+b:Nat):Int):=by
 unfold orI;have h1:(BitVec.ofInt IntKind.u32.bits ((2^s*a:Nat):Int) ||| BitVec.ofInt IntKind.u32.bits (b:Int)).toNat=2^s*a+b:=by
  rw[BitVec.toNat_or,toNat_ofInt (by show _<2^32;omega),toNat_ofInt (by show _<2^32;omega),QJD h]
 rw[h1];exact Uh (by omega) (by omega)
theorem Wc (k:IntKind)(a b:Int):orI k a b=orI k b a:=by unfold orI;rw[BitVec.or_comm]
theorem Kp {α:Type}{p:List α->Prop}(h0:p [])(h1: ∀l a,p l->p (l++[a]))(l:List α):p l:=by
 have key: ∀r:List α,p r.reverse:=by
  intro r;induction r with
  | nil=>exact h0
  | cons a r ih=>rw[List.reverse_cons];exact h1 _ _ ih
 have:=key l.reverse;rwa [List.reverse_reverse]at this
def JL (l:List UInt8):List UInt8:=l.dropWhile (· ==0)
theorem Qk {m:Nat}:QA m=[]↔m=0:=by
 constructor
 ·intro h;have:=XL m;rw[h]at this;exact this.symm
 ·rintro rfl;exact Qy
theorem J1:QB []=0:=rfl
theorem Ws (l k:List UInt8):QB (l++k)=QB l*256^k.length+QB k:=by
  induction k using Kp with
  | h0=>simp[J1]
  | h1 k b ih => rw [← List.append_assoc, Xs, Xs, ih, List.length_append, List.length_singleton, Nat.pow_succ, Nat.mul_add]; 
                               rw[Zp 256 (QB l*_),Zg];omega

theorem Vf (l:List UInt8):QB l<256^l.length:=by
 induction l using Kp with
 | h0=>simp[J1]
 | h1 l b ih=>
  rw[Xs,Zr,Zl,Zc];have:=b.toNat_lt;omega
theorem K1 {l:List UInt8}{b:UInt8}(h:QB (l++[b])≠0):QA (QB (l++[b]))=QA (QB l)++[b]:=by
 rw[Xf _ h,Xs];have hb:=b.toNat_lt;have h1:(256*QB l+b.toNat)/256=QB l:=by omega
 have h2:(256*QB l+b.toNat) % 256=b.toNat:=by omega
 rw[h1,h2];simp
theorem Hx (l:List UInt8):QA (QB l)=JL l:=by
  induction l using Kp with
  | h0=>simp[J1,Qy,JL]
  | h1 l b ih=>
    by_cases h:QB (l++[b])=0
    · rw[h,Qy];rw[Xs]at h;have hl:QB l=0:=by omega
      have hb:b.toNat=0:=by omega
      rw[hl,Qy]at ih;have hb0:b=0:=UInt8.toNat_inj.1 (by simpa using hb);unfold JL at ih⊢;rw[List.dropWhile_append,<-ih];simp[hb0]
    · rw[K1 h,ih];unfold JL;rw[List.dropWhile_append];split
      · rename_i he;have he':List.dropWhile (fun x=>x==0) l=[]:=by simpa using he
        have hz:QB l=0:=by
          unfold JL at ih;rw[he']at ih;exact Qk.1 ih
        rw[Xs,hz]at h;have hb: ¬b=0:=fun e=>h (by rw[e];rfl);rw[he'];simp[hb]
      · rfl

theorem Q8 (m:Nat):m<256^(QA m).length:=by
 have:=Vf (QA m);rwa [XL]at this
theorem Qa {m k:Nat}:(QA m).length<=k↔m<256^k:=by
 constructor
 ·intro h;exact Nat.lt_of_lt_of_le (Q8 m) (Zd (by omega) h)
 ·induction m using Nat.strongRecOn generalizing k with
  | _ m ih=>
   intro h;by_cases h0:m=0
   ·subst h0;simp[Qy]
   ·rw[Xf m h0,Zr,Zl];cases k with
    | zero=>simp at h;omega
    | succ k=>
     have:m/256<256^k:=by
      apply Ze;rw[Zp,<-Zc];exact h
     have:=ih (m/256) (by omega) this;omega
theorem Jv {m i:Nat}(h:i<(QA m).length):(QA m)[i]? =some (UInt8.ofNat (m/256^((QA m).length-1-i) % 256)):=by
 induction m using Nat.strongRecOn generalizing i with
 | _ m ih=>
  by_cases h0:m=0
  ·subst h0;simp[Qy]at h
  ·have e:=Xf m h0;have hl:(QA m).length=(QA (m/256)).length+1:=by rw[e];simp
   by_cases hi:i<(QA (m/256)).length
   ·have h1:=ih (m/256) (by omega) hi;have:(QA m)[i]? =(QA (m/256))[i]? :=by rw[e,List.getElem?_append_left hi]
    rw[this,h1,Nat.div_div_eq_div_mul,<-Zv,hl];congr 5;omega
   ·have hi':i=(QA (m/256)).length:=by omega
    rw[hl,hi'];rw[e,List.getElem?_append_right (Nat.le_refl _)];simp
theorem WT {m:Nat}(h:m≠0): ∃b:UInt8,(QA m)[0]? =some b/\b.toNat≠0:=by
 have hl:0<(QA m).length:=by
  rcases Nat.eq_zero_or_pos (QA m).length with h' | h'
  ·exact absurd (Qk.1 (Zn h')) h
  ·exact h'
 refine⟨_,Jv hl,?_⟩;have h1: ¬m<256^((QA m).length-1):=fun h'=>by
  have:=Qa.2 h';omega
 have h2:=Q8 m;have h3:256^(QA m).length=256*256^((QA m).length-1):=by rw[<-Zv];congr 1;omega
 have hp:0<256^((QA m).length-1):=Zs (by omega);have h4:m/256^((QA m).length-1)<256:=Ze (by rw[Zp];rw[h3]at h2;exact h2);have h5:0<m/256^((QA m).length-1):=Nat.div_pos (by omega) hp;rw[UInt8.toNat_ofNat',Nat.sub_zero,Zi (by omega)];omega
def fd (B L m:Nat):List Nat:=(List.range L).map fun j=>m/B^j % B
theorem Qj {B L m:Nat}:(fd B L m).length=L:=by simp[fd]
theorem JE {B L m j:Nat}(h:j<L):(fd B L m)[j]? =some (m/B^j % B):=by simp[fd,h]
def QF (B:Nat):List Nat->Nat
  | []=>0
  | d::ds=>d+B*QF B ds

theorem QLy {B L m:Nat}:fd B (L+1) m=m % B::fd B L (m/B):=by
 unfold fd;rw[List.range_succ_eq_map,List.map_cons,List.map_map];simp only[Nat.pow_zero,Nat.div_one,Function.comp_def,Zv,Nat.div_div_eq_div_mul]
theorem Qt {B:Nat}: ∀{L m:Nat},m<B^L->QF B (fd B L m)=m:=by
 intro L;induction L with
 | zero=>intro m h;simp at h;subst h;rfl
 | succ L ih=>
  intro m h;rw[QLy,QF,ih (Ze (by rw[<-Zv];exact h))];exact Nat.mod_add_div m B
end Go.Eng
namespace Go.Eng
open Go
def Dig (B:Nat)(l:List Nat):Prop:= ∀d∈l,d<B

theorem Dig.nil {B:Nat}:Dig B []:=fun _ h=>by cases h
theorem Dig.cons {B d:Nat}{l:List Nat}(h:d<B)(hl:Dig B l):Dig B (d::l):=fun x hx=>by
 rcases List.mem_cons.1 hx with rfl | hx
 ·exact h
 ·exact hl x hx
theorem Dig.get {B i d:Nat}{l:List Nat}(h:Dig B l)(hi:l[i]? =some d):d<B:=h d (List.mem_of_getElem? hi)
theorem Dig.getD {B i:Nat}{l:List Nat}(h:Dig B l)(hB:0<B):l.getD i 0<B:=by
 rw[List.getD_eq_getElem?_getD];cases he:l[i]? with
 | none=>simpa using hB
 | some d=>simpa using h.get he
theorem Dig.set {B i v:Nat}{l:List Nat}(h:Dig B l)(hv:v<B):Dig B (l.set i v):=fun x hx=>by
 rcases List.mem_or_eq_of_mem_set hx with hx | rfl
 ·exact h x hx
 ·exact hv
theorem Dig.append {B:Nat}{l k:List Nat}(h:Dig B l)(hk:Dig B k):Dig B (l++k):=fun x hx=>by
 rcases List.mem_append.1 hx with hx | hx
 ·exact h x hx
 ·exact hk x hx
theorem Dig.take {B i:Nat}{l:List Nat}(h:Dig B l):Dig B (l.take i):=fun x hx=>h x (List.mem_of_mem_take hx)
theorem Dig.drop {B i:Nat}{l:List Nat}(h:Dig B l):Dig B (l.drop i):=fun x hx=>h x (List.mem_of_mem_drop hx)
theorem Dig.zeros {B n:Nat}(hB:0<B):Dig B (Zk n 0):=fun x hx=>by
 rw[(List.mem_replicate.1 hx).2];exact hB
theorem Dig.fd {B L m:Nat}(hB:0<B):Dig B (Eng.fd B L m):=fun x hx=>by
 simp only[Eng.fd,List.mem_map]at hx;obtain⟨j,_,rfl⟩:=hx;exact Zq _ hB
theorem JF {B:Nat}(l k:List Nat):QF B (l++k)=QF B l+B^l.length*QF B k:=by
 induction l with
 | nil=>simp[QF]
 | cons d l ih=>
  simp only[List.cons_append,QF,ih,List.length_cons,Zc];grind
theorem KV {B n:Nat}:QF B (Zk n 0)=0:=by
 induction n with
 | zero=>rfl
 | succ n ih=>simp[List.replicate_succ,QF,ih]
theorem YY {B:Nat}{l:List Nat}(h:Dig B l):QF B l<B^l.length:=by
 induction l with
 | nil=>simp[QF]
 | cons d l ih=>
  have h1:=ih (fun x hx=>h x (by simp[hx]));have h2:=h d (by simp);simp only[QF,List.length_cons,Zc];have:B*(QF B l+1)<=B*B^l.length:=Za _ h1;rw[Zp (B^l.length) B];rw[Zf]at this;omega
theorem QS {B i d:Nat}{l:List Nat}(h:l[i]? =some d):QF B (l.take (i+1))=QF B (l.take i)+B^i*d:=by
 have hi:=(Zj.1 h).1;rw[List.take_add_one,h,JF];simp only[Option.toList_some,QF,Nat.mul_zero,Nat.add_zero,List.length_take];rw[Zo (by omega)]
theorem Qd {B i:Nat}{l:List Nat}(h:l.length<=i):QF B (l.take i)=QF B l:=by rw[List.take_of_length_le h]
theorem XN {B i:Nat}{l:List Nat}(h:i<=l.length):QF B l=QF B (l.take i)+B^i*QF B (l.drop i):=by
 conv=>lhs;rw[<-List.take_append_drop i l,JF]
 rw[List.length_take,Zo h]
theorem Kq {B i v d:Nat}{l:List Nat}(h:l[i]? =some d):QF B (l.set i v)+B^i*d=QF B l+B^i*v:=by
 induction l generalizing i with
 | nil=>simp at h
 | cons a l ih=>
  cases i with
  | zero=>simp at h;subst h;simp[QF];omega
  | succ i=>
   have:=ih (i:=i) (by simpa using h);simp only[List.set_cons_succ,QF,Zc];have e: ∀y,B^i*B*y=B*(B^i*y):=fun y=>by rw[Zp (B^i) B,Zg]
   rw[e,e];have:B*(QF B (l.set i v)+B^i*d)=B*(QF B l+B^i*v):=by rw[this]
   rw[Zf,Zf]at this;omega
theorem XM {i v:Nat}{l:List Nat}:(l.set i v).take i=l.take i:=by
 rw[List.take_set];rw[List.set_eq_of_length_le];simp;omega
theorem Wd {B:Nat}: ∀{l k:List Nat},Dig B l->Dig B k->l.length=k.length->QF B l=QF B k->l=k:=by
 intro l;induction l with
 | nil=>intro k _ _ h _;exact(Zn h.symm).symm
 | cons d l ih=>
  intro k hl hk hlen he;cases k with
  | nil=>cases hlen
  | cons e k=>
   simp only[QF]at he;have h1:=hl d (by simp);have h2:=hk e (by simp);have hB:0<B:=by omega
   have e1:d=e:=by
    have:=congrArg (· % B) he;simp only[Nat.add_mul_mod_self_left]at this;rwa [Zi h1,Zi h2]at this
   subst e1;have e2:QF B l=QF B k:=by
    have:B*QF B l=B*QF B k:=by omega
    exact Nat.eq_of_mul_eq_mul_left hB this
   rw[ih (fun x hx=>hl x (by simp[hx])) (fun x hx=>hk x (by simp[hx])) (by simpa using hlen) e2]
theorem We {B:Nat}{l:List Nat}(h:Dig B l)(hB:0<B):fd B l.length (QF B l)=l:=
 Wd (Dig.fd hB) h (by simp[Qj]) (Qt (YY h))
theorem W0 {B i d:Nat}{l:List Nat}(h:l[i]? =some d):B^i*d<=QF B l:=by
 have hi:=(Zj.1 h).1;rw[XN (B:=B) (i:=i) (by omega)];have:l.drop i=d::l.drop (i+1):=by
  rw[List.drop_eq_getElem_cons hi];rw[(Zj.1 h).2]
 rw[this,QF];have:B^i*d<=B^i*(d+B*QF B (l.drop (i+1))):=Za _ (by omega);omega
theorem QCm {B L m:Nat}(hL:0<L)(h:m<B^L):(fd B L m)[L-1]? =some (m/B^(L-1)):=by
 rw[JE (by omega),Zi];apply Ze;rw[<-Zc,show(L-1).succ=L by omega];exact h
theorem QCn {B q V U v1 top n1:Nat}(hV:v1*B^n1<=V)(hU:U<(top+1)*B^n1)(hq:q*V<=U)(h1:0<v1):q<=top/v1:=by
 rw[Nat.le_div_iff_mul_le h1];have h2:q*v1*B^n1<=q*V:=by rw[Zg];exact Za _ hV
 have h3:q*v1*B^n1<(top+1)*B^n1:=by omega
 have:=Nat.lt_of_mul_lt_mul_right h3;omega
theorem QEe {B q V U v1 v2 u3 top d rest n2:Nat}(hV:(v1*B+v2)*B^n2<=V)(hU:U<(top*B+u3+1)*B^n2)(hq:q*V<=U)(hs:d*v1+rest=top)(hd:rest*B+u3<d*v2):q<d:=by
  rcases Nat.lt_or_ge q d with h | h
  · exact h
  · exfalso;have h1:top*B+u3+1<=d*(v1*B+v2):=by
      have:top*B=d*v1*B+rest*B:=by rw[<-hs,Zu]
      rw[Zf,<-Zg];omega
    have h2:(top*B+u3+1)*B^n2<=d*(v1*B+v2)*B^n2:=Zm _ h1;have h3:d*((v1*B+v2)*B^n2)<=q*V:=Nat.le_trans (Za _ hV) (Zm _ h);rw[<-Zg]at h3;omega

theorem QHQ {B V U v1 v2 u3 top d rest n2:Nat}(hV:V<(v1*B+v2+1)*B^n2)(hU:(top*B+u3)*B^n2<=U)(hs:d*v1+rest=top)(hd:d*v2<=rest*B+u3)(hB:d<=v1*B):(d-1)*V<=U:=by
  cases d with
  | zero=>simp
  | succ d=>
    simp only[Nat.add_sub_cancel];have h1:d*(v1*B+v2+1)<=top*B+u3:=by
      have e1:top*B=(d+1)*v1*B+rest*B:=by rw[<-hs,Zu]
      have e2:d*(v1*B+v2+1)=d*v1*B+d*v2+d:=by rw[Zf,Zf,Nat.mul_one,<-Zg]
      have e3:(d+1)*v1*B=d*v1*B+v1*B:=by rw[Zu,Nat.one_mul,Zu]
      have e4:(d+1)*v2=d*v2+v2:=by rw[Zu,Nat.one_mul]
      omega
    have h2:d*V<=d*((v1*B+v2+1)*B^n2):=Za _ (Nat.le_of_lt hV);rw[<-Zg]at h2;exact Nat.le_trans h2 (Nat.le_trans (Zm _ h1) hU)

theorem Vg (m B k:Nat):m % B^(k+1)=m % B^k+B^k*(m/B^k % B):=by
 rw[Zc,Nat.mod_mul]
theorem QLz {m x L:Nat}(hx:x<4*L):(fd 4294967296 L (m % 256^x)).set (x/4) ((m % 256^x)/4294967296^(x/4) % 4294967296+256^(x % 4)*(m/256^x % 256))=fd 4294967296 L (m % 256^(x+1)):=by
  have hj:x/4<L:=by omega
  have hBx: ∀y,(4294967296:Nat)^y=256^(4*y):=fun y=>by rw[show(4294967296:Nat)=256^4 from rfl,<-Nat.pow_mul]
  have e4:256^x=4294967296^(x/4)*256^(x % 4):=by
    rw[hBx,<-Nat.pow_add];congr 1;omega
  have hm1:m % 256^x<256^x:=Zq _ (Zs (by omega));have hm2:m % 256^(x+1)<256^(x+1):=Zq _ (Zs (by omega));have hl1:(256:Nat)^x<=4294967296^L:=by rw[hBx];exact Zd (by omega) (by omega)
  have hl2:(256:Nat)^(x+1)<=4294967296^L:=by rw[hBx];exact Zd (by omega) (by omega)
  have hd:(m % 256^x)/4294967296^(x/4)<256^(x % 4):=by
    apply Ze;rw[<-e4];exact hm1
  have hr:x % 4<4:=Zq _ (by omega);have hp:256^(x % 4)*256<=4294967296:=by
    have:(256:Nat)^(x % 4)*256=256^(x % 4+1):=by rw[Zc]
    rw[this,show(4294967296:Nat)=256^4 from rfl];exact Zd (by omega) (by omega)
  have hb:m/256^x % 256<256:=Zq _ (by omega);have hdm:(m % 256^x)/4294967296^(x/4) % 4294967296=(m % 256^x)/4294967296^(x/4):=Zi (by omega);have hv:(m % 256^x)/4294967296^(x/4) % 4294967296+256^(x % 4)*(m/256^x % 256)<4294967296:=by
    rw[hdm];have:256^(x % 4)*(m/256^x % 256+1)<=256^(x % 4)*256:=Za _ hb;rw[Zf]at this;omega
  apply Wd ((Dig.fd (by omega)).set hv) (Dig.fd (by omega)) (by simp[Qj]);have h1:=Kq (B:=4294967296) (v:=(m % 256^x)/4294967296^(x/4) % 4294967296+256^(x % 4)*(m/256^x % 256)) (JE (B:=4294967296) (m:=m % 256^x) hj);rw[Qt (by omega),Zf,<-Zg,<-e4]at h1;rw[Qt (by omega),Vg];omega

theorem QJE {L:Nat}:fd 4294967296 L 0=Zk L 0:=
 Wd (Dig.fd (by omega)) (Dig.zeros (by omega)) (by simp[Qj]) (by rw[Qt (Zs (by omega)),KV])
def W (ds:List Nat):List (List Ch):=ds.map fun(d:Nat)=>[.v (.int .u32 (d:Int))]
theorem Jg (ds:List Nat):(W ds).length=ds.length:=by simp[W]
theorem QQT {ds:List Nat}{i d:Nat}(h:ds[i]? =some d):(W ds)[i]? =some [.v (.int .u32 (d:Int))]:=by simp[W,h]
theorem X8 {ds:List Nat}{i d:Nat}(h:ds[i]? =some d):ldE (W ds) i 0 1=some [.v (.int .u32 (d:Int))]:=by simp only[ldE,QQT h];rfl
theorem Js (ds:List Nat)(i v:Nat):(W ds).set i [.v (.int .u32 (v:Int))]=W (ds.set i v):=by simp[W,List.map_set]
theorem UN (ds:List Nat)(i:Nat):(W ds).take i=W (ds.take i):=by simp[W,List.map_take]
theorem U5 (n:Nat):Zk n [Ch.v (.int .u32 0)]=W (Zk n 0):=by simp[W]
theorem JG (r:Nat):(256:Nat)^r=2^(8*r):=by rw[show(256:Nat)=2^8 from rfl,<-Nat.pow_mul]
theorem QHR {d b r:Nat}(hd:d<256^r)(hr:r<4)(hb:b<256):orI .u32 (d:Int) (Xh .u32 (IntKind.u32.wrap (b:Int)) ((r:Int)*8))=((d+256^r*b:Nat):Int):=by
  have hp:(256:Nat)^r*256<=4294967296:=by
    have:(256:Nat)^r*256=256^(r+1):=by rw[Zc]
    rw[this,show(4294967296:Nat)=256^4 from rfl];exact Zd (by omega) (by omega)
  have h2:256^r*(b+1)<=256^r*256:=Za _ hb;rw[Zf]at h2;have e1:Xh .u32 (IntKind.u32.wrap (b:Int)) ((r:Int)*8)=((2^(8*r)*b:Nat):Int):=by
    have e0:((r:Int)*8).toNat=8*r:=by omega
    rw[QEd (by omega),KU (by rw[e0];simp only[IntKind.bits];omega),e0];have:(b:Int)*2^(8*r)=((2^(8*r)*b:Nat):Int):=by rw[Zb,Int.mul_comm];simp
    rw[this];refine QEd ⟨by omega,?_⟩;rw[<-JG];omega
  rw[e1,Wc,QBJ (by rw[<-JG];exact hd) (by rw[<-JG];omega),<-JG];congr 1;omega

theorem or_byte64 {d b r:Nat}(hd:d<256^r)(hr:r<8)(hb:b<256):orI .u64 (d:Int) (Xh .u64 (IntKind.u64.wrap (b:Int)) ((r:Int)*8))=((d+256^r*b:Nat):Int):=by
  have hp:(256:Nat)^r*256<=18446744073709551616:=by
    have:(256:Nat)^r*256=256^(r+1):=by rw[Zc]
    rw[this,show(18446744073709551616:Nat)=256^8 from rfl];exact Zd (by omega) (by omega)
  have h2:256^r*(b+1)<=256^r*256:=Za _ hb;rw[Zf]at h2;have e1:Xh .u64 (IntKind.u64.wrap (b:Int)) ((r:Int)*8)=((2^(8*r)*b:Nat):Int):=by
    have e0:((r:Int)*8).toNat=8*r:=by omega
    rw[XV (by omega),KU (by rw[e0];simp only[IntKind.bits];omega),e0];have:(b:Int)*2^(8*r)=((2^(8*r)*b:Nat):Int):=by rw[Zb,Int.mul_comm];simp
    rw[this];refine XV ⟨by omega,?_⟩;rw[<-JG];omega
  rw[e1,Wc,Ve (by rw[<-JG];exact hd) (by rw[<-JG];omega),<-JG];congr 1;omega

theorem QL0 (m x:Nat):m % 256^x/4294967296^(x/4) % 4294967296<256^(x % 4):=by
 have hBx:(4294967296:Nat)^(x/4)=256^(4*(x/4)):=by rw[show(4294967296:Nat)=256^4 from rfl,<-Nat.pow_mul]
 have e4:256^x=4294967296^(x/4)*256^(x % 4):=by
  rw[hBx,<-Nat.pow_add];congr 1;omega
 have hm1:m % 256^x<256^x:=Zq _ (Zs (by omega));refine Nat.lt_of_le_of_lt (Nat.mod_le _ _) (Ze ?_);rw[<-e4];exact hm1
end Go.Eng
namespace Go.Eng
open Go
def XF (neg:Bool)(n d:Nat):Rat:=mkRat (bif neg then-(n:Int)else n) d

theorem Hy (neg:Bool)(n:Nat):(bif neg then-(n:Int)else n).natAbs=n:=by cases neg<;>simp
theorem UO (neg:Bool)(n d:Nat)(hd:d≠0):(XF neg n d).num=bif neg then-((n/Zt n d:Nat):Int)else((n/Zt n d:Nat):Int):=by
 unfold XF;rw[Rat.num_mkRat,if_neg hd,Hy,Nat.gcd_comm d n];cases neg with
 | false=>simp only[R8];rw[Int.natCast_ediv]
 | true=>
  simp only[R7];have hdvd:((Zt n d:Nat):Int)∣(n:Int):=Int.natCast_dvd_natCast.2 (Nat.gcd_dvd_left n d);rw[Int.neg_ediv_of_dvd hdvd,Int.natCast_ediv]
theorem QBK (neg:Bool)(n d:Nat)(hd:d≠0):(XF neg n d).num.natAbs=n/Zt n d:=by
 rw[UO neg n d hd];generalize n/Zt n d=k;cases neg
 ·simp only[R8];omega
 ·simp only[R7];omega
theorem QAT (neg:Bool)(n d:Nat)(hd:d≠0):(XF neg n d).den=d/Zt n d:=by
 unfold XF;rw[Rat.den_mkRat,if_neg hd,Hy,Nat.gcd_comm d n]
theorem QEf {n d:Nat}(h:n≠0):n/Zt n d≠0:=by
 have h1:=Nat.gcd_le_left d (by omega:0<n);have h2:0<Zt n d:=Nat.gcd_pos_of_pos_left _ (by omega);have:=Nat.div_pos h1 h2;omega
theorem QHS (neg:Bool)(n d:Nat)(hd:d≠0)(hn:n≠0):decide ((XF neg n d).num<0)=neg:=by
 rw[UO neg n d hd];have:=QEf (d:=d) hn;generalize n/Zt n d=k at this;cases neg
 ·simp only[R8,decide_eq_false_iff_not];omega
 ·simp only[R7,decide_eq_true_eq];omega
theorem QEg (neg:Bool)(d:Nat):XF neg 0 d=0:=by unfold XF;cases neg<;>simp
theorem JX (q:Rat):(bif decide (q.num<0)then-(q.num.natAbs:Int)else q.num.natAbs)=q.num:=by
 by_cases h:q.num<0
 ·simp only[h,decide_true,R7];omega
 ·simp only[h,decide_false,R8];omega
theorem QHT (a b:Rat):XF (decide (a.num<0) !=decide (b.num<0)) (a.num.natAbs*b.num.natAbs) (a.den*b.den)=a*b:=by
 unfold XF;rw[Rat.mul_def'];congr 1;rw[Zb];have e1:=JX a;have e2:=JX b;by_cases h1:a.num<0<;>by_cases h2:b.num<0<;>simp only[h1,h2,decide_true,decide_false,R7,R8,bne_self_eq_false,Bool.true_bne,Bool.false_bne,Bool.not_false,Bool.not_true]at e1 e2⊢ <;>rw[<-e1,<-e2]<;>simp[Zx,Int.mul_neg]
theorem QHU (a b:Rat)(hb:b.num≠0):XF (decide (a.num<0) !=decide (b.num<0)) (a.num.natAbs*b.den) (a.den*b.num.natAbs)=a/b:=by
 have hb0:b≠0:=fun e=>hb (by rw[e];rfl);have h:a/b*b=a:=Rat.div_mul_cancel hb0;have WH:XF (decide (a.num<0) !=decide (b.num<0)) (a.num.natAbs*b.den) (a.den*b.num.natAbs)*mkRat b.num b.den=mkRat a.num a.den:=by
  have h1:b.num.natAbs≠0:=by omega
  unfold XF;rw[Rat.mkRat_mul_mkRat,Rat.mkRat_eq_iff (Nat.mul_ne_zero (Nat.mul_ne_zero a.den_nz h1) b.den_nz) a.den_nz];have e1:=JX a;have e2:=JX b;simp only[Zb];generalize (b.den:Int)=bd;generalize (a.den:Int)=ad;by_cases h1:a.num<0<;>by_cases h2:b.num<0<;>simp only[h1,h2,decide_true,decide_false,R7,R8,bne_self_eq_false,Bool.true_bne,Bool.false_bne,Bool.not_false,Bool.not_true]at e1 e2⊢ <;>rw[<-e1,<-e2]<;>simp<;>grind
 have key:XF (decide (a.num<0) !=decide (b.num<0)) (a.num.natAbs*b.den) (a.den*b.num.natAbs)*b=a:=by
  rwa [Zh,Zh]at WH
 have:(XF (decide (a.num<0) !=decide (b.num<0)) (a.num.natAbs*b.den) (a.den*b.num.natAbs)*b)*b⁻¹=a*b⁻¹:=by rw[key]
 rw[Rat.mul_assoc,Rat.mul_inv_cancel b hb0,Rat.mul_one]at this;rw[this,Rat.div_def]
def YQ (n1:Bool)(a:Nat)(n2:Bool)(b:Nat):Bool×Nat:=
  bif n1==n2 then(n1,a+b)else bif decide (b<=a)then(n1,a-b)else(n2,b-a)
theorem Hz (n1:Bool)(a:Nat)(n2:Bool)(b:Nat):(bif(YQ n1 a n2 b).1 then-((YQ n1 a n2 b).2:Int)else(YQ n1 a n2 b).2)=(bif n1 then-(a:Int)else a)+(bif n2 then-(b:Int)else b):=by
 unfold YQ;cases n1<;>cases n2<;>by_cases h:b<=a<;>simp[h]<;>omega
theorem QHV (a b:Rat):XF (YQ (decide (a.num<0)) (a.num.natAbs*b.den) (decide (b.num<0)) (b.num.natAbs*a.den)).1 (YQ (decide (a.num<0)) (a.num.natAbs*b.den) (decide (b.num<0)) (b.num.natAbs*a.den)).2 (a.den*b.den)=a+b:=by
 unfold XF;rw[Hz,Rat.add_def'];congr 1;have e1:=JX a;have e2:=JX b;simp only[Zb];by_cases h1:a.num<0<;>by_cases h2:b.num<0<;>simp only[h1,h2,decide_true,decide_false,R7,R8]at e1 e2⊢ <;>rw[<-e1,<-e2]<;>simp[Zx]
theorem H3 (a b:Rat)(h:a.den=b.den):XF (YQ (decide (a.num<0)) a.num.natAbs (decide (b.num<0)) b.num.natAbs).1 (YQ (decide (a.num<0)) a.num.natAbs (decide (b.num<0)) b.num.natAbs).2 a.den=a+b:=by
 unfold XF;rw[Hz,JX,JX,Rat.add_def',<-h];have:mkRat (a.num*a.den+b.num*a.den) (a.den*a.den)=mkRat (a.num+b.num) a.den:=by
  rw[<-Int.add_mul];exact Rat.mkRat_mul_right a.den_nz
 rw[this]
def JS (a b:Rat):Int:=if a<b then-1 else if a=b then 0 else 1
def YR (a b:Nat):Int:=if a<b then-1 else if a=b then 0 else 1
def QHW (a b:Int):Int:=if a<b then-1 else if a=b then 0 else 1
theorem H4 (a b:Rat):a=b↔a.num*b.den=b.num*a.den:=by
 constructor
 ·rintro rfl;rfl
 ·intro h;have h1:=Zh a;have h2:=Zh b;rw[<-h1,<-h2,Rat.mkRat_eq_iff a.den_nz b.den_nz];exact h
theorem QL1 (a b:Rat):JS a b=QHW (a.num*b.den) (b.num*a.den):=by
 unfold JS QHW;simp only[Rat.lt_iff,H4]
theorem QJF {a b:Nat}:QHW a b=YR a b:=by unfold QHW YR;simp only[Int.ofNat_lt,Int.natCast_inj]
theorem QJG {a b:Nat}:QHW (-(a:Int)) (-(b:Int))= -YR a b:=by
 unfold QHW YR;rcases Nat.lt_trichotomy a b with h | h | h
 ·have h1: ¬ -(a:Int)< -(b:Int):=by omega
  have h2: ¬ -(a:Int)= -(b:Int):=by omega
  rw[if_neg h1,if_neg h2,if_pos h];rfl
 ·subst h;simp
 ·have h1: -(a:Int)< -(b:Int):=by omega
  have h2: ¬a<b:=by omega
  have h3: ¬a=b:=by omega
  rw[if_pos h1,if_neg h2,if_neg h3]
theorem QHX (a b:Rat)(h:decide (a.num<0)=decide (b.num<0)):JS a b=bif decide (a.num<0)then-YR (a.num.natAbs*b.den) (b.num.natAbs*a.den)else YR (a.num.natAbs*b.den) (b.num.natAbs*a.den):=by
 rw[QL1];have e1:=JX a;have e2:=JX b;rw[<-h]at e2;by_cases h1:a.num<0
 ·simp only[h1,decide_true,R7]at e1 e2⊢;rw[<-QJG];congr 1
  ·rw[Zb,<-Zx,e1]
  ·rw[Zb,<-Zx,e2]
 ·simp only[h1,decide_false,R8]at e1 e2⊢;rw[<-QJF];congr 1
  ·rw[Zb,e1]
  ·rw[Zb,e2]
theorem QL2 {a b:Rat}(ha:a.num<0)(hb: ¬b.num<0):JS a b= -1:=by
 unfold JS;rw[if_pos];rw[Rat.lt_iff];have h1:a.num*(b.den:Int)<0:=Int.mul_neg_of_neg_of_pos ha (by have:=b.den_nz;omega);have h2:0<=b.num*(a.den:Int):=Int.mul_nonneg (by omega) (by omega);omega
theorem QL3 {a b:Rat}(ha: ¬a.num<0)(hb:b.num<0):JS a b=1:=by
 unfold JS;have h1:0<=a.num*(b.den:Int):=Int.mul_nonneg (by omega) (by omega);have h2:b.num*(a.den:Int)<0:=Int.mul_neg_of_neg_of_pos hb (by have:=a.den_nz;omega);rw[if_neg,if_neg]
 ·rw[H4];omega
 ·rw[Rat.lt_iff];omega
end Go.Eng
namespace Go.Proofs
def Xi (f:Nat->Rat):Nat->Rat
  | 0=>0
  | m+1=>Xi f m+f (m+1)
def J9 (a b:Rat):Rat:=if a<=b then a else b
def XY (sp ac:Rat)(n k:Nat):Rat:=J9 sp (ac*((min k (n+1-k):Nat):Rat))
def QM (sp ac:Rat)(n:Nat):Rat:=Xi (XY sp ac n) n
theorem QL4 {f g:Nat->Rat}{m:Nat}(h: ∀k,1<=k->k<=m->f k<=g k):Xi f m<=Xi g m:=by
 induction m with
 | zero=>exact Rat.le_refl
 | succ m ih=>
  have h1:=ih fun k a b=>h k a (by omega);have h2:=h (m+1) (by omega) (by omega);simp only[Xi];grind
theorem QCo {f:Nat->Rat}{s:Rat}{m:Nat}:Xi (fun k=>s*f k) m=s*Xi f m:=by
 induction m with
 | zero=>simp only[Xi];grind
 | succ m ih=>simp only[Xi,ih];grind
theorem QCp {a b:Rat}:J9 a b<=a:=by unfold J9;split<;>grind
theorem QJH {a b:Rat}:J9 a b<=b:=by unfold J9;split<;>grind
theorem QF0 {a b c:Rat}(h:c<=a)(h':c<=b):c<=J9 a b:=by unfold J9;split<;>grind
theorem QEh (k:Nat):(0:Rat)<=(k:Rat):=by exact_mod_cast Nat.zero_le k
theorem QNn {a b:Rat}(ha:0<=a)(hb:0<=b):0<=a*b:=Rat.mul_nonneg ha hb
theorem KW {a b c:Rat}(h:a<=b)(hc:0<=c):c*a<=c*b:=Rat.mul_le_mul_of_nonneg_left h hc
theorem KX {sp ac:Rat}(hs:0<sp)(ha:0<ac)(n k:Nat):0<=XY sp ac n k:=by
 unfold XY;exact QF0 (by grind) (QNn (by grind) (QEh _))
theorem QL5 {sp ac:Rat}(n k:Nat):XY sp ac n k<=sp:=QCp
theorem QAU {sp ac:Rat}(hs:0<sp)(n k:Nat)(h:k=0∨k=n+1):XY sp ac n k=0:=by
 unfold XY;have:min k (n+1-k)=0:=by omega
 rw[this];unfold J9;have z:((0:Nat):Rat)=0:=rfl;have e:ac*((0:Nat):Rat)=0:=by rw[z];grind
 rw[e];split
 ·grind
 ·rfl
theorem QCq {s a b d:Rat}(hd:0<=d)(h1:a<=b+d):J9 s a<=J9 s b+d:=by
  unfold J9;split<;>split<;>grind
theorem QAV {sp ac:Rat}(ha:0<ac)(n k:Nat):XY sp ac n (k+1)<=XY sp ac n k+ac/\XY sp ac n k<=XY sp ac n (k+1)+ac:=by
 have key: ∀i j:Nat,i<=j+1->ac*(i:Rat)<=ac*(j:Rat)+ac:=by
  intro i j h;have:(i:Rat)<=(j:Rat)+1:=by exact_mod_cast h
  have:=KW this (c:=ac) (by grind);grind
 unfold XY;exact⟨QCq (by grind) (key _ _ (by omega)),QCq (by grind) (key _ _ (by omega))⟩
theorem QJI {sp ac:Rat}{n k:Nat}(h:k<=n+1):XY sp ac n (n+1-k)=XY sp ac n k:=by
 unfold XY;have:min (n+1-k) (n+1-(n+1-k))=min k (n+1-k):=by omega
 rw[this]
theorem QHY {sp ac:Rat}(ha:0<ac)(n k:Nat):XY sp ac n k<=XY sp ac (n+1) k:=by
 unfold XY;have:((min k (n+1-k):Nat):Rat)<=((min k (n+1+1-k):Nat):Rat):=by
  have:min k (n+1-k)<=min k (n+1+1-k):=by omega
  exact_mod_cast this
 have:=KW this (c:=ac) (by grind);exact QF0 QCp (by have:= @QJH sp (ac*((min k (n+1-k):Nat):Rat));grind)
theorem QBL {sp ac:Rat}(hs:0<sp)(ha:0<ac)(n:Nat):QM sp ac n<=QM sp ac (n+1):=by
 unfold QM;have h1:Xi (XY sp ac n) n<=Xi (XY sp ac (n+1)) n:=QL4 fun k _ _=>QHY ha n k;have h2:=KX hs ha (n+1) (n+1);simp only[Xi];grind
theorem Uj {sp ac:Rat}(hs:0<sp)(ha:0<ac){n m:Nat}(h:n<=m):QM sp ac n<=QM sp ac m:=by
 induction m with
 | zero=>
  have:n=0:=by omega
  subst this;exact Rat.le_refl
 | succ m ih=>
  by_cases h':n=m+1
  ·subst h';exact Rat.le_refl
  ·have:=ih (by omega);have:=QBL hs ha m;grind
theorem VJ {sp ac:Rat}(hs:0<sp)(ha:0<ac){n:Nat}(h:1<=n):0<QM sp ac n:=by
 have h1:=Uj hs ha h;have h2:QM sp ac 1=J9 sp ac:=by
  unfold QM Xi XY Xi;have e:((min (0+1) (1+1-(0+1)):Nat):Rat)=1:=rfl;rw[e];have:ac*1=ac:=by grind
  rw[this];grind
 have h3:0<J9 sp ac:=by unfold J9;split<;>grind
 grind
structure QNo (far sp ac:Rat)(n:Nat)(v:Nat->Rat):Prop where
 nn: ∀k,0<=v k
 le: ∀k,v k<=sp
 up: ∀k,v (k+1)-v k<=ac
 down: ∀k,v k-v (k+1)<=ac
 zero:v 0=0
 last:v (n+1)=0
 sum:Xi v n=far
 sym: ∀k,k<=n+1->v (n+1-k)=v k
theorem rests {far sp ac:Rat}(hf:0<=far)(hs:0<sp)(ha:0<ac){n:Nat}(hn:1<=n)(hc:far<=QM sp ac n):QNo far sp ac n (fun k=>far/QM sp ac n*XY sp ac n k):=by
 have hp:=VJ hs ha hn;have e0:far/QM sp ac n*QM sp ac n=far:=by grind
 have s0:0<=far/QM sp ac n:=by
  apply Classical.byContradiction;intro h;have h:far/QM sp ac n<0:=by grind
  have:QM sp ac n*(far/QM sp ac n)<QM sp ac n*0:=Rat.mul_lt_mul_of_pos_left h hp;grind
 have s1:far/QM sp ac n<=1:=by
  apply Classical.byContradiction;intro h;have h:1<far/QM sp ac n:=by grind
  have:QM sp ac n*1<QM sp ac n*(far/QM sp ac n):=Rat.mul_lt_mul_of_pos_left h hp;grind
 generalize far/QM sp ac n=s at e0 s0 s1;have small: ∀x,0<=x->s*x<=x:=fun x hx=>by
  have:=KW s1 hx;grind
 refine⟨fun k=>QNn s0 (KX hs ha n k),fun k=> ?_,fun k=> ?_,fun k=> ?_,?_,?_,?_,fun k hk=> ?_⟩
 ·have:=small _ (KX hs ha n k);have:=QL5 (sp:=sp) (ac:=ac) n k;grind
 ·have h1:=(QAV (sp:=sp) ha n k).1;have h2:s*(XY sp ac n (k+1)-XY sp ac n k)<=s*ac:=KW (by grind) s0;have h3:=small ac (by grind);grind
 ·have h1:=(QAV (sp:=sp) ha n k).2;have h2:s*(XY sp ac n k-XY sp ac n (k+1))<=s*ac:=KW (by grind) s0;have h3:=small ac (by grind);grind
 ·show s*_=0
  rw[QAU hs n 0 (.inl rfl)];grind
 ·show s*_=0
  rw[QAU hs n (n+1) (.inr rfl)];grind
 ·rw[QCo];exact e0
 ·show s*_=s*_
  rw[QJI hk]
end Go.Proofs
namespace Go.Proofs
def QAW (lo hi:Rat)(k:Int):Rat:=mkRat (8*lo.num*hi.den+(hi.num*lo.den-lo.num*hi.den)*k) (8*lo.den*hi.den)
theorem QJJ (lo hi:Rat)(k:Int):QAW lo hi k=lo+(hi-lo)*((k:Rat)/8):=by
 unfold QAW;rw[Zw];have h1:(lo.den:Rat)≠0:=by exact_mod_cast lo.den_nz
 have h2:(hi.den:Rat)≠0:=by exact_mod_cast hi.den_nz
 have e1:lo=(lo.num:Rat)/(lo.den:Rat):=by rw[<-Zw,Zh]
 have e2:hi=(hi.num:Rat)/(hi.den:Rat):=by rw[<-Zw,Zh]
 generalize lo.num=n at*;generalize lo.den=d at*;generalize hi.num=m at*;generalize hi.den=e at*;subst e1 e2;simp only[Rat.intCast_add,Rat.intCast_mul,Rat.intCast_sub,Rat.intCast_natCast,Rat.natCast_mul];grind
theorem QCr {lo hi:Rat}(h:lo<=hi){k:Int}(hk:0<=k/\k<=8):lo<=QAW lo hi k/\QAW lo hi k<=hi:=by
 rw[QJJ];have k0:(0:Rat)<=(k:Rat):=by exact_mod_cast hk.1
 have k1:(k:Rat)<=8:=by exact_mod_cast hk.2
 have a:=Rat.mul_nonneg (show 0<=hi-lo by grind) (show 0<=(k:Rat)/8 by grind);have b:=Rat.mul_nonneg (show 0<=hi-lo by grind) (show 0<=1-(k:Rat)/8 by grind);constructor<;>grind
end Go.Proofs
