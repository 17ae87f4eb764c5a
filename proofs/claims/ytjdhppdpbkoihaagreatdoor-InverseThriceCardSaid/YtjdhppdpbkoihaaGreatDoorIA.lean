/- sturm: trim. -/
import Derived.Test.YtjdhppdpbkoihaaGreatDoorQA
open Int renaming ofNat → Za, toNat_natCast → Zj, ofNat_eq_natCast → Zm
open Go.IntKind renaming i64 → Zb
open ByteArray renaming mk → Zc
open List renaming map → Zd, replicate → Ze, getElem?_eq_getElem → Zh, drop → Zn, length_replicate → Zo, length_set → Zq, getD_eq_getElem?_getD → Zs, drop_eq_getElem_cons → Zt, drop_eq_nil_of_le → Zv, take → Zw, length_take → Zx
open Go.Value renaming string → Zf, bool → Zk
open Array renaming mk → Zg
open Go.Eng.Ch renaming r → Zi, v → Zl
open Nat renaming le_refl → Zp, eq_of_beq_eq_true → Zr, zero_le → Zu, zero_add → Zy
namespace Go.Proofs
open Go Go.Eng
def XI (l:List Rat)(n i:Nat):List (List Ch):=lR 100000 (l.take i)++Ze (n-i) Wq
def QU0 (l:List Rat)(n i:Nat):Blk:= .row 26 3 (XI l n i)
structure TrX where
 n:Nat
 i:Nat
def QME (p:List Rat):LI:=fun id=>
 bif id.beq 2 then .inv ⟨TrX,fun x=>⟨[(0,sR 100000 p),(3,iA .i64 x.n)],[]⟩,fun x=>x.n<=p.length/\XG p x.n=XG p p.length,fun x=>x.n,fun _=>0⟩
 else .inv ⟨TrX,fun x=>⟨[(0,sR 100000 p),(4,.x false [.w 500 0 x.n]),(24,iA .i64 x.n),(25,iA .i64 x.i)],[(500,QU0 p x.n x.i)]⟩,fun x=>x.n=XG p p.length/\x.i<=x.n,fun x=>x.n-x.i,fun _=>0⟩
def QIv (p:List Rat):LI:=fun id=>
 bif id.beq 2 then .inv ⟨TrX,fun x=>⟨[(0,.x false [.w 1000 0 p.length]),(3,iA .i64 x.n)],[(1000,JY 100000 p)]⟩,fun x=>x.n<=p.length/\XG p x.n=XG p p.length,fun x=>x.n,fun _=>0⟩
 else .inv ⟨TrX,fun x=>⟨[(0,.x false [.w 1000 0 p.length]),(4,.x false [.w 500 0 x.n]),(24,iA .i64 x.n),(25,iA .i64 x.i)],[(500,QU0 p x.n x.i),(1000,JY 100000 p)]⟩,fun x=>x.n=XG p p.length/\x.i<=x.n,fun x=>x.n-x.i,fun _=>0⟩
theorem Vt (p:List Rat): ∀n,XG p n<=n
 | 0=>Zp _
 | n+1=>by
  unfold XG;cases Qa (p.getD n 0)==0 with
  | true=>exact Nat.le_succ_of_le (Vt p n)
  | false=>exact Zp _
theorem Kg (p:List Rat):(QJ p).length=XG p p.length:=by
 unfold QJ;rw[Zx,Nat.min_eq_left (Vt p _)]
theorem UD (l:List Rat)(n:Nat):Ze n Wq=XI l n 0:=by simp[XI,lR]
theorem HF {l:List Rat}{n i:Nat}(h:i<=n)(hn:n<=l.length):(XI l n i).length=n:=by
 simp only[XI,List.length_append,X5,Zx,Zo];omega
theorem HG {l:List Rat}{n:Nat}(_:n<=l.length):XI l n n=lR 100000 (l.take n):=by simp[XI]
theorem HH {l:List Rat}{n i:Nat}{q:Rat}(hq:l[i]? =some q)(h:i<n)(hn:n<=l.length):(XI l n i).set i [Zi q 100000]=XI l n (i+1):=by
 have hi:(lR 100000 (l.take i)).length=i:=by rw[X5,Zx];omega
 unfold XI;rw[List.set_append,if_neg (by omega),hi,Nat.sub_self];obtain⟨k,hk⟩: ∃k,n-i=k+1:=⟨n-i-1,by omega⟩;rw[hk,List.replicate_succ,List.set_cons_zero,show n-(i+1)=k by omega,List.take_add_one,hq];simp[lR]
set_option maxRecDepth 100000 in
set_option maxHeartbeats 1000000 in
theorem QTA (p:List Rat)(hl:p.length<=1000):QM (Xy (X:=Unit) QW5 (oF Tryz.f97) (QME p) Tryz.f97 [sR 100000 p] [] (fun _=>True) (fun _=>⟨[(2,.x false [.w 0 0 (QJ p).length])],[(0,JY 100000 (QJ p))]⟩)):=by
 refine HV (((∃(x:TrX),((x.n<=p.length/\XG p x.n=XG p p.length)/\OfNat.ofNat 0=0)/\3=3/\lR 100000 p=lR 100000 p/\Za (lR 100000 p).length=Za x.n/\True)/\∀(x:TrX),x.n<=p.length/\XG p x.n=XG p p.length->OfNat.ofNat 0=0->bif decide (Za x.n>0)then(0<=Zb.wrap (Za x.n-1)/\Zb.wrap (Za x.n-1)<Za (lR 100000 p).length)/\∃(q:Rat),∃(n:Nat),ldE (lR 100000 p) (Zb.wrap (Za x.n-1)).toNat 0 3=some [Zi q n]/\n<=4294967296/\bif Qa q==0 then ∃(x':TrX),((x'.n<=p.length/\XG p x'.n=XG p p.length)/\OfNat.ofNat 0=0/\x'.n<x.n)/\3=3/\lR 100000 p=lR 100000 p/\Zb.wrap (Za x.n-1)=Za x'.n/\True else(0<=Za x.n/\Za x.n<=Za x.n/\40*Za x.n<=281474976710656/\Za x.n<=9223372036854775807)/\(∃(x_1:TrX),((x_1.n=XG p p.length/\x_1.i<=x_1.n)/\OfNat.ofNat 0=0)/\3=3/\lR 100000 p=lR 100000 p/\0=0/\(Za x.n).toNat=x_1.n/\Za (Za x.n).toNat=Za x_1.n/\0=Za x_1.i/\26=26/\3=3/\(Ze (Za x.n).toNat [Zl (Zk false),Zl (Zf (Zc (Zg []))),Zl (Zf (Zc (Zg [])))]=XI p x_1.n x_1.i∨QC (Ze (Za x.n).toNat [Zl (Zk false),Zl (Zf (Zc (Zg []))),Zl (Zf (Zc (Zg [])))]) (XI p x_1.n x_1.i))/\True)/\∀(x:TrX),x.n=XG p p.length/\x.i<=x.n->OfNat.ofNat 0=0->bif decide (Za x.i<Za x.n)then(0<=Za x.i/\Za x.i<Za (lR 100000 p).length)/\∃(q:Rat),∃(n:Nat),ldE (lR 100000 p) (Za x.i).toNat 0 3=some [Zi q n]/\(0<=Za x.i/\Za x.i<Za (lR 100000 p).length)/\∃(q_1:Rat),∃(n_1:Nat),ldE (lR 100000 p) (Za x.i).toNat 0 3=some [Zi q_1 n_1]/\(n<=100000/\n_1<=100000)/\(0<=Za x.i/\Za x.i<Za x.n)/\0+(Za x.i).toNat<(XI p x.n x.i).length/\∃(x':TrX),((x'.n=XG p p.length/\x'.i<=x'.n)/\OfNat.ofNat 0=0/\x'.n-x'.i<x.n-x.i)/\3=3/\lR 100000 p=lR 100000 p/\0=0/\x.n=x'.n/\Za x.n=Za x'.n/\Zb.wrap (Za x.i+1)=Za x'.i/\26=26/\3=3/\((XI p x.n x.i).set (0+(Za x.i).toNat) [Zi (Q9 q q_1) 100000]=XI p x'.n x'.i∨QC ((XI p x.n x.i).set (0+(Za x.i).toNat) [Zi (Q9 q q_1) 100000]) (XI p x'.n x'.i))/\True else ∃(_x_1:Unit),True/\0=0/\x.n=(QJ p).length/\26=26/\3=3/\(XI p x.n x.i=Zd (fun(q:Rat)=>[Zi q 100000]) (QJ p)∨QC (XI p x.n x.i) (Zd (fun(q:Rat)=>[Zi q 100000]) (QJ p)))/\True else(0<=Za x.n/\Za x.n<=Za x.n/\40*Za x.n<=281474976710656/\Za x.n<=9223372036854775807)/\(∃(x_1:TrX),((x_1.n=XG p p.length/\x_1.i<=x_1.n)/\OfNat.ofNat 0=0)/\3=3/\lR 100000 p=lR 100000 p/\0=0/\(Za x.n).toNat=x_1.n/\Za (Za x.n).toNat=Za x_1.n/\0=Za x_1.i/\26=26/\3=3/\(Ze (Za x.n).toNat [Zl (Zk false),Zl (Zf (Zc (Zg []))),Zl (Zf (Zc (Zg [])))]=XI p x_1.n x_1.i∨QC (Ze (Za x.n).toNat [Zl (Zk false),Zl (Zf (Zc (Zg []))),Zl (Zf (Zc (Zg [])))]) (XI p x_1.n x_1.i))/\True)/\∀(x:TrX),x.n=XG p p.length/\x.i<=x.n->OfNat.ofNat 0=0->bif decide (Za x.i<Za x.n)then(0<=Za x.i/\Za x.i<Za (lR 100000 p).length)/\∃(q:Rat),∃(n:Nat),ldE (lR 100000 p) (Za x.i).toNat 0 3=some [Zi q n]/\(0<=Za x.i/\Za x.i<Za (lR 100000 p).length)/\∃(q_1:Rat),∃(n_1:Nat),ldE (lR 100000 p) (Za x.i).toNat 0 3=some [Zi q_1 n_1]/\(n<=100000/\n_1<=100000)/\(0<=Za x.i/\Za x.i<Za x.n)/\0+(Za x.i).toNat<(XI p x.n x.i).length/\∃(x':TrX),((x'.n=XG p p.length/\x'.i<=x'.n)/\OfNat.ofNat 0=0/\x'.n-x'.i<x.n-x.i)/\3=3/\lR 100000 p=lR 100000 p/\0=0/\x.n=x'.n/\Za x.n=Za x'.n/\Zb.wrap (Za x.i+1)=Za x'.i/\26=26/\3=3/\((XI p x.n x.i).set (0+(Za x.i).toNat) [Zi (Q9 q q_1) 100000]=XI p x'.n x'.i∨QC ((XI p x.n x.i).set (0+(Za x.i).toNat) [Zi (Q9 q q_1) 100000]) (XI p x'.n x'.i))/\True else ∃(_x_1:Unit),True/\0=0/\x.n=(QJ p).length/\26=26/\3=3/\(XI p x.n x.i=Zd (fun(q:Rat)=>[Zi q 100000]) (QJ p)∨QC (XI p x.n x.i) (Zd (fun(q:Rat)=>[Zi q 100000]) (QJ p)))/\True)) ?_
 simp only[Zm,R0,R1,Zy,R4];simp only[X5];have tl:=Vt p p.length;refine⟨⟨⟨p.length,0⟩,⟨Zp _,rfl⟩,rfl⟩,fun x ⟨hx,hn⟩=>QF (fun hp=> ?_) (fun hp=> ?_)⟩
 ·have hp:0<x.n:=by have:=R5 hp;omega
  obtain⟨m,hm⟩: ∃m,x.n=m+1:=⟨x.n-1,by omega⟩;have ew:Zb.wrap ((x.n:Int)-1)=(m:Int):=by rw[w64 (by omega)];omega
  obtain⟨q,hq⟩: ∃q,p[m]? =some q:=⟨_,Zh (by omega)⟩
  have hg:p.getD m 0=q:=by rw[Zs,hq];rfl
  have hn':=hn;rw[hm,XG,hg]at hn';rw[ew,Zj];refine⟨⟨by omega,by omega⟩,q,100000,JJ hq,by omega,QF (fun h=>⟨⟨m,0⟩,⟨⟨by simp only;omega,by rw[h]at hn';exact hn'⟩,by simp only;omega⟩,rfl⟩) (fun h=> ?_)⟩;rw[h]at hn';have e:x.n=XG p p.length:=by rw[hm];exact hn'
  refine⟨⟨by omega,by omega,by omega,by omega⟩,⟨⟨x.n,0⟩,⟨e,Zu _⟩,by simp only;omega,by simp only;omega,rfl,.inl (by rw[Zj];exact UD p x.n)⟩,fun y ⟨hy,hyi⟩=>QF (fun h=> ?_) (fun h=> ?_)⟩
  ·have h:y.i<y.n:=by have:=R5 h;omega
   obtain⟨q,hq⟩: ∃q,p[y.i]? =some q:=⟨_,Zh (by omega)⟩
   rw[Zj];refine⟨⟨by omega,by omega⟩,q,100000,JJ hq,⟨by omega,by omega⟩,q,100000,JJ hq,⟨by omega,by omega⟩,⟨by omega,by omega⟩,by rw[HF (by omega) (by omega)];omega,⟨y.n,y.i+1⟩,⟨⟨hy,by simp only;omega⟩,by simp only;omega⟩,rfl,rfl,by rw[w64 (by omega)];simp,.inl ?_⟩;rw[Jc];exact HH hq h (by omega)
  ·have h:y.i=y.n:=by have:=R6 h;omega
   exact⟨(),by rw[Kg];exact hy,.inl (by rw[h,HG (by omega),hy];rfl)⟩
 ·have hp:x.n=0:=by have:=R6 hp;omega
  have e:x.n=XG p p.length:=by rw[<-hn,hp];rfl
  refine⟨⟨by omega,by omega,by omega,by omega⟩,⟨⟨x.n,0⟩,⟨e,Zu _⟩,by simp only;omega,by simp only;omega,rfl,.inl (by rw[Zj];exact UD p x.n)⟩,fun y ⟨hy,hyi⟩=>QF (fun h=> ?_) (fun h=> ?_)⟩
  ·have h:y.i<y.n:=by have:=R5 h;omega
   obtain⟨q,hq⟩: ∃q,p[y.i]? =some q:=⟨_,Zh (by omega)⟩
   rw[Zj];refine⟨⟨by omega,by omega⟩,q,100000,JJ hq,⟨by omega,by omega⟩,q,100000,JJ hq,⟨by omega,by omega⟩,⟨by omega,by omega⟩,by rw[HF (by omega) (by omega)];omega,⟨y.n,y.i+1⟩,⟨⟨hy,by simp only;omega⟩,by simp only;omega⟩,rfl,rfl,by rw[w64 (by omega)];simp,.inl ?_⟩;rw[Jc];exact HH hq h (by omega)
  ·have h:y.i=y.n:=by have:=R6 h;omega
   exact⟨(),by rw[Kg];exact hy,.inl (by rw[h,HG (by omega),hy];rfl)⟩
set_option maxRecDepth 100000 in
set_option maxHeartbeats 1000000 in
theorem QPF (p:List Rat)(hl:p.length<=1000):QM (Xy (X:=Unit) QW5 (oF Tryz.f97) (QIv p) Tryz.f97 [.x false [.w 1000 0 p.length]] [(1000,JY 100000 p)] (fun _=>True) (fun _=>⟨[(2,.x false [.w 500 0 (QJ p).length])],[(1000,JY 100000 p),(500,JY 100000 (QJ p))]⟩)):=by
 refine HV (((∃(x:TrX),((x.n<=p.length/\XG p x.n=XG p p.length)/\OfNat.ofNat 0=0)/\0=0/\p.length=p.length/\Za p.length=Za x.n/\26=26/\3=3/\(Zd (fun(q:Rat)=>[Zi q 100000]) p=Zd (fun(q:Rat)=>[Zi q 100000]) p∨QC (Zd (fun(q:Rat)=>[Zi q 100000]) p) (Zd (fun(q:Rat)=>[Zi q 100000]) p))/\True)/\∀(x:TrX),x.n<=p.length/\XG p x.n=XG p p.length->OfNat.ofNat 0=0->bif decide (Za x.n>0)then(0<=Zb.wrap (Za x.n-1)/\Zb.wrap (Za x.n-1)<Za p.length)/\∃(q:Rat),∃(n:Nat),ldE (Zd (fun(q:Rat)=>[Zi q 100000]) p) (0+(Zb.wrap (Za x.n-1)).toNat) 0 3=some [Zi q n]/\n<=4294967296/\bif Qa q==0 then ∃(x':TrX),((x'.n<=p.length/\XG p x'.n=XG p p.length)/\OfNat.ofNat 0=0/\x'.n<x.n)/\0=0/\p.length=p.length/\Zb.wrap (Za x.n-1)=Za x'.n/\26=26/\3=3/\(Zd (fun(q:Rat)=>[Zi q 100000]) p=Zd (fun(q:Rat)=>[Zi q 100000]) p∨QC (Zd (fun(q:Rat)=>[Zi q 100000]) p) (Zd (fun(q:Rat)=>[Zi q 100000]) p))/\True else(0<=Za x.n/\Za x.n<=Za x.n/\40*Za x.n<=281474976710656/\Za x.n<=9223372036854775807)/\(∃(x_1:TrX),((x_1.n=XG p p.length/\x_1.i<=x_1.n)/\OfNat.ofNat 0=0)/\0=0/\p.length=p.length/\0=0/\(Za x.n).toNat=x_1.n/\Za (Za x.n).toNat=Za x_1.n/\0=Za x_1.i/\26=26/\3=3/\(Ze (Za x.n).toNat [Zl (Zk false),Zl (Zf (Zc (Zg []))),Zl (Zf (Zc (Zg [])))]=XI p x_1.n x_1.i∨QC (Ze (Za x.n).toNat [Zl (Zk false),Zl (Zf (Zc (Zg []))),Zl (Zf (Zc (Zg [])))]) (XI p x_1.n x_1.i))/\26=26/\3=3/\(Zd (fun(q:Rat)=>[Zi q 100000]) p=Zd (fun(q:Rat)=>[Zi q 100000]) p∨QC (Zd (fun(q:Rat)=>[Zi q 100000]) p) (Zd (fun(q:Rat)=>[Zi q 100000]) p))/\True)/\∀(x:TrX),x.n=XG p p.length/\x.i<=x.n->OfNat.ofNat 0=0->bif decide (Za x.i<Za x.n)then(0<=Za x.i/\Za x.i<Za p.length)/\∃(q:Rat),∃(n:Nat),ldE (Zd (fun(q:Rat)=>[Zi q 100000]) p) (0+(Za x.i).toNat) 0 3=some [Zi q n]/\(0<=Za x.i/\Za x.i<Za p.length)/\∃(q_1:Rat),∃(n_1:Nat),ldE (Zd (fun(q:Rat)=>[Zi q 100000]) p) (0+(Za x.i).toNat) 0 3=some [Zi q_1 n_1]/\(n<=100000/\n_1<=100000)/\(0<=Za x.i/\Za x.i<Za x.n)/\0+(Za x.i).toNat<(XI p x.n x.i).length/\∃(x':TrX),((x'.n=XG p p.length/\x'.i<=x'.n)/\OfNat.ofNat 0=0/\x'.n-x'.i<x.n-x.i)/\0=0/\p.length=p.length/\0=0/\x.n=x'.n/\Za x.n=Za x'.n/\Zb.wrap (Za x.i+1)=Za x'.i/\26=26/\3=3/\((XI p x.n x.i).set (0+(Za x.i).toNat) [Zi (Q9 q q_1) 100000]=XI p x'.n x'.i∨QC ((XI p x.n x.i).set (0+(Za x.i).toNat) [Zi (Q9 q q_1) 100000]) (XI p x'.n x'.i))/\26=26/\3=3/\(Zd (fun(q:Rat)=>[Zi q 100000]) p=Zd (fun(q:Rat)=>[Zi q 100000]) p∨QC (Zd (fun(q:Rat)=>[Zi q 100000]) p) (Zd (fun(q:Rat)=>[Zi q 100000]) p))/\True else ∃(_x_1:Unit),True/\0=0/\x.n=(QJ p).length/\26=26/\3=3/\(Zd (fun(q:Rat)=>[Zi q 100000]) p=Zd (fun(q:Rat)=>[Zi q 100000]) p∨QC (Zd (fun(q:Rat)=>[Zi q 100000]) p) (Zd (fun(q:Rat)=>[Zi q 100000]) p))/\26=26/\3=3/\(XI p x.n x.i=Zd (fun(q:Rat)=>[Zi q 100000]) (QJ p)∨QC (XI p x.n x.i) (Zd (fun(q:Rat)=>[Zi q 100000]) (QJ p)))/\True else(0<=Za x.n/\Za x.n<=Za x.n/\40*Za x.n<=281474976710656/\Za x.n<=9223372036854775807)/\(∃(x_1:TrX),((x_1.n=XG p p.length/\x_1.i<=x_1.n)/\OfNat.ofNat 0=0)/\0=0/\p.length=p.length/\0=0/\(Za x.n).toNat=x_1.n/\Za (Za x.n).toNat=Za x_1.n/\0=Za x_1.i/\26=26/\3=3/\(Ze (Za x.n).toNat [Zl (Zk false),Zl (Zf (Zc (Zg []))),Zl (Zf (Zc (Zg [])))]=XI p x_1.n x_1.i∨QC (Ze (Za x.n).toNat [Zl (Zk false),Zl (Zf (Zc (Zg []))),Zl (Zf (Zc (Zg [])))]) (XI p x_1.n x_1.i))/\26=26/\3=3/\(Zd (fun(q:Rat)=>[Zi q 100000]) p=Zd (fun(q:Rat)=>[Zi q 100000]) p∨QC (Zd (fun(q:Rat)=>[Zi q 100000]) p) (Zd (fun(q:Rat)=>[Zi q 100000]) p))/\True)/\∀(x:TrX),x.n=XG p p.length/\x.i<=x.n->OfNat.ofNat 0=0->bif decide (Za x.i<Za x.n)then(0<=Za x.i/\Za x.i<Za p.length)/\∃(q:Rat),∃(n:Nat),ldE (Zd (fun(q:Rat)=>[Zi q 100000]) p) (0+(Za x.i).toNat) 0 3=some [Zi q n]/\(0<=Za x.i/\Za x.i<Za p.length)/\∃(q_1:Rat),∃(n_1:Nat),ldE (Zd (fun(q:Rat)=>[Zi q 100000]) p) (0+(Za x.i).toNat) 0 3=some [Zi q_1 n_1]/\(n<=100000/\n_1<=100000)/\(0<=Za x.i/\Za x.i<Za x.n)/\0+(Za x.i).toNat<(XI p x.n x.i).length/\∃(x':TrX),((x'.n=XG p p.length/\x'.i<=x'.n)/\OfNat.ofNat 0=0/\x'.n-x'.i<x.n-x.i)/\0=0/\p.length=p.length/\0=0/\x.n=x'.n/\Za x.n=Za x'.n/\Zb.wrap (Za x.i+1)=Za x'.i/\26=26/\3=3/\((XI p x.n x.i).set (0+(Za x.i).toNat) [Zi (Q9 q q_1) 100000]=XI p x'.n x'.i∨QC ((XI p x.n x.i).set (0+(Za x.i).toNat) [Zi (Q9 q q_1) 100000]) (XI p x'.n x'.i))/\26=26/\3=3/\(Zd (fun(q:Rat)=>[Zi q 100000]) p=Zd (fun(q:Rat)=>[Zi q 100000]) p∨QC (Zd (fun(q:Rat)=>[Zi q 100000]) p) (Zd (fun(q:Rat)=>[Zi q 100000]) p))/\True else ∃(_x_1:Unit),True/\0=0/\x.n=(QJ p).length/\26=26/\3=3/\(Zd (fun(q:Rat)=>[Zi q 100000]) p=Zd (fun(q:Rat)=>[Zi q 100000]) p∨QC (Zd (fun(q:Rat)=>[Zi q 100000]) p) (Zd (fun(q:Rat)=>[Zi q 100000]) p))/\26=26/\3=3/\(XI p x.n x.i=Zd (fun(q:Rat)=>[Zi q 100000]) (QJ p)∨QC (XI p x.n x.i) (Zd (fun(q:Rat)=>[Zi q 100000]) (QJ p)))/\True)) ?_
 simp only[Zm,R0,R1,Zy,R4,R2];have tl:=Vt p p.length;refine⟨⟨⟨p.length,0⟩,⟨Zp _,rfl⟩,rfl⟩,fun x ⟨hx,hn⟩=>QF (fun hp=> ?_) (fun hp=> ?_)⟩
 ·have hp:0<x.n:=by have:=R5 hp;omega
  obtain⟨m,hm⟩: ∃m,x.n=m+1:=⟨x.n-1,by omega⟩;have ew:Zb.wrap ((x.n:Int)-1)=(m:Int):=by rw[w64 (by omega)];omega
  obtain⟨q,hq⟩: ∃q,p[m]? =some q:=⟨_,Zh (by omega)⟩
  have hg:p.getD m 0=q:=by rw[Zs,hq];rfl
  have hn':=hn;rw[hm,XG,hg]at hn';rw[ew,Zj];refine⟨⟨by omega,by omega⟩,q,100000,JJ hq,by omega,QF (fun h=>⟨⟨m,0⟩,⟨⟨by simp only;omega,by rw[h]at hn';exact hn'⟩,by simp only;omega⟩,rfl⟩) (fun h=> ?_)⟩;rw[h]at hn';have e:x.n=XG p p.length:=by rw[hm];exact hn'
  refine⟨⟨by omega,by omega,by omega,by omega⟩,⟨⟨x.n,0⟩,⟨e,Zu _⟩,by simp only;omega,by simp only;omega,rfl,.inl (by rw[Zj];exact UD p x.n)⟩,fun y ⟨hy,hyi⟩=>QF (fun h=> ?_) (fun h=> ?_)⟩
  ·have h:y.i<y.n:=by have:=R5 h;omega
   obtain⟨q,hq⟩: ∃q,p[y.i]? =some q:=⟨_,Zh (by omega)⟩
   rw[Zj];refine⟨⟨by omega,by omega⟩,q,100000,JJ hq,⟨by omega,by omega⟩,q,100000,JJ hq,⟨by omega,by omega⟩,⟨by omega,by omega⟩,by rw[HF (by omega) (by omega)];omega,⟨y.n,y.i+1⟩,⟨⟨hy,by simp only;omega⟩,by simp only;omega⟩,rfl,rfl,by rw[w64 (by omega)];simp,.inl ?_⟩;rw[Jc];exact HH hq h (by omega)
  ·have h:y.i=y.n:=by have:=R6 h;omega
   exact⟨(),by rw[Kg];exact hy,.inl (by rw[h,HG (by omega),hy];rfl)⟩
 ·have hp:x.n=0:=by have:=R6 hp;omega
  have e:x.n=XG p p.length:=by rw[<-hn,hp];rfl
  refine⟨⟨by omega,by omega,by omega,by omega⟩,⟨⟨x.n,0⟩,⟨e,Zu _⟩,by simp only;omega,by simp only;omega,rfl,.inl (by rw[Zj];exact UD p x.n)⟩,fun y ⟨hy,hyi⟩=>QF (fun h=> ?_) (fun h=> ?_)⟩
  ·have h:y.i<y.n:=by have:=R5 h;omega
   obtain⟨q,hq⟩: ∃q,p[y.i]? =some q:=⟨_,Zh (by omega)⟩
   rw[Zj];refine⟨⟨by omega,by omega⟩,q,100000,JJ hq,⟨by omega,by omega⟩,q,100000,JJ hq,⟨by omega,by omega⟩,⟨by omega,by omega⟩,by rw[HF (by omega) (by omega)];omega,⟨y.n,y.i+1⟩,⟨⟨hy,by simp only;omega⟩,by simp only;omega⟩,rfl,rfl,by rw[w64 (by omega)];simp,.inl ?_⟩;rw[Jc];exact HH hq h (by omega)
  ·have h:y.i=y.n:=by have:=R6 h;omega
   exact⟨(),by rw[Kg];exact hy,.inl (by rw[h,HG (by omega),hy];rfl)⟩
theorem QPG {H:HP}{k d:Nat}{b b':Blk}(hk:H k=some b)(hd:H d=none):XS [(1000,k),(500,d)] (QP [(1000,b),(500,b')]) H=upd H d (some b'):=by
 have dk:d≠k:=fun h=>by subst h;rw[hk]at hd;cases hd
 funext j;unfold XS;simp only[lkB];cases h:j.beq k with
 | true=>
  have:=Zr h;subst this;rw[QY _ _ (fun h=>dk h.symm),hk];rfl
 | false=>
  simp only[R8];cases h2:j.beq d with
  | true=>
   have:=Zr h2;subst this;rw[QT];rfl
  | false=>
   have:j≠d:=fun e=>by subst e;simp at h2
   rw[QY _ _ this];rfl
theorem QBh {H:HP}{d:Nat}{b:Blk}:XS [(0,d)] (QP [(0,b)]) H=upd H d (some b):=by
 funext j;unfold XS;simp only[lkB];cases h2:j.beq d with
 | true=>
  have:=Zr h2;subst this;rw[QT];rfl
 | false=>
  have:j≠d:=fun e=>by subst e;simp at h2
  rw[QY _ _ this];rfl
def QBi:Xl:=fun as0 H d=>match as0 with
  | [.x false [c]]=>match c with
    | .s 3 xs=>match H d with
      | none=>some fun K=> ∃p:List Rat,xs=lR 100000 p/\p.length<=1000/\K (.x false [.w d 0 (QJ p).length]) (upd H d (some (JY 100000 (QJ p))))
      | some _=>none
    | .w k o n=>match o with
      | 0=>match H k with
        | some (.row t 3 xs)=>match H d with
          | none=>bif t.beq 26 then some fun K=> ∃p:List Rat,xs=lR 100000 p/\n=p.length/\p.length<=1000/\K (.x false [.w d 0 (QJ p).length]) (upd H d (some (JY 100000 (QJ p))))else none
          | some _=>none
        | _=>none
      | _+1=>none
    | _=>none
  | _=>none
theorem QMF:Xz 97 QBi:=by
 refine⟨Qf Tryz.func97 (by kernel_rfl),fun l H d T hT K hK=> ?_⟩;unfold QBi at hT;split at hT
 ·split at hT
  ·split at hT
   ·rename_i hd;cases hT
    obtain⟨p,rfl,hl,hK⟩:=hK;exact KV QPB QN Tryz.func97 (by kernel_rfl) (by kernel_rfl) (by rfl) rfl hd rfl (QTA p hl) (by rw[show QP [(0,Blk.row _ 3 (Zd (fun q=>[Zi q 100000]) (QJ p)))]=QP [(0,JY 100000 (QJ p))]from rfl,QBh];exact hK)
   ·cases hT
  ·split at hT
   ·split at hT
    ·split at hT
     ·rename_i k n _ _ t xs e1 _ hd;cases hb:t.beq 26 with
      | false=>rw[hb]at hT;cases hT
      | true=>
       rw[hb]at hT;cases hT
       have ht:=Zr hb;subst ht;obtain⟨p,rfl,rfl,hl,hK⟩:=hK;refine Xe (R:=[(1000,k)]) (N:=[(500,d)]) (Hl:=[(1000,JY 100000 p)]) QPB QN Tryz.func97 (by kernel_rfl) (by kernel_rfl) (by rfl)
        (as0:=[.x false [.w 1000 0 p.length]]) ?_ (UT e1 rfl rfl) rfl (by simp) (by simp) (fun q hq=>by simp at hq;subst hq;exact hd) (fun x=>⟨fun q hq=> ?_,fun q hq b hb=> ?_⟩) (QPF p hl) (fun x hx=>⟨_,rfl,?_⟩)
       ·simp[YZ,YO,X6,lkB]
       ·simp at hq;subst hq;exact fun h=>by have h':some (JY _ _)=none:=h;cases h'
       ·simp at hq;rcases hq with rfl | rfl
        ·have h':some (JY _ _)=some b:=hb;cases h';rfl
        ·have h':some (JY _ _)=some b:=hb;cases h';rfl
       ·show K _ (XS [(1000,k),(500,d)] (QP [(1000,JY 100000 p),(500,JY 100000 (QJ p))]) H)
        rw[QPG (b:=JY 100000 p) e1 hd];exact hK
     ·cases hT
    ·cases hT
   ·cases hT
  ·cases hT
 ·cases hT
def WO:List (Nat×Xl):=(97,QBi)::M79
theorem Xt:XU WO:= .cons QMF X0
end Go.Proofs
namespace Go.Proofs
open Go Go.Eng
structure EvX where
 i:Nat
 s:Rat
 deriving Inhabited
theorem bind_some {α β:Type}{o:Option α}{f:α->Option β}{r:β}(h:o.bind f=some r): ∃a,o=some a/\f a=some r:=Option.bind_eq_some_iff.1 h
theorem QGP {l:List Rat}{i:Nat}{q:Rat}(h:l[i]? =some q):l.getD i 0=q:=by rw[Zs,h];rfl
theorem K7 {n:Nat}{l:List Rat}{k:Nat}(h:k=l.length):((Zd (fun q=>[Zi q n]) l).drop 0).take k=lR n l:=by
 subst h;rw[List.drop_zero,show Zd (fun q=>[Zi q n]) l=lR n l from rfl,<-X5 n l,List.take_length]
theorem QW8 {n:Nat}{l:List Rat}{q:Rat}:Zw l.length (Zd (fun q=>[Zi q n]) l)++[[Zi q n]]=Zd (fun q=>[Zi q n]) (l++[q]):=by
 rw[List.take_of_length_le (by simp),List.map_append];rfl
theorem QGQ {l:List Rat}{n:Nat}{z:List Ch}:(lR 100000 l++Ze n z).length=l.length+n:=by rw[List.length_append,X5,Zo]
theorem QGR {l:List Rat}{n i:Nat}{z:List Ch}{q:Rat}(h:i=l.length)(hn:0<n):(lR 100000 l++Ze n z).set i [Zi q 100000]=lR 100000 (l++[q])++Ze (n-1) z:=by
 subst h;obtain⟨k,rfl⟩: ∃k,n=k+1:=⟨n-1,by omega⟩;rw[List.set_append_right _ _ (by rw[X5];exact Zp _),X5,Nat.sub_self,List.replicate_succ,List.set_cons_zero,Nat.add_sub_cancel];simp[lR]
theorem Wu (p:List Rat):(QJ p).length<=p.length:=by rw[Kg];exact Vt p _
theorem QPH {c:Rat}: ∀{l:List Rat} {j:Nat} {r r1:List Rat},Vr c l j r=some r1->r1.length=r.length:=by
 intro l;induction l with
 | nil=>intro j r r1 h;cases h;rfl
 | cons x l ih=>
  intro j r r1 h;rw[Vr]at h;obtain⟨u,_,h⟩:=bind_some h;obtain⟨v,_,h⟩:=bind_some h;rw[ih h,Zq]
theorem QTB {a b:Nat}(ha:a<=1000)(hb:b<=1000):(bif true then if Zb.wrap (Zb.wrap ((a:Int)-b)+1)>0 then Zb.wrap (Zb.wrap ((a:Int)-b)+1)else 0 else if Zb.wrap (Zb.wrap ((a:Int)-b)+1)<0 then Zb.wrap (Zb.wrap ((a:Int)-b)+1)else 0)=((a+1-b:Nat):Int):=by
 rw[R7,w64 (by omega: -9223372036854775808<=(a:Int)-b/\(a:Int)-b<9223372036854775808),w64 (by omega)];split<;>omega
theorem QW9 {n k:Nat}{q:Rat}{z:List Ch}(h:k=n):lR 100000 (Ze n q)++Ze (k-n) z=Zd (fun q=>[Zi q 100000]) (Ze n q):=by
 subst h;rw[Nat.sub_self,List.replicate_zero,List.append_nil];rfl
def QMG (p:List Rat)(x:Rat)(n:Nat)(r:Rat):LI:=fun _=> .inv ⟨EvX,fun e=>⟨[(0,sR 100000 p),(3,.x false [.p 3 0]),(4,.x false [.p 4 0]),(5,.x false [.p 5 0]),(6,iA .i64 ((e.i:Int)-1))],[(3,.box 26 [.r x n]),(4,.box 26 Wq),(5,.box 26 [.r e.s 100000])]⟩,fun e=>e.i<=p.length/\evN p x e.i e.s=some r,fun e=>e.i,fun _=>0⟩
theorem QTC (p:List Rat)(x:Rat)(n:Nat)(r:Rat)(hc:(p.length<=1000/\n<=100000)/\(X7 p x=some r))(K:AV->Prop)(hK:K (rA r 100000)):QM (QU (mkT QS9 WO X4) (oF Tryz.f132) (QMG p x n r) Tryz.f132 [sR 100000 p,rA x n] K):=by
 refine HV ((((-9223372036854775808:Int)<=0/\(0:Int)<9223372036854775808)/\(∃(x_1:EvX),((x_1.i<=p.length/\evN p x x_1.i x_1.s=some r)/\OfNat.ofNat 0=0)/\3=3/\lR 100000 p=lR 100000 p/\0=0/\0=0/\0=0/\Zb.wrap (Za (lR 100000 p).length-1)=Za x_1.i-1/\26=26/\x=x/\n<=n/\26=26/\false=false/\Zc (Zg [])=Zc (Zg [])/\Zc (Zg [])=Zc (Zg [])/\26=26/\↑(0:Int)=x_1.s/\100000<=100000/\True)/\∀(x_1:EvX),x_1.i<=p.length/\evN p x x_1.i x_1.s=some r->OfNat.ofNat 0=0->bif decide (Za x_1.i-1≥0)then(0<=Za x_1.i-1/\Za x_1.i-1<Za (lR 100000 p).length)/\∃(q:Rat),∃(n_1:Nat),ldE (lR 100000 p) (Za x_1.i-1).toNat 0 3=some [Zi q n_1]/\100000+n<=4294967296/\∃(r_1:Rat),YV x_1.s x=some r_1/\100000+n_1+1<=4294967296/\∃(r_2:Rat),Wr r_1 q=some r_2/\∃(x':EvX),((x'.i<=p.length/\evN p x x'.i x'.s=some r)/\OfNat.ofNat 0=0/\x'.i<x_1.i)/\3=3/\lR 100000 p=lR 100000 p/\0=0/\0=0/\0=0/\Zb.wrap (Za x_1.i-1-1)=Za x'.i-1/\26=26/\x=x/\n<=n/\26=26/\false=false/\Zc (Zg [])=Zc (Zg [])/\Zc (Zg [])=Zc (Zg [])/\26=26/\r_2=x'.s/\100000<=100000/\True else K (AV.x true [Zi x_1.s 100000]))) ?_
 try simp only[Zm,R0,R1,Zp,R4]
 obtain⟨⟨hl,hn⟩,h⟩:=hc;simp only[X5];refine⟨by omega,⟨⟨p.length,0⟩,⟨Zp _,h⟩,by rw[w64 (by omega)],rfl⟩,fun e ⟨he,hv⟩=>QF (fun hp=> ?_) (fun hp=> ?_)⟩
 ·have hp:0<e.i:=by have:=R5 hp;omega
  obtain⟨m,hm⟩: ∃m,e.i=m+1:=⟨e.i-1,by omega⟩;obtain⟨q,hq⟩: ∃q,p[m]? =some q:=⟨_,Zh (by omega)⟩
  have ei:((e.i:Int)-1).toNat=m:=by omega
  rw[hm,evN,QGP hq]at hv;obtain⟨u,hu,hv⟩:=bind_some hv;obtain⟨v,hv1,hv⟩:=bind_some hv;refine⟨by omega,q,100000,by rw[ei];exact JJ hq,by omega,u,hu,by omega,v,hv1,⟨m,v⟩,⟨⟨by simp only;omega,hv⟩,by simp only;omega⟩,by rw[w64 (by omega)];show(e.i:Int)-1-1=(m:Int)-1;omega,rfl⟩
 ·have hp:e.i=0:=by have:=R6 hp;omega
  rw[hp]at hv;cases hv
  exact hK
def QEb:Ctr
 | [.x false [.s 3 xs],.x true [.r x n]]=>some fun K=> ∃(p:List Rat) (r:Rat),xs=lR 100000 p/\((p.length<=1000/\n<=100000)/\(X7 p x=some r))/\(K (rA r 100000))
 | _=>none
theorem QPI:QI 132 QEb:=by
 refine okL Tryz.func132 fun l T hT K hK=> ?_
 unfold QEb at hT;split at hT<;>cases hT
 obtain⟨p,r,rfl,hc,hK⟩:=hK;exact spL (QV QIt Xt Qo) QN Tryz.func132 (QTC _ _ _ _ hc K hK)
def QPJ:LC:=(132,QEb)::QS9
theorem QJ9:QG QPJ:= .cons QPI QIt
structure DeX where
 i:Nat
 acc:List Rat
def QPK (p all:List Rat):LI:=fun _=> .inv ⟨DeX,fun e=>⟨[(0,sR 100000 p),(3,.x false [.w 500 0 e.acc.length]),(4,iA .i64 e.i)],[(500,JY 100000 e.acc)]⟩,fun e=>(1<=e.i/\e.i<=p.length+1/\e.acc.length+1=e.i)/\Kb (p.drop e.i) e.i e.acc=some all,fun e=>p.length+1-e.i,fun _=>0⟩
theorem QXA (p:List Rat)(all:List Rat)(hc:(p.length<=1000)/\(Kb (p.drop 1) 1 []=some all))(K:AV->Prop)(hK:K (sR 100000 (QJ all))):QM (QU (mkT QPJ WO X4) (oF Tryz.f128) (QPK p all) Tryz.f128 [sR 100000 p] K):=by
 refine HV (((∃(x:DeX),(((1<=x.i/\x.i<=p.length+1/\x.acc.length+1=x.i)/\Kb (Zn x.i p) x.i x.acc=some all)/\OfNat.ofNat 0=0)/\3=3/\lR 100000 p=lR 100000 p/\Value.slice none 0 0=Value.slice none 0 0/\0=0/\x.acc.length=0/\1=Za x.i/\Zd (fun(q:Rat)=>[Zi q 100000]) x.acc=[]/\True)/\∀(x:DeX),(1<=x.i/\x.i<=p.length+1/\x.acc.length+1=x.i)/\Kb (Zn x.i p) x.i x.acc=some all->OfNat.ofNat 0=0->bif decide (Za x.i<Za (lR 100000 p).length)then(0<=Za x.i/\Za x.i<Za (lR 100000 p).length)/\∃(q:Rat),∃(n:Nat),ldE (lR 100000 p) (Za x.i).toNat 0 3=some [Zi q n]/\(-9223372036854775808<=Za x.i/\Za x.i<9223372036854775808)/\100000+n<=4294967296/\∃(r:Rat),YV (↑(Za x.i)) q=some r/\((x.acc.length+1)*40<=140737488355328/\x.acc.length+1<=9223372036854775807)/\∃(x':DeX),(((1<=x'.i/\x'.i<=p.length+1/\x'.acc.length+1=x'.i)/\Kb (Zn x'.i p) x'.i x'.acc=some all)/\OfNat.ofNat 0=0/\p.length+1-x'.i<p.length+1-x.i)/\3=3/\lR 100000 p=lR 100000 p/\0=0/\x.acc.length+1=x'.acc.length/\Zb.wrap (Za x.i+1)=Za x'.i/\26=26/\3=3/\(Zw x.acc.length (Zd (fun(q:Rat)=>[Zi q 100000]) x.acc)++[[Zi r 100000]]=Zd (fun(q:Rat)=>[Zi q 100000]) x'.acc∨QC (Zw x.acc.length (Zd (fun(q:Rat)=>[Zi q 100000]) x.acc)++[[Zi r 100000]]) (Zd (fun(q:Rat)=>[Zi q 100000]) x'.acc))/\True else ∃(p:List Rat),Zd (fun(q:Rat)=>[Zi q 100000]) x.acc=lR 100000 p/\x.acc.length=p.length/\p.length<=1000/\K (AV.x false [Ch.s 3 (Zw (QJ p).length (Zn 0 (Zd (fun(q:Rat)=>[Zi q 100000]) (QJ p))))]))) ?_
 try simp only[Zm,R0,R1,R4]
 obtain⟨hl,h⟩:=hc;simp only[X5];refine⟨⟨⟨1,[]⟩,⟨⟨Zp _,by simp only;omega,rfl⟩,h⟩,rfl,rfl,rfl⟩,fun e ⟨⟨h1,h2,h3⟩,hv⟩=>QF (fun hp=> ?_) (fun hp=> ?_)⟩
 ·have hp:e.i<p.length:=by have:=R5 hp;omega
  obtain⟨q,hq⟩: ∃q,p[e.i]? =some q:=⟨_,Zh (by omega)⟩
  have ed:p.drop e.i=q::p.drop (e.i+1):=by
   rw[Zt hp];congr 1;rw[Zh hp]at hq;exact Option.some.inj hq
  rw[ed,Kb]at hv;obtain⟨u,hu,hv⟩:=bind_some hv;refine⟨by omega,q,100000,by rw[Zj];exact JJ hq,by omega,by omega,u,hu,⟨by omega,by omega⟩,⟨e.i+1,e.acc++[u]⟩,⟨⟨⟨by simp only;omega,by simp only;omega,by simp;omega⟩,hv⟩,by simp only;omega⟩,by simp,by rw[w64 (by omega)];simp,.inl QW8⟩
 ·have hp:p.length<=e.i:=by have:=R6 hp;omega
  rw[Zv hp]at hv;cases hv
  exact⟨e.acc,rfl,rfl,by omega,by rw[K7 rfl];exact hK⟩
def QIw:Ctr
 | [.x false [.s 3 xs]]=>some fun K=> ∃(p:List Rat) (all:List Rat),xs=lR 100000 p/\((p.length<=1000)/\(Kb (p.drop 1) 1 []=some all))/\(K (sR 100000 (QJ all)))
 | _=>none
theorem QTD:QI 128 QIw:=by
 refine okL Tryz.func128 fun l T hT K hK=> ?_
 unfold QIw at hT;split at hT<;>cases hT
 obtain⟨p,all,rfl,hc,hK⟩:=hK;exact spL (QV QJ9 Xt Qo) QN Tryz.func128 (QXA _ _ hc K hK)
def QPL:LC:=(128,QIw)::QPJ
theorem QKA:QG QPL:= .cons QTD QJ9
structure ScX where
 i:Nat
 acc:List Rat
def QU1 (acc:List Rat)(n:Nat):Blk:= .row 26 3 (lR 100000 acc++Ze n Wq)
def QPM (p all:List Rat):LI:=fun _=> .inv ⟨ScX,fun e=>⟨[(0,sR 100000 p),(3,.x false [.w 500 0 p.length]),(9,sR 100000 p),(10,iA .i64 p.length),(11,iA .i64 e.i)],[(500,QU1 e.acc (p.length-e.i))]⟩,fun e=>(e.i<=p.length/\e.acc.length=e.i)/\scF (QX (Qp p)) (p.drop e.i) e.acc=some all,fun e=>p.length-e.i,fun _=>0⟩
set_option maxHeartbeats 1000000 in
theorem QXB (p:List Rat)(all:List Rat)(hc:(p.length<=1000)/\(Y3 p=some all))(K:AV->Prop)(hK:K (sR 100000 all)):QM (QU (mkT QPL WO X4) (oF Tryz.f129) (QPM p all) Tryz.f129 [sR 100000 p] K):=by
 refine HV (((0<=Za (lR 100000 p).length/\Za (lR 100000 p).length<=Za (lR 100000 p).length/\40*Za (lR 100000 p).length<=281474976710656/\Za (lR 100000 p).length<=9223372036854775807)/\(∃(x:ScX),(((x.i<=p.length/\x.acc.length=x.i)/\scF (QX (Qp p)) (Zn x.i p) x.acc=some all)/\OfNat.ofNat 0=0)/\3=3/\lR 100000 p=lR 100000 p/\0=0/\(Za (lR 100000 p).length).toNat=p.length/\3=3/\lR 100000 p=lR 100000 p/\Za (lR 100000 p).length=Za p.length/\0=Za x.i/\26=26/\3=3/\(Ze (Za (lR 100000 p).length).toNat [Zl (Zk false),Zl (Zf (Zc (Zg []))),Zl (Zf (Zc (Zg [])))]=lR 100000 x.acc++Ze (p.length-x.i) [Zl (Zk false),Zl (Zf (Zc (Zg []))),Zl (Zf (Zc (Zg [])))]∨QC (Ze (Za (lR 100000 p).length).toNat [Zl (Zk false),Zl (Zf (Zc (Zg []))),Zl (Zf (Zc (Zg [])))]) (lR 100000 x.acc++Ze (p.length-x.i) [Zl (Zk false),Zl (Zf (Zc (Zg []))),Zl (Zf (Zc (Zg [])))]))/\True)/\∀(x:ScX),(x.i<=p.length/\x.acc.length=x.i)/\scF (QX (Qp p)) (Zn x.i p) x.acc=some all->OfNat.ofNat 0=0->bif decide (Za x.i<Za p.length)then(0<=Za x.i/\Za x.i<Za (lR 100000 p).length)/\∃(q:Rat),∃(n:Nat),ldE (lR 100000 p) (Za x.i).toNat 0 3=some [Zi q n]/\(0<=Zb.wrap (Za (lR 100000 p).length-1)/\Zb.wrap (Za (lR 100000 p).length-1)<Za (lR 100000 p).length)/\∃(q_1:Rat),∃(n_1:Nat),ldE (lR 100000 p) (Zb.wrap (Za (lR 100000 p).length-1)).toNat 0 3=some [Zi q_1 n_1]/\n_1<=100000/\n+100000<=4294967296/\∃(r:Rat),GK q (QX q_1)=some r/\(0<=Za x.i/\Za x.i<Za p.length)/\0+(Za x.i).toNat<(lR 100000 x.acc++Ze (p.length-x.i) [Zl (Zk false),Zl (Zf (Zc (Zg []))),Zl (Zf (Zc (Zg [])))]).length/\∃(x':ScX),(((x'.i<=p.length/\x'.acc.length=x'.i)/\scF (QX (Qp p)) (Zn x'.i p) x'.acc=some all)/\OfNat.ofNat 0=0/\p.length-x'.i<p.length-x.i)/\3=3/\lR 100000 p=lR 100000 p/\0=0/\p.length=p.length/\3=3/\lR 100000 p=lR 100000 p/\Za p.length=Za p.length/\Zb.wrap (Za x.i+1)=Za x'.i/\26=26/\3=3/\((lR 100000 x.acc++Ze (p.length-x.i) [Zl (Zk false),Zl (Zf (Zc (Zg []))),Zl (Zf (Zc (Zg [])))]).set (0+(Za x.i).toNat) [Zi r 100000]=lR 100000 x'.acc++Ze (p.length-x'.i) [Zl (Zk false),Zl (Zf (Zc (Zg []))),Zl (Zf (Zc (Zg [])))]∨QC ((lR 100000 x.acc++Ze (p.length-x.i) [Zl (Zk false),Zl (Zf (Zc (Zg []))),Zl (Zf (Zc (Zg [])))]).set (0+(Za x.i).toNat) [Zi r 100000]) (lR 100000 x'.acc++Ze (p.length-x'.i) [Zl (Zk false),Zl (Zf (Zc (Zg []))),Zl (Zf (Zc (Zg [])))]))/\True else K (AV.x false [Ch.s 3 (Zw p.length (Zn 0 (lR 100000 x.acc++Ze (p.length-x.i) [Zl (Zk false),Zl (Zf (Zc (Zg []))),Zl (Zf (Zc (Zg [])))])))]))) ?_
 try simp only[Zm,R0,R1,Zy,R4]
 obtain⟨hl,h⟩:=hc;simp only[X5,Zj,R0];refine⟨⟨by omega,by omega,by omega⟩,⟨⟨0,[]⟩,⟨⟨Zu _,rfl⟩,h⟩,rfl,.inl (by simp[lR])⟩,fun e ⟨⟨h1,h2⟩,hv⟩=>QF (fun hp=> ?_) (fun hp=> ?_)⟩
 ·have hp:e.i<p.length:=by have:=R5 hp;omega
  obtain⟨q,hq⟩: ∃q,p[e.i]? =some q:=⟨_,Zh (by omega)⟩
  obtain⟨z,hz⟩: ∃z,p[p.length-1]? =some z:=⟨_,Zh (by omega)⟩
  have ed:p.drop e.i=q::p.drop (e.i+1):=by
   rw[Zt hp];congr 1;rw[Zh hp]at hq;exact Option.some.inj hq
  have el:Qp p=z:=QGP hz;have ew:(Zb.wrap ((p.length:Int)-1))=((p.length-1:Nat):Int):=by rw[w64 (by omega)];omega
  rw[ed,scF,el]at hv;obtain⟨u,hu,hv⟩:=bind_some hv;rw[ew,Zj];refine⟨by omega,q,100000,JJ hq,⟨by omega,by omega⟩,z,100000,JJ hz,by omega,by omega,u,hu,by omega,by rw[QGQ];omega,⟨e.i+1,e.acc++[u]⟩,⟨⟨⟨by simp only;omega,by simp;omega⟩,by rw[el];exact hv⟩,by simp only;omega⟩,by rw[w64 (by omega)];simp,.inl ?_⟩;rw[QGR h2.symm (by omega),show p.length-e.i-1=p.length-(e.i+1)by omega]
 ·have hp:p.length<=e.i:=by have:=R6 hp;omega
  rw[Zv hp]at hv;cases hv
  have e0:p.length-e.i=0:=by omega
  have e1:p.length=e.acc.length:=by omega
  rw[e0,List.replicate_zero,List.append_nil];have:Zw p.length (Zn 0 (lR 100000 e.acc))=lR 100000 e.acc:=K7 e1;rw[this];exact hK
def QIx:Ctr
 | [.x false [.s 3 xs]]=>some fun K=> ∃(p:List Rat) (all:List Rat),xs=lR 100000 p/\((p.length<=1000)/\(Y3 p=some all))/\(K (sR 100000 all))
 | _=>none
theorem QTE:QI 129 QIx:=by
 refine okL Tryz.func129 fun l T hT K hK=> ?_
 unfold QIx at hT;split at hT<;>cases hT
 obtain⟨p,all,rfl,hc,hK⟩:=hK;exact spL (QV QKA Xt Qo) QN Tryz.func129 (QXB _ _ hc K hK)
def QPN:LC:=(129,QIx)::QPL
theorem QKB:QG QPN:= .cons QTE QKA
structure DvX where
 n:Nat
 k:Nat
 j:Nat
 by':List Rat
 rest:List Rat
 c:Rat
 r1:List Rat
def QPO (p q:List Rat)(R:List Rat×List Rat):LI:=fun id=>
 bif id.beq 4 then .inv ⟨DvX,fun e=>⟨[(1,sR 100000 q),(4,.x false [.w 500 0 e.n]),(5,.x false [.w 501 0 (QJ p).length]),(21,iA .i64 e.n),(22,iA .i64 e.j)],[(500,QU1 (Ze e.j 0) (e.n-e.j)),(501,JY 100000 (QJ p))]⟩,
  fun e=>e.n=(QJ p).length+1-q.length/\e.j<=e.n,fun e=>e.n-e.j,fun _=>0⟩
 else bif id.beq 8 then .inv ⟨DvX,fun e=>⟨[(1,sR 100000 q),(4,.x false [.w 500 0 e.by'.length]),(5,.x false [.w 501 0 e.rest.length])],[(500,JY 100000 e.by'),(501,JY 100000 e.rest)]⟩,
  fun e=>(e.by'.length=(QJ p).length+1-q.length/\e.rest.length<=(QJ p).length)/\KM q e.n e.by' e.rest=some R,fun e=>e.n,fun _=>0⟩
 else .inv ⟨DvX,fun e=>⟨[(1,sR 100000 q),(4,.x false [.w 500 0 e.by'.length]),(5,.x false [.w 501 0 e.rest.length]),(7,iA .i64 e.k),(59,sR 100000 q),(60,iA .i64 q.length),(61,iA .i64 e.j)],[(500,JY 100000 e.by'),(501,JY 100000 e.rest)]⟩,
  fun e=>((e.by'.length=(QJ p).length+1-q.length/\e.rest.length<=(QJ p).length)/\e.k+q.length=e.rest.length/\e.j<=q.length)/\e.by'[e.k]? =some e.c/\Vr e.c (q.drop e.j) (e.k+e.j) e.rest=some e.r1/\KM q e.n e.by' (QJ e.r1)=some R,fun e=>q.length-e.j,fun e=>e.n+1⟩
abbrev QPP (p:List Rat)(q:List Rat)(R:List Rat×List Rat)(K:AV->Prop):Prop:=((p.length<=1000/\(1<=q.length/\q.length<=1000))/\(Xu p q=some R))/\(K (.t [(false,[.s 3 (lR 100000 R.1)]),(false,[.s 3 (lR 100000 R.2)])]))
set_option maxHeartbeats 1000000 in
theorem QXC (p:List Rat)(q:List Rat)(R:List Rat×List Rat)(K:AV->Prop)(hK:QPP p q R K):QM (QU (mkT QPN WO X4) (oF Tryz.f130) (QPO p q R) Tryz.f130 [sR 100000 p,sR 100000 q] K):=by
 obtain⟨hc,hK⟩:=hK;refine HV ((∃(p_1:List Rat),lR 100000 p=lR 100000 p_1/\p_1.length<=1000/\((0<=bif true then if Zb.wrap (Zb.wrap (Za (QJ p_1).length-Za (lR 100000 q).length)+1)>0 then Zb.wrap (Zb.wrap (Za (QJ p_1).length-Za (lR 100000 q).length)+1)else 0 else if Zb.wrap (Zb.wrap (Za (QJ p_1).length-Za (lR 100000 q).length)+1)<0 then Zb.wrap (Zb.wrap (Za (QJ p_1).length-Za (lR 100000 q).length)+1)else 0)/\((bif true then if Zb.wrap (Zb.wrap (Za (QJ p_1).length-Za (lR 100000 q).length)+1)>0 then Zb.wrap (Zb.wrap (Za (QJ p_1).length-Za (lR 100000 q).length)+1)else 0 else if Zb.wrap (Zb.wrap (Za (QJ p_1).length-Za (lR 100000 q).length)+1)<0 then Zb.wrap (Zb.wrap (Za (QJ p_1).length-Za (lR 100000 q).length)+1)else 0)<=bif true then if Zb.wrap (Zb.wrap (Za (QJ p_1).length-Za (lR 100000 q).length)+1)>0 then Zb.wrap (Zb.wrap (Za (QJ p_1).length-Za (lR 100000 q).length)+1)else 0 else if Zb.wrap (Zb.wrap (Za (QJ p_1).length-Za (lR 100000 q).length)+1)<0 then Zb.wrap (Zb.wrap (Za (QJ p_1).length-Za (lR 100000 q).length)+1)else 0)/\(40*bif true then if Zb.wrap (Zb.wrap (Za (QJ p_1).length-Za (lR 100000 q).length)+1)>0 then Zb.wrap (Zb.wrap (Za (QJ p_1).length-Za (lR 100000 q).length)+1)else 0 else if Zb.wrap (Zb.wrap (Za (QJ p_1).length-Za (lR 100000 q).length)+1)<0 then Zb.wrap (Zb.wrap (Za (QJ p_1).length-Za (lR 100000 q).length)+1)else 0)<=281474976710656/\(bif true then if Zb.wrap (Zb.wrap (Za (QJ p_1).length-Za (lR 100000 q).length)+1)>0 then Zb.wrap (Zb.wrap (Za (QJ p_1).length-Za (lR 100000 q).length)+1)else 0 else if Zb.wrap (Zb.wrap (Za (QJ p_1).length-Za (lR 100000 q).length)+1)<0 then Zb.wrap (Zb.wrap (Za (QJ p_1).length-Za (lR 100000 q).length)+1)else 0)<=9223372036854775807)/\(∃(x:DvX),((x.n=(QJ p).length+1-q.length/\x.j<=x.n)/\OfNat.ofNat 0=0)/\3=3/\lR 100000 q=lR 100000 q/\0=0/\(bif true then if Zb.wrap (Zb.wrap (Za (QJ p_1).length-Za (lR 100000 q).length)+1)>0 then Zb.wrap (Zb.wrap (Za (QJ p_1).length-Za (lR 100000 q).length)+1)else 0 else if Zb.wrap (Zb.wrap (Za (QJ p_1).length-Za (lR 100000 q).length)+1)<0 then Zb.wrap (Zb.wrap (Za (QJ p_1).length-Za (lR 100000 q).length)+1)else 0).toNat=x.n/\0=0/\(QJ p_1).length=(QJ p).length/\Za (bif true then if Zb.wrap (Zb.wrap (Za (QJ p_1).length-Za (lR 100000 q).length)+1)>0 then Zb.wrap (Zb.wrap (Za (QJ p_1).length-Za (lR 100000 q).length)+1)else 0 else if Zb.wrap (Zb.wrap (Za (QJ p_1).length-Za (lR 100000 q).length)+1)<0 then Zb.wrap (Zb.wrap (Za (QJ p_1).length-Za (lR 100000 q).length)+1)else 0).toNat=Za x.n/\0=Za x.j/\26=26/\3=3/\(Ze (bif true then if Zb.wrap (Zb.wrap (Za (QJ p_1).length-Za (lR 100000 q).length)+1)>0 then Zb.wrap (Zb.wrap (Za (QJ p_1).length-Za (lR 100000 q).length)+1)else 0 else if Zb.wrap (Zb.wrap (Za (QJ p_1).length-Za (lR 100000 q).length)+1)<0 then Zb.wrap (Zb.wrap (Za (QJ p_1).length-Za (lR 100000 q).length)+1)else 0).toNat [Zl (Zk false),Zl (Zf (Zc (Zg []))),Zl (Zf (Zc (Zg [])))]=lR 100000 (Ze x.j (OfNat.ofNat 0))++Ze (x.n-x.j) [Zl (Zk false),Zl (Zf (Zc (Zg []))),Zl (Zf (Zc (Zg [])))]∨QC (Ze (bif true then if Zb.wrap (Zb.wrap (Za (QJ p_1).length-Za (lR 100000 q).length)+1)>0 then Zb.wrap (Zb.wrap (Za (QJ p_1).length-Za (lR 100000 q).length)+1)else 0 else if Zb.wrap (Zb.wrap (Za (QJ p_1).length-Za (lR 100000 q).length)+1)<0 then Zb.wrap (Zb.wrap (Za (QJ p_1).length-Za (lR 100000 q).length)+1)else 0).toNat [Zl (Zk false),Zl (Zf (Zc (Zg []))),Zl (Zf (Zc (Zg [])))]) (lR 100000 (Ze x.j (OfNat.ofNat 0))++Ze (x.n-x.j) [Zl (Zk false),Zl (Zf (Zc (Zg []))),Zl (Zf (Zc (Zg [])))]))/\26=26/\3=3/\(Zd (fun(q:Rat)=>[Zi q 100000]) (QJ p_1)=Zd (fun(q:Rat)=>[Zi q 100000]) (QJ p)∨QC (Zd (fun(q:Rat)=>[Zi q 100000]) (QJ p_1)) (Zd (fun(q:Rat)=>[Zi q 100000]) (QJ p)))/\True)/\∀(x:DvX),x.n=(QJ p).length+1-q.length/\x.j<=x.n->OfNat.ofNat 0=0->bif decide (Za x.j<Za x.n)then((-9223372036854775808:Int)<=0/\(0:Int)<9223372036854775808)/\(0<=Za x.j/\Za x.j<Za x.n)/\0+(Za x.j).toNat<(lR 100000 (Ze x.j (OfNat.ofNat 0))++Ze (x.n-x.j) [Zl (Zk false),Zl (Zf (Zc (Zg []))),Zl (Zf (Zc (Zg [])))]).length/\∃(x':DvX),((x'.n=(QJ p).length+1-q.length/\x'.j<=x'.n)/\OfNat.ofNat 0=0/\x'.n-x'.j<x.n-x.j)/\3=3/\lR 100000 q=lR 100000 q/\0=0/\x.n=x'.n/\0=0/\(QJ p).length=(QJ p).length/\Za x.n=Za x'.n/\Zb.wrap (Za x.j+1)=Za x'.j/\26=26/\3=3/\((lR 100000 (Ze x.j (OfNat.ofNat 0))++Ze (x.n-x.j) [Zl (Zk false),Zl (Zf (Zc (Zg []))),Zl (Zf (Zc (Zg [])))]).set (0+(Za x.j).toNat) [Zi (↑(0:Int)) 100000]=lR 100000 (Ze x'.j (OfNat.ofNat 0))++Ze (x'.n-x'.j) [Zl (Zk false),Zl (Zf (Zc (Zg []))),Zl (Zf (Zc (Zg [])))]∨QC ((lR 100000 (Ze x.j (OfNat.ofNat 0))++Ze (x.n-x.j) [Zl (Zk false),Zl (Zf (Zc (Zg []))),Zl (Zf (Zc (Zg [])))]).set (0+(Za x.j).toNat) [Zi (↑(0:Int)) 100000]) (lR 100000 (Ze x'.j (OfNat.ofNat 0))++Ze (x'.n-x'.j) [Zl (Zk false),Zl (Zf (Zc (Zg []))),Zl (Zf (Zc (Zg [])))]))/\26=26/\3=3/\(Zd (fun(q:Rat)=>[Zi q 100000]) (QJ p)=Zd (fun(q:Rat)=>[Zi q 100000]) (QJ p)∨QC (Zd (fun(q:Rat)=>[Zi q 100000]) (QJ p)) (Zd (fun(q:Rat)=>[Zi q 100000]) (QJ p)))/\True else(∃(x_1:DvX),(((x_1.by'.length=(QJ p).length+1-q.length/\x_1.rest.length<=(QJ p).length)/\KM q x_1.n x_1.by' x_1.rest=some R)/\OfNat.ofNat 0=0)/\3=3/\lR 100000 q=lR 100000 q/\0=0/\x.n=x_1.by'.length/\0=0/\(QJ p).length=x_1.rest.length/\26=26/\3=3/\(lR 100000 (Ze x.j (OfNat.ofNat 0))++Ze (x.n-x.j) [Zl (Zk false),Zl (Zf (Zc (Zg []))),Zl (Zf (Zc (Zg [])))]=Zd (fun(q:Rat)=>[Zi q 100000]) x_1.by'∨QC (lR 100000 (Ze x.j (OfNat.ofNat 0))++Ze (x.n-x.j) [Zl (Zk false),Zl (Zf (Zc (Zg []))),Zl (Zf (Zc (Zg [])))]) (Zd (fun(q:Rat)=>[Zi q 100000]) x_1.by'))/\26=26/\3=3/\(Zd (fun(q:Rat)=>[Zi q 100000]) (QJ p)=Zd (fun(q:Rat)=>[Zi q 100000]) x_1.rest∨QC (Zd (fun(q:Rat)=>[Zi q 100000]) (QJ p)) (Zd (fun(q:Rat)=>[Zi q 100000]) x_1.rest))/\True)/\∀(x:DvX),(x.by'.length=(QJ p).length+1-q.length/\x.rest.length<=(QJ p).length)/\KM q x.n x.by' x.rest=some R->OfNat.ofNat 0=0->bif decide (Za x.rest.length≥Za (lR 100000 q).length)then(0<=Zb.wrap (Za x.rest.length-1)/\Zb.wrap (Za x.rest.length-1)<Za x.rest.length)/\∃(q_1:Rat),∃(n:Nat),ldE (Zd (fun(q:Rat)=>[Zi q 100000]) x.rest) (0+(Zb.wrap (Za x.rest.length-1)).toNat) 0 3=some [Zi q_1 n]/\(0<=Zb.wrap (Za (lR 100000 q).length-1)/\Zb.wrap (Za (lR 100000 q).length-1)<Za (lR 100000 q).length)/\∃(q_2:Rat),∃(n_1:Nat),ldE (lR 100000 q) (Zb.wrap (Za (lR 100000 q).length-1)).toNat 0 3=some [Zi q_2 n_1]/\n+n_1<=4294967296/\∃(r:Rat),GK q_1 q_2=some r/\(0<=Zb.wrap (Za x.rest.length-Za (lR 100000 q).length)/\Zb.wrap (Za x.rest.length-Za (lR 100000 q).length)<Za x.by'.length)/\0+(Zb.wrap (Za x.rest.length-Za (lR 100000 q).length)).toNat<(Zd (fun(q:Rat)=>[Zi q 100000]) x.by').length/\(∃(x_1:DvX),((((x_1.by'.length=(QJ p).length+1-q.length/\x_1.rest.length<=(QJ p).length)/\x_1.k+q.length=x_1.rest.length/\x_1.j<=q.length)/\x_1.by'[x_1.k]?=some x_1.c/\Vr x_1.c (Zn x_1.j q) (x_1.k+x_1.j) x_1.rest=some x_1.r1/\KM q x_1.n x_1.by' (QJ x_1.r1)=some R)/\x_1.n+1=x.n)/\3=3/\lR 100000 q=lR 100000 q/\0=0/\x.by'.length=x_1.by'.length/\0=0/\x.rest.length=x_1.rest.length/\Zb.wrap (Za x.rest.length-Za (lR 100000 q).length)=Za x_1.k/\3=3/\lR 100000 q=lR 100000 q/\Za (lR 100000 q).length=Za q.length/\0=Za x_1.j/\26=26/\3=3/\((Zd (fun(q:Rat)=>[Zi q 100000]) x.by').set (0+(Zb.wrap (Za x.rest.length-Za (lR 100000 q).length)).toNat) [Zi r 100000]=Zd (fun(q:Rat)=>[Zi q 100000]) x_1.by'∨QC ((Zd (fun(q:Rat)=>[Zi q 100000]) x.by').set (0+(Zb.wrap (Za x.rest.length-Za (lR 100000 q).length)).toNat) [Zi r 100000]) (Zd (fun(q:Rat)=>[Zi q 100000]) x_1.by'))/\26=26/\3=3/\(Zd (fun(q:Rat)=>[Zi q 100000]) x.rest=Zd (fun(q:Rat)=>[Zi q 100000]) x_1.rest∨QC (Zd (fun(q:Rat)=>[Zi q 100000]) x.rest) (Zd (fun(q:Rat)=>[Zi q 100000]) x_1.rest))/\True)/\∀(x_1:DvX),((x_1.by'.length=(QJ p).length+1-q.length/\x_1.rest.length<=(QJ p).length)/\x_1.k+q.length=x_1.rest.length/\x_1.j<=q.length)/\x_1.by'[x_1.k]?=some x_1.c/\Vr x_1.c (Zn x_1.j q) (x_1.k+x_1.j) x_1.rest=some x_1.r1/\KM q x_1.n x_1.by' (QJ x_1.r1)=some R->x_1.n+1=x.n->bif decide (Za x_1.j<Za q.length)then(0<=Za x_1.j/\Za x_1.j<Za (lR 100000 q).length)/\∃(q_3:Rat),∃(n:Nat),ldE (lR 100000 q) (Za x_1.j).toNat 0 3=some [Zi q_3 n]/\(0<=Zb.wrap (Za x_1.k+Za x_1.j)/\Zb.wrap (Za x_1.k+Za x_1.j)<Za x_1.rest.length)/\∃(q_4:Rat),∃(n_2:Nat),ldE (Zd (fun(q:Rat)=>[Zi q 100000]) x_1.rest) (0+(Zb.wrap (Za x_1.k+Za x_1.j)).toNat) 0 3=some [Zi q_4 n_2]/\(0<=Za x_1.k/\Za x_1.k<Za x_1.by'.length)/\∃(q_5:Rat),∃(n_3:Nat),ldE (Zd (fun(q:Rat)=>[Zi q 100000]) x_1.by') (0+(Za x_1.k).toNat) 0 3=some [Zi q_5 n_3]/\n_3+n<=4294967296/\∃(r:Rat),YV q_5 q_3=some r/\n_2+100000+1<=4294967296/\∃(r_1:Rat),W2 q_4 r=some r_1/\(0<=Zb.wrap (Za x_1.k+Za x_1.j)/\Zb.wrap (Za x_1.k+Za x_1.j)<Za x_1.rest.length)/\0+(Zb.wrap (Za x_1.k+Za x_1.j)).toNat<(Zd (fun(q:Rat)=>[Zi q 100000]) x_1.rest).length/\∃(x':DvX),((((x'.by'.length=(QJ p).length+1-q.length/\x'.rest.length<=(QJ p).length)/\x'.k+q.length=x'.rest.length/\x'.j<=q.length)/\x'.by'[x'.k]?=some x'.c/\Vr x'.c (Zn x'.j q) (x'.k+x'.j) x'.rest=some x'.r1/\KM q x'.n x'.by' (QJ x'.r1)=some R)/\x'.n+1=x.n/\q.length-x'.j<q.length-x_1.j)/\3=3/\lR 100000 q=lR 100000 q/\0=0/\x_1.by'.length=x'.by'.length/\0=0/\x_1.rest.length=x'.rest.length/\Za x_1.k=Za x'.k/\3=3/\lR 100000 q=lR 100000 q/\Za q.length=Za q.length/\Zb.wrap (Za x_1.j+1)=Za x'.j/\26=26/\3=3/\(Zd (fun(q:Rat)=>[Zi q 100000]) x_1.by'=Zd (fun(q:Rat)=>[Zi q 100000]) x'.by'∨QC (Zd (fun(q:Rat)=>[Zi q 100000]) x_1.by') (Zd (fun(q:Rat)=>[Zi q 100000]) x'.by'))/\26=26/\3=3/\((Zd (fun(q:Rat)=>[Zi q 100000]) x_1.rest).set (0+(Zb.wrap (Za x_1.k+Za x_1.j)).toNat) [Zi r_1 100000]=Zd (fun(q:Rat)=>[Zi q 100000]) x'.rest∨QC ((Zd (fun(q:Rat)=>[Zi q 100000]) x_1.rest).set (0+(Zb.wrap (Za x_1.k+Za x_1.j)).toNat) [Zi r_1 100000]) (Zd (fun(q:Rat)=>[Zi q 100000]) x'.rest))/\True else ∃(p_2:List Rat),Zd (fun(q:Rat)=>[Zi q 100000]) x_1.rest=lR 100000 p_2/\x_1.rest.length=p_2.length/\p_2.length<=1000/\∃(x':DvX),(((x'.by'.length=(QJ p).length+1-q.length/\x'.rest.length<=(QJ p).length)/\KM q x'.n x'.by' x'.rest=some R)/\OfNat.ofNat 0=0/\x'.n<x.n)/\3=3/\lR 100000 q=lR 100000 q/\0=0/\x_1.by'.length=x'.by'.length/\0=0/\(QJ p_2).length=x'.rest.length/\26=26/\3=3/\(Zd (fun(q:Rat)=>[Zi q 100000]) x_1.by'=Zd (fun(q:Rat)=>[Zi q 100000]) x'.by'∨QC (Zd (fun(q:Rat)=>[Zi q 100000]) x_1.by') (Zd (fun(q:Rat)=>[Zi q 100000]) x'.by'))/\26=26/\3=3/\(Zd (fun(q:Rat)=>[Zi q 100000]) (QJ p_2)=Zd (fun(q:Rat)=>[Zi q 100000]) x'.rest∨QC (Zd (fun(q:Rat)=>[Zi q 100000]) (QJ p_2)) (Zd (fun(q:Rat)=>[Zi q 100000]) x'.rest))/\True else K (AV.t [(false,[Ch.s 3 (Zw x.by'.length (Zn 0 (Zd (fun(q:Rat)=>[Zi q 100000]) x.by')))]),(false,[Ch.s 3 (Zw x.rest.length (Zn 0 (Zd (fun(q:Rat)=>[Zi q 100000]) x.rest)))])]))) ?_
 try simp only[Zm,R0,R1,Zy,R4,R2]
 obtain⟨hl,h⟩:=hc;obtain⟨hp,hq1,hq⟩:=hl;have tl:=Wu p;refine⟨p,rfl,hp,?_⟩;simp only[X5];rw[QTB (by omega) hq];simp only[Zj,R0,R2,R1];refine⟨⟨by omega,by omega,by omega⟩,⟨⟨(QJ p).length+1-q.length,0,0,[],[],0,[]⟩,⟨rfl,Zu _⟩,by and_intros<;>first | trivial | rfl | exact .inl rfl | exact .inl (by simp[lR])⟩,fun x ⟨hxn,hxj⟩=>QF (fun hj=> ?_) (fun hj=> ?_)⟩
 ·have hj:x.j<x.n:=by have:=R5 hj;omega
  refine⟨by omega,by omega,by rw[QGQ,Zo];omega,⟨x.n,0,x.j+1,[],[],0,[]⟩,⟨⟨hxn,by simp only;omega⟩,by simp only;omega⟩,rfl,rfl,by rw[w64 (by omega)];simp,.inl ?_⟩;rw[QGR (by simp) (by omega),show x.n-x.j-1=x.n-(x.j+1)by omega,List.replicate_succ'];rfl
 ·have hj:x.n=x.j:=by have:=R6 hj;omega
  refine⟨⟨⟨FU,0,0,Ze x.j 0,QJ p,0,[]⟩,⟨⟨by simp only[Zo];omega,Zp _⟩,?_⟩,by simp only[Zo];omega,rfl,.inl (QW9 hj),.inl rfl⟩,fun y ⟨⟨hy1,hy2⟩,hyv⟩=>QF (fun hj=> ?_) (fun hj=> ?_)⟩
  ·rw[<-hj,hxn];exact h
  ·have hj:q.length<=y.rest.length:=by have:=R5 hj;omega
   obtain⟨z,hz⟩: ∃z,y.rest[y.rest.length-1]? =some z:=⟨_,Zh (by omega)⟩
   obtain⟨d,hd⟩: ∃d,q[q.length-1]? =some d:=⟨_,Zh (by omega)⟩
   have ew1:(Zb.wrap ((y.rest.length:Int)-1))=((y.rest.length-1:Nat):Int):=by rw[w64 (by omega)];omega
   have ew2:(Zb.wrap ((q.length:Int)-1))=((q.length-1:Nat):Int):=by rw[w64 (by omega)];omega
   have ew3:(Zb.wrap ((y.rest.length:Int)-q.length))=((y.rest.length-q.length:Nat):Int):=by rw[w64 (by omega)];omega
   obtain⟨n,hn⟩: ∃n,y.n=n+1:=by
    cases hyn:y.n with
    | zero=>rw[hyn]at hyv;cases hyv
    | succ n=>exact⟨n,rfl⟩
   rw[hn,KM,Nat.ble_eq_true_of_le hj]at hyv;simp only[R7]at hyv;obtain⟨c,hc,hyv⟩:=bind_some hyv;obtain⟨r1,hr1,hyv⟩:=bind_some hyv;rw[show Qp y.rest=z from QGP hz,show Qp q=d from QGP hd]at hc;rw[ew1,ew2,ew3];simp only[Zj,List.length_map];refine⟨by omega,z,100000,JJ hz,by omega,d,100000,JJ hd,by omega,c,hc,by omega,by omega,⟨⟨n,y.rest.length-q.length,0,y.by'.set (y.rest.length-q.length) c,y.rest,c,r1⟩,⟨⟨⟨⟨by simp only[Zq];exact hy1,hy2⟩,by simp only;omega,Zu _⟩,?_,hr1,hyv⟩,hn.symm⟩,by and_intros<;>first | trivial | rfl | exact .inl rfl | exact .inl (by rw[List.map_set]) | (simp only[Zq])⟩,fun v ⟨⟨⟨v1,v2⟩,v3,v4⟩,v5,v6,v7⟩ hvn=>QF (fun hj=> ?_) (fun hj=> ?_)⟩
   ·simp only;rw[List.getElem?_set_self (by omega)]
   ·have hj:v.j<q.length:=by have:=R5 hj;omega
    obtain⟨f,hf⟩: ∃f,q[v.j]? =some f:=⟨_,Zh (by omega)⟩
    obtain⟨g,hg⟩: ∃g,v.rest[v.k+v.j]? =some g:=⟨_,Zh (by omega)⟩
    have ed:q.drop v.j=f::q.drop (v.j+1):=by
     rw[Zt hj];congr 1;rw[Zh hj]at hf;exact Option.some.inj hf
    have ew4:(Zb.wrap ((v.k:Int)+v.j))=((v.k+v.j:Nat):Int):=by rw[w64 (by omega)];omega
    have vk:=(List.getElem?_eq_some_iff.1 v5).1;rw[ed,Vr,QGP hg]at v6;obtain⟨m,hm,v6⟩:=bind_some v6;obtain⟨w,hw,v6⟩:=bind_some v6;rw[ew4];simp only[Zj];exact⟨by omega,f,100000,JJ hf,by omega,g,100000,JJ hg,by omega,v.c,100000,JJ v5,by omega,m,hm,by omega,w,hw,by omega,by omega,⟨v.n,v.k,v.j+1,v.by',v.rest.set (v.k+v.j) w,v.c,v.r1⟩,⟨⟨⟨⟨v1,by simp only[Zq];exact v2⟩,by simp only[Zq];omega,by simp only;omega⟩,v5,by rw[show v.k+(v.j+1)=v.k+v.j+1 by omega];exact v6,v7⟩,hvn,by simp only;omega⟩,rfl,by simp only[Zq],rfl,by rw[w64 (by omega)];simp,.inl rfl,.inl (by rw[List.map_set])⟩
   ·have hj:q.length<=v.j:=by have:=R6 hj;omega
    rw[Zv hj]at v6;have v6:=Option.some.inj v6;rw[<-v6]at v7;exact⟨v.rest,rfl,rfl,by omega,⟨v.n,0,0,v.by',QJ v.rest,0,[]⟩,⟨⟨⟨v1,by simp only;exact Nat.le_trans (Wu _) v2⟩,v7⟩,by simp only;omega⟩,by and_intros<;>first | trivial | rfl | exact .inl rfl⟩
  ·have hj: ¬q.length<=y.rest.length:=by have:=R6 hj;omega
   have:Nat.ble q.length y.rest.length=false:=by
    cases hb:Nat.ble q.length y.rest.length with
    | false=>rfl
    | true=>exact absurd (Nat.le_of_ble_eq_true hb) hj
   cases hyn:y.n with
   | zero=>rw[hyn]at hyv;cases hyv
   | succ n=>
    rw[hyn,KM,this]at hyv;cases hyv
    rw[K7 rfl,K7 rfl];exact hK
def QIy:Ctr
 | [.x false [.s 3 xs],.x false [.s 3 ys]]=>some fun K=> ∃(p:List Rat) (q:List Rat) (R:List Rat×List Rat),xs=lR 100000 p/\ys=lR 100000 q/\QPP p q R K
 | _=>none
theorem QTF:QI 130 QIy:=by
 refine okL Tryz.func130 fun l T hT K hK=> ?_
 unfold QIy at hT;split at hT<;>cases hT
 obtain⟨p,q,R,rfl,rfl,hK⟩:=hK;exact spL (QV QKB Xt Qo) QN Tryz.func130 (QXC _ _ _ K hK)
def QPQ:LC:=(130,QIy)::QPN
noncomputable def QU2:Qc:=mkT QPQ WO X4
theorem QKC:QG QPQ:= .cons QTF QKB
theorem QTG:XP QU2:=QV QKC Xt Qo
end Go.Proofs
