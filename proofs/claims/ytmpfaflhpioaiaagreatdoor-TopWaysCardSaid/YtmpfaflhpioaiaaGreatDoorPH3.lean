/- path: what Find answers, told plainly. -/
import Derived.Test.YtmpfaflhpioaiaaGreatDoorPH2
open _root_ renaming List → A, Rat → B, Int → C, Nat → E
open Option renaming some → F, none → H
open Bool renaming false → G
open List renaming length → D, take → M, map → Zb, take_of_length_le → Zk
open Int renaming ofNat → I
open Go.Eng.Ch renaming s → J, v → L, r → Zd
open Go.IntKind renaming i64 → Ze
open Go.Value renaming int → Zh, slice → Zm, bool → Zc, string → Za, map → Zl
set_option maxHeartbeats 2000000
set_option maxRecDepth 100000
namespace Go.Proofs
open Go Go.Eng
structure ZW (a:ArmV)(ws:A (A (B×B)))(s:C)(fr u:A C)(out:A (A C)):Prop where
  first:out[0]? =F fr
  last:out[D out-1]? =F u
  ok: ∀l∈out,OkS s a.za.length l
  ch: ∀(k:E) x y,out[k]? =F x->out[k+1]? =F y->EdS a ws s y x
def pT (a:ArmV)(ws:A (A (B×B)))(s:C)(p:A B):Bool:=goV a ws 2 p (XQ a s (Q8 a s p))
def mJ (a:ArmV)(ws:A (A (B×B)))(s:C)(q:A B):Bool:=goV a ws 2 (XQ a s (Q8 a s q)) q
structure FdY (a:ArmV)(ws:A (A (B×B)))(s:C)(p q:A B)(out:A (A C)):Prop where
  b:pT a ws s p=true
  e:mJ a ws s q=true
  zn:ZW a ws s (Q8 a s p) (Q8 a s q) out
  len:1<=out.length
  dst:Dst (EdS a ws s) (Q8 a s q) (D out-1) (Q8 a s p)
def FdN (a:ArmV)(ws:A (A (B×B)))(s:C)(p q:A B):Prop:=pT a ws s p=true->mJ a ws s q=true-> ∀D,¬Dst (EdS a ws s) (Q8 a s q) D (Q8 a s p)
theorem fa {a:ArmV}(b:QJ a){s:C}(d:1<=s){q:A B}(h:Fit a q)(c:q.length=D a.za):OkS s a.za.length (Q8 a s q):=⟨by simp[Q8,c],QW7 b d h⟩
theorem VL {a:ArmV}{ws:A (A (B×B))}{s:C}(t:1<=s){g u:A C}{D:E}(m:OkS s a.za.length g)(z:Dst (EdS a ws s) g D u):D+1<=NS a s:=by
 have o: ∀n,n<=D-> ∃f:C->Option C,(∀k v,f k=F v->v<=n/\0<=v)/\(∀w v,OkS s a.za.length w->f (numV s w)=F v->Dst (EdS a ws s) g v.toNat w)/\n+1+K4 f (NS a s)<=NS a s:=by
  intro n;induction n with
  | zero=>
   intro _;have l:=Jw t m;refine⟨JM (fun _=>H) (numV s g) 0,fun k v h=> ?_,fun w v j h=> ?_,?_⟩
   ·unfold JM at h;cases b:(numV s g==k)with
    | true=>rw[b]at h;cases h;omega
    | false=>rw[b]at h;cases h
   ·unfold JM at h;cases b:(numV s g==numV s w)with
    | true=>
     rw[b]at h;cases h
     have e:g=w:=Ud o3 (m.1.trans j.1.symm) m.2 j.2 (eq_of_beq b);subst e;exact Dst.zero_iff.2 rfl
    | false=>rw[b]at h;cases h
   ·have r:=rG (f:=fun _=>H) (v:=0) rfl l.1 l.2;have y:=QXW (fun _=>H) (NS a s);omega
  | succ n M=>
   intro K;obtain⟨f,p,q,N⟩:=M o3;obtain⟨w,j⟩:=z.below (n+1) K;have c:OkS s a.za.length w:=j.1.ok m bC;have l:=Jw t c;have d:f (numV s w)=H:=by
    cases h:f (numV s w)with
    | none=>rfl
    | some v=>
     have r:=p _ _ h;have y:=(q w v c h).uniq j;omega
   refine⟨JM f (numV s w) (n+1),fun k v h=> ?_,fun x v i h=> ?_,?_⟩
   ·unfold JM at h;cases b:(numV s w==k)with
    | true=>rw[b]at h;cases h;omega
    | false=>rw[b]at h;have:=p _ _ h;omega
   ·unfold JM at h;cases b:(numV s w==numV s x)with
    | true=>
     rw[b]at h;cases h
     have e:w=x:=Ud o3 (c.1.trans i.1.symm) c.2 i.2 (eq_of_beq b);subst e;have:((n:C)+1).toNat=n+1:=o3
     rw[this];exact j
    | false=>rw[b]at h;exact q _ _ i h
   ·have r:=rG (v:=(n:C)+1) d l.1 l.2;omega
 obtain⟨f,_,_,h⟩:=o D (E.le_refl _);omega
def NY:=Zm H 0 0
def Nb(a:B->E)(b:E)(c:A B):=Zb (fun(z:B)=>[Zd z (a z+65)]) (M b c)
def Ni:=(0:C)
def Nc:=OfNat.ofNat 0=0
def Nn(a b c:E):=a*b<=140737488355328/\c<=9223372036854775807
theorem QRs (n:E)(a:A B)(e:(n<=1000000/\a.length<=1000000))(K:AV->Prop)(d:K (sR (n+65) a)):QM (QN QcE (oF Tryz.f29) (fun _=> .inv ⟨E,fun k=>⟨[(3,.x G [.w 500 0 k]),(6,sR n a),(7,iA .i64 a.length),(8,iA .i64 k)],[(500,YU (n+65) (a.take k))]⟩,fun k=>k<=D a,fun k=>D a-k,fun _=>0⟩) Tryz.f29 [sR n a] K):=by
 refine HV ((∃(x:E),(x<=D a/\Nc)/\NY=NY/\0=0/\x=0/\3=3/\lR n a=lR n a/\I (lR n a).length=I a.length/\0=I x/\Nb (fun q=>n) x a=[]/\True)/\∀(x:E),x<=D a->Nc->bif decide (I x<I a.length)then(0<=I x/\I x<I (lR n a).length)/\∃(q:B)(b:E),ldE (lR n a) (I x).toNat 0 3=F [Zd q b]/\((-9223372036854775808:C)<=0/\Ni<9223372036854775808)/\b+64+1<=4294967296/\Nn (x+1) 40 (x+1)/\∃(c:E),(c<=D a/\Nc/\a.length-c<D a-x)/\0=0/\x+1=c/\3=3/\lR n a=lR n a/\I a.length=I a.length/\Ze.wrap (I x+1)=I c/\25=25/\3=3/\(M x (Nb (fun q=>n) x a)++[[Zd (q+↑Ni) (b+64+1)]]=Nb (fun q=>n) c a\/QC (M x (Nb (fun q=>n) x a)++[[Zd (q+↑Ni) (b+64+1)]]) (Nb (fun q=>n) c a))/\True else K (AV.x G [J 3 (M x (A.drop 0 (Nb (fun q=>n) x a)))])) ?_
 delta NY Nb Ni Nc Nn
 try simp only[C.ofNat_eq_natCast,R0,R1,R4]
 refine⟨⟨0,o3,rfl,by rw[Qw],rfl,o6⟩,fun x f=>QE (fun h=> ?_) (fun h=> ?_)⟩
 ·have h:x<D a:=(j7 h)
  obtain⟨q,hq⟩: ∃q,a[x]? =F q:=⟨_,A.getElem?_eq_getElem h⟩
  refine⟨by rw[Qw];omega,_,_,Xd ((j9 hq)),o3,o3,o3,x+1,⟨o3,o3⟩,rfl,by rw[w64 o3];simp,.inl ?_⟩;rw[Zk (by rw[A.length_map,A.length_take];omega),A.take_add_one,hq,A.map_append];simp only[Option.toList,A.map_cons,A.map_nil];rw[show q+((0:C):B)=q by rw[B.intCast_zero,B.add_zero]]
 ·have h:x=D a:=(j8 h)
  subst h;rw[A.drop_zero,A.take_length,Zk (by rw[A.length_map];exact E.le_refl _)];exact d
def nI:Ctr
 | [.x G [.s 3 x]]=>F fun K=> ∃(n:E) (q:A B),x=lR n q/\((n<=1000000/\q.length<=1000000))/\(K (sR (n+65) q))
 | _=>H
theorem ok_pCopied:QH 29 nI:=by
 refine okL Tryz.func29 fun l T a K h=> ?_
 unfold nI at a;split at a<;>cases a
 obtain⟨n,q,rfl,b,h⟩:=h;exact spL k7 QK Tryz.func29 (QRs _ _ b K h)
def QkB:LC:=(29,nI)::aX
def QkC:LC:=QkB
noncomputable def QlL:Qd:=mkTP QkC ZK X4
def rh:Ctr
 | [.x G [.s 3 x]]=>F fun K=> ∃(n:E) (q:A B),x=lR n q/\(n<=1000000/\q.length<=1000000)/\K (sR n q)
 | _=>H
theorem QM5:QH 29 rh:=by
 refine⟨ok_pCopied.enter,fun l T h K a=> ?_⟩;unfold rh at h;split at h
 ·cases h
  obtain⟨n,q,rfl,i,a⟩:=a;refine Y5 fun w O k d j=> ?_
  cases j with
  | cons f _=>
   have g:=QJx f;exact Spec.res (ok_pCopied.sound _ _ rfl (fun c=>c=sR (n+65) q) ⟨n,q,rfl,i,rfl⟩) fun w O c v e b=>⟨_,a,by subst e;exact rM g b⟩
 ·cases h
def kX:XS:=fun l c d=>match l with
  | [.x G [.p k o],.x G [.s 1 x]]=>match o with
    | 0=>match c k,c (k+5000),c d with
      | some (.box t n),F (.mp f),H=>bif t.beq 83 then(match bt n with
        | some (.m j)=>bif j.beq (k+5000)then F fun K=> ∃(a:ArmV) (m:E) (h:A (A (B×B))) (s:C) (g i:A C) (b:E),n=Hp a m h s (.m (k+5000))/\x=ints i/\(QJ a/\(1<=s/\s<=12)/\OkS s a.za.length g/\OkS s a.za.length i/\m<=400000000/\((∀w∈h,QY w)/\h.length<=20)/\FdS a h s g i f/\Dst (EdS a h s) g b i)/\
            ∀e,ZW a h s i g e->D e=b+1->K (.x G [.w d 0 e.length]) (upd c d (F (Kp e)))else H
        | _=>H)else H
      | _,_,_=>H
    | _+1=>H
  | _=>H
def uF:A (E×XS):=(27,iQ)::(30,kX)::ZK
def QkE:LC:=(29,rh)::aX
noncomputable def QkF:Qd:=mkTP QkE uF X4
structure FiX where
 out:A (A C)
 i:E
 w:A (A B)
structure FiI (a:ArmV)(ws:A (A (B×B)))(s:C)(p q:A B)(x:FiX):Prop where
 zn:ZW a ws s (Q8 a s p) (Q8 a s q) x.out
 len:1<=x.out.length
 dst:Dst (EdS a ws s) (Q8 a s q) (D x.out-1) (Q8 a s p)
 i:x.i<=x.out.length
 w:x.w=p::(x.out.take x.i).map (XQ a s)
def QXY (a:ArmV)(_m:E)(ws:A (A (B×B)))(s:C)(p q:A B):LI:=fun i=>
 bif i.beq 2 then .unroll 3
 else bif i.beq 26 then .inv ⟨FiX,fun x=>⟨[(2,sR 63 q),(4,iA .i64 s),(5,.x G [.p 5 0]),(29,.x G [.w 500 0 x.w.length]),(130,.x G [.w 501 0 x.out.length]),(131,iA .i64 x.out.length),(132,iA .i64 x.i)],[(5,.box 34 (Qp a)),(500,.row 42 1 (wN 63 x.w)),(501,Kp x.out)]⟩,FiI a ws s p q,fun x=>D x.out-x.i,fun _=>0⟩
 else .no
def NO(a:B):=Zd a 63
def NW(a:ArmV):=Zb QA a.za
def Nm(a:ArmV):=L (Zc a.half)
def Nl(a:ArmV):=L (Za a.name)
def NP(a:FiX):=a.w.length
def NQ(a b c d e f:ArmV)(g:E)(h:A (A (B×B)))(i:C):A Ch:=[Nl a,NO b.x,NO c.y,Nm d,NO e.t,J 16 (NW f),J 1 (shN g h),L (Zh Ze i),L (Zl H)]
def NR(a:A C)(b:ArmV)(c:C->A C)(d:C->C):=D a=D b.za/\∀(z:C),z∈c z->0<=z/\z<=d z
def NU(a b:C):=1<=a/\b<=12
def NT(a:FiX):=a.out.length
def NV(a b c d e f g h i j k l:ArmV):=[Nl a,NO b.x,NO c.y,Nm d,NO e.t,J 16 (NW f)]=[Nl g,NO h.x,NO i.y,Nm j,NO k.t,J 16 (NW l)]
def NX(a:ArmV)(b:C)(c:A B)(d:A C):=ints (Q8 a b c)=ints d
def Na(a:FiX):=wN 63 a.w
def NZ(a:FiX):=Zb spE a.out
def Nd(a:AV->Prop)(b:Ch)(c:C):=a (AV.t [(G,[b]),(G,[L (Zh Ze c)])])
def Nf:=63<=63
def Nh(a b c d e f:ArmV)(g:E)(h:A (A (B×B)))(i:C):A Ch:=[Nl a,NO b.x,NO c.y,Nm d,NO e.t,J 16 (NW f),J 1 (shN g h),L (Zh Ze i),Ch.m 5103]
def Ng(a:A B)(b:ArmV):=D a=b.za.length
def Nj(a:ArmV->E->A (A (B×B))->C->A C->Prop):=∃(z:ArmV)(y:E)(x:A (A (B×B)))(w:C)(v:A C),a z y x w v
def Nk(a:E->QV->B->ArmV)(b:E->QV->B->A B):=∀(z:E)(y:QV)(x:B),(a z y x).za[z]? =F y->(b z y x)[z]? =F x->y.lo<=x/\x<=y.hi
theorem QXZ (a:ArmV)(m:E)(ws:A (A (B×B)))(s:C)(p q:A B)(hg:QJ a)(hs:1<=s/\s<=12)(hp:Fit a p/\p.length=D a.za)(hq:Fit a q/\q.length=D a.za)(hm:m<=400000000)(hw:(∀w∈ws,QY w)/\ws.length<=20)(K:AV->Prop)(hY: ∀jh,FdY a ws s p q jh->K (.t [(G,[.s 1 (wN 63 (p::jh.map (XQ a s)++[q]))]),(G,[.v (.int .i64 0)])]))(hN:FdN a ws s p q->K (.t [(G,[.v (.slice H 0 0)]),(G,[.v (.int .i64 4)])])):QM (QN QkF (oF Tryz.f7) (QXY a m ws s p q) Tryz.f7 [JV a,sR 63 p,sR 63 q,slA m ws,iA .i64 s] K):=by
 refine HV ((Ni<=0/\Ni<2)/\∃(ys:A (A Ch)),F [J 3 (lR 63 p)]=F [J 3 ys]/\∃(jj:ArmV)(n:E)(qs:A B),NV a a a a a a jj jj jj jj jj jj/\ys=lR n qs/\(QJ jj/\n<=1000000/\Ng qs jj)/\(Nk (fun i At q=>jj) (fun i At q=>qs)->(Ni<=1/\(1:C)<2)/\∃(ys:A (A Ch)),F [J 3 (lR 63 q)]=F [J 3 ys]/\∃(jk:ArmV)(n:E)(qs:A B),NV a a a a a a jk jk jk jk jk jk/\ys=lR n qs/\(QJ jk/\n<=1000000/\Ng qs jk)/\(Nk (fun i At q=>jk) (fun i At q=>qs)->∃(je:ArmV)(n:E)(qs:A B),NV a a a a a a je je je je je je/\lR 63 p=lR n qs/\(QJ je/\NU s s/\Ng qs je/\Nk (fun z u v=>je) (fun r t y=>qs)/\n<=100000)/\∃(jg:ArmV)(n:E)(ju:A B),NV a a a a a a jg jg jg jg jg jg/\lR 63 q=lR n ju/\(QJ jg/\NU s s/\Ng ju jg/\Nk (fun c h j=>jg) (fun Q o b=>ju)/\n<=100000)/\∃(jn:ArmV)(ks:A C),NV a a a a a a jn jn jn jn jn jn/\NX je s qs ks/\(QJ jn/\NU s s/\NR ks jn (fun R=>ks) (fun k=>s))/\∃(jq:ArmV)(jw:A C),NV a a a a a a jq jq jq jq jq jq/\NX jg s ju jw/\(QJ jq/\NU s s/\NR jw jq (fun S=>jw) (fun k=>s))/\∃(jl:ArmV)(d:E)(jC:A B)(e:E)(jE:A B)(jJ:E)(jy:A (A (B×B)))(n:E),NV a a a a a a jl jl jl jl jl jl/\lR 63 p=lR d jC/\lR 63 (XQ jn s ks)=lR e jE/\shN m ws=shN jJ jy/\2=I n/\(QJ jl/\2*d+e+130<=400/\(D jC=D jl.za/\Ng jE jl)/\jJ<=400000000/\((∀(U:A (B×B)),U∈jy->QY U)/\jy.length<=20)/\1<=n/\n<=50)/\∃(jc:ArmV)(d:E)(jD:A B)(e:E)(jF:A B)(jK:E)(jz:A (A (B×B)))(jB:E),NV a a a a a a jc jc jc jc jc jc/\lR 63 (XQ jq s jw)=lR d jD/\lR 63 q=lR e jF/\shN m ws=shN jK jz/\2=I jB/\(QJ jc/\2*d+e+130<=400/\(D jD=D jc.za/\Ng jF jc)/\jK<=400000000/\((∀(V:A (B×B)),V∈jz->QY V)/\jz.length<=20)/\1<=jB/\jB<=50)/\bif S6 jl (YB jC jE n) jy then bif S6 jc (YB jD jF jB) jz then Nj (fun be jm jb ja g=>∃(fr:A C),NQ a a a a a a m ws s=NQ be be be be be be jm jb ja/\NX jg s ju g/\NX je s qs fr/\(QJ be/\NU ja ja/\NR g be (fun k=>g) (fun k=>ja)/\NR fr be (fun k=>fr) (fun k=>ja)/\jm<=400000000/\(∀(W:A (B×B)),W∈jb->QY W)/\jb.length<=20)/\∀(f:C->Option C),FdS be jb ja g fr f->Nj (fun jf m jL jA l=>Nh be be be be be be jm jb ja=Nh jf jf jf jf jf jf m jL jA/\NX je s qs l/\QJ jf/\NU jA jA/\NR l jf (fun X=>l) (fun Y=>jA)/\Blk.box 83 (Nh be be be be be be jm jb ja)=Blk.box 83 (Nh be be be be be be jm jb ja)/\Blk.mp f=Blk.mp f/\bif !(f (numV jA l)).isSome then Nd K (L NY) 4 else∃(n:E)(jx:A B),lR 63 p=lR n jx/\(n<=1000000/\jx.length<=1000000)/\Nj (fun hZ m ji jr g=>∃(fr:A C)(T:E),Nh be be be be be be jm jb ja=Nh hZ hZ hZ hZ hZ hZ m ji jr/\NX je s qs fr/\(QJ hZ/\NU jr jr/\NR g hZ (fun k=>g) (fun k=>jr)/\NR fr hZ (fun k=>fr) (fun k=>jr)/\m<=400000000/\((∀(Z:A (B×B)),Z∈ji->QY Z)/\ji.length<=20)/\FdS hZ ji jr g fr f/\Rch (EdS hZ ji jr) g T fr/\∀(k:E),k<T->¬Rch (EdS hZ ji jr) g k fr)/\∀(jh:A (A C)),ZW hZ ji jr fr g jh->D jh=T+1->(∃(x:FiX),(FiI a ws s p q x/\Nc)/\3=3/\lR 63 q=lR 63 q/\s=s/\0=0/\0=0/\1=NP x/\0=0/\jh.length=NT x/\I jh.length=I (NT x)/\0=I x.i/\34=34/\a.name=a.name/\a.x=a.x/\Nf/\a.y=a.y/\Nf/\a.half=a.half/\a.t=a.t/\Nf/\16=16/\NW a=NW a/\42=42/\1=1/\([[J 3 (lR n jx)]]=Na x\/QC [[J 3 (lR n jx)]] (Na x))/\22=22/\1=1/\(Zb spE jh=NZ x\/QC (Zb spE jh) (NZ x))/\True)/\∀(x:FiX),FiI a ws s p q x->Nc->bif decide (I x.i<I (NT x))then(0<=I x.i/\I x.i<I (NT x))/\∃(ys:A (A Ch)),ldE (NZ x) (0+(I x.i).toNat) 0 1=F [J 1 ys]/\∃(jd:ArmV)(ks:A C),NV a a a a a a jd jd jd jd jd jd/\ys=ints ks/\(QJ jd/\NU s s/\NR ks jd (fun k=>ks) (fun k=>s))/\Nn (NP x+1) 24 (NP x+1)/\∃(x':FiX),(FiI a ws s p q x'/\Nc/\NT x'-x'.i<NT x-x.i)/\3=3/\lR 63 q=lR 63 q/\s=s/\0=0/\0=0/\NP x+1=NP x'/\0=0/\NT x=NT x'/\I (NT x)=I (NT x')/\Ze.wrap (I x.i+1)=I x'.i/\34=34/\a.name=a.name/\a.x=a.x/\Nf/\a.y=a.y/\Nf/\a.half=a.half/\a.t=a.t/\Nf/\16=16/\NW a=NW a/\42=42/\1=1/\(M (NP x) (Na x)++[[J 3 (lR 63 (XQ jd s ks))]]=Na x'\/QC (M (NP x) (Na x)++[[J 3 (lR 63 (XQ jd s ks))]]) (Na x'))/\22=22/\1=1/\(NZ x=NZ x'\/QC (NZ x) (NZ x'))/\True else∃(n:E)(qs:A B),lR 63 q=lR n qs/\(n<=1000000/\qs.length<=1000000)/\Nn (NP x+1) 24 (NP x+1)/\Nd K (J 1 (M (NP x+1) (A.drop 0 (M (NP x) (Na x)++[[J 3 (lR n qs)]])))) 0)))else Nj (fun be jm jb ja l=>NQ a a a a a a m ws s=NQ be be be be be be jm jb ja/\NX je s qs l/\QJ be/\NU ja ja/\NR l be (fun Lm=>l) (fun N=>ja)/\Blk.box 83 (NQ a a a a a a m ws s)=Blk.box 83 (NQ a a a a a a m ws s)/\Nd K (L NY) 4)else Nj (fun be jm jb ja l=>NQ a a a a a a m ws s=NQ be be be be be be jm jb ja/\NX je s qs l/\QJ be/\NU ja ja/\NR l be (fun O=>l) (fun P=>ja)/\Blk.box 83 (NQ a a a a a a m ws s)=Blk.box 83 (NQ a a a a a a m ws s)/\Nd K (L NY) 4))/\(¬Fit jk qs->Nd K (L NY) 17))/\(¬Fit jj qs->Nd K (L NY) 17)) ?_
 delta NO NW Nm Nl NP NQ NR NU NT NV NX NY Na NZ Ni Nc Nd Nf Nh Ng Nj Nk Nn
 simp only[C.ofNat_eq_natCast,R0,R1,E.zero_add,E.le_refl,R4];have hn:=hg.n;obtain⟨jU,jV⟩:=iC hg hs;have jt:=fa hg hs.1 hp.1 hp.2;have jv:=fa hg hs.1 hq.1 hq.2;have vl: ∀ks:A C,D ks=D a.za->(XQ a s ks).length=D a.za:=fun ks h=>by simp[XQ,h]
 have wl: ∀n (w:A (A B)),(wN n w).length=D w:=fun n w=>by simp[wN]
 have jR:=hp.2;have jS:=hq.2;refine⟨⟨o3,o3⟩,_,rfl,a,63,p,rfl,rfl,⟨hg,o3,hp.2⟩,fun _=>⟨⟨o3,o3⟩,_,rfl,a,63,q,rfl,rfl,⟨hg,o3,hq.2⟩,fun _=> ?_,fun h=>absurd hq.1 h⟩,fun h=>absurd hp.1 h⟩;refine⟨a,63,p,rfl,rfl,⟨hg,hs,hp.2,hp.1,o3⟩,a,63,q,rfl,rfl,⟨hg,hs,hq.2,hq.1,o3⟩,a,Q8 a s p,rfl,rfl,⟨hg,hs,jt⟩,a,Q8 a s q,rfl,rfl,⟨hg,hs,jv⟩,a,63,p,63,XQ a s (Q8 a s p),m,ws,2,rfl,rfl,rfl,rfl,rfl,⟨hg,o3,⟨hp.2,vl _ jt.1⟩,hm,hw,o3,o3⟩,a,63,XQ a s (Q8 a s q),63,q,m,ws,2,rfl,rfl,rfl,rfl,rfl,⟨hg,o3,⟨vl _ jv.1,hq.2⟩,hm,hw,o3,o3⟩,QE (fun hb=>QE (fun he=> ?_) (fun he=>⟨a,m,ws,s,Q8 a s p,rfl,rfl,hg,hs,jt,hN fun _ h2=>absurd (he.symm.trans h2) o6⟩)) (fun hb=>⟨a,m,ws,s,Q8 a s p,rfl,rfl,hg,hs,jt,hN fun h1 _=>absurd (hb.symm.trans h1) o6⟩)⟩
 refine⟨a,m,ws,s,Q8 a s q,Q8 a s p,rfl,rfl,rfl,⟨hg,hs,jv,jt,hm,hw⟩,fun f hF=>⟨a,m,ws,s,Q8 a s p,rfl,rfl,hg,hs,jt,QE (fun h=>hN fun _ _ T hD=> ?_) (fun h=> ?_)⟩⟩
 ·have h1:=(Gb hF.nn).1 (hF.found.2 T hD).1;rw[h1]at h;simp at h
 ·obtain⟨v,hv⟩: ∃v,f (numV s (Q8 a s p))=F v:=by
   cases h':f (numV s (Q8 a s p))with
   | none=>rw[h']at h;simp at h
   | some v=>exact⟨v,rfl⟩
  have jT:=hF.nn _ _ hv;have hD:Dst (EdS a ws s) (Q8 a s q) v.toNat (Q8 a s p):=hF.found.1 _ _ jt ((Gb hF.nn).2 (by rw[hv];congr 1;omega));have jQ:=VL hs.1 jv hD;refine⟨63,p,rfl,⟨o3,o3⟩,a,m,ws,s,Q8 a s q,Q8 a s p,v.toNat,rfl,rfl,⟨hg,hs,jv,jt,hm,hw,hF,hD⟩,fun jh jH jG=>⟨⟨⟨jh,0,[p]⟩,⟨jH,o5,by simp only;rw[jG];exact hD,E.zero_le _,rfl⟩,rfl,rfl,rfl,rfl,.inl rfl,.inl rfl⟩,fun x hx=>QE (fun hi=> ?_) (fun hi=> ?_)⟩⟩
  ·have hi:x.i<D x.out:=(j7 hi)
   obtain⟨l,hl⟩: ∃l,x.out[x.i]? =F l:=⟨_,A.getElem?_eq_getElem hi⟩
   have jO:=hx.zn.ok l (A.mem_of_getElem? hl);have jM:=VL hs.1 jv hx.dst;have jP:x.w.length=x.i+1:=by rw[hx.w];simp;omega
   have jN:=hx.len;refine⟨⟨o3,o3⟩,ints l,nO ((j9 hl)),a,l,rfl,rfl,⟨hg,hs,jO⟩,⟨o3,o3⟩,⟨x.out,x.i+1,x.w++[XQ a s l]⟩,⟨⟨hx.zn,hx.len,hx.dst,o5,?_⟩,o5⟩,o6,rfl,rfl,by rw[w64 o3];simp,.inl ?_,.inl rfl⟩
   ·simp only;rw[hx.w,A.take_add_one,hl];simp
   ·rw[Zk (by rw[wl];exact E.le_refl _)];simp[wN,wEl]
  ·have hi:x.i=D x.out:=by have:=R6 hi;have:=hx.i;omega
   have jM:=VL hs.1 jv hx.dst;have jI:x.w=p::x.out.map (XQ a s):=by rw[hx.w,hi,A.take_length]
   have jP:x.w.length=D x.out+1:=by rw[jI];simp
   have jN:=hx.len;refine⟨63,q,rfl,⟨o3,o3⟩,⟨o3,o3⟩,?_⟩;have e:M (D x.w+1) (A.drop 0 (M x.w.length (wN 63 x.w)++[[J 3 (lR 63 q)]]))=wN 63 (p::x.out.map (XQ a s)++[q]):=by
    rw[A.drop_zero,Zk (l:=wN 63 x.w) (by rw[wl];exact E.le_refl _),Zk (by simp[wl]),jI];simp[wN,wEl]
   rw[e];exact hY x.out ⟨hb,he,hx.zn,hx.len,hx.dst⟩
end Go.Proofs
