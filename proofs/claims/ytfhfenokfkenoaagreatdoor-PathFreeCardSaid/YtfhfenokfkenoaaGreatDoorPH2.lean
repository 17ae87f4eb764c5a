/- path: measure. -/
import Derived.Test.YtfhfenokfkenoaaGreatDoorPH1
open Go.IntKind renaming i64 → Za
open List renaming map → Zb, mem_of_getElem? → Zh, getElem?_eq_some_iff → Zi, getElem?_eq_getElem → Zk, eq_nil_of_length_eq_zero → Zm
open Int renaming ofNat → Zc, ofNat_eq_natCast → Zn, toNat_natCast → Zo
open Go.Value renaming int → Zd, string → Zf, bool → Zg
open Go.Eng.Ch renaming v → Ze, r → Zj, s → Zl, m → Zp
namespace Go.Proofs
open Go Go.Eng
def spE (l:List Int):List Ch:=[.s 1 (ints l)]
def W0 (ls:List (List Int)):Blk:= .row 22 1 (ls.map spE)
def FN (s:Int)(f:Int->Option Int)(l:List Int):Option Nat:=(f (numV s l)).map Int.toNat
def EdS (a:ArmV)(ws:List (List (Rat×Rat)))(s:Int)(u v:List Int):Prop:=OkS s a.links.length u/\AdjS s u v/\frV a ws s v u=true
def NS (a:ArmV)(s:Int):Nat:=((s+1)^a.links.length).toNat
structure BmX where
 f:Int->Option Int
 n:Nat
 row:List (List Int)
 c:Nat
 p:Nat
 nx:List (List Int)
 u:List Int
 i:Nat
 v:Int
 j:Nat
 w:List Int
structure BmO (a:ArmV)(ws:List (List (Rat×Rat)))(s:Int)(g:List Int)(x:BmX):Prop where
 bfs:Bfs (EdS a ws s) g (OkS s a.links.length) (FN s x.f) x.n x.row
 nn: ∀k v,x.f k=some v->0<=v
 lv:x.row≠[]->x.n+KC x.f (NS a s)<=NS a s
 rl:x.row.length<=NS a s
def bmP (x:BmX)(u v:List Int):Prop:=u∈x.row.take x.p∨(u=x.u/\ ∃i y w,x.u[i]? =some y/\((w=y-1/\(i<x.i∨(i=x.i/\0<x.j)))∨(w=y+1/\(i<x.i∨(i=x.i/\1<x.j))))/\v=x.u.set i w)
structure BmM (a:ArmV)(ws:List (List (Rat×Rat)))(s:Int)(g:List Int)(P:BmX->List Int->List Int->Prop)(x:BmX):Prop where
 bfs:Gm (EdS a ws s) g (OkS s a.links.length) (FN s x.f) x.n x.row x.nx (P x)
 nn: ∀k v,x.f k=some v->0<=v
 lv:x.n+x.c<=NS a s+1
 ct:KC x.f (NS a s)+x.nx.length+1<=x.c
 rl:x.row.length<=NS a s
 p:x.p<=x.row.length
def QGx (x:BmX)(u _v:List Int):Prop:=u∈x.row.take x.p
structure BmI (a:ArmV)(ws:List (List (Rat×Rat)))(s:Int)(g:List Int)(x:BmX):Prop where
 all:BmM a ws s g bmP x
 u:x.row[x.p]? =some x.u
 i:x.i<=x.u.length
structure BmJ (a:ArmV)(ws:List (List (Rat×Rat)))(s:Int)(g:List Int)(x:BmX):Prop where
 all:BmM a ws s g bmP x
 u:x.row[x.p]? =some x.u
 v:x.u[x.i]? =some x.v
 j:x.j<=2
structure BmK (a:ArmV)(ws:List (List (Rat×Rat)))(s:Int)(g:List Int)(x:BmX):Prop where
 all:BmJ a ws s g x
 j1:x.j<2
 r:0<=rsW x.v x.j/\rsW x.v x.j<=s
 w:x.w=x.u.set x.i (rsW x.v x.j)
def bmQ (a:ArmV)(s:Int)(x:BmX):Nat:=(x.c*(NS a s+1)+x.row.length)*(NS a s+1)+(NS a s-x.p)
def bmC (a:ArmV)(s:Int)(x:BmX):Nat:=(bmQ a s x*(NS a s+1)+(numV s x.u).toNat)*16+(x.u.length-x.i)*3+(2-x.j)
def bmT (fr:List Int):List (Nat×AV):=[(2,.x false [.s 1 (ints fr)]),(3,.x false [.p 3 0])]
def QZE (fr:List Int)(x:BmX):List (Nat×AV):=(7,.x false [.p 7 0])::(26,.x false [.w 500 0 x.row.length])::(27,iA .i64 x.row.length)::(28,iA .i64 x.p)::bmT fr
def bmH (a:ArmV)(m:Nat)(ws:List (List (Rat×Rat)))(s:Int)(x:BmX):List (Nat×Blk):=[(3,.box 162 [.p 1000 0]),(1000,seB a m ws s (.m 6000)),(6000,.mp x.f)]
def QbB (a:ArmV)(m:Nat)(ws:List (List (Rat×Rat)))(s:Int)(x:BmX):List (Nat×Blk):=(7,.box 169 [.w 501 0 x.nx.length])::(500,W0 x.row)::(501,W0 x.nx)::bmH a m ws s x
def QVB (a:ArmV)(m:Nat)(ws:List (List (Rat×Rat)))(s:Int)(x:BmX):List (Nat×Blk):=(9,.box 22 [.s 1 (ints x.u)])::(40,.box 3 [.v (.int .i64 s)])::(1040,.box 22 [.s 1 (ints x.u)])::QbB a m ws s x
def QbC (a:ArmV)(m:Nat)(ws:List (List (Rat×Rat)))(s:Int)(g fr:List Int):Inv:=⟨BmX,fun x=>⟨(6,.x false [.w 500 0 x.row.length])::bmT fr,(500,W0 x.row)::bmH a m ws s x⟩,BmO a ws s g,fun x=>KC x.f (NS a s)+min x.row.length 1,fun _=>0⟩
def QbD (a:ArmV)(m:Nat)(ws:List (List (Rat×Rat)))(s:Int)(g fr:List Int):Inv:=⟨BmX,fun x=>⟨QZE fr x,QbB a m ws s x⟩,BmM a ws s g QGx,bmQ a s,fun x=>x.c⟩
def Qbs (a:ArmV)(m:Nat)(ws:List (List (Rat×Rat)))(s:Int)(g fr:List Int):Inv:=⟨BmX,fun x=>⟨(9,.x false [.p 9 0])::(40,.x false [.f 205 [1040,40]])::QZE fr x,QVB a m ws s x⟩,fun x=>BmM a ws s g QGx x/\x.row[x.p]? =some x.u,fun _=>0,bmQ a s⟩
def Qbt (a:ArmV)(m:Nat)(ws:List (List (Rat×Rat)))(s:Int)(g:List Int)(q:Nat):Inv:=⟨BmX,fun x=>⟨QRQ 900 1040 40 x.u x.i,(900,.lp 0)::QVB a m ws s x⟩,fun x=>BmI a ws s g x/\x.j=0/\bmQ a s x=q,fun x=>x.u.length-x.i,fun _=>0⟩
def Qbu (a:ArmV)(m:Nat)(ws:List (List (Rat×Rat)))(s:Int)(g:List Int)(q:Nat):Inv:=⟨BmX,fun x=>⟨QRR x.i x.v 820 x.j++QRQ 900 1040 40 x.u x.i,(900,.lp 0)::(820,X2 [x.v-1,x.v+1])::QVB a m ws s x⟩,fun x=>BmJ a ws s g x/\bmQ a s x=q,bmC a s,fun x=>x.u.length-x.i⟩
def QbE (a:ArmV)(m:Nat)(ws:List (List (Rat×Rat)))(s:Int)(g fr:List Int):Inv:=⟨BmX,fun x=>⟨(12,.x false [.v (.bool (x.f (numV s x.w)).isSome)])::(10,.x false [.s 1 (ints x.w)])::(9,.x false [.p 9 0])::QZE fr x,(900,.lp 1)::(820,X2 [x.v-1,x.v+1])::QVB a m ws s x⟩,BmK a ws s g,fun _=>0,bmC a s⟩
def QRZ (a:ArmV)(m:Nat)(ws:List (List (Rat×Rat)))(s:Int)(g fr:List Int):LI:=fun id=>
 bif id.beq 3 then .inv (QbC a m ws s g fr)
 else bif id.beq 6 then .inv (QbD a m ws s g fr)
 else bif id.beq 10 then .it (Qbs a m ws s g fr) [] 900 QbA (fun x0 id=>bif id.beq 1 then .inv (Qbt a m ws s g (bmQ a s x0))else .inv (Qbu a m ws s g (bmQ a s x0)))
 else bif id.beq 12 then .cutf [43] (QbE a m ws s g fr)
 else .no
structure FdS (a:ArmV)(ws:List (List (Rat×Rat)))(s:Int)(g fr:List Int)(f:Int->Option Int):Prop where
 found:Found (EdS a ws s) g (OkS s a.links.length) (FN s f) fr
 nn: ∀k v,f k=some v->0<=v
end Go.Proofs
namespace Go.Proofs
open Go Go.Eng
theorem QZF (x:Int)(_hc:True)(K:AV->Prop)(hK:K (.x false [.v (.bool false)])):QM (QR QVA (oF Tryz.f233) noL Tryz.f233 [iA .i64 x] K):=by
 refine HV ((K (AV.x false [Ze (Zg (x !=x))]))) ?_
 try simp only[Zn,R0,R1,Nat.zero_add,Nat.le_refl,R4,R2,R3]
 rw[show(x !=x)=false by simp];exact hK
def QJb:Ctr
 | [.x false [.v (.int .i64 _x)]]=>some fun K=>(True)/\(K (.x false [.v (.bool false)]))
 | _=>none
theorem QVC:QI 233 QJb:=by
 refine okL Tryz.func233 fun l T hT K hK=> ?_
 unfold QJb at hT;split at hT<;>cases hT
 obtain⟨hc,hK⟩:=hK;exact spL QJa QK Tryz.func233 (QZF _ hc K hK)
def QRa:LC:=(233,QJb)::QM2
theorem QKm:QG QRa:= .cons QVC QBv
theorem QZG (x:Int)(y:Int)(_hc:True)(K:AV->Prop)(hK: ∀r:Int,K (iA .i64 r)):QM (QR (mkTP QRa QGw X4) (oF Tryz.f207) noL Tryz.f207 [iA .i64 x,iA .i64 y] K):=by
 refine HV ((True/\True/\bif decide (x<y)then K (AV.x false [Ze (Zd Za (-1))])else bif decide (x>y)then K (AV.x false [Ze (Zd Za 1)])else K (AV.x false [Ze (Zd Za 0)]))) ?_
 try simp only[R0]
 exact QF (fun _=>hK _) (fun _=>QF (fun _=>hK _) (fun _=>hK _))
def QJc:Ctr
 | [.x false [.v (.int .i64 _x)],.x false [.v (.int .i64 _y)]]=>some fun K=>(True)/\(∀r:Int,K (iA .i64 r))
 | _=>none
theorem QVD:QI 207 QJc:=by
 refine okL Tryz.func207 fun l T hT K hK=> ?_
 unfold QJc at hT;split at hT<;>cases hT
 obtain⟨hc,hK⟩:=hK;exact spL (Wm QKm GD Qg) QK Tryz.func207 (QZG _ _ hc K hK)
def QRb:LC:=(207,QJc)::QRa
theorem QKn:QG QRb:= .cons QVD QKm
theorem QVE (l:List Int)(m:List Int)(hc:(l.length<=1000/\m.length<=1000))(K:AV->Prop)(hK: ∀r:Int,K (iA .i64 r)):QM (QR (mkTP QRb QGw X4) (oF Tryz.f170) (fun _=> .inv ⟨Nat,fun i=>⟨[(0,.x false [.s 1 (ints l)]),(1,.x false [.s 1 (ints m)]),(9,.x false [.s 1 (ints l)]),(10,iA .i64 l.length),(11,iA .i64 i)],[]⟩,fun i=>i<=l.length,fun i=>l.length-i,fun _=>0⟩) Tryz.f170 [.x false [.s 1 (ints l)],.x false [.s 1 (ints m)]] K):=by
 refine HV (((∃(x:Nat),(x<=l.length/\OfNat.ofNat 0=0)/\1=1/\ints l=ints l/\1=1/\ints m=ints m/\1=1/\ints l=ints l/\Zc (ints l).length=Zc l.length/\0=Zc x/\True)/\∀(x:Nat),x<=l.length->OfNat.ofNat 0=0->bif decide (Zc x<Zc l.length)then(0<=Zc x/\Zc x<Zc (ints l).length)/\∃(d:Int),ldE (ints l) (Zc x).toNat 0 1=some [Ze (Zd Za d)]/\bif decide (Zc x≥Zc (ints m).length)then K (AV.x false [Ze (Zd Za 1)])else(0<=Zc x/\Zc x<Zc (ints m).length)/\∃(d:Int),ldE (ints m) (Zc x).toNat 0 1=some [Ze (Zd Za d)]/\True/\∀(r:Int),bif r !=0 then K (AV.x false [Ze (Zd Za r)])else ∃(x':Nat),(x'<=l.length/\OfNat.ofNat 0=0/\l.length-x'<l.length-x)/\1=1/\ints l=ints l/\1=1/\ints m=ints m/\1=1/\ints l=ints l/\Zc l.length=Zc l.length/\Za.wrap (Zc x+1)=Zc x'/\True else bif decide (Zc (ints l).length<Zc (ints m).length)then K (AV.x false [Ze (Zd Za (-1))])else K (AV.x false [Ze (Zd Za 0)]))) ?_
 try simp only[Zn,R0,R1,R4]
 have hc:=hc;refine⟨⟨0,Nat.zero_le _,by rw[Qw],rfl⟩,fun x hx=>QF (fun hp=> ?_) (fun _=>QF (fun _=>hK _) (fun _=>hK _))⟩;have hp:x<l.length:=by have:=R5 hp;omega
 obtain⟨k,hk⟩: ∃k,l[x]? =some k:=⟨_,Zk hp⟩
 refine⟨⟨by omega,by rw[Qw];omega⟩,k,Jz (by simpa using hk),QF (fun _=>hK _) (fun hm=> ?_)⟩;have hm:x<m.length:=by have:=R6 hm;rw[Qw]at this;omega
 obtain⟨k2,hk2⟩: ∃k,m[x]? =some k:=⟨_,Zk hm⟩
 exact⟨⟨by omega,by rw[Qw];omega⟩,k2,Jz (by simpa using hk2),fun r=>QF (fun _=>hK _) (fun _=>⟨x+1,⟨by omega,by omega⟩,by rw[w64 (by omega)];simp⟩)⟩
def QEv:Ctr
 | [.x false [.s 1 xs],.x false [.s 1 ys]]=>some fun K=> ∃(l:List Int) (m:List Int),xs=ints l/\ys=ints m/\((l.length<=1000/\m.length<=1000))/\(∀r:Int,K (iA .i64 r))
 | _=>none
theorem QRc:QI 170 QEv:=by
 refine okL Tryz.func170 fun l T hT K hK=> ?_
 unfold QEv at hT;split at hT<;>cases hT
 obtain⟨l,m,rfl,rfl,hc,hK⟩:=hK;exact spL (Wm QKn GD Qg) QK Tryz.func170 (QVE _ _ hc K hK)
def QWQ:LC:=(170,QEv)::QRb
noncomputable def QWR:QZ:=mkTP QWQ QGw X4
theorem QVF:QG QWQ:= .cons QRc QKn
theorem QVG:Q7 QWR:=Wm QVF GD Qg
end Go.Proofs
namespace Go.Proofs
open Go Go.Eng
def Bef (l:List Int)(i j:Nat)(v:List Int):Prop:= ∃i' y w,l[i']? =some y/\((w=y-1/\(i'<i∨(i'=i/\0<j)))∨(w=y+1/\(i'<i∨(i'=i/\1<j))))/\v=l.set i' w
theorem QGy {l v:List Int}: ¬Bef l 0 0 v:=by
 rintro⟨i,y,w,_,h | h,_⟩<;>omega
theorem QGz {l v:List Int}{i:Nat}:Bef l (i+1) 0 v->Bef l i 2 v:=by
 rintro⟨i',y,w,h1,h2,h3⟩;exact⟨i',y,w,h1,by omega,h3⟩
theorem QG0 {l v:List Int}{i j:Nat}{y:Int}(hy:l[i]? =some y)(hj:j<2):Bef l i (j+1) v->Bef l i j v∨v=l.set i (rsW y j):=by
 rintro⟨i',y',w,h1,h2,h3⟩;by_cases hi:i'=i
 ·subst hi;rw[hy]at h1;cases h1
  have:j=0∨j=1:=by omega
  rcases this with rfl | rfl
  ·right;have hw:w=y-1:=by omega
   rw[h3,hw];rfl
  ·by_cases hw:w=y+1
   ·right;rw[h3,hw];rfl
   ·left;exact⟨i',y,w,hy,by omega,h3⟩
 ·left;exact⟨i',y',w,h1,by omega,h3⟩
theorem QKo {s:Int}{l v:List Int}(h:AdjS s l v):Bef l l.length 0 v:=by
 obtain⟨i,y,w,h1,h2,_,rfl⟩:=h;have hi:=(Zi.1 h1).1;exact⟨i,y,w,h1,by omega,rfl⟩
theorem HC {s:Int}{l:List Int}{i j:Nat}{y:Int}(hy:l[i]? =some y)(_hj:j<2)(h:0<=rsW y j/\rsW y j<=s):AdjS s l (l.set i (rsW y j)):=by
 refine⟨i,y,rsW y j,hy,?_,h,rfl⟩;unfold rsW;split
 ·exact .inl rfl
 ·exact .inr rfl
theorem QAB {s:Int}{len:Nat}{l:List Int}{i:Nat}{y w:Int}(hl:OkS s len l)(hy:l[i]? =some y)(h: ¬(0<=w/\w<=s)): ¬AdjS s l (l.set i w):=fun ha=>by
 have:=(ha.ok hl).2 w (by
  have hi:=(Zi.1 hy).1
  exact Zh (i:=i) (by simp[hi]))
 exact h this
theorem JO {a:ArmV}{s:Int}(hs:1<=s){l:List Int}(h:OkS s a.links.length l):0<=numV s l/\numV s l<(NS a s:Int):=by
 obtain⟨h1,h2⟩:=Vh (show 0<=s by omega) h.2;refine⟨h1,?_⟩;have hp:=Vg (show 0<=s by omega) a.links.length;rw[h.1]at h2;unfold NS;rw[Int.toNat_of_nonneg (by omega)];exact h2
theorem Gb {s:Int}{f:Int->Option Int}{l:List Int}{n:Nat}{v:Int}(h:v=n):FN s (YR f (numV s l) v) l=some n:=by
 subst h;simp[FN,YR]
theorem GF {s:Int}{len:Nat}(hs:1<=s){f:Int->Option Int}{l m:List Int}{v:Int}(hl:OkS s len l)(hm:OkS s len m)(h:m≠l):FN s (YR f (numV s l) v) m=FN s f m:=by
 have:(numV s l==numV s m)=false:=by
  cases hb:(numV s l==numV s m)with
  | false=>rfl
  | true=>exact absurd (Vi (by omega) (hm.1.trans hl.1.symm) hm.2 hl.2 (by simpa using(eq_of_beq hb).symm)) h
 simp[FN,YR,this]
theorem QKp {s:Int}{f:Int->Option Int}{l:List Int}:FN s f l=none↔f (numV s l)=none:=by simp[FN]
theorem HD {s:Int}{f:Int->Option Int}{l:List Int}{d:Nat}(hn: ∀k v,f k=some v->0<=v):FN s f l=some d↔f (numV s l)=some (d:Int):=by
 unfold FN;cases h:f (numV s l)with
 | none=>simp
 | some v=>
  have:=hn _ _ h;simp only[Option.map_some,Option.some.injEq];constructor<;>intro h<;>omega
theorem QRd {f:Int->Option Int}{k v:Int}(hn: ∀k v,f k=some v->0<=v)(hv:0<=v): ∀k' v',YR f k v k'=some v'->0<=v':=by
 intro k' v' h;unfold YR at h;cases hb:(k==k')with
 | true=>rw[hb]at h;cases h;exact hv
 | false=>rw[hb]at h;exact hn _ _ h
theorem QEw {f:Int->Option Int}{k v:Int}(hk:f k=none){n:Nat}(h0:0<=k)(h1:k<n):KC (YR f k v) n<KC f n:=by
 refine QU4 (k:=k) (fun k' h=> ?_) hk (by simp[YR]) h0 h1;unfold YR at h;cases hb:(k==k')with
 | true=>rw[hb]at h;cases h
 | false=>rw[hb]at h;exact h
theorem HE {M x y x' y':Nat}(hy:y<M)(hy':y'<M)(h:x*M+y=x'*M+y'):x=x'/\y=y':=by
 have h1:(x*M+y)/M=x:=by rw[Nat.mul_comm,Nat.mul_add_div (by omega),Nat.div_eq_of_lt hy];rfl
 have h2:(x'*M+y')/M=x':=by rw[Nat.mul_comm,Nat.mul_add_div (by omega),Nat.div_eq_of_lt hy'];rfl
 have:x=x':=by rw[<-h1,h,h2]
 subst this;exact⟨rfl,by omega⟩
theorem QRe {a:ArmV}{s:Int}{x y:BmX}(hx:x.row.length<=NS a s/\x.p<=x.row.length)(hy:y.row.length<=NS a s/\y.p<=y.row.length)(h:bmQ a s x=bmQ a s y):x.c=y.c/\x.row.length=y.row.length/\x.p=y.p:=by
 unfold bmQ at h;obtain⟨h1,h2⟩:=HE (by omega) (by omega) h;obtain⟨h3,h4⟩:=HE (by omega) (by omega) h1;exact⟨h3,h4,by omega⟩
theorem QRf {s:Int}(h0:0<=s)(h:s<=12): ∀n:Nat,(s+1)^n<=13^n:=by
 intro n;induction n with
 | zero=>simp
 | succ n ih=>
  rw[Int.pow_succ,Int.pow_succ];have hp:=Vg h0 n;exact Int.le_trans (Int.mul_le_mul_of_nonneg_right ih (by omega)) (Int.mul_le_mul_of_nonneg_left (by omega) (by omega))
theorem QBy {a:ArmV}{s:Int}(hg:QJ a)(hs:1<=s/\s<=12):1<=NS a s/\NS a s<=2197:=by
 have hn:=hg.n;have h1:=QRf (show 0<=s by omega) hs.2 a.links.length;have h2:=Vg (show 0<=s by omega) a.links.length;have h3:(13:Int)^a.links.length<=2197:=by
  have:a.links.length=1∨a.links.length=2∨a.links.length=3:=by omega
  rcases this with h | h | h<;>rw[h]<;>decide
 unfold NS;omega
theorem QbF {a:ArmV}{s:Int}(hs:1<=s){x y:BmX}(xo:OkS s a.links.length x.u)(yo:OkS s a.links.length y.u)(hn:a.links.length<=3)(xi:x.i<x.u.length)(yi:y.i<y.u.length)(xj:x.j<=2)(yj:y.j<=2)(h:bmC a s x=bmC a s y):bmQ a s x=bmQ a s y/\x.u=y.u/\x.i=y.i/\x.j=y.j:=by
 unfold bmC at h;have x1:=JO hs xo;have y1:=JO hs yo;have xl:=xo.1;have yl:=yo.1;have h1:bmQ a s x*(NS a s+1)+(numV s x.u).toNat=bmQ a s y*(NS a s+1)+(numV s y.u).toNat:=by omega
 obtain⟨h2,h3⟩:=HE (by omega) (by omega) h1;have e:x.u=y.u:=Vi (by omega) (by omega) xo.2 yo.2 (by omega);exact⟨h2,e,by omega,by omega⟩
theorem QG1 {a:ArmV}{ws:List (List (Rat×Rat))}{s:Int}: ∀u v,EdS a ws s u v->OkS s a.links.length v:=fun _ _ h=>h.2.1.ok h.1
theorem BmJ.ok {a:ArmV}{ws:List (List (Rat×Rat))}{s:Int}{g:List Int}{x:BmX}(h:BmJ a ws s g x):OkS s a.links.length x.u:=h.all.bfs.rok _ (Zh h.u)
theorem QKq {x:BmX}{nx:List (List Int)}{f:Int->Option Int}(hv:x.u[x.i]? =some x.v)(hj:x.j<2)(u v:List Int)(h:bmP {x with j:=x.j+1,nx:=nx,f:=f} u v):bmP x u v∨(u=x.u/\v=x.u.set x.i (rsW x.v x.j)):=by
 rcases h with h | ⟨h1,h2⟩
 ·exact .inl (.inl h)
 ·have h2:Bef x.u x.i (x.j+1) v:=h2;rcases QG0 hv hj h2 with h' | h'
  ·exact .inl (.inr ⟨h1,h'⟩)
  ·exact .inr ⟨h1,h'⟩
theorem QEx {a:ArmV}{ws:List (List (Rat×Rat))}{s:Int}{g:List Int}{x:BmX}(h:BmJ a ws s g x)(hj:x.j<2)(hk:EdS a ws s x.u (x.u.set x.i (rsW x.v x.j))->FN s x.f (x.u.set x.i (rsW x.v x.j))≠none):BmJ a ws s g {x with j:=x.j+1}:=
  ⟨⟨h.all.bfs.skip (fun u v hp=>QKq (nx:=x.nx) (f:=x.f) h.v hj u v hp) hk,h.all.nn,h.all.lv,h.all.ct,h.all.rl,h.all.p⟩,h.u,h.v,by simp only;omega⟩
theorem QZH {a:ArmV}{ws:List (List (Rat×Rat))}{s:Int}{g:List Int}{x:BmX}(hs:1<=s)(h:BmJ a ws s g x)(hj:x.j<2)(hr:0<=rsW x.v x.j/\rsW x.v x.j<=s){w:List Int}(hw:w=x.u.set x.i (rsW x.v x.j))(hn:x.f (numV s w)=none)(hf:frV a ws s w x.u=true):
    BmJ a ws s g {x with j:=x.j+1,f:=YR x.f (numV s w) (x.n+1),nx:=x.nx++[w]}:=by
  have ha:AdjS s x.u w:=hw▸HC h.v hj hr
  have hok:=ha.ok h.ok;have hnr:=JO hs hok;refine⟨⟨h.all.bfs.add (u0:=x.u) (v0:=w) (fun u v hp=>by rw[hw];exact QKq (nx:=x.nx++[w]) (f:=YR x.f (numV s w) (x.n+1)) h.v hj u v hp) (Zh h.u) ⟨h.ok,ha,hf⟩ hok (QKp.2 hn) (fun v hv hne=>GF hs hok hv hne) (Gb (by simp)) QG1,QRd h.all.nn (by omega),h.all.lv,?_,h.all.rl,h.all.p⟩,h.u,h.v,by simp only;omega⟩;have hc:=QEw (v:=(x.n:Int)+1) hn hnr.1 hnr.2;have:=h.all.ct;simp only[List.length_append,List.length_singleton];omega
theorem q_j (a:ArmV)(s:Int)(x:BmX)(j:Nat)(f:Int->Option Int)(nx:List (List Int)):bmQ a s {x with j:=j,f:=f,nx:=nx}=bmQ a s x:=rfl
theorem c_j {a:ArmV}{s:Int}{x:BmX}(hj:x.j<2)(f:Int->Option Int)(nx:List (List Int)):bmC a s {x with j:=x.j+1,f:=f,nx:=nx}<bmC a s x:=by
 unfold bmC;rw[q_j];simp only;omega
theorem QRg (f:Int->Option Int): ∀n,KC f n<=n:=by
 intro n;induction n with
 | zero=>exact Nat.le_refl _
 | succ n ih=>unfold KC;split<;>omega
theorem QEy {l:List (List Int)}{i:Nat}{u:List Int}(h:l[i]? =some u):ldE (l.map spE) i 0 1=some [.s 1 (ints u)]:=by
 simp only[ldE,List.getElem?_map,h];rfl
theorem QRh {v:Int}{j:Nat}(hj:j<2):ldE [[Ze (.int .i64 (v-1))],[Ze (.int .i64 (v+1))]] j 0 1=some [.v (.int .i64 (rsW v j))]:=by
 have:j=0∨j=1:=by omega
 rcases this with rfl | rfl<;>rfl
theorem HF (l:List Int)(i:Nat)(d:Int):(ints l).set i [Ze (.int .i64 d)]=ints (l.set i d):=by simp[ints,List.map_set]
set_option maxRecDepth 100000 in
set_option maxHeartbeats 2000000 in
theorem QZI (a:ArmV)(m:Nat)(ws:List (List (Rat×Rat)))(s:Int)(g fr:List Int)(hg:QJ a)(hs:1<=s/\s<=12)(hgo:OkS s a.links.length g)(hfo:OkS s a.links.length fr)(hm:m<=400000000)(hw:(∀w∈ws,QX w)/\ws.length<=20):QM (Xc (X:=Int->Option Int) QVA (oF Tryz.f103) (QRZ a m ws s g fr) Tryz.f103 [.x false [.p 1000 0],.x false [.s 1 (ints g)],.x false [.s 1 (ints fr)]] [(1000,seB a m ws s HA)] (FdS a ws s g fr) (fun f=>⟨[],[(1000,seB a m ws s (.m 6000)),(6000,.mp f)]⟩)):=by
 refine HV ((∃(a_1:ArmV),∃(m_1:Nat),∃(ws_1:List (List (Rat×Rat))),∃(s_1:Int),∃(l:List Int),[Ze (Zf a.name),Zj a.x 63,Zj a.y 63,Ze (Zg a.half),Zj a.t 63,Zl 16 (Zb QB a.links),Zl 1 (shN m ws),Ze (Zd Za s),Ze (Value.map none)]=[Ze (Zf a_1.name),Zj a_1.x 63,Zj a_1.y 63,Ze (Zg a_1.half),Zj a_1.t 63,Zl 16 (Zb QB a_1.links),Zl 1 (shN m_1 ws_1),Ze (Zd Za s_1),Ze (Value.map none)]/\ints g=ints l/\QJ a_1/\(1<=s_1/\s_1<=12)/\(l.length=a_1.links.length/\∀(k:Int),k∈l->0<=k/\k<=s_1)/\Blk.box 165 [Ze (Zf a.name),Zj a.x 63,Zj a.y 63,Ze (Zg a.half),Zj a.t 63,Zl 16 (Zb QB a.links),Zl 1 (shN m ws),Ze (Zd Za s),Ze (Value.map none)]=Blk.box 165 [Ze (Zf a.name),Zj a.x 63,Zj a.y 63,Ze (Zg a.half),Zj a.t 63,Zl 16 (Zb QB a.links),Zl 1 (shN m ws),Ze (Zd Za s),Ze (Value.map none)]/\(∃(x:BmX),(BmO a ws s g x/\OfNat.ofNat 0=0)/\0=0/\1=x.row.length/\1=1/\ints fr=ints fr/\0=0/\22=22/\1=1/\([[Zl 1 (ints g)]]=Zb spE x.row∨QC [[Zl 1 (ints g)]] (Zb spE x.row))/\162=162/\0=0/\165=165/\a.name=a.name/\a.x=a.x/\63<=63/\a.y=a.y/\63<=63/\a.half=a.half/\a.t=a.t/\63<=63/\16=16/\Zb QB a.links=Zb QB a.links/\1=1/\shN m ws=shN m ws/\s=s/\YR (fun(_x:Int)=>none) (numV s_1 l) 0=x.f/\True)/\∀(x:BmX),BmO a ws s g x->OfNat.ofNat 0=0->bif decide (Zc x.row.length>0)then(∃(x_1:BmX),(BmM a ws s g QGx x_1/\x_1.c=KC x.f (NS a s)+min x.row.length 1)/\0=0/\0=0/\x.row.length=x_1.row.length/\Zc x.row.length=Zc x_1.row.length/\0=Zc x_1.p/\1=1/\ints fr=ints fr/\0=0/\169=169/\Value.slice none 0 0=Value.slice none 0 0/\0=0/\x_1.nx.length=0/\22=22/\1=1/\(Zb spE x.row=Zb spE x_1.row∨QC (Zb spE x.row) (Zb spE x_1.row))/\Zb spE x_1.nx=[]/\162=162/\0=0/\165=165/\a.name=a.name/\a.x=a.x/\63<=63/\a.y=a.y/\63<=63/\a.half=a.half/\a.t=a.t/\63<=63/\16=16/\Zb QB a.links=Zb QB a.links/\1=1/\shN m ws=shN m ws/\s=s/\x.f=x_1.f/\True)/\∀(x_1:BmX),BmM a ws s g QGx x_1->x_1.c=KC x.f (NS a s)+min x.row.length 1->bif decide (Zc x_1.p<Zc x_1.row.length)then(0<=Zc x_1.p/\Zc x_1.p<Zc x_1.row.length)/\∃(ys:List (List Ch)),ldE (Zb spE x_1.row) (0+(Zc x_1.p).toNat) 0 1=some [Zl 1 ys]/\∃(l:List Int),∃(m_2:List Int),ys=ints l/\ints fr=ints m_2/\(l.length<=1000/\m_2.length<=1000)/\bif decide (l=m_2)then ∃(x:Int->Option Int),FdS a ws s g fr x/\165=165/\a.name=a.name/\a.x=a.x/\63<=63/\a.y=a.y/\63<=63/\a.half=a.half/\a.t=a.t/\63<=63/\16=16/\Zb QB a.links=Zb QB a.links/\1=1/\shN m ws=shN m ws/\s=s/\x_1.f=x/\True else ∃(l:List Int),ys=ints l/\(∃(x:BmX),((BmM a ws s g QGx x/\x.row[x.p]?=some x.u)/\bmQ a s x=bmQ a s x_1)/\0=0/\205=205/\0=0/\0=0/\x_1.row.length=x.row.length/\Zc x_1.row.length=Zc x.row.length/\Zc x_1.p=Zc x.p/\1=1/\ints fr=ints fr/\0=0/\22=22/\1=1/\ys=ints x.u/\3=3/\s=s/\22=22/\1=1/\ints l=ints x.u/\169=169/\0=0/\x_1.nx.length=x.nx.length/\22=22/\1=1/\(Zb spE x_1.row=Zb spE x.row∨QC (Zb spE x_1.row) (Zb spE x.row))/\22=22/\1=1/\(Zb spE x_1.nx=Zb spE x.nx∨QC (Zb spE x_1.nx) (Zb spE x.nx))/\162=162/\0=0/\165=165/\a.name=a.name/\a.x=a.x/\63<=63/\a.y=a.y/\63<=63/\a.half=a.half/\a.t=a.t/\63<=63/\16=16/\Zb QB a.links=Zb QB a.links/\1=1/\shN m ws=shN m ws/\s=s/\x_1.f=x.f/\True)/\∀(x_2:BmX),BmM a ws s g QGx x_2/\x_2.row[x_2.p]?=some x_2.u->bmQ a s x_2=bmQ a s x_1->(∃(x:BmX),((BmI a ws s g x/\x.j=0/\bmQ a s x=bmQ a s x_2)/\OfNat.ofNat 0=OfNat.ofNat 0)/\0=0/\0=0/\1=1/\ints x_2.u=ints x.u/\Zc (ints x_2.u).length=Zc x.u.length/\0=Zc x.i/\0=0/\22=22/\1=1/\ints x_2.u=ints x.u/\3=3/\s=s/\22=22/\1=1/\ints x_2.u=ints x.u/\169=169/\0=0/\x_2.nx.length=x.nx.length/\22=22/\1=1/\(Zb spE x_2.row=Zb spE x.row∨QC (Zb spE x_2.row) (Zb spE x.row))/\22=22/\1=1/\(Zb spE x_2.nx=Zb spE x.nx∨QC (Zb spE x_2.nx) (Zb spE x.nx))/\162=162/\0=0/\165=165/\a.name=a.name/\a.x=a.x/\63<=63/\a.y=a.y/\63<=63/\a.half=a.half/\a.t=a.t/\63<=63/\16=16/\Zb QB a.links=Zb QB a.links/\1=1/\shN m ws=shN m ws/\s=s/\x_2.f=x.f/\True)/\∀(x_3:BmX),BmI a ws s g x_3/\x_3.j=0/\bmQ a s x_3=bmQ a s x_2->OfNat.ofNat 0=OfNat.ofNat 0->bif decide (Zc x_3.i<Zc x_3.u.length)then(0<=Zc x_3.i/\Zc x_3.i<Zc (ints x_3.u).length)/\∃(d:Int),ldE (ints x_3.u) (Zc x_3.i).toNat 0 1=some [Ze (Zd Za d)]/\(∃(x:BmX),((BmJ a ws s g x/\bmQ a s x=bmQ a s x_2)/\x.u.length-x.i=x_3.u.length-x_3.i)/\Zc x_3.i=Zc x.i/\d=x.v/\0=0/\2=2/\(2:Int)=2/\0=Zc x.j/\0=0/\0=0/\1=1/\ints x_3.u=ints x.u/\Zc x_3.u.length=Zc x.u.length/\Zc x_3.i=Zc x.i/\0=0/\3=3/\1=1/\([[Ze (Zd Za (Za.wrap (d-1)))],[Ze (Zd Za (Za.wrap (d+1)))]]=[[Ze (Zd Za (x.v-1))],[Ze (Zd Za (x.v+1))]]∨QC [[Ze (Zd Za (Za.wrap (d-1)))],[Ze (Zd Za (Za.wrap (d+1)))]] [[Ze (Zd Za (x.v-1))],[Ze (Zd Za (x.v+1))]])/\22=22/\1=1/\ints x_3.u=ints x.u/\3=3/\s=s/\22=22/\1=1/\ints x_3.u=ints x.u/\169=169/\0=0/\x_3.nx.length=x.nx.length/\22=22/\1=1/\(Zb spE x_3.row=Zb spE x.row∨QC (Zb spE x_3.row) (Zb spE x.row))/\22=22/\1=1/\(Zb spE x_3.nx=Zb spE x.nx∨QC (Zb spE x_3.nx) (Zb spE x.nx))/\162=162/\0=0/\165=165/\a.name=a.name/\a.x=a.x/\63<=63/\a.y=a.y/\63<=63/\a.half=a.half/\a.t=a.t/\63<=63/\16=16/\Zb QB a.links=Zb QB a.links/\1=1/\shN m ws=shN m ws/\s=s/\x_3.f=x.f/\True)/\∀(x:BmX),BmJ a ws s g x/\bmQ a s x=bmQ a s x_2->x.u.length-x.i=x_3.u.length-x_3.i->bif decide (Zc x.j<2)then(0<=Zc x.j/\Zc x.j<2)/\∃(d:Int),ldE [[Ze (Zd Za (x.v-1))],[Ze (Zd Za (x.v+1))]] (0+(Zc x.j).toNat) 0 1=some [Ze (Zd Za d)]/\bif decide (x.v<0)then ∃(x':BmX),((BmJ a ws s g x'/\bmQ a s x'=bmQ a s x_2)/\x'.u.length-x'.i=x_3.u.length-x_3.i/\bmC a s x'<bmC a s x)/\Zc x.i=Zc x'.i/\x.v=x'.v/\0=0/\2=2/\(2:Int)=2/\Za.wrap (Zc x.j+1)=Zc x'.j/\0=0/\0=0/\1=1/\ints x.u=ints x'.u/\Zc x.u.length=Zc x'.u.length/\Zc x.i=Zc x'.i/\0=0/\3=3/\1=1/\([[Ze (Zd Za (x.v-1))],[Ze (Zd Za (x.v+1))]]=[[Ze (Zd Za (x'.v-1))],[Ze (Zd Za (x'.v+1))]]∨QC [[Ze (Zd Za (x.v-1))],[Ze (Zd Za (x.v+1))]] [[Ze (Zd Za (x'.v-1))],[Ze (Zd Za (x'.v+1))]])/\22=22/\1=1/\ints x.u=ints x'.u/\3=3/\s=s/\22=22/\1=1/\ints x.u=ints x'.u/\169=169/\0=0/\x.nx.length=x'.nx.length/\22=22/\1=1/\(Zb spE x.row=Zb spE x'.row∨QC (Zb spE x.row) (Zb spE x'.row))/\22=22/\1=1/\(Zb spE x.nx=Zb spE x'.nx∨QC (Zb spE x.nx) (Zb spE x'.nx))/\162=162/\0=0/\165=165/\a.name=a.name/\a.x=a.x/\63<=63/\a.y=a.y/\63<=63/\a.half=a.half/\a.t=a.t/\63<=63/\16=16/\Zb QB a.links=Zb QB a.links/\1=1/\shN m ws=shN m ws/\s=s/\x.f=x'.f/\True else bif decide (x.v>s)then ∃(x':BmX),((BmJ a ws s g x'/\bmQ a s x'=bmQ a s x_2)/\x'.u.length-x'.i=x_3.u.length-x_3.i/\bmC a s x'<bmC a s x)/\Zc x.i=Zc x'.i/\x.v=x'.v/\0=0/\2=2/\(2:Int)=2/\Za.wrap (Zc x.j+1)=Zc x'.j/\0=0/\0=0/\1=1/\ints x.u=ints x'.u/\Zc x.u.length=Zc x'.u.length/\Zc x.i=Zc x'.i/\0=0/\3=3/\1=1/\([[Ze (Zd Za (x.v-1))],[Ze (Zd Za (x.v+1))]]=[[Ze (Zd Za (x'.v-1))],[Ze (Zd Za (x'.v+1))]]∨QC [[Ze (Zd Za (x.v-1))],[Ze (Zd Za (x.v+1))]] [[Ze (Zd Za (x'.v-1))],[Ze (Zd Za (x'.v+1))]])/\22=22/\1=1/\ints x.u=ints x'.u/\3=3/\s=s/\22=22/\1=1/\ints x.u=ints x'.u/\169=169/\0=0/\x.nx.length=x'.nx.length/\22=22/\1=1/\(Zb spE x.row=Zb spE x'.row∨QC (Zb spE x.row) (Zb spE x'.row))/\22=22/\1=1/\(Zb spE x.nx=Zb spE x'.nx∨QC (Zb spE x.nx) (Zb spE x'.nx))/\162=162/\0=0/\165=165/\a.name=a.name/\a.x=a.x/\63<=63/\a.y=a.y/\63<=63/\a.half=a.half/\a.t=a.t/\63<=63/\16=16/\Zb QB a.links=Zb QB a.links/\1=1/\shN m ws=shN m ws/\s=s/\x.f=x'.f/\True else bif decide (d<0)then ∃(x':BmX),((BmJ a ws s g x'/\bmQ a s x'=bmQ a s x_2)/\x'.u.length-x'.i=x_3.u.length-x_3.i/\bmC a s x'<bmC a s x)/\Zc x.i=Zc x'.i/\x.v=x'.v/\0=0/\2=2/\(2:Int)=2/\Za.wrap (Zc x.j+1)=Zc x'.j/\0=0/\0=0/\1=1/\ints x.u=ints x'.u/\Zc x.u.length=Zc x'.u.length/\Zc x.i=Zc x'.i/\0=0/\3=3/\1=1/\([[Ze (Zd Za (x.v-1))],[Ze (Zd Za (x.v+1))]]=[[Ze (Zd Za (x'.v-1))],[Ze (Zd Za (x'.v+1))]]∨QC [[Ze (Zd Za (x.v-1))],[Ze (Zd Za (x.v+1))]] [[Ze (Zd Za (x'.v-1))],[Ze (Zd Za (x'.v+1))]])/\22=22/\1=1/\ints x.u=ints x'.u/\3=3/\s=s/\22=22/\1=1/\ints x.u=ints x'.u/\169=169/\0=0/\x.nx.length=x'.nx.length/\22=22/\1=1/\(Zb spE x.row=Zb spE x'.row∨QC (Zb spE x.row) (Zb spE x'.row))/\22=22/\1=1/\(Zb spE x.nx=Zb spE x'.nx∨QC (Zb spE x.nx) (Zb spE x'.nx))/\162=162/\0=0/\165=165/\a.name=a.name/\a.x=a.x/\63<=63/\a.y=a.y/\63<=63/\a.half=a.half/\a.t=a.t/\63<=63/\16=16/\Zb QB a.links=Zb QB a.links/\1=1/\shN m ws=shN m ws/\s=s/\x.f=x'.f/\True else bif decide (d>s)then ∃(x':BmX),((BmJ a ws s g x'/\bmQ a s x'=bmQ a s x_2)/\x'.u.length-x'.i=x_3.u.length-x_3.i/\bmC a s x'<bmC a s x)/\Zc x.i=Zc x'.i/\x.v=x'.v/\0=0/\2=2/\(2:Int)=2/\Za.wrap (Zc x.j+1)=Zc x'.j/\0=0/\0=0/\1=1/\ints x.u=ints x'.u/\Zc x.u.length=Zc x'.u.length/\Zc x.i=Zc x'.i/\0=0/\3=3/\1=1/\([[Ze (Zd Za (x.v-1))],[Ze (Zd Za (x.v+1))]]=[[Ze (Zd Za (x'.v-1))],[Ze (Zd Za (x'.v+1))]]∨QC [[Ze (Zd Za (x.v-1))],[Ze (Zd Za (x.v+1))]] [[Ze (Zd Za (x'.v-1))],[Ze (Zd Za (x'.v+1))]])/\22=22/\1=1/\ints x.u=ints x'.u/\3=3/\s=s/\22=22/\1=1/\ints x.u=ints x'.u/\169=169/\0=0/\x.nx.length=x'.nx.length/\22=22/\1=1/\(Zb spE x.row=Zb spE x'.row∨QC (Zb spE x.row) (Zb spE x'.row))/\22=22/\1=1/\(Zb spE x.nx=Zb spE x'.nx∨QC (Zb spE x.nx) (Zb spE x'.nx))/\162=162/\0=0/\165=165/\a.name=a.name/\a.x=a.x/\63<=63/\a.y=a.y/\63<=63/\a.half=a.half/\a.t=a.t/\63<=63/\16=16/\Zb QB a.links=Zb QB a.links/\1=1/\shN m ws=shN m ws/\s=s/\x.f=x'.f/\True else ∃(l:List Int),ints x.u=ints l/\l.length*8<=140737488355328/\(0<=Zc x.i/\Zc x.i<Zc l.length)/\0+(Zc x.i).toNat<(ints l).length/\(∃(a_12:ArmV),∃(m_3:Nat),∃(ws_2:List (List (Rat×Rat))),∃(s_2:Int),∃(l_1:List Int),[Ze (Zf a.name),Zj a.x 63,Zj a.y 63,Ze (Zg a.half),Zj a.t 63,Zl 16 (Zb QB a.links),Zl 1 (shN m ws),Ze (Zd Za s),Zp 6000]=[Ze (Zf a_12.name),Zj a_12.x 63,Zj a_12.y 63,Ze (Zg a_12.half),Zj a_12.t 63,Zl 16 (Zb QB a_12.links),Zl 1 (shN m_3 ws_2),Ze (Zd Za s_2),Zp 6000]/\(ints l).set (0+(Zc x.i).toNat) [Ze (Zd Za d)]=ints l_1/\l.length=l_1.length/\QJ a_12/\(1<=s_2/\s_2<=12)/\(l_1.length=a_12.links.length/\∀(k:Int),k∈l_1->0<=k/\k<=s_2)/\Blk.box 165 [Ze (Zf a.name),Zj a.x 63,Zj a.y 63,Ze (Zg a.half),Zj a.t 63,Zl 16 (Zb QB a.links),Zl 1 (shN m ws),Ze (Zd Za s),Zp 6000]=Blk.box 165 [Ze (Zf a.name),Zj a.x 63,Zj a.y 63,Ze (Zg a.half),Zj a.t 63,Zl 16 (Zb QB a.links),Zl 1 (shN m ws),Ze (Zd Za s),Zp 6000]/\Blk.mp x.f=Blk.mp x.f/\Blk.row 3 1 ((ints l).set (0+(Zc x.i).toNat) [Ze (Zd Za d)])=Blk.row 3 1 ((ints l).set (0+(Zc x.i).toNat) [Ze (Zd Za d)])/\∃(x_4:BmX),(BmK a ws s g x_4/\bmC a s x_4=bmC a s x)/\(x.f (numV s_2 l_1)).isSome=(x_4.f (numV s x_4.w)).isSome/\1=1/\List.take l.length (List.drop 0 ((ints l).set (0+(Zc x.i).toNat) [Ze (Zd Za d)]))=ints x_4.w/\0=0/\0=0/\0=0/\x_2.row.length=x_4.row.length/\Zc x_2.row.length=Zc x_4.row.length/\Zc x_2.p=Zc x_4.p/\1=1/\ints fr=ints fr/\0=0/\1=1/\3=3/\1=1/\([[Ze (Zd Za (x.v-1))],[Ze (Zd Za (x.v+1))]]=[[Ze (Zd Za (x_4.v-1))],[Ze (Zd Za (x_4.v+1))]]∨QC [[Ze (Zd Za (x.v-1))],[Ze (Zd Za (x.v+1))]] [[Ze (Zd Za (x_4.v-1))],[Ze (Zd Za (x_4.v+1))]])/\22=22/\1=1/\ints x.u=ints x_4.u/\3=3/\s=s/\22=22/\1=1/\ints x.u=ints x_4.u/\169=169/\0=0/\x.nx.length=x_4.nx.length/\22=22/\1=1/\(Zb spE x.row=Zb spE x_4.row∨QC (Zb spE x.row) (Zb spE x_4.row))/\22=22/\1=1/\(Zb spE x.nx=Zb spE x_4.nx∨QC (Zb spE x.nx) (Zb spE x_4.nx))/\162=162/\0=0/\165=165/\a.name=a.name/\a.x=a.x/\63<=63/\a.y=a.y/\63<=63/\a.half=a.half/\a.t=a.t/\63<=63/\16=16/\Zb QB a.links=Zb QB a.links/\1=1/\shN m ws=shN m ws/\s=s/\x.f=x_4.f/\True)/\∀(x_4:BmX),BmK a ws s g x_4->bmC a s x_4=bmC a s x->bif !(x_4.f (numV s x_4.w)).isSome then ∃(a_14:ArmV),∃(m_3:Nat),∃(ws_2:List (List (Rat×Rat))),∃(s_2:Int),∃(u:List Int),∃(v:List Int),[Ze (Zf a.name),Zj a.x 63,Zj a.y 63,Ze (Zg a.half),Zj a.t 63,Zl 16 (Zb QB a.links),Zl 1 (shN m ws),Ze (Zd Za s),Zp 6000]=[Ze (Zf a_14.name),Zj a_14.x 63,Zj a_14.y 63,Ze (Zg a_14.half),Zj a_14.t 63,Zl 16 (Zb QB a_14.links),Zl 1 (shN m_3 ws_2),Ze (Zd Za s_2),Zp 6000]/\ints x_4.w=ints u/\ints x_4.u=ints v/\(QJ a_14/\(1<=s_2/\s_2<=12)/\(u.length=a_14.links.length/\∀(k:Int),k∈u->0<=k/\k<=s_2)/\(v.length=a_14.links.length/\∀(k:Int),k∈v->0<=k/\k<=s_2)/\m_3<=400000000/\(∀(w:List (Rat×Rat)),w∈ws_2->QX w)/\ws_2.length<=20)/\bif frV a_14 ws_2 s_2 u v then ∃(a_15:ArmV),∃(m_4:Nat),∃(ws_3:List (List (Rat×Rat))),∃(s_3:Int),∃(l:List Int),[Ze (Zf a.name),Zj a.x 63,Zj a.y 63,Ze (Zg a.half),Zj a.t 63,Zl 16 (Zb QB a.links),Zl 1 (shN m ws),Ze (Zd Za s),Zp 6000]=[Ze (Zf a_15.name),Zj a_15.x 63,Zj a_15.y 63,Ze (Zg a_15.half),Zj a_15.t 63,Zl 16 (Zb QB a_15.links),Zl 1 (shN m_4 ws_3),Ze (Zd Za s_3),Zp 6000]/\ints x_4.w=ints l/\QJ a_15/\(1<=s_3/\s_3<=12)/\(l.length=a_15.links.length/\∀(k:Int),k∈l->0<=k/\k<=s_3)/\Blk.box 165 [Ze (Zf a.name),Zj a.x 63,Zj a.y 63,Ze (Zg a.half),Zj a.t 63,Zl 16 (Zb QB a.links),Zl 1 (shN m ws),Ze (Zd Za s),Zp 6000]=Blk.box 165 [Ze (Zf a.name),Zj a.x 63,Zj a.y 63,Ze (Zg a.half),Zj a.t 63,Zl 16 (Zb QB a.links),Zl 1 (shN m ws),Ze (Zd Za s),Zp 6000]/\Blk.mp x_4.f=Blk.mp x_4.f/\∃(a_16:ArmV),∃(m_5:Nat),∃(ws_4:List (List (Rat×Rat))),∃(s_4:Int),∃(l_1:List Int),[Ze (Zf a.name),Zj a.x 63,Zj a.y 63,Ze (Zg a.half),Zj a.t 63,Zl 16 (Zb QB a.links),Zl 1 (shN m ws),Ze (Zd Za s),Zp 6000]=[Ze (Zf a_16.name),Zj a_16.x 63,Zj a_16.y 63,Ze (Zg a_16.half),Zj a_16.t 63,Zl 16 (Zb QB a_16.links),Zl 1 (shN m_5 ws_4),Ze (Zd Za s_4),Zp 6000]/\ints x_4.u=ints l_1/\QJ a_16/\(1<=s_4/\s_4<=12)/\(l_1.length=a_16.links.length/\∀(k:Int),k∈l_1->0<=k/\k<=s_4)/\Blk.box 165 [Ze (Zf a.name),Zj a.x 63,Zj a.y 63,Ze (Zg a.half),Zj a.t 63,Zl 16 (Zb QB a.links),Zl 1 (shN m ws),Ze (Zd Za s),Zp 6000]=Blk.box 165 [Ze (Zf a.name),Zj a.x 63,Zj a.y 63,Ze (Zg a.half),Zj a.t 63,Zl 16 (Zb QB a.links),Zl 1 (shN m ws),Ze (Zd Za s),Zp 6000]/\Blk.mp x_4.f=Blk.mp x_4.f/\((x_4.nx.length+1)*24<=140737488355328/\x_4.nx.length+1<=9223372036854775807)/\∃(x':BmX),((BmJ a ws s g x'/\bmQ a s x'=bmQ a s x_2)/\x'.u.length-x'.i=x_3.u.length-x_3.i/\bmC a s x'<bmC a s x)/\Zc x.i=Zc x'.i/\x.v=x'.v/\0=0/\2=2/\(2:Int)=2/\Za.wrap (Zc x.j+1)=Zc x'.j/\0=0/\0=0/\1=1/\ints x.u=ints x'.u/\Zc x.u.length=Zc x'.u.length/\Zc x.i=Zc x'.i/\0=0/\3=3/\1=1/\([[Ze (Zd Za (x_4.v-1))],[Ze (Zd Za (x_4.v+1))]]=[[Ze (Zd Za (x'.v-1))],[Ze (Zd Za (x'.v+1))]]∨QC [[Ze (Zd Za (x_4.v-1))],[Ze (Zd Za (x_4.v+1))]] [[Ze (Zd Za (x'.v-1))],[Ze (Zd Za (x'.v+1))]])/\22=22/\1=1/\ints x_4.u=ints x'.u/\3=3/\s=s/\22=22/\1=1/\ints x_4.u=ints x'.u/\169=169/\0=0/\x_4.nx.length+1=x'.nx.length/\22=22/\1=1/\(Zb spE x_4.row=Zb spE x'.row∨QC (Zb spE x_4.row) (Zb spE x'.row))/\22=22/\1=1/\(List.take x_4.nx.length (Zb spE x_4.nx)++[[Zl 1 (ints x_4.w)]]=Zb spE x'.nx∨QC (List.take x_4.nx.length (Zb spE x_4.nx)++[[Zl 1 (ints x_4.w)]]) (Zb spE x'.nx))/\162=162/\0=0/\165=165/\a.name=a.name/\a.x=a.x/\63<=63/\a.y=a.y/\63<=63/\a.half=a.half/\a.t=a.t/\63<=63/\16=16/\Zb QB a.links=Zb QB a.links/\1=1/\shN m ws=shN m ws/\s=s/\YR x_4.f (numV s_3 l) (Za.wrap ((x_4.f (numV s_4 l_1)).getD 0+1))=x'.f/\True else ∃(x':BmX),((BmJ a ws s g x'/\bmQ a s x'=bmQ a s x_2)/\x'.u.length-x'.i=x_3.u.length-x_3.i/\bmC a s x'<bmC a s x)/\Zc x.i=Zc x'.i/\x.v=x'.v/\0=0/\2=2/\(2:Int)=2/\Za.wrap (Zc x.j+1)=Zc x'.j/\0=0/\0=0/\1=1/\ints x.u=ints x'.u/\Zc x.u.length=Zc x'.u.length/\Zc x.i=Zc x'.i/\0=0/\3=3/\1=1/\([[Ze (Zd Za (x_4.v-1))],[Ze (Zd Za (x_4.v+1))]]=[[Ze (Zd Za (x'.v-1))],[Ze (Zd Za (x'.v+1))]]∨QC [[Ze (Zd Za (x_4.v-1))],[Ze (Zd Za (x_4.v+1))]] [[Ze (Zd Za (x'.v-1))],[Ze (Zd Za (x'.v+1))]])/\22=22/\1=1/\ints x_4.u=ints x'.u/\3=3/\s=s/\22=22/\1=1/\ints x_4.u=ints x'.u/\169=169/\0=0/\x_4.nx.length=x'.nx.length/\22=22/\1=1/\(Zb spE x_4.row=Zb spE x'.row∨QC (Zb spE x_4.row) (Zb spE x'.row))/\22=22/\1=1/\(Zb spE x_4.nx=Zb spE x'.nx∨QC (Zb spE x_4.nx) (Zb spE x'.nx))/\162=162/\0=0/\165=165/\a.name=a.name/\a.x=a.x/\63<=63/\a.y=a.y/\63<=63/\a.half=a.half/\a.t=a.t/\63<=63/\16=16/\Zb QB a.links=Zb QB a.links/\1=1/\shN m ws=shN m ws/\s=s/\x_4.f=x'.f/\True else ∃(x':BmX),((BmJ a ws s g x'/\bmQ a s x'=bmQ a s x_2)/\x'.u.length-x'.i=x_3.u.length-x_3.i/\bmC a s x'<bmC a s x)/\Zc x.i=Zc x'.i/\x.v=x'.v/\0=0/\2=2/\(2:Int)=2/\Za.wrap (Zc x.j+1)=Zc x'.j/\0=0/\0=0/\1=1/\ints x.u=ints x'.u/\Zc x.u.length=Zc x'.u.length/\Zc x.i=Zc x'.i/\0=0/\3=3/\1=1/\([[Ze (Zd Za (x_4.v-1))],[Ze (Zd Za (x_4.v+1))]]=[[Ze (Zd Za (x'.v-1))],[Ze (Zd Za (x'.v+1))]]∨QC [[Ze (Zd Za (x_4.v-1))],[Ze (Zd Za (x_4.v+1))]] [[Ze (Zd Za (x'.v-1))],[Ze (Zd Za (x'.v+1))]])/\22=22/\1=1/\ints x_4.u=ints x'.u/\3=3/\s=s/\22=22/\1=1/\ints x_4.u=ints x'.u/\169=169/\0=0/\x_4.nx.length=x'.nx.length/\22=22/\1=1/\(Zb spE x_4.row=Zb spE x'.row∨QC (Zb spE x_4.row) (Zb spE x'.row))/\22=22/\1=1/\(Zb spE x_4.nx=Zb spE x'.nx∨QC (Zb spE x_4.nx) (Zb spE x'.nx))/\162=162/\0=0/\165=165/\a.name=a.name/\a.x=a.x/\63<=63/\a.y=a.y/\63<=63/\a.half=a.half/\a.t=a.t/\63<=63/\16=16/\Zb QB a.links=Zb QB a.links/\1=1/\shN m ws=shN m ws/\s=s/\x_4.f=x'.f/\True else ∃(x':BmX),((BmI a ws s g x'/\x'.j=0/\bmQ a s x'=bmQ a s x_2)/\OfNat.ofNat 0=OfNat.ofNat 0/\x'.u.length-x'.i<x_3.u.length-x_3.i)/\0=0/\0=0/\1=1/\ints x.u=ints x'.u/\Zc x.u.length=Zc x'.u.length/\Za.wrap (Zc x.i+1)=Zc x'.i/\0=0/\22=22/\1=1/\ints x.u=ints x'.u/\3=3/\s=s/\22=22/\1=1/\ints x.u=ints x'.u/\169=169/\0=0/\x.nx.length=x'.nx.length/\22=22/\1=1/\(Zb spE x.row=Zb spE x'.row∨QC (Zb spE x.row) (Zb spE x'.row))/\22=22/\1=1/\(Zb spE x.nx=Zb spE x'.nx∨QC (Zb spE x.nx) (Zb spE x'.nx))/\162=162/\0=0/\165=165/\a.name=a.name/\a.x=a.x/\63<=63/\a.y=a.y/\63<=63/\a.half=a.half/\a.t=a.t/\63<=63/\16=16/\Zb QB a.links=Zb QB a.links/\1=1/\shN m ws=shN m ws/\s=s/\x.f=x'.f/\True else ∃(x':BmX),(BmM a ws s g QGx x'/\x'.c=KC x.f (NS a s)+min x.row.length 1/\bmQ a s x'<bmQ a s x_1)/\0=0/\0=0/\x_2.row.length=x'.row.length/\Zc x_2.row.length=Zc x'.row.length/\Za.wrap (Zc x_2.p+1)=Zc x'.p/\1=1/\ints fr=ints fr/\0=0/\169=169/\0=0/\x_3.nx.length=x'.nx.length/\22=22/\1=1/\(Zb spE x_3.row=Zb spE x'.row∨QC (Zb spE x_3.row) (Zb spE x'.row))/\22=22/\1=1/\(Zb spE x_3.nx=Zb spE x'.nx∨QC (Zb spE x_3.nx) (Zb spE x'.nx))/\162=162/\0=0/\165=165/\a.name=a.name/\a.x=a.x/\63<=63/\a.y=a.y/\63<=63/\a.half=a.half/\a.t=a.t/\63<=63/\16=16/\Zb QB a.links=Zb QB a.links/\1=1/\shN m ws=shN m ws/\s=s/\x_3.f=x'.f/\True else ∃(x':BmX),(BmO a ws s g x'/\OfNat.ofNat 0=0/\KC x'.f (NS a s)+min x'.row.length 1<KC x.f (NS a s)+min x.row.length 1)/\0=0/\x_1.nx.length=x'.row.length/\1=1/\ints fr=ints fr/\0=0/\22=22/\1=1/\(Zb spE x_1.nx=Zb spE x'.row∨QC (Zb spE x_1.nx) (Zb spE x'.row))/\162=162/\0=0/\165=165/\a.name=a.name/\a.x=a.x/\63<=63/\a.y=a.y/\63<=63/\a.half=a.half/\a.t=a.t/\63<=63/\16=16/\Zb QB a.links=Zb QB a.links/\1=1/\shN m ws=shN m ws/\s=s/\x_1.f=x'.f/\True else ∃(x_1:Int->Option Int),FdS a ws s g fr x_1/\165=165/\a.name=a.name/\a.x=a.x/\63<=63/\a.y=a.y/\63<=63/\a.half=a.half/\a.t=a.t/\63<=63/\16=16/\Zb QB a.links=Zb QB a.links/\1=1/\shN m ws=shN m ws/\s=s/\x.f=x_1/\True)) ?_
 simp only[Zn,R0,R1,Nat.zero_add,Nat.le_refl,R4];have hn:=hg.n;obtain⟨nb1,nb2⟩:=QBy hg hs;have hgr:=JO hs.1 hgo;have st:BmO a ws s g ⟨YR (fun _=>none) (numV s g) 0,0,[g],0,0,[],[],0,0,0,[]⟩:=by
  have F0:FN s (YR (fun _=>none) (numV s g) 0) g=some 0:=Gb (n:=0) rfl;refine⟨Bfs.first hgo (fun v hv=> ?_) (fun v d hv h=> ?_),QRd (fun _ _ h=>by cases h) (by omega),fun _=> ?_,by simp only[List.length_singleton];omega⟩
  ·by_cases e:v=g
   ·subst e;exact⟨fun _=>rfl,fun _=>F0⟩
   ·rw[GF hs.1 hgo hv e];simp[FN,e]
  ·by_cases e:v=g
   ·subst e;have h:FN s (YR (fun _=>none) (numV s v) 0) v=some d:=h;rw[F0]at h;cases h;rfl
   ·rw[GF hs.1 hgo hv e]at h;simp[FN]at h
  ·have:=QRg (YR (fun _=>none) (numV s g) 0) (NS a s);simp only;omega
 refine⟨a,m,ws,s,g,rfl,rfl,hg,hs,hgo,⟨_,st,rfl,.inl rfl,rfl⟩,fun x hx=>QF (fun hp=>⟨?_,fun x1 h1 e1=>QF (fun hp1=> ?_) (fun hp1=> ?_)⟩) (fun hp=> ?_)⟩
 ·have hp:0<x.row.length:=by have:=R5 hp;omega
  have hlv:=hx.lv (fun e=>by rw[e]at hp;simp at hp);refine⟨{x with c:=KC x.f (NS a s)+min x.row.length 1,p:=0,nx:=[]},⟨⟨{hx.bfs.begin with done:=fun u v hp he=>by simp[QGx]at hp},hx.nn,?_,?_,hx.rl,Nat.zero_le _⟩,rfl⟩,rfl,rfl,rfl,rfl,.inl rfl,rfl,rfl⟩
  ·simp only;omega
  ·simp only[List.length_nil];omega
 ·have hp1:x1.p<x1.row.length:=by have:=R5 hp1;omega
  obtain⟨u,hu⟩: ∃u,x1.row[x1.p]? =some u:=⟨_,Zk hp1⟩
  have hum:=Zh hu;have huo:=h1.bfs.rok u hum;have hul:=huo.1;have hfl:=hfo.1;refine⟨⟨by omega,by omega⟩,ints u,QEy (by simpa using hu),u,fr,rfl,rfl,⟨by omega,by omega⟩,QF (fun he=> ?_) (fun he=> ?_)⟩
  ·have he:u=fr:=R5 he;exact⟨x1.f,⟨h1.bfs.found (he▸hum),h1.nn⟩,rfl⟩
  ·refine⟨u,rfl,⟨{x1 with u:=u},⟨⟨⟨h1.bfs,h1.nn,h1.lv,h1.ct,h1.rl,h1.p⟩,hu⟩,rfl⟩,rfl,rfl,rfl,rfl,rfl,rfl,.inl rfl,.inl rfl,rfl⟩,fun x2 ⟨h2,u2⟩ e2=>⟨⟨{x2 with i:=0,j:=0},⟨⟨⟨{h2.bfs with done:=fun u v hp he=>hp.elim (fun h=>h2.bfs.done u v h he) (fun⟨_,hb⟩=>absurd hb QGy)},h2.nn,h2.lv,h2.ct,h2.rl,h2.p⟩,u2,Nat.zero_le _⟩,rfl,rfl⟩,rfl,by rw[Qw],rfl,rfl,rfl,rfl,.inl rfl,.inl rfl,rfl⟩,fun x3 ⟨h3,j3,q3⟩=>QF (fun hi=> ?_) (fun hi=> ?_)⟩⟩
   ·have hi:x3.i<x3.u.length:=by have:=R5 hi;omega
    obtain⟨v,hv⟩: ∃v,x3.u[x3.i]? =some v:=⟨_,Zk hi⟩
    have hok3:OkS s a.links.length x3.u:=h3.all.bfs.rok _ (Zh h3.u);have hvr:=hok3.2 v (Zh hv);refine⟨⟨by omega,by rw[Qw];omega⟩,v,Jz (by simpa using hv),⟨{x3 with v:=v},⟨⟨⟨⟨h3.all.bfs,h3.all.nn,h3.all.lv,h3.all.ct,h3.all.rl,h3.all.p⟩,h3.u,hv,by simp only;omega⟩,q3⟩,rfl⟩,rfl,rfl,by simp only[j3];rfl,rfl,rfl,rfl,.inl (by rw[w64 (by omega),w64 (by omega)]),rfl,rfl,rfl,.inl rfl,.inl rfl,rfl⟩,fun x ⟨hJ,hq⟩ e=>QF (fun hj=> ?_) (fun hj=> ?_)⟩
    ·have hj:x.j<2:=by have:=R5 hj;omega
     have hxv:=hJ.ok.2 x.v (Zh hJ.v);have hxi:=(Zi.1 hJ.v).1;have hxl:=hJ.ok.1;have wj:Za.wrap ((x.j:Int)+1)=((x.j+1:Nat):Int):=by rw[w64 (by omega)];simp
     obtain⟨qc,ql,qp⟩:=QRe ⟨hJ.all.rl,hJ.all.p⟩ ⟨h2.rl,h2.p⟩ hq;refine⟨⟨by omega,by omega⟩,rsW x.v x.j,by rw[Zo];exact QRh hj,QF (fun h=>by have:=R5 h;omega) (fun _=>QF (fun h=>by have:=R5 h;omega) (fun _=>QF (fun h=> ?_) (fun h1'=>QF (fun h=> ?_) (fun h2'=> ?_))))⟩
     ·have h:=R5 h;exact⟨{x with j:=x.j+1},⟨⟨QEx hJ hj fun he=>absurd he.2.1 (QAB hJ.ok hJ.v (by omega)),hq⟩,e,c_j hj x.f x.nx⟩,rfl,rfl,wj,rfl,rfl,rfl,.inl rfl,rfl,rfl,rfl,.inl rfl,.inl rfl,rfl⟩
     ·have h:=R5 h;exact⟨{x with j:=x.j+1},⟨⟨QEx hJ hj fun he=>absurd he.2.1 (QAB hJ.ok hJ.v (by omega)),hq⟩,e,c_j hj x.f x.nx⟩,rfl,rfl,wj,rfl,rfl,rfl,.inl rfl,rfl,rfl,rfl,.inl rfl,.inl rfl,rfl⟩
     ·have h1':=R6 h1';have h2':=R6 h2';have hr:0<=rsW x.v x.j/\rsW x.v x.j<=s:=by omega
      have hwo:OkS s a.links.length (x.u.set x.i (rsW x.v x.j)):=(HC hJ.v hj hr).ok hJ.ok;refine⟨x.u,rfl,by omega,⟨by omega,by omega⟩,by rw[Qw];omega,⟨a,m,ws,s,x.u.set x.i (rsW x.v x.j),rfl,by rw[Zo,HF],by simp,hg,hs,hwo,{x with w:=x.u.set x.i (rsW x.v x.j)},⟨⟨⟨⟨hJ.all.bfs,hJ.all.nn,hJ.all.lv,hJ.all.ct,hJ.all.rl,hJ.all.p⟩,hJ.u,hJ.v,hJ.j⟩,hj,hr,rfl⟩,rfl⟩,rfl,?_,ql.symm,by rw[ql],by rw[qp],.inl rfl,rfl,rfl,rfl,.inl rfl,.inl rfl,rfl⟩,fun y hy ey=> ?_⟩
      ·rw[Zo,HF,List.drop_zero];exact List.take_of_length_le (by rw[Qw];simp)
      ·have hyJ:=hy.all;have hyi:=(Zi.1 hyJ.v).1;obtain⟨yq,yu,yi,yj⟩:=QbF hs.1 hyJ.ok hJ.ok hn.2 hyi hxi hyJ.j hJ.j ey;have yv:y.v=x.v:=by
        have h1:=hyJ.v;rw[yu,yi,hJ.v]at h1;exact(Option.some.inj h1).symm
       have hyj:=hy.j1;have yok:OkS s a.links.length y.w:=by rw[hy.w];exact(HC hyJ.v hyj hy.r).ok hyJ.ok
       have yl:y.u.length-y.i=x3.u.length-x3.i:=by rw[yu,yi];exact e
       have wy:Za.wrap ((x.j:Int)+1)=((y.j+1:Nat):Int):=by rw[wj,yj]
       have skip:(EdS a ws s y.u (y.u.set y.i (rsW y.v y.j))->FN s y.f (y.u.set y.i (rsW y.v y.j))≠none)->BmJ a ws s g {y with j:=y.j+1}:=QEx hyJ hyj;refine QF (fun hb=> ?_) (fun hb=> ?_)
       ·refine⟨a,m,ws,s,y.w,y.u,rfl,rfl,rfl,⟨hg,hs,yok,hyJ.ok,hm,hw⟩,QF (fun hf=> ?_) (fun hf=> ?_)⟩
        ·have hnone:y.f (numV s y.w)=none:=by
          cases h:y.f (numV s y.w)with
          | none=>rfl
          | some z=>rw[h]at hb;simp at hb
         have hyn:y.f (numV s y.u)=some (y.n:Int):=(HD hyJ.all.nn).1 ((hyJ.all.bfs.inr _ hyJ.ok).1 (Zh hyJ.u));have ylv:=hyJ.all.lv;have yct:=hyJ.all.ct;refine⟨a,m,ws,s,y.w,rfl,rfl,hg,hs,yok,a,m,ws,s,y.u,rfl,rfl,hg,hs,hyJ.ok,⟨by omega,by omega⟩,{y with j:=y.j+1,f:=YR y.f (numV s y.w) (y.n+1),nx:=y.nx++[y.w]},⟨⟨QZH hs.1 hyJ hyj hy.r hy.w hnone hf,yq.trans hq⟩,yl,by rw[<-ey];exact c_j hyj _ _⟩,by rw[yi],yv.symm,wy,by rw[yu],by rw[yu],by rw[yi],.inl rfl,rfl,rfl,by simp,.inl rfl,.inl ?_,?_⟩
         ·rw[List.take_of_length_le (by simp)];simp[spE]
         ·rw[hyn,Option.getD_some,w64 (by omega)]
        ·exact⟨{y with j:=y.j+1},⟨⟨skip fun he=>absurd he.2.2 (by rw[<-hy.w,hf];simp),yq.trans hq⟩,yl,by rw[<-ey];exact c_j hyj y.f y.nx⟩,by rw[yi],yv.symm,wy,by rw[yu],by rw[yu],by rw[yi],.inl rfl,rfl,rfl,rfl,.inl rfl,.inl rfl,rfl⟩
       ·exact⟨{y with j:=y.j+1},⟨⟨skip fun _ h=>by rw[<-hy.w,QKp]at h;rw[h]at hb;simp at hb,yq.trans hq⟩,yl,by rw[<-ey];exact c_j hyj y.f y.nx⟩,by rw[yi],yv.symm,wy,by rw[yu],by rw[yu],by rw[yi],.inl rfl,rfl,rfl,rfl,.inl rfl,.inl rfl,rfl⟩
    ·have hj:x.j=2:=by have:=R6 hj;have:=hJ.j;omega
     have hxi:=(Zi.1 hJ.v).1;have hxl:=hJ.ok.1;exact⟨{x with i:=x.i+1,j:=0},⟨⟨⟨⟨{hJ.all.bfs with done:=fun u v hp he=>hJ.all.bfs.done u v (hp.elim .inl fun⟨h1,h2⟩=> .inr ⟨h1,by have:=QGz h2;rw[<-hj]at this;exact this⟩) he},hJ.all.nn,hJ.all.lv,hJ.all.ct,hJ.all.rl,hJ.all.p⟩,hJ.u,by simp only;omega⟩,rfl,hq⟩,by simp only;omega⟩,rfl,rfl,by rw[w64 (by omega)];simp,rfl,rfl,rfl,.inl rfl,.inl rfl,rfl⟩
   ·have hi:x3.i=x3.u.length:=by have:=R6 hi;have:=h3.i;omega
    obtain⟨qc,ql,qp⟩:=QRe ⟨h3.all.rl,h3.all.p⟩ ⟨h2.rl,h2.p⟩ q3;obtain⟨rc,rl',rp⟩:=QRe ⟨h2.rl,h2.p⟩ ⟨h1.rl,h1.p⟩ e2;have hp3:=(Zi.1 h3.u).1;have hrl:=h3.all.rl;refine⟨{x3 with p:=x3.p+1},⟨⟨{h3.all.bfs with done:=fun u v hp he=> ?_},h3.all.nn,h3.all.lv,h3.all.ct,h3.all.rl,by simp only;omega⟩,by simp only;omega,?_⟩,by simp only;exact ql.symm,by simp only;rw[ql],by rw[w64 (by omega),<-qp];simp,rfl,.inl rfl,.inl rfl,rfl⟩
    ·have hp:u∈x3.row.take (x3.p+1):=hp;rw[List.take_add_one,h3.u]at hp;rcases List.mem_append.1 hp with h | h
     ·exact h3.all.bfs.done u v (.inl h) he
     ·have h:u=x3.u:=by simpa using h
      refine h3.all.bfs.done u v (.inr ⟨h,?_⟩) he;have:=QKo (h▸he.2.1);rw[<-hi,<-j3]at this;exact this
    ·rw[<-e2,<-q3];unfold bmQ;simp only;omega
 ·have hp1:x1.p=x1.row.length:=by have:=R6 hp1;have:=h1.p;omega
  have hct:=h1.ct;have hlv:=h1.lv;refine⟨{x1 with row:=x1.nx,n:=x1.n+1},⟨⟨h1.bfs.next_row (fun u v hu _=> ?_) hgo QG1,h1.nn,fun hne=> ?_,by simp only;omega⟩,?_⟩,rfl,.inl rfl,rfl⟩
  ·show u∈x1.row.take x1.p
   rw[hp1,List.take_length];exact hu
  ·have:x1.nx.length≠0:=fun h=>hne (Zm h);simp only;omega
  ·simp only;omega
 ·have hp:x.row=[]:=Zm (by have:=R6 hp;omega);have hb:=hx.bfs;rw[hp]at hb;exact⟨x.f,⟨hb.found hfo hgo QG1,hx.nn⟩,rfl⟩
def QBz:XJ:=fun as0 H _=>match as0 with
  | [.x false [.p k o],.x false [.s 1 xs],.x false [.s 1 ys]]=>match o with
    | 0=>match H k,H (k+5000)with
      | some (.box t cs),none=>bif t.beq 165 then(match QBw cs with
        | some (.v (.map none))=>some fun K=> ∃(a:ArmV) (m:Nat) (ws:List (List (Rat×Rat))) (s:Int) (g fr:List Int),cs=Ub a m ws s HA/\xs=ints g/\ys=ints fr/\(QJ a/\(1<=s/\s<=12)/\OkS s a.links.length g/\OkS s a.links.length fr/\m<=400000000/\(∀w∈ws,QX w)/\ws.length<=20)/\
            ∀f,FdS a ws s g fr f->K (.t []) (upd (upd H k (some (seB a m ws s (.m (k+5000))))) (k+5000) (some (.mp f)))
        | _=>none)else none
      | _,_=>none
    | _+1=>none
  | _=>none
theorem QM3:XP 103 QBz:=by
 refine⟨Qb Tryz.func103 (by kernel_rfl),fun l H d T hT K hK=> ?_⟩;unfold QBz at hT;split at hT
 ·rename_i k o xs ys;split at hT
  ·split at hT
   ·rename_i t cs e1 e2;cases hb:t.beq 165 with
    | false=>rw[hb]at hT;cases hT
    | true=>
     rw[hb]at hT;have ht:=Nat.eq_of_beq_eq_true hb;subst ht;simp only[R7]at hT;split at hT
     ·cases hT
      obtain⟨a,m,ws,s,g,fr,rfl,rfl,rfl,⟨hg,hs,hgo,hfo,hm,hw⟩,hK⟩:=hK;refine Y3 (R:=[(1000,k)]) (N:=[(6000,k+5000)]) (Hl:=[(1000,seB a m ws s HA)]) QJa QK Tryz.func103 (by kernel_rfl) (by kernel_rfl) (by rfl)
       (as0:=[.x false [.p 1000 0],.x false [.s 1 (ints g)],.x false [.s 1 (ints fr)]]) ?_ (Vj e1 rfl fun _=>QAA) rfl (by simp) (by simp) (fun p hp=>by simp at hp;subst hp;exact e2) (fun x=>⟨fun p hp=> ?_,fun p hp b hb=> ?_⟩) (QZI a m ws s g fr hg hs hgo hfo hm hw) (fun f hf=>⟨_,rfl,?_⟩)
      ·simp[Xj,Xg,XI,lkB]
      ·simp at hp;subst hp;exact fun h=>by have h':some (seB a m ws s (.m 6000))=none:=h;cases h'
      ·simp at hp;rcases hp with rfl | rfl
       ·have h':some (seB a m ws s (.m 6000))=some b:=hb;cases h';exact⟨_,QEu⟩
       ·have h':some (Blk.mp x)=some b:=hb;cases h';exact⟨_,rfl⟩
      ·show K _ (XN [(1000,k),(6000,k+5000)] (QN [(1000,seB a m ws s (.m 6000)),(6000,.mp f)]) H)
       rw[QGv];exact hK f hf
     ·cases hT
   ·cases hT
  ·cases hT
 ·cases hT
end Go.Proofs
