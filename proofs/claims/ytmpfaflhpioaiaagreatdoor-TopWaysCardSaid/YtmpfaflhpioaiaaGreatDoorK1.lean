/- track: copied, At, Speed. -/
import Derived.Test.YtmpfaflhpioaiaaGreatDoorA1
import Derived.Test.YtmpfaflhpioaiaaGreatDoorTk
open Option renaming some → A, none → O
open _root_ renaming Nat → B, List → D, Rat → E, Int → H, True → P
open Int renaming ofNat → C, ofNat_eq_natCast → Zl, toNat_natCast → Zr
open Bool renaming false → F, true → Q
open List renaming length → G, map → I, take → L, getElem?_eq_getElem → S, length_map → Zj, drop → Zu, mem_of_getElem? → Zh, take_of_length_le → Zi, getElem?_map → Zq, length_take → Zt, getD_eq_getElem?_getD → Zk
open Go.Eng.Ch renaming r → J, s → R, v → T
open Go.IntKind renaming i64 → M
open Go.Value renaming slice → Zo, int → Zf, bool → Zn, string → Zp
set_option maxHeartbeats 1000000
set_option maxRecDepth 100000
namespace Go.Proofs
open Go Go.Eng Tryz
def Qe (k:XF):D Ch:=[.v (.int .i64 k.tick),.s 3 (lR k.n k.q)]
def bp (ks:D XF):AV:= .x F [.s 2 (ks.map Qe)]
def QZ:XF:=⟨0,0,[]⟩
variable{l:D XF}{i:B}{k:XF}
theorem dj(h:l[i]? =A k):ldE (l.map Qe) i 0 2=A [.v (.int .i64 k.tick),.s 3 (lR k.n k.q)]:=by
 simp only[ldE,Zq,h];rfl
theorem Ut(h:l[i]? =A k):ldE (l.map Qe) i 0 1=A [.v (.int .i64 k.tick)]:=by
 simp only[ldE,Zq,h];rfl
theorem wW(h:l[i]? =A k):ldE (l.map Qe) i 1 1=A [.s 3 (lR k.n k.q)]:=by
 simp only[ldE,Zq,h];rfl
theorem QUL {ks:D XF}{a:XF}{t:H}(c:ks[0]? =A a)(h:t<=a.tick):atR ks t=(a.q,a.n+65):=by
 match ks,c with
 | b::ks,c=>cases c;rw[atR,if_pos h]
theorem QUM {ks:D XF}{a:XF}{t:H}(c:ks[0]? =A a)(h: ¬t<=a.tick):atR ks t=Jo (ks.getD (1-1) QZ) (ks.drop 1) t:=by
 match ks,c with
 | b::ks,c=>cases c;rw[atR,if_neg h];rfl
def Db(a:D (D Ch)):=C a.length
def Dd(a:AV->Prop)(b:Ch):=a (AV.x F [b])
def Df:=OfNat.ofNat 0=0
def Dj(a:E->B)(b:B)(c:D E):=I (fun(z:E)=>[J z (a z+65)]) (L b c)
def Dk(a:D (D Ch))(b c:B)(d:D Ch):=ldE a (C b).toNat 0 c=A d
def Dl(a:B):=M.wrap (C a+1)
theorem QQr (n:B)(a:D E)(e:(n<=1000000/\a.length<=1000000))(K:AV->Prop)(d:K (sR (n+65) a)):QM (QN T49 (oF f41) (fun _=> .inv ⟨B,fun k=>⟨[(3,.x F [.w 500 0 k]),(6,sR n a),(7,iA .i64 a.length),(8,iA .i64 k)],[(500,YU (n+65) (a.take k))]⟩,fun k=>k<=G a,fun k=>G a-k,fun _=>0⟩) f41 [sR n a] K):=by
 refine HV ((∃(x:B),(x<=G a/\Df)/\Zo O 0 0=Zo O 0 0/\0=0/\x=0/\3=3/\lR n a=lR n a/\Db (lR n a)=C a.length/\0=C x/\Dj (fun q=>n) x a=[]/\P)/\∀(v:B),v<=G a->Df->bif decide (C v<C a.length)then(0<=C v/\C v<Db (lR n a))/\∃(q:E)(b:B),Dk (lR n a) v 3 [J q b]/\((-9223372036854775808:H)<=0/\(0:H)<9223372036854775808)/\b+64+1<=4294967296/\((v+1)*40<=140737488355328/\v+1<=9223372036854775807)/\∃(c:B),(c<=G a/\Df/\a.length-c<G a-v)/\0=0/\v+1=c/\3=3/\lR n a=lR n a/\C a.length=C a.length/\Dl v=C c/\25=25/\3=3/\(L v (Dj (fun q=>n) v a)++[[J (q+↑(0:H)) (b+64+1)]]=Dj (fun q=>n) c a\/QC (L v (Dj (fun q=>n) v a)++[[J (q+↑(0:H)) (b+64+1)]]) (Dj (fun q=>n) c a))/\P else Dd K (R 3 (L v (Zu 0 (Dj (fun q=>n) v a))))) ?_
 delta Db Dd Df Dj Dk Dl
 try simp only[Zl,R0,R1,R4]
 refine⟨⟨0,o3,rfl,by rw[Qw],rfl,o6⟩,fun x f=>QE (fun h=> ?_) (fun h=> ?_)⟩
 ·have h:x<G a:=(j7 h)
  obtain⟨q,hq⟩: ∃q,a[x]? =A q:=⟨_,S h⟩
  refine⟨by rw[Qw];omega,_,_,Xd ((j9 hq)),o3,o3,o3,x+1,⟨o3,o3⟩,rfl,by rw[w64 o3];simp,.inl ?_⟩;rw[Zi (by rw[Zj,Zt];omega),D.take_add_one,hq,D.map_append];simp only[Option.toList,D.map_cons,D.map_nil];rw[show q+((0:H):E)=q by rw[E.intCast_zero,E.add_zero]]
 ·have h:x=G a:=(j8 h)
  subst h;rw[D.drop_zero,D.take_length,Zi (by rw[Zj];exact B.le_refl _)];exact d
def qA:Ctr
 | [.x F [.s 3 x]]=>A fun K=> ∃(n:B) (q:D E),x=lR n q/\((n<=1000000/\q.length<=1000000))/\(K (sR (n+65) q))
 | _=>O
theorem QL3:QH 41 qA:=by
 refine okL func41 fun l a b K h=> ?_
 unfold qA at b;split at b<;>cases b
 obtain⟨n,q,rfl,c,h⟩:=h;exact spL xJ QK func41 (QQr _ _ c K h)
def pU:LC:=(41,qA)::L49
theorem QUN:QF pU:= .cons QL3 dH
def Dh(a:D XF)(b:B×B):=a.getD (b.1-1) QZ
def QJQ (ks:D XF)(m:B)(_N:B)(t:H)(K:AV->Prop):Prop:=QN (mkT pU M48 X4) (oF f13) (fun a=>bif a.beq 6 then .inv ⟨B,fun i=>⟨[(0,bp ks),(1,iA .i64 t),(5,iA .i64 i)],[]⟩,fun i=>(1<=i/\i<=G ks)/\atR ks t=Jo (ks.getD (i-1) QZ) (ks.drop i) t,fun i=>G ks-i,fun _=>0⟩else .inv ⟨B×B,fun x=>⟨[(6,.x F [.p 6 0]),(7,.x F [.p 7 0]),(9,.x F [.p 9 0]),(11,.x F [.w 500 0 x.2]),(71,iA .i64 m),(72,iA .i64 x.2)],[(6,.box 55 (Qe (Dh ks x))),(7,.box 55 (Qe (ks.getD x.1 QZ))),(9,.box 25 [.r (WQ (Dh ks x) (ks.getD x.1 QZ) t) 258]),(500,YU (2*(Dh ks x).n+(ks.getD x.1 QZ).n+260) ((XV (Dh ks x) (ks.getD x.1 QZ) t).take x.2))]⟩,fun x=>((1<=x.1/\x.1<G ks)/\atR ks t=(XV (Dh ks x) (ks.getD x.1 QZ) t,2*(Dh ks x).n+(ks.getD x.1 QZ).n+260))/\x.2<=m,fun x=>m-x.2,fun x=>G ks-x.1⟩) f13 [bp ks,iA .i64 t] K
theorem QJR (ks:D XF)(m:B)(N:B)(t:H)(K:AV->Prop):QJQ ks m N t K=(bif C (I Qe ks).length==0 then K (AV.x F [T (Zo O 0 0)])else((0:H)<=0/\0<C (I Qe ks).length)/\∃(d:H),ldE (I Qe ks) 0 0 1=A [T (Zf M d)]/\bif decide (t<=d)then((0:H)<=0/\0<C (I Qe ks).length)/\∃(g:D (D Ch)),ldE (I Qe ks) 0 1 1=A [R 3 g]/\∃(n:B)(o:D E),g=lR n o/\(n<=1000000/\o.length<=1000000)/\K (AV.x F [R 3 (lR (n+65) o)])else(∃(x:B),(((1<=x/\x<=G ks)/\atR ks t=Jo (ks.getD (x-1) QZ) (Zu x ks) t)/\OfNat.ofNat 0=0)/\2=2/\I Qe ks=I Qe ks/\t=t/\1=C x/\P)/\∀(x:B),(1<=x/\x<=G ks)/\atR ks t=Jo (ks.getD (x-1) QZ) (Zu x ks) t->OfNat.ofNat 0=0->bif decide (C x<C (I Qe ks).length)then(0<=C x/\C x<C (I Qe ks).length)/\∃(d:H),ldE (I Qe ks) (C x).toNat 0 1=A [T (Zf M d)]/\bif decide (d<=t)then ∃(b:B),(((1<=b/\b<=G ks)/\atR ks t=Jo (ks.getD (b-1) QZ) (Zu b ks) t)/\OfNat.ofNat 0=0/\ks.length-b<G ks-x)/\2=2/\I Qe ks=I Qe ks/\t=t/\M.wrap (C x+1)=C b/\P else(0<=M.wrap (C x-1)/\M.wrap (C x-1)<C (I Qe ks).length)/\∃(d:H)(g:D (D Ch)),ldE (I Qe ks) (M.wrap (C x-1)).toNat 0 2=A [T (Zf M d),R 3 g]/\(0<=C x/\C x<C (I Qe ks).length)/\∃(f:H)(y:D (D Ch)),ldE (I Qe ks) (C x).toNat 0 2=A [T (Zf M f),R 3 y]/\(-9223372036854775808<=d/\d<9223372036854775808)/\(-9223372036854775808<=t/\t<9223372036854775808)/\129<=4294967296/\(-9223372036854775808<=f/\f<9223372036854775808)/\129<=4294967296/\258<=4294967296/\((↑f:E)-(↑d:E)≠OfNat.ofNat 0->(∃(a:B×B),((((1<=a.1/\a.1<G ks)/\atR ks t=(XV (ks.getD (a.1-1) QZ) (ks.getD a.1 QZ) t,2*(ks.getD (a.1-1) QZ).n+(ks.getD a.1 QZ).n+260))/\a.2<=m)/\ks.length-a.1=G ks-x)/\0=0/\0=0/\0=0/\Zo O 0 0=Zo O 0 0/\0=0/\a.2=0/\(bif F then if C y.length>C g.length then C y.length else C g.length else if C y.length<C g.length then C y.length else C g.length)=C m/\0=C a.2/\55=55/\d=(ks.getD (a.1-1) QZ).tick/\3=3/\g=lR (ks.getD (a.1-1) QZ).n (ks.getD (a.1-1) QZ).q/\55=55/\f=(ks.getD a.1 QZ).tick/\3=3/\y=lR (ks.getD a.1 QZ).n (ks.getD a.1 QZ).q/\25=25/\((↑t:E)-(↑d:E))/((↑f:E)-(↑d:E))=WQ (ks.getD (a.1-1) QZ) (ks.getD a.1 QZ) t/\258<=258/\I (fun(q:E)=>[J q (2*(ks.getD (a.1-1) QZ).n+(ks.getD a.1 QZ).n+260)]) (L a.2 (XV (ks.getD (a.1-1) QZ) (ks.getD a.1 QZ) t))=[]/\P)/\∀(a:B×B),((1<=a.1/\a.1<G ks)/\atR ks t=(XV (ks.getD (a.1-1) QZ) (ks.getD a.1 QZ) t,2*(ks.getD (a.1-1) QZ).n+(ks.getD a.1 QZ).n+260))/\a.2<=m->G ks-a.1=G ks-x->bif decide (C a.2<C m)then(0<=C a.2/\C a.2<C (lR (ks.getD (a.1-1) QZ).n (ks.getD (a.1-1) QZ).q).length)/\∃(q:E)(n:B),ldE (lR (ks.getD (a.1-1) QZ).n (ks.getD (a.1-1) QZ).q) (C a.2).toNat 0 3=A [J q n]/\(0<=C a.2/\C a.2<C (lR (ks.getD a.1 QZ).n (ks.getD a.1 QZ).q).length)/\∃(h:E)(c:B),ldE (lR (ks.getD a.1 QZ).n (ks.getD a.1 QZ).q) (C a.2).toNat 0 3=A [J h c]/\(0<=C a.2/\C a.2<C (lR (ks.getD (a.1-1) QZ).n (ks.getD (a.1-1) QZ).q).length)/\∃(j:E)(e:B),ldE (lR (ks.getD (a.1-1) QZ).n (ks.getD (a.1-1) QZ).q) (C a.2).toNat 0 3=A [J j e]/\c+e+1<=4294967296/\258+(c+e+1)<=4294967296/\n+(258+(c+e+1))+1<=4294967296/\((a.2+1)*40<=140737488355328/\a.2+1<=9223372036854775807)/\∃(b:B×B),((((1<=b.1/\b.1<G ks)/\atR ks t=(XV (ks.getD (b.1-1) QZ) (ks.getD b.1 QZ) t,2*(ks.getD (b.1-1) QZ).n+(ks.getD b.1 QZ).n+260))/\b.2<=m)/\ks.length-b.1=G ks-x/\m-b.2<m-a.2)/\0=0/\0=0/\0=0/\0=0/\a.2+1=b.2/\C m=C m/\M.wrap (C a.2+1)=C b.2/\55=55/\(ks.getD (a.1-1) QZ).tick=(ks.getD (b.1-1) QZ).tick/\3=3/\lR (ks.getD (a.1-1) QZ).n (ks.getD (a.1-1) QZ).q=lR (ks.getD (b.1-1) QZ).n (ks.getD (b.1-1) QZ).q/\55=55/\(ks.getD a.1 QZ).tick=(ks.getD b.1 QZ).tick/\3=3/\lR (ks.getD a.1 QZ).n (ks.getD a.1 QZ).q=lR (ks.getD b.1 QZ).n (ks.getD b.1 QZ).q/\25=25/\WQ (ks.getD (a.1-1) QZ) (ks.getD a.1 QZ) t=WQ (ks.getD (b.1-1) QZ) (ks.getD b.1 QZ) t/\258<=258/\25=25/\3=3/\(L a.2 (I (fun(q:E)=>[J q (2*(ks.getD (a.1-1) QZ).n+(ks.getD a.1 QZ).n+260)]) (L a.2 (XV (ks.getD (a.1-1) QZ) (ks.getD a.1 QZ) t)))++[[J (q+WQ (ks.getD (a.1-1) QZ) (ks.getD a.1 QZ) t*(h-j)) (n+(258+(c+e+1))+1)]]=I (fun(q:E)=>[J q (2*(ks.getD (b.1-1) QZ).n+(ks.getD b.1 QZ).n+260)]) (L b.2 (XV (ks.getD (b.1-1) QZ) (ks.getD b.1 QZ) t))\/QC (L a.2 (I (fun(q:E)=>[J q (2*(ks.getD (a.1-1) QZ).n+(ks.getD a.1 QZ).n+260)]) (L a.2 (XV (ks.getD (a.1-1) QZ) (ks.getD a.1 QZ) t)))++[[J (q+WQ (ks.getD (a.1-1) QZ) (ks.getD a.1 QZ) t*(h-j)) (n+(258+(c+e+1))+1)]]) (I (fun(q:E)=>[J q (2*(ks.getD (b.1-1) QZ).n+(ks.getD b.1 QZ).n+260)]) (L b.2 (XV (ks.getD (b.1-1) QZ) (ks.getD b.1 QZ) t))))/\P else K (AV.x F [R 3 (L a.2 (Zu 0 (I (fun(q:E)=>[J q (2*(ks.getD (a.1-1) QZ).n+(ks.getD a.1 QZ).n+260)]) (L a.2 (XV (ks.getD (a.1-1) QZ) (ks.getD a.1 QZ) t)))))]))/\((↑f:E)-(↑d:E)=OfNat.ofNat 0->(∃(a:B×B),((((1<=a.1/\a.1<G ks)/\atR ks t=(XV (ks.getD (a.1-1) QZ) (ks.getD a.1 QZ) t,2*(ks.getD (a.1-1) QZ).n+(ks.getD a.1 QZ).n+260))/\a.2<=m)/\ks.length-a.1=G ks-x)/\0=0/\0=0/\0=0/\Zo O 0 0=Zo O 0 0/\0=0/\a.2=0/\(bif F then if C y.length>C g.length then C y.length else C g.length else if C y.length<C g.length then C y.length else C g.length)=C m/\0=C a.2/\55=55/\d=(ks.getD (a.1-1) QZ).tick/\3=3/\g=lR (ks.getD (a.1-1) QZ).n (ks.getD (a.1-1) QZ).q/\55=55/\f=(ks.getD a.1 QZ).tick/\3=3/\y=lR (ks.getD a.1 QZ).n (ks.getD a.1 QZ).q/\25=25/\False)/\∀(a:B×B),((1<=a.1/\a.1<G ks)/\atR ks t=(XV (ks.getD (a.1-1) QZ) (ks.getD a.1 QZ) t,2*(ks.getD (a.1-1) QZ).n+(ks.getD a.1 QZ).n+260))/\a.2<=m->G ks-a.1=G ks-x->bif decide (C a.2<C m)then(0<=C a.2/\C a.2<C (lR (ks.getD (a.1-1) QZ).n (ks.getD (a.1-1) QZ).q).length)/\∃(q:E)(n:B),ldE (lR (ks.getD (a.1-1) QZ).n (ks.getD (a.1-1) QZ).q) (C a.2).toNat 0 3=A [J q n]/\(0<=C a.2/\C a.2<C (lR (ks.getD a.1 QZ).n (ks.getD a.1 QZ).q).length)/\∃(h:E)(c:B),ldE (lR (ks.getD a.1 QZ).n (ks.getD a.1 QZ).q) (C a.2).toNat 0 3=A [J h c]/\(0<=C a.2/\C a.2<C (lR (ks.getD (a.1-1) QZ).n (ks.getD (a.1-1) QZ).q).length)/\∃(j:E)(e:B),ldE (lR (ks.getD (a.1-1) QZ).n (ks.getD (a.1-1) QZ).q) (C a.2).toNat 0 3=A [J j e]/\c+e+1<=4294967296/\258+(c+e+1)<=4294967296/\n+(258+(c+e+1))+1<=4294967296/\((a.2+1)*40<=140737488355328/\a.2+1<=9223372036854775807)/\∃(b:B×B),((((1<=b.1/\b.1<G ks)/\atR ks t=(XV (ks.getD (b.1-1) QZ) (ks.getD b.1 QZ) t,2*(ks.getD (b.1-1) QZ).n+(ks.getD b.1 QZ).n+260))/\b.2<=m)/\ks.length-b.1=G ks-x/\m-b.2<m-a.2)/\0=0/\0=0/\0=0/\0=0/\a.2+1=b.2/\C m=C m/\M.wrap (C a.2+1)=C b.2/\55=55/\(ks.getD (a.1-1) QZ).tick=(ks.getD (b.1-1) QZ).tick/\3=3/\lR (ks.getD (a.1-1) QZ).n (ks.getD (a.1-1) QZ).q=lR (ks.getD (b.1-1) QZ).n (ks.getD (b.1-1) QZ).q/\55=55/\(ks.getD a.1 QZ).tick=(ks.getD b.1 QZ).tick/\3=3/\lR (ks.getD a.1 QZ).n (ks.getD a.1 QZ).q=lR (ks.getD b.1 QZ).n (ks.getD b.1 QZ).q/\25=25/\WQ (ks.getD (a.1-1) QZ) (ks.getD a.1 QZ) t=WQ (ks.getD (b.1-1) QZ) (ks.getD b.1 QZ) t/\258<=258/\25=25/\3=3/\(L a.2 (I (fun(q:E)=>[J q (2*(ks.getD (a.1-1) QZ).n+(ks.getD a.1 QZ).n+260)]) (L a.2 (XV (ks.getD (a.1-1) QZ) (ks.getD a.1 QZ) t)))++[[J (q+WQ (ks.getD (a.1-1) QZ) (ks.getD a.1 QZ) t*(h-j)) (n+(258+(c+e+1))+1)]]=I (fun(q:E)=>[J q (2*(ks.getD (b.1-1) QZ).n+(ks.getD b.1 QZ).n+260)]) (L b.2 (XV (ks.getD (b.1-1) QZ) (ks.getD b.1 QZ) t))\/QC (L a.2 (I (fun(q:E)=>[J q (2*(ks.getD (a.1-1) QZ).n+(ks.getD a.1 QZ).n+260)]) (L a.2 (XV (ks.getD (a.1-1) QZ) (ks.getD a.1 QZ) t)))++[[J (q+WQ (ks.getD (a.1-1) QZ) (ks.getD a.1 QZ) t*(h-j)) (n+(258+(c+e+1))+1)]]) (I (fun(q:E)=>[J q (2*(ks.getD (b.1-1) QZ).n+(ks.getD b.1 QZ).n+260)]) (L b.2 (XV (ks.getD (b.1-1) QZ) (ks.getD b.1 QZ) t))))/\P else K (AV.x F [R 3 (L a.2 (Zu 0 (I (fun(q:E)=>[J q (2*(ks.getD (a.1-1) QZ).n+(ks.getD a.1 QZ).n+260)]) (L a.2 (XV (ks.getD (a.1-1) QZ) (ks.getD a.1 QZ) t)))))]))else(0<=M.wrap (C (I Qe ks).length-1)/\M.wrap (C (I Qe ks).length-1)<C (I Qe ks).length)/\∃(g:D (D Ch)),ldE (I Qe ks) (M.wrap (C (I Qe ks).length-1)).toNat 1 1=A [R 3 g]/\∃(n:B)(o:D E),g=lR n o/\(n<=1000000/\o.length<=1000000)/\K (AV.x F [R 3 (lR (n+65) o)])):=o4
theorem QjG (ks:D XF)(m:B)(N:B)(t:H)(hc:(YG ks m N)/\((N<=10000/\m<=100000/\1<=G ks/\ks.length<=100000)/\ -4611686018427387904<=t/\t<4611686018427387904))(K:AV->Prop)(q:K (sR (atR ks t).2 (atR ks t).1)):QM (QJQ ks m N t K):=by
 refine⟨?_⟩;rw[QJR];try simp only[Zl,R0,R1,B.le_refl,R4]
 obtain⟨d,⟨hN,hm,hn,At⟩,ht⟩:=hc;obtain⟨a,ha⟩: ∃a,ks[0]? =A a:=⟨_,S o3⟩
 have Z:=Zh ha;simp only[Zj];refine QE (fun h=>by simp only[beq_iff_eq]at h;omega) (fun _=>⟨o3,_,Ut ha,QE (fun h=>⟨o3,_,wW ha,a.n,a.q,rfl,⟨by have:=d.n a Z;omega,by rw[d.len a Z];omega⟩,?_⟩) (fun h=>⟨⟨1,⟨o3,?_⟩,rfl⟩,fun x X=>QE (fun f=> ?_) (fun f=> ?_)⟩)⟩)
 ·have e:atR ks t=(a.q,a.n+65):=QUL ha (R5 h);rw[e]at q;exact q
 ·exact QUM ha (R6 h)
 ·obtain⟨⟨o,L⟩,g⟩:=X;have f:x<G ks:=(j7 f)
  obtain⟨y,hy⟩: ∃y,ks[x]? =A y:=⟨_,S f⟩
  have V:=Zh hy;have hd:ks.drop x=y::ks.drop (x+1):=by
   rw[D.drop_eq_getElem_cons f];rw[S f]at hy;rw[Option.some.inj hy]
  have hZ:=d.tick y V;have n:ks.getD x QZ=y:=by rw[Zk,hy];rfl
  rw[hd]at g;refine⟨o3,_,Ut ((j9 hy)),QE (fun b=> ?_) (fun b=> ?_)⟩
  ·have b:=R5 b;refine⟨x+1,⟨⟨⟨o3,o3⟩,?_⟩,o3⟩,by rw[w64 o3];simp⟩;rw[g,Jo,if_pos b,(o3:x+1-1=x),n]
  ·have b:=R6 b;obtain⟨w,hw⟩: ∃w,ks[x-1]? =A w:=⟨_,S o3⟩
   have U:=Zh hw;have j:ks.getD (x-1) QZ=w:=by rw[Zk,hw];rfl
   have be:=d.tick w U;have u:=d.inc (x-1) w y hw (by rw[(o3:x-1+1=x)];exact hy);rw[Jo,if_neg b,j]at g;have I:M.wrap ((x:H)-1)=((x-1:B):H):=by rw[w64 o3];omega
   rw[I,Zr];refine⟨o3,_,_,dj hw,o3,_,_,dj ((j9 hy)),o3,o3,o3,o3,o3,o3,fun Lm=> ?_,fun W=> ?_⟩
   ·have P:=d.len w U;have Y:=d.len y V;have nw:=d.n w U;have ny:=d.n y V;have li:(XV w y t).length=m:=by unfold XV;rw[ca o3,P]
    refine⟨⟨(x,0),?_⟩,fun z s v=> ?_⟩
    ·simp only[j,n,Qw,P,Y];exact⟨⟨⟨⟨⟨o,f⟩,g⟩,o3⟩,trivial⟩,trivial,o6,rfl,trivial,trivial,trivial,trivial,rfl,o6⟩
    ·obtain⟨i,k⟩:=z;have hi:i=x:=by simp only at s v;omega
     subst hi;simp only[j,n,Qw,P,Y]at s⊢;refine QE (fun c=> ?_) (fun c=> ?_)
     ·have c:k<m:=(j7 c)
      obtain⟨p,hpp⟩: ∃p,w.q[k]? =A p:=⟨_,S o3⟩
      obtain⟨r,hr⟩: ∃r,y.q[k]? =A r:=⟨_,S o3⟩
      refine⟨o3,p,w.n,Xd ((j9 hpp)),o3,r,y.n,Xd ((j9 hr)),o3,p,w.n,Xd ((j9 hpp)),o3,o3,o3,o3,(i,k+1),?_⟩;simp only[j,n];refine⟨⟨⟨⟨⟨o,f⟩,g⟩,o3⟩,trivial,o3⟩,trivial,by rw[w64 o3];simp,trivial,trivial,trivial,trivial,trivial,.inl ?_⟩;rw[Zi (by rw[Zj,Zt];omega),D.take_add_one,show(XV w y t)[k]? =A _ from mh hpp hr,D.map_append];simp only[Option.toList,D.map_cons,D.map_nil];rw[(o3:w.n+(258+(y.n+w.n+1))+1=2*w.n+y.n+260)]
     ·have c:k=m:=(j8 c)
      subst c;rw[D.drop_zero,Zi (by rw[Zj,Zt];omega),Zi o3];rw[g]at q;exact q
   ·exfalso;have:=xO u;have W:(y.tick:E)-(w.tick:E)=0:=W;grind
 ·obtain⟨⟨o,L⟩,g⟩:=X;have f:x=G ks:=(j8 f)
  subst f;obtain⟨z,s⟩: ∃z,ks[G ks-1]? =A z:=⟨_,S o3⟩
  have mz:=Zh s;rw[D.drop_length,show ks.getD (G ks-1) QZ=z by rw[Zk,s];rfl,Jo]at g;rw[g]at q;have I:M.wrap ((G ks:H)-1)=((G ks-1:B):H):=by rw[w64 o3];omega
  rw[I,Zr];exact⟨o3,_,wW s,z.n,z.q,rfl,⟨by have:=d.n z mz;omega,by rw[d.len z mz];omega⟩,q⟩
def fG:Ctr
 | [.x F [.s 2 x],.x F [.v (.int .i64 t)]]=>A fun K=> ∃(a:D XF) (m:B) (N:B),x=a.map Qe/\((YG a m N)/\((N<=10000/\m<=100000/\1<=G a/\a.length<=100000)/\ -4611686018427387904<=t/\t<4611686018427387904))/\(K (sR (atR a t).2 (atR a t).1))
 | _=>O
theorem vA:QH 13 fG:=by
 refine okL func13 fun l a b K h=> ?_
 unfold fG at b;split at b<;>cases b
 obtain⟨d,m,N,rfl,c,h⟩:=h;exact spL (QP QUN UR Qb) QK func13 (QjG _ _ _ _ c K h)
def q6:LC:=(13,fG)::pU
noncomputable def QlW:Qd:=mkT q6 M48 X4
theorem Qfc:QF q6:= .cons vA QUN
def GG (a:ArmV)(x y:XF):Prop:= ∀(i:B) (L:QV) (p q:E),a.za[i]? =A L->x.q[i]? =A p->y.q[i]? =A q->Xr (q-p)<=L.sp*((y.tick-x.tick:H):E)
structure cV (a:ArmV)(ks:D XF):Prop where
 arm:QJ a
 ne:1<=G ks/\ks.length<=60
 keys: ∃N,N<=10000/\YG ks a.za.length N
 fit: ∀k∈ks,Fit a k.q
 slow: ∀(i:B) (x y:XF),ks[i]? =A x->ks[i+1]? =A y->GG a x y
def qB:LC:=q6
theorem QUP:QF qB:=Qfc
def De(a:ArmV):=I QA a.za
def DZ(a b:XF):=lR a.n b.q
def Da(a:ArmV):=a.za.length
def Dc(a b:XF):=a.tick-b.tick
theorem Qam (a:ArmV)(x:XF)(y:XF)(hc:(G a.za<=3/\x.q.length=G a.za/\y.q.length=G a.za)/\(x.n<=100000/\y.n<=100000)/\((-1000000<=x.tick/\x.tick<=1000000)/\(-1000000<=y.tick/\y.tick<=1000000)))(K:AV->Prop)(hK:(GG a x y->K (.x F [.v (.bool Q)]))/\(¬GG a x y->K (.x F [.v (.bool F)]))):QM (QN (mkT qB M48 X4) (oF f37) (fun _=> .inv ⟨B,fun i=>⟨[(4,.x F [.p 4 0]),(5,.x F [.p 5 0]),(7,.x F [.p 7 0]),(17,.x F [.s 16 (a.za.map QA)]),(18,iA .i64 a.za.length),(19,iA .i64 i)],[(4,.box 55 (Qe x)),(5,.box 55 (Qe y)),(7,.box 25 [.r ((y.tick-x.tick:H):E) 64])]⟩,fun i=>i<=G a.za/\ ∀j L p q,j<i->a.za[j]? =A L->x.q[j]? =A p->y.q[j]? =A q->Xr (q-p)<=L.sp*((y.tick-x.tick:H):E),fun i=>G a.za-i,fun _=>0⟩) f37 [JV a,.x Q (Qe x),.x Q (Qe y)] K):=by
 refine HV ((-9223372036854775808<=M.wrap (Dc y x)/\M.wrap (Dc y x)<9223372036854775808)/\(∃(c:B),((c<=Da a/\∀(v:B)(u:QV)(z w:E),v<c->a.za[v]? =A u->x.q[v]? =A z->y.q[v]? =A w->Xr (w-z)<=u.sp*↑(Dc y x))/\Df)/\0=0/\0=0/\0=0/\16=16/\De a=De a/\Db (De a)=C (Da a)/\0=C c/\55=55/\x.tick=x.tick/\3=3/\DZ x x=DZ x x/\55=55/\y.tick=y.tick/\3=3/\DZ y y=DZ y y/\25=25/\(↑(M.wrap (Dc y x)):E)=(↑(Dc y x):E)/\64<=64/\P)/\∀(c:B),(c<=Da a/\∀(t:B)(r:QV)(m l:E),t<c->a.za[t]? =A r->x.q[t]? =A m->y.q[t]? =A l->Xr (l-m)<=r.sp*↑(Dc y x))->Df->bif decide (C c<C (Da a))then(0<=C c/\C c<Db (De a))/\∃(q:E)(n:B)(hZ:E)(At:B)(ja:E)(Lm:B)(W:E)(I:B)(jb:E)(be:B)(ys:D (D Ch)),Dk (De a) c 16 [J q n,J hZ At,J ja Lm,J W I,J jb be,R 6 ys]/\(0<=C c/\C c<Db (DZ y y))/\∃(q:E)(n:B),Dk (DZ y y) c 3 [J q n]/\(0<=C c/\C c<Db (DZ x x))/\∃(X:E)(f:B),Dk (DZ x x) c 3 [J X f]/\n+f+1<=4294967296/\n+f+1<=4294967296/\I+64<=4294967296/\n+f+1+(I+64)<=4294967296/\bif decide (YY (Xr (q-X)) (W*↑(Dc y x))>0)then Dd K (T (Zn F))else∃(Y:B),((Y<=Da a/\∀(k:B)(i:QV)(h g:E),k<Y->a.za[k]? =A i->x.q[k]? =A h->y.q[k]? =A g->Xr (g-h)<=i.sp*↑(Dc y x))/\Df/\Da a-Y<Da a-c)/\0=0/\0=0/\0=0/\16=16/\De a=De a/\C (Da a)=C (Da a)/\Dl c=C Y/\55=55/\x.tick=x.tick/\3=3/\DZ x x=DZ x x/\55=55/\y.tick=y.tick/\3=3/\DZ y y=DZ y y/\25=25/\(↑(Dc y x):E)=(↑(Dc y x):E)/\64<=64/\P else Dd K (T (Zn Q))) ?_
 delta De DZ Da Db Dd Dc Df Dk Dl
 try simp only[Zl,R0,R1,B.le_refl,R4]
 obtain⟨⟨h0,h1,h2⟩,⟨h3,h4⟩,h5⟩:=hc;obtain⟨k1,k2⟩:=hK;have e1:M.wrap (y.tick-x.tick)=y.tick-x.tick:=w64 o3;simp only[e1,Zj,Qw];refine⟨o3,⟨0,⟨o3,fun j L p q hj=>o3⟩,trivial,rfl,trivial⟩,fun i hi=>QE (fun U=> ?_) (fun U=>k1 fun j L p q N d V=>hi.2 j L p q ?_ N d V)⟩
 ·have U:i<G a.za:=(j7 U)
  obtain⟨L,N⟩: ∃L,a.za[i]? =A L:=⟨_,S U⟩
  obtain⟨q,V⟩: ∃q,y.q[i]? =A q:=⟨_,S o3⟩
  obtain⟨p,d⟩: ∃p,x.q[i]? =A p:=⟨_,S o3⟩
  refine⟨o3,_,_,_,_,_,_,_,_,_,_,_,JW ((j9 N)),o3,_,_,Xd ((j9 V)),o3,_,_,Xd ((j9 d)),o3,o3,o3,o3,QE (fun h=>k2 fun hs=> ?_) (fun h=>⟨i+1,⟨⟨o3,fun j b p' q' hj Z o s=> ?_⟩,o3⟩,by rw[w64 o3];simp⟩)⟩
  ·have:=(Jh _ _).2 (hs i L p q N d V);have:=R5 h;omega
  ·by_cases e:j=i
   ·subst e;rw[N]at Z;cases Z
    rw[d]at o;cases o
    rw[V]at s;cases s
    exact(Jh _ _).1 ((j8 h))
   ·exact hi.2 j b p' q' o3 Z o s
 ·have U:=R6 U;have:=(D.getElem?_eq_some_iff.1 N).1;omega
def dR:Ctr
 | [.x Q c,.x Q b,.x Q d]=>A fun K=> ∃(a:ArmV) (x:XF) (y:XF),c=Qp a/\b=Qe x/\d=Qe y/\((G a.za<=3/\x.q.length=G a.za/\y.q.length=G a.za)/\(x.n<=100000/\y.n<=100000)/\((-1000000<=x.tick/\x.tick<=1000000)/\(-1000000<=y.tick/\y.tick<=1000000)))/\((GG a x y->K (.x F [.v (.bool Q)]))/\(¬GG a x y->K (.x F [.v (.bool F)])))
 | _=>O
theorem uW:QH 37 dR:=by
 refine okL func37 fun l b c K h=> ?_
 unfold dR at c;split at c<;>cases c
 obtain⟨a,x,y,rfl,rfl,rfl,d,h⟩:=h;exact spL (QP QUP UR Qb) QK func37 (Qam _ _ _ d K h)
def mj:LC:=(37,dR)::qB
theorem Qff:QF mj:= .cons uW QUP
def DX(a:D XF):=I Qe a
def DY(a:H):=T (Zf M a)
def Dg(a b c d e f:ArmV):D Ch:=[T (Zp a.name),J b.x 63,J c.y 63,T (Zn d.half),J e.t 63,R 16 (De f)]
def Di(a:B):=M.wrap (C a-1)
def Dm(a b c d e f g h:ArmV):=a.y=b.y/\63<=63/\c.half=d.half/\e.t=f.t/\63<=63/\16=16/\De g=De h/\P
theorem QUQ (a:ArmV)(ks:D XF)(hc:(cV a ks))(K:AV->Prop)(hK:K (iA .i64 0)):QM (QN (mkT mj M48 X4) (oF f11) (fun _=> .inv ⟨B,fun i=>⟨[(1,bp ks),(2,.x F [.p 2 0]),(20,bp ks),(21,iA .i64 ks.length),(22,iA .i64 i)],[(2,.box 34 (Qp a))]⟩,fun i=>i<=G ks,fun i=>G ks-i,fun _=>0⟩) f11 [JV a,bp ks] K):=by
 refine HV (∃(g:ArmV),Dg a a a a a a=Dg g g g g g g/\QJ g/\bif Db (DX ks) ==0 then Dd K (DY 14)else bif decide (Db (DX ks)>60)then Dd K (DY 2)else(∃(x:B),(x<=G ks/\Df)/\2=2/\DX ks=DX ks/\0=0/\2=2/\DX ks=DX ks/\Db (DX ks)=C ks.length/\0=C x/\34=34/\a.name=a.name/\a.x=a.x/\63<=63/\Dm a a a a a a a a)/\∀(v:B),v<=G ks->Df->bif decide (C v<C ks.length)then(0<=C v/\C v<Db (DX ks))/\∃(d:H)(Z:D (D Ch)),Dk (DX ks) v 2 [DY d,R 3 Z]/\bif decide (d<0)then Dd K (DY 1)else bif decide (d>2000)then Dd K (DY 1)else∃(c:ArmV)(n:B)(I:D E),Dg a a a a a a=Dg c c c c c c/\Z=lR n I/\(QJ c/\n<=1000000/\I.length=Da c)/\((∀(i:B)(L:QV)(q:E),c.za[i]? =A L->I[i]? =A q->L.lo<=q/\q<=L.hi)->bif C v ==0 then∃(u:B),(u<=G ks/\Df/\ks.length-u<G ks-v)/\2=2/\DX ks=DX ks/\0=0/\2=2/\DX ks=DX ks/\C ks.length=C ks.length/\Dl v=C u/\34=34/\a.name=a.name/\a.x=a.x/\63<=63/\Dm a a a a a a a a else(0<=Di v/\Di v<Db (DX ks))/\∃(o:H),ldE (DX ks) (Di v).toNat 0 1=A [DY o]/\bif decide (d<=o)then Dd K (DY 9)else(0<=Di v/\Di v<Db (DX ks))/\∃(r:H)(j:D (D Ch)),ldE (DX ks) (Di v).toNat 0 2=A [DY r,R 3 j]/\∃(b:ArmV)(f y:XF),Dg a a a a a a=Dg b b b b b b/\[DY r,R 3 j]=[DY f.tick,R 3 (DZ f f)]/\[DY d,R 3 Z]=[DY y.tick,R 3 (DZ y y)]/\((Da b<=3/\f.q.length=Da b/\y.q.length=Da b)/\(f.n<=100000/\y.n<=100000)/\(-1000000<=f.tick/\f.tick<=1000000)/\ -1000000<=y.tick/\y.tick<=1000000)/\((∀(i:B)(L:QV)(p q:E),b.za[i]? =A L->f.q[i]? =A p->y.q[i]? =A q->Xr (q-p)<=L.sp*↑(Dc y f))->∃(z:B),(z<=G ks/\Df/\ks.length-z<G ks-v)/\2=2/\DX ks=DX ks/\0=0/\2=2/\DX ks=DX ks/\C ks.length=C ks.length/\Dl v=C z/\34=34/\a.name=a.name/\a.x=a.x/\63<=63/\Dm a a a a a a a a)/\(¬GG b f y->Dd K (DY 19)))/\(¬Fit c I->Dd K (DY 17))else Dd K (DY 0)) ?_
 delta DX De DY DZ Da Db Dd Dc Df Dg Di Dk Dl Dm
 try simp only[Zl,R0,R1,B.le_refl,R4]
 obtain⟨U,hn,⟨N,hN,m⟩,hf,hs⟩:=hc;have hl:=U.n;simp only[Zj];refine⟨a,rfl,U,QE (fun h=>by simp only[beq_iff_eq]at h;omega) (fun _=>QE (fun h=>(j7 h)) (fun _=>⟨⟨0,o3,trivial,rfl⟩,fun x hx=>QE (fun W=> ?_) (fun _=>hK)⟩))⟩;have W:x<G ks:=(j7 W)
 obtain⟨y,hy⟩: ∃y,ks[x]? =A y:=⟨_,S W⟩
 have t:=Zh hy;have ht:=m.tick y t;have be:=m.n y t;have s:=m.len y t;refine⟨o3,_,_,dj ((j9 hy)),QE (fun h=>(j7 h)) (fun _=>QE (fun h=>(j7 h)) (fun _=>⟨a,y.n,y.q,rfl,rfl,⟨U,o3,s⟩,fun _=>QE (fun P=>⟨x+1,⟨o3,o3⟩,by rw[w64 o3];simp⟩) (fun P=> ?_),fun h=>absurd (hf y t) h⟩))⟩;have P:x≠0:=fun e=>by subst e;simp at P
 obtain⟨w,hw⟩: ∃w,ks[x-1]? =A w:=⟨_,S o3⟩
 have Y:=Zh hw;have At:=m.inc (x-1) w y hw (by rw[(o3:x-1+1=x)];exact hy);have X:=hs (x-1) w y hw (by rw[(o3:x-1+1=x)];exact hy);have hZ:=m.tick w Y;have Lm:=m.n w Y;have V:=m.len w Y;have e1:M.wrap ((x:H)-1)=((x-1:B):H):=by rw[w64 o3];omega
 rw[e1,Zr];refine⟨o3,_,Ut hw,QE (fun h=>(j7 h)) (fun _=>⟨o3,_,_,dj hw,a,w,y,rfl,rfl,rfl,⟨⟨o3,V,s⟩,⟨o3,o3⟩,⟨o3,o3⟩,o3,o3⟩,fun _=>⟨x+1,⟨o3,o3⟩,by rw[w64 o3];simp⟩,fun h=>absurd X h⟩)⟩
def US:Ctr
 | [.x Q x,.x F [.s 2 y]]=>A fun K=> ∃(a:ArmV) (b:D XF),x=Qp a/\y=b.map Qe/\((cV a b))/\(K (iA .i64 0))
 | _=>O
theorem QFF:QH 11 US:=by
 refine okL func11 fun l b c K h=> ?_
 unfold US at c;split at c<;>cases c
 obtain⟨a,e,rfl,rfl,d,h⟩:=h;exact spL (QP Qff UR Qb) QK func11 (QUQ _ _ d K h)
def Qky:LC:=(11,US)::mj
noncomputable def QlX:Qd:=mkT Qky M48 X4
end Go.Proofs
