/- SinSpan, cut, Spread, Boxes, spans, between. -/
import Derived.Test.YtmpfaflhpioaiaaGreatDoorPB
open _root_ renaming Nat → A, List → C, Rat → E, Int → B, True → J
open Bool renaming false → D, true → I
open Option renaming some → F
open Int renaming ofNat → G, ofNat_eq_natCast → Zk
open Go.Eng.Ch renaming r → H, v → Zi
open List renaming length → Sj, map → Ze, getElem?_eq_getElem → Zh, take_of_length_le → Zj
open Go.IntKind renaming i64 → Za
open Go.Value renaming int → Zd
open ByteArray renaming mk → Zb
open Array renaming mk → Zf
set_option maxHeartbeats 1000000
set_option maxRecDepth 100000
namespace Go.Proofs
open Go Go.Eng Tryz
def spN (n:A)(s:Sp):C Ch:=[.r s.lo n,.r s.hi n]
def WG (t:Sp):A->Sp
 | 0=>KQ t
 | 1=>WE t (KQ t) (-1)
 | _=>Wm t
def Qjn:Blk:= .row 3 1 (ints [-1,1])
def QRB (l:E)(a:A)(h:E)(b:A):LI:=fun _=> .inv ⟨A,fun i=>⟨[(1,.x D [.p 1 0]),(2,.x D [.p 2 0]),(3,.x D [.p 3 0]),(21,.x D [.w 500 0 2]),(22,iA .i64 2),(23,iA .i64 i)],[(1,.box 113 [.r l a,.r h b]),(2,.box 113 (Xm++Xm)),(3,.box 113 (spN (4*(a+b)+400) (WG ⟨l,h⟩ i))),(500,Qjn)]⟩,fun i=>i<=2,fun i=>2-i,fun _=>0⟩
def loN (n:A)(l:LoV):C Ch:=[.r l.x.lo n,.r l.x.hi n,.r l.y.lo n,.r l.y.hi n,.r l.c.lo n,.r l.c.hi n,.r l.s.lo n,.r l.s.hi n]
def lb:A->A
 | 0=>700
 | i+1=>4*lb i+2000000
structure SpX where
 ls:C LoV
 l:LoV
 b:FrV
 i:A
structure SpI (a:ArmV)(ts:C Sp)(qs:C E)(x:SpX):Prop where
 n:x.ls.length=x.i
 le:x.i<=a.za.length
 eq:x.ls++XX x.l (a.za.drop x.i) (ts.drop x.i)=XX (Xz a) a.za ts
 has:x.l.has x.b
 qs:HasQ (ts.drop x.i) (qs.drop x.i)
def QMQ (a:ArmV)(B:A)(t:C Sp)(q:C E):LI:=fun _=> .inv ⟨SpX,fun x=>⟨[(1,.x D [.s 6 (t.map (spN B))]),(2,.x D [.p 2 0]),(8,.x D [.p 8 0]),(9,.x D [.w 500 0 x.i]),(43,.x D [.s 16 (a.za.map QA)]),(44,iA .i64 a.za.length),(45,iA .i64 x.i)],
 [(2,.box 34 (Qp a)),(8,.box 181 (loN (lb x.i) x.l)),(500,.row 181 24 (x.ls.map (loN 42100000)))]⟩,SpI a t q,fun x=>Sj a.za-x.i,fun _=>0⟩
def Kz (ps a:C E):C Sp:=C.zipWith (fun p q=>⟨Qx p q,Q6 p q⟩) ps a
variable{i:A}
theorem VJ {b:Type}{l:C b}{a:b}(h:l[i]? =F a):l.drop i=a::l.drop (i+1):=by
 obtain⟨c,e⟩:=C.getElem?_eq_some_iff.1 h
 rw[C.drop_eq_getElem_cons c,e]
theorem nl (p:E):Q6 p p=p:=by unfold Q6;split<;>rfl
theorem QVW (t:Sp)(i:A):(WG t i).lo<=(WG t i).hi:=by
 have h:(KQ t).has (Q3 D t.lo):=GS (Xh _);have a:=h.sub (Ko t (KQ t) (-1));have b:=a.sub (Ko t (WE t (KQ t) (-1)) 1);match i with
 | 0=>exact h.ok
 | 1=>exact a.ok
 | _+2=>exact b.ok
theorem QMR (t:Sp)(i:A)(d:B)(h:([-1,1]:C B)[i]? =F d):WG t (i+1)=WE t (WG t i) (d:E):=by
 match i,h with
 | 0,h=>cases h;rfl
 | 1,h=>cases h;rfl
theorem ZD {n:A}{a:C Sp}{t:Sp}(h:a[i]? =F t):ldE (a.map (spN n)) i 0 6=F [.r t.lo n,.r t.hi n]:=by
 simp only[ldE,C.getElem?_map,h];rfl
theorem Qjo(h:i<=2):lb i<=10011200:=by
 have:i=0\/i=1\/i=2:=o3
 rcases this with e | e | e<;>rw[e]<;>decide
theorem Qgq(h:i<=3):lb i<=42100000:=by
 have:i=0\/i=1\/i=2\/i=3:=o3
 rcases this with e | e | e | e<;>rw[e]<;>decide
theorem Qgr (N:A)(l:C LoV):QC (l.map (loN N)) (l.map (loN N)):=by
 refine⟨rfl,fun i x y h a=> ?_⟩;rw[h]at a;cases a
 simp only[C.getElem?_map,Option.map_eq_some_iff]at h;obtain⟨q,_,rfl⟩:=h;have r:=A.le_refl N;exact⟨.r r (.r r (.r r (.r r (.r r (.r r (.r r (.r r .nil))))))),rfl⟩
theorem QbI {n1 n2 n b c d e f N:A}(a:C LoV)(l:LoV)(h1:n1<=N)(h:n2<=N)(g:n<=N)(j:b<=N)(k:c<=N)(m:d<=N)(o:e<=N)(p:f<=N):
  QC (a.map (loN N)++[[.r l.x.lo n1,.r l.x.hi n2,.r l.y.lo n,.r l.y.hi b,.r l.c.lo c,.r l.c.hi d,.r l.s.lo e,.r l.s.hi f]]) ((a++[l]).map (loN N)):=by
 rw[C.map_append];exact tS (Qgr N a) ⟨.r h1 (.r h (.r g (.r j (.r k (.r m (.r o (.r p .nil))))))),rfl⟩
theorem QFS {ps q:C E}(h:ps.length=Sj q):(Kz ps q).length=Sj ps:=by simp[Kz,h]
theorem tO {ps a:C E}{p q:E}(h:ps[i]? =F p)(b:a[i]? =F q):(Kz ps a)[i]? =F ⟨Qx p q,Q6 p q⟩:=by
 simp[Kz,C.getElem?_zipWith,h,b]
def Ew(a b:A):=4*(a+b)+400
def Ey(a b:E)(c:A):=WG (Sp.mk a b) c
def Ez:C (C Ch):=[[Zi (Zd Za (-1))],[Zi (Zd Za 1)]]
def E0:=Zb (Zf [])=Zb (Zf [])
def E2:=113=113
def E9:=OfNat.ofNat 0=0
def FC(a b c:B):=a<=b/\c<9223372036854775808
def FB(a b:E):=Q3 D (Q6 a b)
def FD(a b:E):=Q3 D (Qx a b)
def FE:B:=-9223372036854775808
theorem QMS (l:E)(a:A)(h:E)(b:A)(e:(a+b<=100000000)/\(l<=h))(K:AV->Prop)(j:K (.x I (spN (4*(a+b)+400) (Wm ⟨l,h⟩)))):QM (QN Qjm (oF f143) (QRB l a h b) f143 [.x I [.r l a,.r h b]] K):=by
 refine HV ((a+b+a+b<=4294967290/\l<=h/\l<=h)/\max a a<=1000000000/\max a a<=500000000/\∀(v:A),v<=4*max a a+400->v<=2000000000/\max b b<=1000000000/\max b b<=500000000/\∀(u:A),u<=4*max b b+400->u<=2000000000/\(v+v+u+u<=4294967290/\FD l l<=FD l l/\FB h h<=FB h h)/\(∃(x:A),(x<=2/\E9)/\0=0/\0=0/\0=0/\0=0/\2=2/\(2:B)=2/\0=G x/\E2/\Qx l l=l/\max a a<=a/\Q6 h h=h/\max b b<=b/\E2/\D=D/\E0/\E0/\D=D/\E0/\E0/\E2/\Qx (FD l l) (FB h h)=(Ey l h x).lo/\max v u<=Ew a b/\Q6 (FD l l) (FB h h)=(Ey l h x).hi/\max v u<=Ew a b/\3=3/\1=1/\(Ez=Ez\/QC Ez Ez)/\J)/\∀(z:A),z<=2->E9->bif decide (G z<2)then(0<=G z/\G z<2)/\∃(d:B),ldE Ez (0+(G z).toNat) 0 1=F [Zi (Zd Za d)]/\FC FE d d/\(a+b+64<=4294967290/\l<=h)/\bif WD (Sp.mk l h) ↑d then 64<=2000000000/\(Ew a b+Ew a b+64+64<=4294967290/\(Ey l h z).lo<=(Ey l h z).hi/\(↑d:E)<=(↑d:E))/\∃(y:A),(y<=2/\E9/\2-y<2-z)/\0=0/\0=0/\0=0/\0=0/\2=2/\(2:B)=2/\Za.wrap (G z+1)=G y/\E2/\l=l/\a<=a/\h=h/\b<=b/\E2/\D=D/\E0/\E0/\D=D/\E0/\E0/\E2/\Qx (Ey l h z).lo ↑d=(Ey l h y).lo/\max (Ew a b) 64<=Ew a b/\Q6 (Ey l h z).hi ↑d=(Ey l h y).hi/\max (Ew a b) 64<=Ew a b/\3=3/\1=1/\(Ez=Ez\/QC Ez Ez)/\J else∃(w:A),(w<=2/\E9/\2-w<2-z)/\0=0/\0=0/\0=0/\0=0/\2=2/\(2:B)=2/\Za.wrap (G z+1)=G w/\E2/\l=l/\a<=a/\h=h/\b<=b/\E2/\D=D/\E0/\E0/\D=D/\E0/\E0/\E2/\(Ey l h z).lo=(Ey l h w).lo/\Ew a b<=Ew a b/\(Ey l h z).hi=(Ey l h w).hi/\Ew a b<=Ew a b/\3=3/\1=1/\(Ez=Ez\/QC Ez Ez)/\J else K (AV.x I [H (Ey l h z).lo (Ew a b),H (Ey l h z).hi (Ew a b)])) ?_
 delta Ew Ey Ez E0 E2 E9 FC FB FD FE
 try simp only[Zk,R0,R1,A.zero_add,A.le_refl,R4,R2]
 refine⟨⟨o3,e.2,e.2⟩,o3,o3,fun n g=>⟨o3,o3,o3,fun p k=>⟨o3,⟨o3,E.le_refl,E.le_refl⟩,⟨0,o3,rfl,YR l,o3,nl h,o3,?_,o3,?_,o3⟩,fun x m=>QE (fun c=> ?_) (fun c=> ?_)⟩⟩⟩
 ·rw[YR,nl];rfl
 ·rw[YR,nl];rfl
 ·have c:x<2:=(j7 c)
  obtain⟨d,hd,hdb⟩: ∃d:B,([-1,1]:C B)[x]? =F d/\ -1<=d/\d<=1:=by
   have:x=0\/x=1:=o3
   rcases this with rfl | rfl
   ·exact⟨-1,rfl,o3⟩
   ·exact⟨1,rfl,o3⟩
  have g:=QMR ⟨l,h⟩ x d hd;have o:=QVW ⟨l,h⟩ x;refine⟨o3,d,QUX (l:=[-1,1]) ((j9 hd)),o3,⟨o3,e.2⟩,QE (fun f=>⟨o3,⟨o3,o,E.le_refl⟩,x+1,⟨o3,o3⟩,by rw[w64 o3];simp,?_,o3,?_,o3⟩) (fun f=>⟨x+1,⟨o3,o3⟩,by rw[w64 o3];simp,?_,?_⟩)⟩<;>rw[g]<;>unfold WE<;>rw[f]<;>rfl
 ·have c:x=2:=(j8 c)
  subst c;exact j
def Hk:Ctr
 | [.x I [.r l a,.r h b]]=>F fun K=>((a+b<=100000000)/\(l<=h))/\(K (.x I (spN (4*(a+b)+400) (Wm ⟨l,h⟩))))
 | _=>none
theorem QJh:QH 143 Hk:=by
 refine okL func143 fun l T a K h=> ?_
 unfold Hk at a;split at a<;>cases a
 obtain⟨b,h⟩:=h;exact spL Qgp QK func143 (QMS _ _ _ _ b K h)
def nt:LC:=(143,Hk)::pE
theorem uo:QF nt:= .cons QJh xf
theorem Qgt (_hc:J)(K:AV->Prop)(h:K (.x I [.r ((-1:B):E) 64,.r ((1:B):E) 64])):QM (QN (mkT nt M79 X4) (oF f172) noL f172 [] K):=by
 refine HV (FC (FE:B) (-1) (-1:B)/\FC (FE:B) 1 (1:B)/\K (AV.x I [H ↑(-1:B) 64,H ↑(1:B) 64])) ?_
 delta FC FE
 try simp only[Zk,R0,R1,A.zero_add,A.le_refl,R4,R2,R3]
 exact⟨o3,o3,h⟩
def nL:Ctr
 | []=>F fun K=>(J)/\(K (.x I [.r ((-1:B):E) 64,.r ((1:B):E) 64]))
 | _=>none
theorem QbJ:QH 172 nL:=by
 refine okL func172 fun l T a K h=> ?_
 unfold nL at a;split at a<;>cases a
 obtain⟨b,h⟩:=h;exact spL (QP uo Qq Qb) QK func172 (Qgt  b K h)
def qv:LC:=(172,nL)::nt
theorem QVY:QF qv:= .cons QbJ uo
abbrev ui (l:E)(a:A)(h:E)(b:A)(K:AV->Prop):Prop:=((a+b<=100000000)/\(l<=h))/\(∀(s:Sp) n m,s=GR ⟨l,h⟩->n<=a+200->m<=b+200->K (.x I [.r s.lo n,.r s.hi m]))
theorem Qgv (l:E)(a:A)(h:E)(b:A)(K:AV->Prop)(c:ui l a h b K):QM (QN (mkT qv M79 X4) (oF f144) noL f144 [.x I [.r l a,.r h b]] K):=by
 obtain⟨d,c⟩:=c;refine HV (((a<=1000000000/\b<=1000000000)/\l<=h/\FC (1:B) 1000000 (1000000:B))/\∀(n m:A),n<=a+200->m<=b+200->J/\n+64<=4294967296/\J/\m+64<=4294967296/\K (AV.x I [H (Q6 (Vp l 1000000) ↑(-1:B)) (max n 64),H (Qx (upR h 1000000) ↑(1:B)) (max m 64)])) ?_
 delta FC
 try simp only[R0]
 exact⟨⟨⟨o3,o3⟩,d.2,o3,o3⟩,fun n m f e=>⟨o3,o3,c (GR ⟨l,h⟩) _ _ rfl o3 o3⟩⟩
def gk:Ctr
 | [.x I [.r l a,.r h b]]=>F fun K=>ui l a h b K
 | _=>none
theorem QbK:QH 144 gk:=by
 refine okL func144 fun l T h K a=> ?_
 unfold gk at h;split at h<;>cases h
 exact spL (QP QVY Qq Qb) QK func144 (Qgv _ _ _ _ K a)
def nf:LC:=(144,gk)::qv
theorem xy:QF nf:= .cons QbK QVY
abbrev QFU (a:ArmV)(B:A)(t:C Sp)(q:C E)(K:AV->Prop):Prop:=((QJ a)/\(B<=100000/\t.length=Sj a.za)/\(HasQ t q))/\(∀(b:C LoV) (l:LoV),b++[l]=XX (Xz a) a.za t->Sj b=Sj a.za->K (.t [(D,[.s 24 (b.map (loN 42100000)++[loN (lb a.za.length) l])]),(D,[.v (.int .i64 0)])]))
def Ev(a:SpX):=lb a.i
def E1(a:ArmV):=Ze QA a.za
def E3(a:A)(b:C Sp):=Ze (spN a) b
def E5(a:Sp)(b:SpX):=H a.hi (Ev b)
def E4(a:Sp)(b:SpX):=H a.lo (Ev b)
def E7(a b c d e:A)(f g h i:Sp):=a+b+c+d<=e/\f.lo<=g.hi/\h.lo<=i.hi
def E6(a b:E):=Wm (Sp.mk a b)
def E8(a:ArmV):=a.za.length
def FA(a:SpX):=Ze (loN 42100000) a.ls
def FG:=Value.slice none 0 0
def FF(a b c d e f:ArmV):C Ch:=[Zi (Value.string a.name),H b.x 63,H c.y 63,Zi (Value.bool d.half),H e.t 63,Ch.s 16 (E1 f)]
theorem QRC (a:ArmV)(B:A)(U:C Sp)(qs:C E)(K:AV->Prop)(hK:QFU a B U qs K):QM (QN (mkT nf M79 X4) (oF f105) (QMQ a B U qs) f105 [JV a,.x D [.s 6 (U.map (spN B))]] K):=by
 obtain⟨hc,hK⟩:=hK;refine HV (∃(V:ArmV),FF a a a a a a=FF V V V V V V/\(QJ V/\G (E3 B U).length=G (E8 V))/\63<=2000000000/\63<=2000000000/\63<=500000000/\∀(v:A),v<=652->v<=2000000000/\63<=500000000/\∀(u:A),u<=652->u<=2000000000/\(∃(x:SpX),(SpI a U qs x/\E9)/\6=6/\E3 B U=E3 B U/\0=0/\0=0/\FG=FG/\0=0/\x.i=0/\16=16/\E1 a=E1 a/\G (E1 a).length=G (E8 a)/\0=G x.i/\34=34/\a.name=a.name/\a.x=a.x/\63<=63/\a.y=a.y/\63<=63/\a.half=a.half/\a.t=a.t/\63<=63/\16=16/\E1 a=E1 a/\181=181/\a.x=x.l.x.lo/\63<=Ev x/\a.x=x.l.x.hi/\63<=Ev x/\a.y=x.l.y.lo/\63<=Ev x/\a.y=x.l.y.hi/\63<=Ev x/\Xy a.half a.t=x.l.c.lo/\v<=Ev x/\Xy a.half a.t=x.l.c.hi/\v<=Ev x/\Q3 a.half a.t=x.l.s.lo/\u<=Ev x/\Q3 a.half a.t=x.l.s.hi/\u<=Ev x/\FA x=[]/\J)/\∀(x:SpX),SpI a U qs x->E9->bif decide (G x.i<G (E8 a))then(0<=G x.i/\G x.i<G (E1 a).length)/\∃(q:E)(n:A)(jh:E)(jd:A)(ji:E)(je:A)(jj:E)(jf:A)(jk:E)(jg:A)(ys:C (C Ch)),ldE (E1 a) (G x.i).toNat 0 16=F [H q n,H jh jd,H ji je,H jj jf,H jk jg,Ch.s 6 ys]/\(0<=G x.i/\G x.i<G (E3 B U).length)/\∃(be:E)(At:A)(hZ:E)(Lm:A),ldE (E3 B U) (G x.i).toNat 0 6=F [H be At,H hZ Lm]/\(0<=G x.i/\G x.i<G (E3 B U).length)/\∃(S:E)(Q:A)(T:E)(R:A),ldE (E3 B U) (G x.i).toNat 0 6=F [H S Q,H T R]/\(At+Lm<=200000000/\be<=hZ)/\∀(z:Sp)(w r:A),z=Tt (Sp.mk be hZ)->w<=Ew At Lm->r<=Ew At Lm->(Q+R<=100000000/\S<=T)/\E7 (Ev x) (Ev x) w r 2000000000 x.l.c x.l.c z z/\∀(p:Sp)(l:A),p=JH (Sp.mk x.l.c.lo x.l.c.hi) (Sp.mk z.lo z.hi)->l<=max (Ev x) (Ev x)+max w r->E7 (Ev x) (Ev x) (Ew Q R) (Ew Q R) 2000000000 x.l.s x.l.s (E6 S T) (E6 S T)/\∀(k:Sp)(j:A),k=JH (Sp.mk x.l.s.lo x.l.s.hi) (Sp.mk (E6 S T).lo (E6 S T).hi)->j<=max (Ev x) (Ev x)+max (Ew Q R) (Ew Q R)->E7 l l j j 4294967290 p p k k/\(l+j+1+(l+j+1)<=100000000/\p.lo-k.hi<=p.hi-k.lo)/\∀(h:Sp)(g f:A),h=GR (Sp.mk (p.lo-k.hi) (p.hi-k.lo))->g<=l+j+1+200->f<=l+j+1+200->E7 (Ev x) (Ev x) w r 2000000000 x.l.s x.l.s z z/\∀(e:Sp)(d:A),e=JH (Sp.mk x.l.s.lo x.l.s.hi) (Sp.mk z.lo z.hi)->d<=max (Ev x) (Ev x)+max w r->E7 (Ev x) (Ev x) (Ew Q R) (Ew Q R) 2000000000 x.l.c x.l.c (E6 S T) (E6 S T)/\∀(c:Sp)(b:A),c=JH (Sp.mk x.l.c.lo x.l.c.hi) (Sp.mk (E6 S T).lo (E6 S T).hi)->b<=max (Ev x) (Ev x)+max (Ew Q R) (Ew Q R)->E7 d d b b 4294967290 e e c c/\(d+b+1+(d+b+1)<=100000000/\e.lo+c.lo<=e.hi+c.hi)/\∀(o:Sp)(m s:A),o=GR (Sp.mk (e.lo+c.lo) (e.hi+c.hi))->m<=d+b+1+200->s<=d+b+1+200->((x.i+1)*320<=140737488355328/\x.i+1<=9223372036854775807)/\n<=2000000000/\(n+n+g+f<=2000000000/\q<=q/\h.lo<=h.hi)/\∀(y:Sp)(M:A),y=JH (Sp.mk q q) (Sp.mk h.lo h.hi)->M<=max n n+max g f->E7 (Ev x) (Ev x) M M 4294967290 x.l.x x.l.x y y/\(n+n+m+s<=2000000000/\q<=q/\o.lo<=o.hi)/\∀(N:Sp)(O:A),N=JH (Sp.mk q q) (Sp.mk o.lo o.hi)->O<=max n n+max m s->E7 (Ev x) (Ev x) O O 4294967290 x.l.y x.l.y N N/\∃(P:SpX),(SpI a U qs P/\E9/\E8 a-P.i<E8 a-x.i)/\6=6/\E3 B U=E3 B U/\0=0/\0=0/\0=0/\x.i+1=P.i/\16=16/\E1 a=E1 a/\G (E8 a)=G (E8 a)/\Za.wrap (G x.i+1)=G P.i/\34=34/\a.name=a.name/\a.x=a.x/\63<=63/\a.y=a.y/\63<=63/\a.half=a.half/\a.t=a.t/\63<=63/\16=16/\E1 a=E1 a/\181=181/\x.l.x.lo+y.lo=P.l.x.lo/\Ev x+M+1<=Ev P/\x.l.x.hi+y.hi=P.l.x.hi/\Ev x+M+1<=Ev P/\x.l.y.lo+N.lo=P.l.y.lo/\Ev x+O+1<=Ev P/\x.l.y.hi+N.hi=P.l.y.hi/\Ev x+O+1<=Ev P/\h.lo=P.l.c.lo/\g<=Ev P/\h.hi=P.l.c.hi/\f<=Ev P/\o.lo=P.l.s.lo/\m<=Ev P/\o.hi=P.l.s.hi/\s<=Ev P/\181=181/\24=24/\(C.take x.i (FA x)++[[E4 x.l.x x,E5 x.l.x x,E4 x.l.y x,E5 x.l.y x,H h.lo g,H h.hi f,H o.lo m,H o.hi s]]=FA P\/QC (C.take x.i (FA x)++[[E4 x.l.x x,E5 x.l.x x,E4 x.l.y x,E5 x.l.y x,H h.lo g,H h.hi f,H o.lo m,H o.hi s]]) (FA P))/\J else((x.i+1)*320<=140737488355328/\x.i+1<=9223372036854775807)/\K (AV.t [(D,[Ch.s 24 (C.take (x.i+1) (C.drop 0 (C.take x.i (FA x)++[[E4 x.l.x x,E5 x.l.x x,E4 x.l.y x,E5 x.l.y x,E4 x.l.c x,E5 x.l.c x,E4 x.l.s x,E5 x.l.s x]])))]),(D,[Zi (Zd Za 0)])])) ?_
 delta Ev Ew E1 E3 E5 E4 E7 E6 E9 E8 FA FG FF
 try simp only[Zk,R0,R1,A.le_refl,R4]
 obtain⟨hg,⟨hB,jc⟩,hq⟩:=hc;have hn:=hg.n;simp only[C.length_map];refine⟨a,rfl,⟨hg,by rw[jc]⟩,o3,o3,o3,fun n jv=>⟨o3,o3,fun n1 jw=>⟨o3,⟨⟨[],Xz a,Xs a,0⟩,⟨rfl,o6,rfl,KS a,hq⟩,rfl,trivial,rfl,rfl,by simp only[lb];omega,rfl,by simp only[lb];omega,rfl,by simp only[lb];omega,rfl,by simp only[lb];omega,rfl,by simp only[lb];omega,rfl,by simp only[lb];omega,rfl,by simp only[lb];omega,rfl,by simp only[lb];omega,rfl⟩,fun x hx=>QE (fun hp=> ?_) (fun hp=> ?_)⟩⟩⟩
 ·have hp:x.i<Sj a.za:=(j7 hp)
  have Z:=hx.n;obtain⟨L,hL⟩: ∃L,a.za[x.i]? =F L:=⟨_,Zh hp⟩
  obtain⟨t,ht⟩: ∃t,U[x.i]? =F t:=⟨_,Zh o3⟩
  have jx:=hq.1;obtain⟨q,hqq⟩: ∃q,qs[x.i]? =F q:=⟨_,Zh o3⟩
  have X:=hx.has;have ja:=hx.qs;have he:=hx.eq;rw[VJ ht,VJ hqq]at ja;rw[VJ hL,VJ ht,XX]at he;obtain⟨Y,jb⟩:=ja.tail;have ju:=Qjo (i:=x.i) o3;have W:lb (x.i+1)=4*lb x.i+2000000:=rfl;have c1:=Uy Y;have c2:=Jv Y;have m1:=Q1 X.c c1;have m2:=Q1 X.s c2;have m3:=Q1 X.s c1;have m4:=Q1 X.c c2;have hN:=Hg X Y;have hE:=fX hN L.len;refine⟨o3,_,_,_,_,_,_,_,_,_,_,_,JW ((j9 hL)),o3,_,_,_,_,ZD ((j9 ht)),o3,_,_,_,_,ZD ((j9 ht)),⟨o3,Y.ok⟩,fun s1 b1 b2 e1 h1 h2=> ?_⟩
  subst e1;refine⟨⟨o3,Y.ok⟩,⟨o3,X.c.ok,c1.ok⟩,fun s2 b3 e2 h3=> ?_⟩;subst e2;refine⟨⟨o3,X.s.ok,c2.ok⟩,fun s3 b4 e3 h4=> ?_⟩;subst e3;refine⟨⟨o3,m1.ok,m2.ok⟩,⟨o3,(Ux m1 m2).ok⟩,fun s4 b5 b6 e4 h5 h6=> ?_⟩;subst e4;refine⟨⟨o3,X.s.ok,c1.ok⟩,fun s5 b7 e5 h7=> ?_⟩;subst e5;refine⟨⟨o3,X.c.ok,c2.ok⟩,fun s6 b8 e6 h8=> ?_⟩;subst e6;refine⟨⟨o3,m3.ok,m4.ok⟩,⟨o3,(Ju m3 m4).ok⟩,fun s7 b9 jl e7 h9 jq=> ?_⟩;subst e7;refine⟨o3,o3,⟨o3,E.le_refl,hN.c.ok⟩,fun s8 jm e8 jr=> ?_⟩;subst e8;refine⟨⟨o3,X.x.ok,(Q1 (Xh L.len) hN.c).ok⟩,⟨o3,E.le_refl,hN.s.ok⟩,fun s9 jn e9 jt=> ?_⟩
  subst e9;refine⟨⟨o3,X.y.ok,(Q1 (Xh L.len) hN.s).ok⟩,⟨x.ls++[UU x.l t],bn (UU x.l t) L.len,_,x.i+1⟩,⟨⟨by simp[Z],hp,by simp only;rw[C.append_assoc];exact he,hE,jb⟩,o5⟩,rfl,by rw[w64 o3];simp,rfl,by simp only[W];omega,rfl,by simp only[W];omega,rfl,by simp only[W];omega,rfl,by simp only[W];omega,rfl,by simp only[W];omega,rfl,by simp only[W];omega,rfl,by simp only[W];omega,rfl,by simp only[W];omega,.inr ?_⟩;rw[Zj (by simp[Z])];exact QbI x.ls (UU x.l t) o3 o3 o3 o3 o3 o3 o3 o3
 ·have hp:x.i=Sj a.za:=by have:=R6 hp;have:=hx.le;omega
  have Z:=hx.n;have he:=hx.eq;rw[hp,C.drop_length,show XX x.l [] (U.drop a.za.length)=[x.l]by cases U.drop a.za.length<;>rfl]at he;have:=hK x.ls x.l he o3;refine⟨o3,?_⟩;rw[C.drop_zero,Zj (l:=x.ls.map (loN 42100000)) (by simp[Z]),Zj (by simp[Z]),hp];exact this
def pS:Ctr
 | [.x I x,.x D [.s 6 y]]=>F fun K=> ∃(a:ArmV) (B:A) (t:C Sp) (q:C E),x=Qp a/\y=t.map (spN B)/\QFU a B t q K
 | _=>none
theorem QMV:QH 105 pS:=by
 refine okL func105 fun l T b K h=> ?_
 unfold pS at b;split at b<;>cases b
 obtain⟨a,B,t,q,rfl,rfl,h⟩:=h;exact spL (QP xy Qq Qb) QK func105 (QRC _ _ _ _ K h)
def vG:LC:=(105,pS)::nf
theorem Qgx:QF vG:= .cons QMV xy
def ux:LC:=vG
theorem Qgy:QF ux:=Qgx
def sf:LC:=ux
noncomputable def Qjr:Qd:=mkT sf M79 X4
theorem QVb:QF sf:=Qgy
theorem Qg0:Qr Qjr:=QP QVb Qq Qb
end Go.Proofs
