/- Outer boxes of shapes: ShapeInside. -/
import Derived.Test.YtmpfaflhpioaiaaGreatDoorPD
import Derived.Test.YtmpfaflhpioaiaaGreatDoorSE
open _root_ renaming Rat → A, List → C, Nat → E, OfNat → F
open Go.Eng.Ch renaming r → D
open Bool renaming false → G, true → M
open Option renaming some → H
open Int renaming ofNat → I, ofNat_eq_natCast → Zj, toNat_natCast → Zk
open List renaming map → J, length → L, take → N, drop → O, getElem?_eq_getElem → P, length_map → Zf, take_of_length_le → Zg, drop_zero → Zl
open Nat renaming le_refl → Zh
set_option maxHeartbeats 200000
set_option maxRecDepth 100000
namespace Go.Proofs
open Go Go.Eng Tryz
def atX (l:LoV)(p:A×A):Sp:=GQ l.x (bI (JH (Wu p.1) l.c) (JH (Wu p.2) l.s))
def atY (l:LoV)(p:A×A):Sp:=GQ l.y (GQ (JH (Wu p.1) l.s) (JH (Wu p.2) l.c))
def hX (l:LoV):C (A×A)->Sp->Sp
 | [],x=>x
 | v::a,x=>hX l a (WY x (atX l v))
def hY (l:LoV):C (A×A)->Sp->Sp
 | [],y=>y
 | v::a,y=>hY l a (WY y (atY l v))
def JI (l:LoV)(L:QV):Sp×Sp:=(hX l L.shape.tail (atX l (L.shape.headD (0,0))),hY l L.shape.tail (atY l (L.shape.headD (0,0))))
def XP (a:C LoV)(b:C QV):C (Sp×Sp):=C.zipWith JI a b
def bx4 (n:E)(b:Sp×Sp):C Ch:=[.r b.1.lo n,.r b.2.lo n,.r b.1.hi n,.r b.2.hi n]
structure HbX where
 ls:C LoV
 l:LoV
 x:Sp
 y:Sp
 i:E
 j:E
structure HbI (a:ArmV)(ts:C Sp)(x:HbX):Prop where
 eq:x.ls++[x.l]=XX (Xz a) a.za ts
 len:x.ls.length=a.za.length
def zLk:QV:=⟨0,0,0,0,0,[]⟩
def zLo:LoV:=⟨Wu 0,Wu 0,Wu 0,Wu 0⟩
def QVe (a:ArmV)(t:C Sp):LI:=fun i=>bif i.beq 6 then .inv ⟨HbX,fun x=>⟨[(2,.x G [.p 2 0]),(6,.x G [.s 24 (Vw a x.ls x.l)]),(8,.x G [.w 500 0 x.i]),(27,.x G [.s 16 (a.za.map QA)]),(28,iA .i64 a.za.length),(29,iA .i64 x.i)],
  [(2,.box 34 (Qp a)),(500,.row 137 12 (((XP x.ls a.za).take x.i).map (bx4 126400000)))]⟩,fun x=>HbI a t x/\x.i<=L a.za,fun x=>L a.za-x.i,fun _=>0⟩
 else .inv ⟨HbX,fun x=>⟨[(2,.x G [.p 2 0]),(6,.x G [.s 24 (Vw a x.ls x.l)]),(8,.x G [.w 500 0 x.i]),(9,iA .i64 x.i),(10,.x G [.p 10 0]),(11,.x G [.p 11 0]),(12,.x G [.p 12 0]),(27,.x G [.s 16 (a.za.map QA)]),(28,iA .i64 a.za.length),(29,iA .i64 x.i),(48,.x G [.s 6 ((a.za.getD x.i zLk).shape.tail.map XL)]),(49,iA .i64 (a.za.getD x.i zLk).shape.tail.length),(50,iA .i64 x.j)],
  [(2,.box 34 (Qp a)),(10,.box 61 (QA (a.za.getD x.i zLk))),(11,.box 113 (spN 126400000 x.x)),(12,.box 113 (spN 126400000 x.y)),(500,.row 137 12 (((XP x.ls a.za).take x.i).map (bx4 126400000)))]⟩,
  fun x=>(HbI a t x/\x.i<L a.za/\x.j<=(a.za.getD x.i zLk).shape.tail.length)/\(x.x.lo<=x.x.hi/\x.y.lo<=x.y.hi)/\hX (x.ls.getD x.i zLo) ((a.za.getD x.i zLk).shape.tail.drop x.j) x.x=(JI (x.ls.getD x.i zLo) (a.za.getD x.i zLk)).1/\hY (x.ls.getD x.i zLo) ((a.za.getD x.i zLk).shape.tail.drop x.j) x.y=(JI (x.ls.getD x.i zLo) (a.za.getD x.i zLk)).2,fun x=>(a.za.getD x.i zLk).shape.tail.length-x.j,fun x=>L a.za-x.i⟩
def pD:LC:=(38,GO)::bR
theorem QOR:QF pD:= .cons QFK eI
variable{f:FrV}{l:LoV}
theorem dQ(h:l.has f)(p:A×A):(atX l p).has (Vu f p.1 p.2):=Ju h.x (Ux (Q1 (Xh p.1) h.c) (Q1 (Xh p.2) h.s))
theorem eU(h:l.has f)(p:A×A):(atY l p).has (Vv f p.1 p.2):=Ju h.y (Ju (Q1 (Xh p.1) h.s) (Q1 (Xh p.2) h.c))
theorem QOS {s t:Sp}(h:s.lo<=s.hi):(WY s t).lo<=(WY s t).hi:=A.le_trans (Y7 _ _) (A.le_trans h (Y8 _ _))
theorem QVg (l:LoV): ∀(vs:C (A×A)) (x:Sp) (q:A),x.has q->(hX l vs x).has q:=by
 intro vs;induction vs with
 | nil=>intro x q h;exact h
 | cons v vs i=>intro x q h;exact i _ q (GS h)
theorem tf (l:LoV): ∀(vs:C (A×A)) (x:Sp) (q:A),x.has q->(hY l vs x).has q:=by
 intro vs;induction vs with
 | nil=>intro x q h;exact h
 | cons v vs i=>intro x q h;exact i _ q (GS h)
theorem Qg6(h:l.has f): ∀(vs:C (A×A)) (x:Sp) (p:A×A),p∈vs->(hX l vs x).has (Vu f p.1 p.2):=by
 intro vs;induction vs with
 | nil=>intro x p hp;cases hp
 | cons v vs i=>
  intro x p hp;rcases C.mem_cons.1 hp with rfl | hp
  ·exact QVg l vs _ _ (GU (dQ h p))
  ·exact i _ p hp
theorem Qg7(h:l.has f): ∀(vs:C (A×A)) (x:Sp) (p:A×A),p∈vs->(hY l vs x).has (Vv f p.1 p.2):=by
 intro vs;induction vs with
 | nil=>intro x p hp;cases hp
 | cons v vs i=>
  intro x p hp;rcases C.mem_cons.1 hp with rfl | hp
  ·exact tf l vs _ _ (GU (eU h p))
  ·exact i _ p hp
theorem VK{L:QV}(h:l.has f){p:A×A}(hp:p∈L.shape):(JI l L).1.has (Vu f p.1 p.2)/\(JI l L).2.has (Vv f p.1 p.2):=by
 unfold JI;cases b:L.shape with
 | nil=>rw[b]at hp;cases hp
 | cons v a=>
  rw[b]at hp;rcases C.mem_cons.1 hp with rfl | hp
  ·exact⟨QVg l a _ _ (dQ h p),tf l a _ _ (eU h p)⟩
  ·exact⟨Qg6 h a _ p hp,Qg7 h a _ p hp⟩
theorem Uz {a:C LoV}{b:C QV}{i:E}{L:QV}(h:a[i]? =H l)(k:b[i]? =H L):(XP a b)[i]? =H (JI l L):=by
 simp[XP,C.getElem?_zipWith,h,k]
theorem U0 {a:C LoV}{b:C QV}(h:a.length=L b):(XP a b).length=L b:=by simp[XP,h]
theorem Qg8 {n:E}{us:C (Sp×Sp)}{i:E}{u:Sp×Sp}(h:us[i]? =H u):ldE (us.map (bx4 n)) i 0 12=H (bx4 n u):=by
 simp only[ldE,C.getElem?_map,h];rfl
theorem iq {s:C (A×A)}{p:A×A}(h:s[0]? =H p):s.headD (0,0)=p:=by
 cases s with
 | nil=>cases h
 | cons v a=>cases h;rfl
def xG (l:LoV)(n:E)(p:A×A)(_f:FrV)(K:AV->Prop):Prop:=QN (mkT pD M79 X4) (oF f106) noL f106 [.x M (loN n l),.x M (XL p)] K
theorem QJk (l:LoV)(n:E)(p:A×A)(f:FrV)(K:AV->Prop):xG l n p f K=(63<=2000000000/\63<=2000000000/\(126+n+n<=2000000000/\p.1<=p.1/\l.c.lo<=l.c.hi)/\∀(s:Sp) (a:E),s=JH (Sp.mk p.1 p.1) (Sp.mk l.c.lo l.c.hi)->a<=63+max n n->(126+n+n<=2000000000/\p.2<=p.2/\l.s.lo<=l.s.hi)/\∀(e:Sp) (b:E),e=JH (Sp.mk p.2 p.2) (Sp.mk l.s.lo l.s.hi)->b<=63+max n n->(a+a+b+b<=4294967290/\s.lo<=s.hi/\e.lo<=e.hi)/\(n+n+(a+b+1)+(a+b+1)<=4294967290/\l.x.lo<=l.x.hi/\s.lo-e.hi<=s.hi-e.lo)/\(126+n+n<=2000000000/\p.1<=p.1/\l.s.lo<=l.s.hi)/\∀(g:Sp) (c:E),g=JH (Sp.mk p.1 p.1) (Sp.mk l.s.lo l.s.hi)->c<=63+max n n->(126+n+n<=2000000000/\p.2<=p.2/\l.c.lo<=l.c.hi)/\∀(h:Sp) (d:E),h=JH (Sp.mk p.2 p.2) (Sp.mk l.c.lo l.c.hi)->d<=63+max n n->(c+c+d+d<=4294967290/\g.lo<=g.hi/\h.lo<=h.hi)/\(n+n+(c+d+1)+(c+d+1)<=4294967290/\l.y.lo<=l.y.hi/\g.lo+h.lo<=g.hi+h.hi)/\K (AV.t [(M,[D (l.x.lo+(s.lo-e.hi)) (n+(a+b+1)+1),D (l.x.hi+(s.hi-e.lo)) (n+(a+b+1)+1)]),(M,[D (l.y.lo+(g.lo+h.lo)) (n+(c+d+1)+1),D (l.y.hi+(g.hi+h.hi)) (n+(c+d+1)+1)])])):=o4
theorem Qjw (l:LoV)(n:E)(p:A×A)(f:FrV)(q:(n<=50000000)/\(l.has f))(K:AV->Prop)(o: ∀a b,a<=3*n+300->b<=3*n+300->K (.t [(M,spN a (atX l p)),(M,spN b (atY l p))])):QM (xG l n p f K):=by
 refine⟨?_⟩;rw[QJk];try simp only[Zj,R0,R1,E.zero_add,Zh,R4,R2,R3]
 obtain⟨v,h⟩:=q;have m:=Q1 (Xh p.1) h.c;have c:=Q1 (Xh p.2) h.s;have d:=Q1 (Xh p.1) h.s;have e:=Q1 (Xh p.2) h.c;refine⟨o3,o3,⟨o3,A.le_refl,h.c.ok⟩,fun B w g r=> ?_⟩;subst g;refine⟨⟨o3,A.le_refl,h.s.ok⟩,fun C x i s=> ?_⟩;subst i;refine⟨⟨o3,m.ok,c.ok⟩,⟨o3,h.x.ok,(Ux m c).ok⟩,⟨o3,A.le_refl,h.s.ok⟩,fun F y j t=> ?_⟩;subst j;refine⟨⟨o3,A.le_refl,h.c.ok⟩,fun J z k u=> ?_⟩;subst k;exact⟨⟨o3,d.ok,e.ok⟩,⟨o3,h.y.ok,(Ju d e).ok⟩,o _ _ o3 o3⟩
def qQ:Ctr
 | [.x M x,.x M y]=>H fun K=> ∃(l:LoV) (n:E) (p:A×A) (f:FrV),x=loN n l/\y=XL p/\((n<=50000000)/\(l.has f))/\(∀a b,a<=3*n+300->b<=3*n+300->K (.t [(M,spN a (atX l p)),(M,spN b (atY l p))]))
 | _=>none
theorem Qg9:QH 106 qQ:=by
 refine okL func106 fun l T a K h=> ?_
 unfold qQ at a;split at a<;>cases a
 obtain⟨l,n,p,f,rfl,rfl,b,h⟩:=h;exact spL (QP QOR Qq Qb) QK func106 (Qjw _ _ _ _ b K h)
def lk:LC:=(106,qQ)::pD
theorem QVj:QF lk:= .cons Qg9 QOR
theorem QbN (e:A)(a:E)(x:A)(b:E)(yl:A)(c:E)(y:A)(d:E)(_hc:True)(K:AV->Prop)(h:K (.x M [.r e a,.r yl c,.r x b,.r y d])):QM (QN (mkT lk M79 X4) (oF f108) noL f108 [.x M ([.r e a,.r x b,.r yl c,.r y d]++Xm++Xm++Xm++Xm)] K):=by
 refine HV (K (AV.x M [D e a,D yl c,D x b,D y d])) ?_
 try simp only[Zj,R0,R1,E.zero_add,Zh,R4,R2,R3]
 exact h
def iU:Ctr
 | [.x M [.r e a,.r x b,.r g c,.r y d,.v (.bool G),.v (.string ⟨⟨[]⟩⟩),.v (.string ⟨⟨[]⟩⟩),.v (.bool G),.v (.string ⟨⟨[]⟩⟩),.v (.string ⟨⟨[]⟩⟩),.v (.bool G),.v (.string ⟨⟨[]⟩⟩),.v (.string ⟨⟨[]⟩⟩),.v (.bool G),.v (.string ⟨⟨[]⟩⟩),.v (.string ⟨⟨[]⟩⟩)]]=>H fun K=>(True)/\(K (.x M [.r e a,.r g c,.r x b,.r y d]))
 | _=>none
theorem QVk:QH 108 iU:=by
 refine okL func108 fun l T a K h=> ?_
 unfold iU at a;split at a<;>cases a
 obtain⟨b,h⟩:=h;exact spL (QP QVj Qq Qb) QK func108 (QbN _ _ _ _ _ _ _ _ b K h)
def pC:LC:=(108,iU)::lk
theorem uY:QF pC:= .cons QVk QVj
def QA8 (a:ArmV)(B:E)(t:C Sp)(_qs:C A)(K:AV->Prop):Prop:=QN (mkT pC M79 X4) (oF f63) (QVe a t) f63 [JV a,.x G [.s 6 (t.map (spN B))]] K
theorem QDR (a:ArmV)(B:E)(ts:C Sp)(qs:C A)(K:AV->Prop):QA8 a B ts qs K=(∃(e:ArmV)(jg:E)(k:C Sp)(qs:C A),[Ch.v (Value.string a.name),D a.x 63,D a.y 63,Ch.v (Value.bool a.half),D a.t 63,Ch.s 16 (J QA a.za)]=[Ch.v (Value.string e.name),D e.x 63,D e.y 63,Ch.v (Value.bool e.half),D e.t 63,Ch.s 16 (J QA e.za)]/\J (spN B) ts=J (spN jg) k/\(QJ e/\(jg<=100000/\k.length=L e.za)/\k.length=L qs/\∀(i:E) (t:Sp) (q:A),k[i]?=H t->qs[i]?=H q->t.lo<=q/\q<=t.hi)/\∀(ls:C LoV) (l:LoV),ls++[l]=XX (Xz e) e.za k->L ls=L e.za->(∃(x:HbX),((HbI a ts x/\x.i<=L a.za)/\F.ofNat 0=0)/\0=0/\24=24/\J (loN 42100000) ls++[[D l.x.lo (lb e.za.length),D l.x.hi (lb e.za.length),D l.y.lo (lb e.za.length),D l.y.hi (lb e.za.length),D l.c.lo (lb e.za.length),D l.c.hi (lb e.za.length),D l.s.lo (lb e.za.length),D l.s.hi (lb e.za.length)]]=Vw a x.ls x.l/\Value.slice none 0 0=Value.slice none 0 0/\0=0/\x.i=0/\16=16/\J QA a.za=J QA a.za/\I (J QA a.za).length=I a.za.length/\0=I x.i/\34=34/\a.name=a.name/\a.x=a.x/\63<=63/\a.y=a.y/\63<=63/\a.half=a.half/\a.t=a.t/\63<=63/\16=16/\J QA a.za=J QA a.za/\J (bx4 126400000) (N x.i (XP x.ls a.za))=[]/\True)/\∀(x:HbX),HbI a ts x/\x.i<=L a.za->F.ofNat 0=0->bif decide (I x.i<I a.za.length)then(0<=I x.i/\I x.i<I (J QA a.za).length)/\∃(q:A)(n:E)(jt:A)(jh:E)(ju:A)(ji:E)(jv:A)(jj:E)(jw:A)(jk:E)(y:C (C Ch)),ldE (J QA a.za) (I x.i).toNat 0 16=H [D q n,D jt jh,D ju ji,D jv jj,D jw jk,Ch.s 6 y]/\(0<=I x.i/\I x.i<I (Vw a x.ls x.l).length)/\∃(jx:A)(jl:E)(jy:A)(jm:E)(jz:A)(jn:E)(jA:A)(jq:E)(jB:A)(jr:E)(V:A)(m:E)(W:A)(o:E)(X:A)(r:E),ldE (Vw a x.ls x.l) (I x.i).toNat 0 24=H [D jx jl,D jy jm,D jz jn,D jA jq,D jB jr,D V m,D W o,D X r]/\((0:Int)<=0/\0<I y.length)/\∃(Y:A)(s:E)(Z:A)(u:E),ldE y 0 0 6=H [D Y s,D Z u]/\∃(l:LoV)(g:E)(p:A×A)(f:FrV),[D jx jl,D jy jm,D jz jn,D jA jq,D jB jr,D V m,D W o,D X r]=[D l.x.lo g,D l.x.hi g,D l.y.lo g,D l.y.hi g,D l.c.lo g,D l.c.hi g,D l.s.lo g,D l.s.hi g]/\[D Y s,D Z u]=[D p.1 63,D p.2 63]/\(g<=50000000/\l.has f)/\∀(jf b:E),jf<=3*g+300->b<=3*g+300->((0:Int)<=1/\1<=I y.length/\I y.length<=I y.length)/\(∃(c:HbX),(((HbI a ts c/\c.i<L a.za/\c.j<=(a.za.getD c.i zLk).shape.tail.length)/\(c.x.lo<=c.x.hi/\c.y.lo<=c.y.hi)/\hX (c.ls.getD c.i zLo) (O c.j (a.za.getD c.i zLk).shape.tail) c.x=(hX (c.ls.getD c.i zLo) (a.za.getD c.i zLk).shape.tail (atX (c.ls.getD c.i zLo) ((a.za.getD c.i zLk).shape.headD (F.ofNat 0,F.ofNat 0))),hY (c.ls.getD c.i zLo) (a.za.getD c.i zLk).shape.tail (atY (c.ls.getD c.i zLo) ((a.za.getD c.i zLk).shape.headD (F.ofNat 0,F.ofNat 0)))).1/\hY (c.ls.getD c.i zLo) (O c.j (a.za.getD c.i zLk).shape.tail) c.y=(hX (c.ls.getD c.i zLo) (a.za.getD c.i zLk).shape.tail (atX (c.ls.getD c.i zLo) ((a.za.getD c.i zLk).shape.headD (F.ofNat 0,F.ofNat 0))),hY (c.ls.getD c.i zLo) (a.za.getD c.i zLk).shape.tail (atY (c.ls.getD c.i zLo) ((a.za.getD c.i zLk).shape.headD (F.ofNat 0,F.ofNat 0)))).2)/\a.za.length-c.i=L a.za-x.i)/\0=0/\24=24/\Vw a x.ls x.l=Vw a c.ls c.l/\0=0/\x.i=c.i/\I x.i=I c.i/\0=0/\0=0/\0=0/\16=16/\J QA a.za=J QA a.za/\I a.za.length=I a.za.length/\I x.i=I c.i/\6=6/\N ((I y.length).toNat-1) (O 1 y)=J XL (a.za.getD c.i zLk).shape.tail/\I (N ((I y.length).toNat-1) (O 1 y)).length=I (a.za.getD c.i zLk).shape.tail.length/\0=I c.j/\34=34/\a.name=a.name/\a.x=a.x/\63<=63/\a.y=a.y/\63<=63/\a.half=a.half/\a.t=a.t/\63<=63/\16=16/\J QA a.za=J QA a.za/\61=61/\q=(a.za.getD c.i zLk).len/\n<=63/\jt=(a.za.getD c.i zLk).lo/\jh<=63/\ju=(a.za.getD c.i zLk).hi/\ji<=63/\jv=(a.za.getD c.i zLk).sp/\jj<=63/\jw=(a.za.getD c.i zLk).br/\jk<=63/\6=6/\y=J XL (a.za.getD c.i zLk).shape/\113=113/\(atX l p).lo=c.x.lo/\jf<=126400000/\(atX l p).hi=c.x.hi/\jf<=126400000/\113=113/\(atY l p).lo=c.y.lo/\b<=126400000/\(atY l p).hi=c.y.hi/\b<=126400000/\137=137/\12=12/\(J (bx4 126400000) (N x.i (XP x.ls a.za))=J (bx4 126400000) (N c.i (XP c.ls a.za))\/QC (J (bx4 126400000) (N x.i (XP x.ls a.za))) (J (bx4 126400000) (N c.i (XP c.ls a.za))))/\True)/\∀(c:HbX),(HbI a ts c/\c.i<L a.za/\c.j<=(a.za.getD c.i zLk).shape.tail.length)/\(c.x.lo<=c.x.hi/\c.y.lo<=c.y.hi)/\hX (c.ls.getD c.i zLo) (O c.j (a.za.getD c.i zLk).shape.tail) c.x=(hX (c.ls.getD c.i zLo) (a.za.getD c.i zLk).shape.tail (atX (c.ls.getD c.i zLo) ((a.za.getD c.i zLk).shape.headD (F.ofNat 0,F.ofNat 0))),hY (c.ls.getD c.i zLo) (a.za.getD c.i zLk).shape.tail (atY (c.ls.getD c.i zLo) ((a.za.getD c.i zLk).shape.headD (F.ofNat 0,F.ofNat 0)))).1/\hY (c.ls.getD c.i zLo) (O c.j (a.za.getD c.i zLk).shape.tail) c.y=(hX (c.ls.getD c.i zLo) (a.za.getD c.i zLk).shape.tail (atX (c.ls.getD c.i zLo) ((a.za.getD c.i zLk).shape.headD (F.ofNat 0,F.ofNat 0))),hY (c.ls.getD c.i zLo) (a.za.getD c.i zLk).shape.tail (atY (c.ls.getD c.i zLo) ((a.za.getD c.i zLk).shape.headD (F.ofNat 0,F.ofNat 0)))).2->L a.za-c.i=L a.za-x.i->bif decide (I c.j<I (a.za.getD c.i zLk).shape.tail.length)then(0<=I c.j/\I c.j<I (J XL (a.za.getD c.i zLk).shape.tail).length)/\∃(q:A)(n:E)(At:A)(v:E),ldE (J XL (a.za.getD c.i zLk).shape.tail) (I c.j).toNat 0 6=H [D q n,D At v]/\(0<=I c.i/\I c.i<I (Vw a c.ls c.l).length)/\∃(Lm:A)(w:E)(be:A)(z:E)(hZ:A)(P:E)(ja:A)(Q:E)(jb:A)(R:E)(jc:A)(S:E)(jd:A)(T:E)(je:A)(U:E),ldE (Vw a c.ls c.l) (I c.i).toNat 0 24=H [D Lm w,D be z,D hZ P,D ja Q,D jb R,D jc S,D jd T,D je U]/\∃(l:LoV)(h:E)(p:A×A)(f:FrV),[D Lm w,D be z,D hZ P,D ja Q,D jb R,D jc S,D jd T,D je U]=[D l.x.lo h,D l.x.hi h,D l.y.lo h,D l.y.hi h,D l.c.lo h,D l.c.hi h,D l.s.lo h,D l.s.hi h]/\[D q n,D At v]=[D p.1 63,D p.2 63]/\(h<=50000000/\l.has f)/\∀(j b:E),j<=3*h+300->b<=3*h+300->(252800000+j+j<=4294967290/\c.x.lo<=c.x.hi/\(atX l p).lo<=(atX l p).hi)/\(252800000+b+b<=4294967290/\c.y.lo<=c.y.hi/\(atY l p).lo<=(atY l p).hi)/\∃(d:HbX),(((HbI a ts d/\d.i<L a.za/\d.j<=(a.za.getD d.i zLk).shape.tail.length)/\(d.x.lo<=d.x.hi/\d.y.lo<=d.y.hi)/\hX (d.ls.getD d.i zLo) (O d.j (a.za.getD d.i zLk).shape.tail) d.x=(hX (d.ls.getD d.i zLo) (a.za.getD d.i zLk).shape.tail (atX (d.ls.getD d.i zLo) ((a.za.getD d.i zLk).shape.headD (F.ofNat 0,F.ofNat 0))),hY (d.ls.getD d.i zLo) (a.za.getD d.i zLk).shape.tail (atY (d.ls.getD d.i zLo) ((a.za.getD d.i zLk).shape.headD (F.ofNat 0,F.ofNat 0)))).1/\hY (d.ls.getD d.i zLo) (O d.j (a.za.getD d.i zLk).shape.tail) d.y=(hX (d.ls.getD d.i zLo) (a.za.getD d.i zLk).shape.tail (atX (d.ls.getD d.i zLo) ((a.za.getD d.i zLk).shape.headD (F.ofNat 0,F.ofNat 0))),hY (d.ls.getD d.i zLo) (a.za.getD d.i zLk).shape.tail (atY (d.ls.getD d.i zLo) ((a.za.getD d.i zLk).shape.headD (F.ofNat 0,F.ofNat 0)))).2)/\a.za.length-d.i=L a.za-x.i/\(a.za.getD d.i zLk).shape.tail.length-d.j<(a.za.getD c.i zLk).shape.tail.length-c.j)/\0=0/\24=24/\Vw a c.ls c.l=Vw a d.ls d.l/\0=0/\c.i=d.i/\I c.i=I d.i/\0=0/\0=0/\0=0/\16=16/\J QA a.za=J QA a.za/\I a.za.length=I a.za.length/\I c.i=I d.i/\6=6/\J XL (a.za.getD c.i zLk).shape.tail=J XL (a.za.getD d.i zLk).shape.tail/\I (a.za.getD c.i zLk).shape.tail.length=I (a.za.getD d.i zLk).shape.tail.length/\IntKind.i64.wrap (I c.j+1)=I d.j/\34=34/\a.name=a.name/\a.x=a.x/\63<=63/\a.y=a.y/\63<=63/\a.half=a.half/\a.t=a.t/\63<=63/\16=16/\J QA a.za=J QA a.za/\61=61/\(a.za.getD c.i zLk).len=(a.za.getD d.i zLk).len/\63<=63/\(a.za.getD c.i zLk).lo=(a.za.getD d.i zLk).lo/\63<=63/\(a.za.getD c.i zLk).hi=(a.za.getD d.i zLk).hi/\63<=63/\(a.za.getD c.i zLk).sp=(a.za.getD d.i zLk).sp/\63<=63/\(a.za.getD c.i zLk).br=(a.za.getD d.i zLk).br/\63<=63/\6=6/\J XL (a.za.getD c.i zLk).shape=J XL (a.za.getD d.i zLk).shape/\113=113/\Qx c.x.lo (atX l p).lo=d.x.lo/\max 126400000 j<=126400000/\Q6 c.x.hi (atX l p).hi=d.x.hi/\max 126400000 j<=126400000/\113=113/\Qx c.y.lo (atY l p).lo=d.y.lo/\max 126400000 b<=126400000/\Q6 c.y.hi (atY l p).hi=d.y.hi/\max 126400000 b<=126400000/\137=137/\12=12/\(J (bx4 126400000) (N c.i (XP c.ls a.za))=J (bx4 126400000) (N d.i (XP d.ls a.za))\/QC (J (bx4 126400000) (N c.i (XP c.ls a.za))) (J (bx4 126400000) (N d.i (XP d.ls a.za))))/\True else True/\((c.i+1)*160<=140737488355328/\c.i+1<=9223372036854775807)/\∃(d:HbX),((HbI a ts d/\d.i<=L a.za)/\F.ofNat 0=0/\a.za.length-d.i<L a.za-x.i)/\0=0/\24=24/\Vw a c.ls c.l=Vw a d.ls d.l/\0=0/\c.i+1=d.i/\16=16/\J QA a.za=J QA a.za/\I a.za.length=I a.za.length/\IntKind.i64.wrap (I c.i+1)=I d.i/\34=34/\a.name=a.name/\a.x=a.x/\63<=63/\a.y=a.y/\63<=63/\a.half=a.half/\a.t=a.t/\63<=63/\16=16/\J QA a.za=J QA a.za/\137=137/\12=12/\(N c.i (J (bx4 126400000) (N c.i (XP c.ls a.za)))++[[D c.x.lo 126400000,D c.y.lo 126400000,D c.x.hi 126400000,D c.y.hi 126400000]]=J (bx4 126400000) (N d.i (XP d.ls a.za))\/QC (N c.i (J (bx4 126400000) (N c.i (XP c.ls a.za)))++[[D c.x.lo 126400000,D c.y.lo 126400000,D c.x.hi 126400000,D c.y.hi 126400000]]) (J (bx4 126400000) (N d.i (XP d.ls a.za))))/\True else K (AV.t [(G,[Ch.s 12 (N x.i (O 0 (J (bx4 126400000) (N x.i (XP x.ls a.za)))))]),(G,[Ch.v (Value.int IntKind.i64 0)])])):=o4
theorem QVm (a:ArmV)(B:E)(Q:C Sp)(r:C A)(hc:(QJ a)/\(B<=100000/\Q.length=L a.za)/\(HasQ Q r))(K:AV->Prop)(hK: ∀(U:C LoV) (l:LoV),U++[l]=XX (Xz a) a.za Q->L U=L a.za->K (.t [(G,[.s 12 ((XP U a.za).map (bx4 126400000))]),(G,[.v (.int .i64 0)])])):QM (QA8 a B Q r K):=by
 refine⟨?_⟩;rw[QDR];try simp only[Zj,R0,R1,Zh,R4]
 obtain⟨W,⟨hB,Lm⟩,X⟩:=hc;have hn:=W.n;have jd:=X.1;have fl:=Hi a.za r (Xs a) o3;refine⟨a,B,Q,r,rfl,rfl,⟨W,⟨hB,Lm⟩,X⟩,fun U l he hl=>⟨⟨⟨U,l,Wu 0,Wu 0,0,0⟩,⟨⟨he,hl⟩,o6⟩,rfl,rfl,o6,rfl,rfl⟩,fun x F=>QE (fun t=> ?_) (fun t=> ?_)⟩⟩
 ·have t:x.i<L a.za:=(j7 t)
  have be:=F.1.len;obtain⟨b,hL⟩: ∃b,a.za[x.i]? =H b:=⟨_,P t⟩
  obtain⟨y,hy⟩: ∃y,x.ls[x.i]? =H y:=⟨_,P o3⟩
  obtain⟨g,hgx⟩: ∃g,(XH (Xs a) a.za r)[x.i]? =H g:=⟨_,P o3⟩
  have J:(x.ls++[x.l])[x.i]? =H y:=by rw[C.getElem?_append_left o3];exact hy
  obtain⟨m,hm,ld⟩:=zN hn.2 J;rw[F.1.eq]at J;have Z:=KR a.za Q r (Xz a) (Xs a) (KS a) X x.i y g J hgx;have j:a.za.getD x.i zLk=b:=GN hL;have gS:x.ls.getD x.i zLo=y:=GN hy;have S:=(W.za b (C.mem_of_getElem? hL)).zt;have p1:=S.lo;have p2:=S.hi;obtain⟨p0,hp0⟩: ∃p,b.shape[0]? =H p:=⟨_,P o3⟩
  have tl:b.shape.tail.length=L b.shape-1:=C.length_tail;have et:N (((b.shape.map XL).length:Int).toNat-1) (O 1 (b.shape.map XL))=b.shape.tail.map XL:=by
   rw[Zk,Zf,C.drop_one,<-C.map_tail,Zg o6]
  refine⟨by rw[Zf];omega,_,_,_,_,_,_,_,_,_,_,_,JW ((j9 hL)),by rw[QJi];omega,_,_,_,_,_,_,_,_,_,_,_,_,_,_,_,_,by rw[Zk];exact ld,by rw[Zf];omega,_,_,_,_,WX (i:=0) hp0,y,m,p0,g,rfl,rfl,⟨o3,Z⟩,fun b1 b2 h1 h2=>⟨by rw[Zf];omega,⟨⟨x.ls,x.l,atX y p0,atY y p0,x.i,0⟩,⟨⟨⟨⟨F.1.eq,be⟩,t,o6⟩,⟨(dQ Z p0).ok,(eU Z p0).ok⟩,?_,?_⟩,rfl⟩,rfl,rfl,rfl,rfl,by rw[j];exact et,by rw[et,j,Zf],rfl,by rw[j],Zh _,by rw[j],Zh _,by rw[j],Zh _,by rw[j],Zh _,by rw[j],Zh _,by rw[j],rfl,o3,rfl,o3,rfl,o3,rfl,o3,.inl rfl⟩,fun z hz ja=>QE (fun k=> ?_) (fun k=> ?_)⟩⟩
  ·show hX (x.ls.getD x.i zLo) ((a.za.getD x.i zLk).shape.tail.drop 0) (atX y p0)=(JI (x.ls.getD x.i zLo) (a.za.getD x.i zLk)).1
   rw[j,gS,Zl];unfold JI;rw[iq hp0]
  ·show hY (x.ls.getD x.i zLo) ((a.za.getD x.i zLk).shape.tail.drop 0) (atY y p0)=(JI (x.ls.getD x.i zLo) (a.za.getD x.i zLk)).2
   rw[j,gS,Zl];unfold JI;rw[iq hp0]
  ·have k:z.j<(a.za.getD z.i zLk).shape.tail.length:=(j7 k)
   obtain⟨⟨h,d,hZ⟩,⟨ox,oy⟩,o,q⟩:=hz;have n:=h.len;obtain⟨c,hM⟩: ∃c,a.za[z.i]? =H c:=⟨_,P d⟩
   obtain⟨w,hw⟩: ∃w,z.ls[z.i]? =H w:=⟨_,P o3⟩
   obtain⟨e,hex⟩: ∃g,(XH (Xs a) a.za r)[z.i]? =H g:=⟨_,P o3⟩
   have u:(z.ls++[z.l])[z.i]? =H w:=by rw[C.getElem?_append_left o3];exact hw
   obtain⟨m',jc,jb⟩:=zN hn.2 u;rw[h.eq]at u;have s:=KR a.za Q r (Xz a) (Xs a) (KS a) X z.i w e u hex;have V:a.za.getD z.i zLk=c:=GN hM;have R:z.ls.getD z.i zLo=w:=GN hw;have q2:=((W.za c (C.mem_of_getElem? hM)).zt).hi;have tM:c.shape.tail.length=L c.shape-1:=C.length_tail;have At:z.j<L c.shape.tail:=by rw[V]at k;exact k
   obtain⟨v,hv⟩: ∃v,c.shape.tail[z.j]? =H v:=⟨_,P At⟩
   have T:(a.za.getD z.i zLk).shape.tail[z.j]? =H v:=by rw[V];exact hv
   rw[VJ T,R]at o q;refine⟨by rw[Zf];omega,_,_,_,_,WX ((j9 T)),by rw[QJi];omega,_,_,_,_,_,_,_,_,_,_,_,_,_,_,_,_,by rw[Zk];exact jb,w,m',v,e,rfl,rfl,⟨o3,s⟩,fun c1 c2 k1 k2=>⟨⟨o3,ox,(dQ s v).ok⟩,⟨o3,oy,(eU s v).ok⟩,⟨z.ls,z.l,WY z.x (atX w v),WY z.y (atY w v),z.i,z.j+1⟩,⟨⟨⟨⟨h.eq,n⟩,d,k⟩,⟨QOS ox,QOS oy⟩,?_,?_⟩,ja,o5⟩,rfl,rfl,rfl,rfl,rfl,rfl,by rw[w64 o3];simp,rfl,rfl,rfl,rfl,rfl,rfl,rfl,o3,rfl,o3,rfl,o3,rfl,o3,.inl rfl⟩⟩
   ·rw[<-R]at o⊢;exact o
   ·rw[<-R]at q⊢;exact q
  ·obtain⟨⟨h,d,hZ⟩,⟨ox,oy⟩,o,q⟩:=hz;have k:z.j=(a.za.getD z.i zLk).shape.tail.length:=(j8 k)
   have n:=h.len;obtain⟨c,hM⟩: ∃c,a.za[z.i]? =H c:=⟨_,P d⟩
   obtain⟨w,hw⟩: ∃w,z.ls[z.i]? =H w:=⟨_,P o3⟩
   have V:a.za.getD z.i zLk=c:=GN hM;have R:z.ls.getD z.i zLo=w:=GN hw;rw[k,C.drop_length,R,V]at o q;have o:z.x=(JI w c).1:=o;have q:z.y=(JI w c).2:=q;have Y:=U0 n;refine⟨o3,⟨z.ls,z.l,z.x,z.y,z.i+1,0⟩,⟨⟨⟨h.eq,n⟩,d⟩,o5⟩,rfl,rfl,by rw[w64 o3];simp,.inl ?_⟩;rw[Zg (by rw[Zf,C.length_take];omega),C.take_add_one,Uz hw hM,C.map_append,o,q];rfl
 ·have t:x.i=L a.za:=by have:=R6 t;have:=F.2;omega
  have Y:=U0 F.1.len;have:=hK x.ls x.l F.1.eq F.1.len;rw[Zl,Zg (by rw[Zf,C.length_take];omega),Zg o3];exact this
def rU:Ctr
 | [.x M x,.x G [.s 6 y]]=>H fun K=> ∃(a:ArmV) (B:E) (t:C Sp) (q:C A),x=Qp a/\y=t.map (spN B)/\((QJ a)/\(B<=100000/\t.length=L a.za)/\(HasQ t q))/\(∀(b:C LoV) (l:LoV),b++[l]=XX (Xz a) a.za t->L b=L a.za->K (.t [(G,[.s 12 ((XP b a.za).map (bx4 126400000))]),(G,[.v (.int .i64 0)])]))
 | _=>none
theorem QRE:QH 63 rU:=by
 refine okL func63 fun l T b K h=> ?_
 unfold rU at b;split at b<;>cases b
 obtain⟨a,B,t,q,rfl,rfl,c,h⟩:=h;exact spL (QP uY Qq Qb) QK func63 (QVm _ _ _ _ c K h)
def tQ:LC:=(63,rU)::pC
theorem QhC:QF tQ:= .cons QRE uY
def dL:LC:=tQ
noncomputable def Qjy:Qd:=mkT dL M79 X4
theorem ri:QF dL:=QhC
theorem QhD:Qr Qjy:=QP ri Qq Qb
end Go.Proofs
