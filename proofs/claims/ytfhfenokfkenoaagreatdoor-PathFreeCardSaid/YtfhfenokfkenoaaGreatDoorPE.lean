/- Outer boxes of shapes: ShapeInside. -/
import Derived.Test.YtfhfenokfkenoaaGreatDoorPD
import Derived.Test.YtfhfenokfkenoaaGreatDoorSE
open Int renaming ofNat → Za, ofNat_eq_natCast → Zj, toNat_natCast → Zk
open List renaming map → Zb, getElem?_eq_getElem → Zc, take → Ze, length_map → Zf, take_of_length_le → Zg, drop → Zi, drop_zero → Zl
open Go.Eng.Ch renaming r → Zd
open Nat renaming le_refl → Zh
namespace Go.Proofs
open Go Go.Eng
def atX (l:LoV)(p:Rat×Rat):Sp:=U2 l.x (QGT (YO (WG p.1) l.c) (YO (WG p.2) l.s))
def atY (l:LoV)(p:Rat×Rat):Sp:=U2 l.y (U2 (YO (WG p.1) l.s) (YO (WG p.2) l.c))
def hX (l:LoV):List (Rat×Rat)->Sp->Sp
 | [],x=>x
 | v::vs,x=>hX l vs (Ju x (atX l v))
def hY (l:LoV):List (Rat×Rat)->Sp->Sp
 | [],y=>y
 | v::vs,y=>hY l vs (Ju y (atY l v))
def YW (l:LoV)(L:Qf):Sp×Sp:=(hX l L.shape.tail (atX l (L.shape.headD (0,0))),hY l L.shape.tail (atY l (L.shape.headD (0,0))))
def XC (los:List LoV)(ls:List Qf):List (Sp×Sp):=List.zipWith YW los ls
def bx4 (n:Nat)(b:Sp×Sp):List Ch:=[.r b.1.lo n,.r b.2.lo n,.r b.1.hi n,.r b.2.hi n]
structure HbX where
 ls:List LoV
 l:LoV
 x:Sp
 y:Sp
 i:Nat
 j:Nat
structure HbI (a:ArmV)(ts:List Sp)(x:HbX):Prop where
 eq:x.ls++[x.l]=XL (Xp a) a.links ts
 len:x.ls.length=a.links.length
def zLk:Qf:=⟨0,0,0,0,0,[]⟩
def zLo:LoV:=⟨WG 0,WG 0,WG 0,WG 0⟩
def QP6 (a:ArmV)(ts:List Sp):LI:=fun id=>bif id.beq 6 then .inv ⟨HbX,fun x=>⟨[(2,.x false [.p 2 0]),(6,.x false [.s 24 (K4 a x.ls x.l)]),(8,.x false [.w 500 0 x.i]),(27,.x false [.s 16 (a.links.map QB)]),(28,iA .i64 a.links.length),(29,iA .i64 x.i)],
  [(2,.box 34 (XM a)),(500,.row 93 12 (((XC x.ls a.links).take x.i).map (bx4 126400000)))]⟩,fun x=>HbI a ts x/\x.i<=a.links.length,fun x=>a.links.length-x.i,fun _=>0⟩
 else .inv ⟨HbX,fun x=>⟨[(2,.x false [.p 2 0]),(6,.x false [.s 24 (K4 a x.ls x.l)]),(8,.x false [.w 500 0 x.i]),(9,iA .i64 x.i),(10,.x false [.p 10 0]),(11,.x false [.p 11 0]),(12,.x false [.p 12 0]),(27,.x false [.s 16 (a.links.map QB)]),(28,iA .i64 a.links.length),(29,iA .i64 x.i),(48,.x false [.s 6 ((a.links.getD x.i zLk).shape.tail.map Xl)]),(49,iA .i64 (a.links.getD x.i zLk).shape.tail.length),(50,iA .i64 x.j)],
  [(2,.box 34 (XM a)),(10,.box 63 (QB (a.links.getD x.i zLk))),(11,.box 86 (spN 126400000 x.x)),(12,.box 86 (spN 126400000 x.y)),(500,.row 93 12 (((XC x.ls a.links).take x.i).map (bx4 126400000)))]⟩,
  fun x=>(HbI a ts x/\x.i<a.links.length/\x.j<=(a.links.getD x.i zLk).shape.tail.length)/\(x.x.lo<=x.x.hi/\x.y.lo<=x.y.hi)/\hX (x.ls.getD x.i zLo) ((a.links.getD x.i zLk).shape.tail.drop x.j) x.x=(YW (x.ls.getD x.i zLo) (a.links.getD x.i zLk)).1/\hY (x.ls.getD x.i zLo) ((a.links.getD x.i zLk).shape.tail.drop x.j) x.y=(YW (x.ls.getD x.i zLo) (a.links.getD x.i zLk)).2,fun x=>(a.links.getD x.i zLk).shape.tail.length-x.j,fun x=>a.links.length-x.i⟩
def QP7:LC:=QYe
theorem QKO:QG QP7:=QYf
theorem G7 {l:LoV}{f:FrV}(h:l.has f)(p:Rat×Rat):(atX l p).has (Gj f p.1 p.2):=JM h.x (Vw (Qt (XR p.1) h.c) (Qt (XR p.2) h.s))
theorem G8 {l:LoV}{f:FrV}(h:l.has f)(p:Rat×Rat):(atY l p).has (Gk f p.1 p.2):=JM h.y (JM (Qt (XR p.1) h.s) (Qt (XR p.2) h.c))
theorem QKP {s t:Sp}(h:s.lo<=s.hi):(Ju s t).lo<=(Ju s t).hi:=Rat.le_trans (YE _ _) (Rat.le_trans h (YF _ _))
theorem QP8 (l:LoV): ∀(vs:List (Rat×Rat)) (x:Sp) (q:Rat),x.has q->(hX l vs x).has q:=by
 intro vs;induction vs with
 | nil=>intro x q h;exact h
 | cons v vs ih=>intro x q h;exact ih _ q (U4 h)
theorem QP9 (l:LoV): ∀(vs:List (Rat×Rat)) (x:Sp) (q:Rat),x.has q->(hY l vs x).has q:=by
 intro vs;induction vs with
 | nil=>intro x q h;exact h
 | cons v vs ih=>intro x q h;exact ih _ q (U4 h)
theorem QYg {l:LoV}{f:FrV}(h:l.has f): ∀(vs:List (Rat×Rat)) (x:Sp) (p:Rat×Rat),p∈vs->(hX l vs x).has (Gj f p.1 p.2):=by
 intro vs;induction vs with
 | nil=>intro x p hp;cases hp
 | cons v vs ih=>
  intro x p hp;rcases List.mem_cons.1 hp with rfl | hp
  ·exact QP8 l vs _ _ (U5 (G7 h p))
  ·exact ih _ p hp
theorem QYh {l:LoV}{f:FrV}(h:l.has f): ∀(vs:List (Rat×Rat)) (x:Sp) (p:Rat×Rat),p∈vs->(hY l vs x).has (Gk f p.1 p.2):=by
 intro vs;induction vs with
 | nil=>intro x p hp;cases hp
 | cons v vs ih=>
  intro x p hp;rcases List.mem_cons.1 hp with rfl | hp
  ·exact QP9 l vs _ _ (U5 (G8 h p))
  ·exact ih _ p hp
theorem Vd {l:LoV}{f:FrV}{L:Qf}(h:l.has f){p:Rat×Rat}(hp:p∈L.shape):(YW l L).1.has (Gj f p.1 p.2)/\(YW l L).2.has (Gk f p.1 p.2):=by
 unfold YW;cases hs:L.shape with
 | nil=>rw[hs]at hp;cases hp
 | cons v vs=>
  rw[hs]at hp;rcases List.mem_cons.1 hp with rfl | hp
  ·exact⟨QP8 l vs _ _ (G7 h p),QP9 l vs _ _ (G8 h p)⟩
  ·exact⟨QYg h vs _ p hp,QYh h vs _ p hp⟩
theorem Hy {los:List LoV}{ls:List Qf}{i:Nat}{l:LoV}{L:Qf}(h:los[i]? =some l)(k:ls[i]? =some L):(XC los ls)[i]? =some (YW l L):=by
 simp[XC,List.getElem?_zipWith,h,k]
theorem Vy {los:List LoV}{ls:List Qf}(h:los.length=ls.length):(XC los ls).length=ls.length:=by simp[XC,h]
theorem QYi {n:Nat}{us:List (Sp×Sp)}{i:Nat}{u:Sp×Sp}(h:us[i]? =some u):ldE (us.map (bx4 n)) i 0 12=some (bx4 n u):=by
 simp only[ldE,List.getElem?_map,h];rfl
theorem QEV {s:List (Rat×Rat)}{p:Rat×Rat}(h:s[0]? =some p):s.headD (0,0)=p:=by
 cases s with
 | nil=>cases h
 | cons v vs=>cases h;rfl
def QGf (l:LoV)(n:Nat)(p:Rat×Rat)(_f:FrV)(K:AV->Prop):Prop:=QR (mkT QP7 M79 X4) (oF Tryz.f111) noL Tryz.f111 [.x true (loN n l),.x true (Xl p)] K
theorem QGg (l:LoV)(n:Nat)(p:Rat×Rat)(f:FrV)(K:AV->Prop):QGf l n p f K=(63<=2000000000/\63<=2000000000/\(126+n+n<=2000000000/\p.fst<=p.fst/\l.c.lo<=l.c.hi)/\∀(s:Sp) (n_1:Nat),s=YO (Sp.mk p.fst p.fst) (Sp.mk l.c.lo l.c.hi)->n_1<=63+max n n->(126+n+n<=2000000000/\p.snd<=p.snd/\l.s.lo<=l.s.hi)/\∀(s_1:Sp) (n_2:Nat),s_1=YO (Sp.mk p.snd p.snd) (Sp.mk l.s.lo l.s.hi)->n_2<=63+max n n->(n_1+n_1+n_2+n_2<=4294967290/\s.lo<=s.hi/\s_1.lo<=s_1.hi)/\(n+n+(n_1+n_2+1)+(n_1+n_2+1)<=4294967290/\l.x.lo<=l.x.hi/\s.lo-s_1.hi<=s.hi-s_1.lo)/\(126+n+n<=2000000000/\p.fst<=p.fst/\l.s.lo<=l.s.hi)/\∀(s_2:Sp) (n_3:Nat),s_2=YO (Sp.mk p.fst p.fst) (Sp.mk l.s.lo l.s.hi)->n_3<=63+max n n->(126+n+n<=2000000000/\p.snd<=p.snd/\l.c.lo<=l.c.hi)/\∀(s_3:Sp) (n_4:Nat),s_3=YO (Sp.mk p.snd p.snd) (Sp.mk l.c.lo l.c.hi)->n_4<=63+max n n->(n_3+n_3+n_4+n_4<=4294967290/\s_2.lo<=s_2.hi/\s_3.lo<=s_3.hi)/\(n+n+(n_3+n_4+1)+(n_3+n_4+1)<=4294967290/\l.y.lo<=l.y.hi/\s_2.lo+s_3.lo<=s_2.hi+s_3.hi)/\K (AV.t [(true,[Zd (l.x.lo+(s.lo-s_1.hi)) (n+(n_1+n_2+1)+1),Zd (l.x.hi+(s.hi-s_1.lo)) (n+(n_1+n_2+1)+1)]),(true,[Zd (l.y.lo+(s_2.lo+s_3.lo)) (n+(n_3+n_4+1)+1),Zd (l.y.hi+(s_2.hi+s_3.hi)) (n+(n_3+n_4+1)+1)])])):=by kernel_rfl
theorem Qa2 (l:LoV)(n:Nat)(p:Rat×Rat)(f:FrV)(hc:(n<=50000000)/\(l.has f))(K:AV->Prop)(hK: ∀a b,a<=3*n+300->b<=3*n+300->K (.t [(true,spN a (atX l p)),(true,spN b (atY l p))])):QM (QGf l n p f K):=by
 refine⟨?_⟩;rw[QGg];try simp only[Zj,R0,R1,Nat.zero_add,Zh,R4,R2,R3]
 obtain⟨hn,hf⟩:=hc;have m1:=Qt (XR p.1) hf.c;have m2:=Qt (XR p.2) hf.s;have m3:=Qt (XR p.1) hf.s;have m4:=Qt (XR p.2) hf.c;refine⟨by omega,by omega,⟨by omega,Rat.le_refl,hf.c.ok⟩,fun s1 n1 e1 h1=> ?_⟩;subst e1;refine⟨⟨by omega,Rat.le_refl,hf.s.ok⟩,fun s2 n2 e2 h2=> ?_⟩;subst e2;refine⟨⟨by omega,m1.ok,m2.ok⟩,⟨by omega,hf.x.ok,(Vw m1 m2).ok⟩,⟨by omega,Rat.le_refl,hf.s.ok⟩,fun s3 n3 e3 h3=> ?_⟩;subst e3;refine⟨⟨by omega,Rat.le_refl,hf.c.ok⟩,fun s4 n4 e4 h4=> ?_⟩;subst e4;exact⟨⟨by omega,m3.ok,m4.ok⟩,⟨by omega,hf.y.ok,(JM m3 m4).ok⟩,hK _ _ (by omega) (by omega)⟩
def QQA:Ctr
 | [.x true xs,.x true ys]=>some fun K=> ∃(l:LoV) (n:Nat) (p:Rat×Rat) (f:FrV),xs=loN n l/\ys=Xl p/\((n<=50000000)/\(l.has f))/\(∀a b,a<=3*n+300->b<=3*n+300->K (.t [(true,spN a (atX l p)),(true,spN b (atY l p))]))
 | _=>none
theorem QYj:QI 111 QQA:=by
 refine okL Tryz.func111 fun l T hT K hK=> ?_
 unfold QQA at hT;split at hT<;>cases hT
 obtain⟨l,n,p,f,rfl,rfl,hc,hK⟩:=hK;exact spL (QW QKO Q8 Qg) QK Tryz.func111 (Qa2 _ _ _ _ hc K hK)
def QYk:LC:=(111,QQA)::QP7
theorem QQB:QG QYk:= .cons QYj QKO
theorem QUS (xl:Rat)(a:Nat)(xh:Rat)(b:Nat)(yl:Rat)(c:Nat)(yh:Rat)(d:Nat)(_hc:True)(K:AV->Prop)(hK:K (.x true [.r xl a,.r yl c,.r xh b,.r yh d])):QM (QR (mkT QYk M79 X4) (oF Tryz.f98) noL Tryz.f98 [.x true ([.r xl a,.r xh b,.r yl c,.r yh d]++Xs++Xs++Xs++Xs)] K):=by
 refine HV ((K (AV.x true [Zd xl a,Zd yl c,Zd xh b,Zd yh d]))) ?_
 try simp only[Zj,R0,R1,Nat.zero_add,Zh,R4,R2,R3]
 exact hK
def QEW:Ctr
 | [.x true [.r xl a,.r xh b,.r yl c,.r yh d,.v (.bool false),.v (.string ⟨⟨[]⟩⟩),.v (.string ⟨⟨[]⟩⟩),.v (.bool false),.v (.string ⟨⟨[]⟩⟩),.v (.string ⟨⟨[]⟩⟩),.v (.bool false),.v (.string ⟨⟨[]⟩⟩),.v (.string ⟨⟨[]⟩⟩),.v (.bool false),.v (.string ⟨⟨[]⟩⟩),.v (.string ⟨⟨[]⟩⟩)]]=>some fun K=>(True)/\(K (.x true [.r xl a,.r yl c,.r xh b,.r yh d]))
 | _=>none
theorem QQC:QI 98 QEW:=by
 refine okL Tryz.func98 fun l T hT K hK=> ?_
 unfold QEW at hT;split at hT<;>cases hT
 obtain⟨hc,hK⟩:=hK;exact spL (QW QQB Q8 Qg) QK Tryz.func98 (QUS _ _ _ _ _ _ _ _ hc K hK)
def QYl:LC:=(98,QEW)::QYk
theorem QQD:QG QYl:= .cons QQC QQB
def GZ (a:ArmV)(B:Nat)(ts:List Sp)(_qs:List Rat)(K:AV->Prop):Prop:=QR (mkT QYl M79 X4) (oF Tryz.f54) (QP6 a ts) Tryz.f54 [J5 a,.x false [.s 6 (ts.map (spN B))]] K
theorem QBb (a:ArmV)(B:Nat)(ts:List Sp)(qs:List Rat)(K:AV->Prop):GZ a B ts qs K=(∃(a_1:ArmV)(B_1:Nat)(ts_1:List Sp)(qs:List Rat),[Ch.v (Value.string a.name),Zd a.x 63,Zd a.y 63,Ch.v (Value.bool a.half),Zd a.t 63,Ch.s 16 (Zb QB a.links)]=[Ch.v (Value.string a_1.name),Zd a_1.x 63,Zd a_1.y 63,Ch.v (Value.bool a_1.half),Zd a_1.t 63,Ch.s 16 (Zb QB a_1.links)]/\Zb (spN B) ts=Zb (spN B_1) ts_1/\(QJ a_1/\(B_1<=100000/\ts_1.length=a_1.links.length)/\ts_1.length=qs.length/\∀(i:Nat) (t:Sp) (q:Rat),ts_1[i]?=some t->qs[i]?=some q->t.lo<=q/\q<=t.hi)/\∀(ls:List LoV) (l:LoV),ls++[l]=XL (Xp a_1) a_1.links ts_1->ls.length=a_1.links.length->(∃(x:HbX),((HbI a ts x/\x.i<=a.links.length)/\OfNat.ofNat 0=0)/\0=0/\24=24/\Zb (loN 42100000) ls++[[Zd l.x.lo (lb a_1.links.length),Zd l.x.hi (lb a_1.links.length),Zd l.y.lo (lb a_1.links.length),Zd l.y.hi (lb a_1.links.length),Zd l.c.lo (lb a_1.links.length),Zd l.c.hi (lb a_1.links.length),Zd l.s.lo (lb a_1.links.length),Zd l.s.hi (lb a_1.links.length)]]=K4 a x.ls x.l/\Value.slice none 0 0=Value.slice none 0 0/\0=0/\x.i=0/\16=16/\Zb QB a.links=Zb QB a.links/\Za (Zb QB a.links).length=Za a.links.length/\0=Za x.i/\34=34/\a.name=a.name/\a.x=a.x/\63<=63/\a.y=a.y/\63<=63/\a.half=a.half/\a.t=a.t/\63<=63/\16=16/\Zb QB a.links=Zb QB a.links/\Zb (bx4 126400000) (Ze x.i (XC x.ls a.links))=[]/\True)/\∀(x:HbX),HbI a ts x/\x.i<=a.links.length->OfNat.ofNat 0=0->bif decide (Za x.i<Za a.links.length)then(0<=Za x.i/\Za x.i<Za (Zb QB a.links).length)/\∃(q:Rat)(n:Nat)(q_1:Rat)(n_1:Nat)(q_2:Rat)(n_2:Nat)(q_3:Rat)(n_3:Nat)(q_4:Rat)(n_4:Nat)(ys:List (List Ch)),ldE (Zb QB a.links) (Za x.i).toNat 0 16=some [Zd q n,Zd q_1 n_1,Zd q_2 n_2,Zd q_3 n_3,Zd q_4 n_4,Ch.s 6 ys]/\(0<=Za x.i/\Za x.i<Za (K4 a x.ls x.l).length)/\∃(q_5:Rat)(n_5:Nat)(q_6:Rat)(n_6:Nat)(q_7:Rat)(n_7:Nat)(q_8:Rat)(n_8:Nat)(q_9:Rat)(n_9:Nat)(q_10:Rat)(n_10:Nat)(q_11:Rat)(n_11:Nat)(q_12:Rat)(n_12:Nat),ldE (K4 a x.ls x.l) (Za x.i).toNat 0 24=some [Zd q_5 n_5,Zd q_6 n_6,Zd q_7 n_7,Zd q_8 n_8,Zd q_9 n_9,Zd q_10 n_10,Zd q_11 n_11,Zd q_12 n_12]/\((0:Int)<=0/\0<Za ys.length)/\∃(q_13:Rat)(n_13:Nat)(q_14:Rat)(n_14:Nat),ldE ys 0 0 6=some [Zd q_13 n_13,Zd q_14 n_14]/\∃(l:LoV)(n_15:Nat)(p:Rat×Rat)(f:FrV),[Zd q_5 n_5,Zd q_6 n_6,Zd q_7 n_7,Zd q_8 n_8,Zd q_9 n_9,Zd q_10 n_10,Zd q_11 n_11,Zd q_12 n_12]=[Zd l.x.lo n_15,Zd l.x.hi n_15,Zd l.y.lo n_15,Zd l.y.hi n_15,Zd l.c.lo n_15,Zd l.c.hi n_15,Zd l.s.lo n_15,Zd l.s.hi n_15]/\[Zd q_13 n_13,Zd q_14 n_14]=[Zd p.fst 63,Zd p.snd 63]/\(n_15<=50000000/\l.has f)/\∀(a_6 b:Nat),a_6<=3*n_15+300->b<=3*n_15+300->((0:Int)<=1/\1<=Za ys.length/\Za ys.length<=Za ys.length)/\(∃(x_1:HbX),(((HbI a ts x_1/\x_1.i<a.links.length/\x_1.j<=(a.links.getD x_1.i zLk).shape.tail.length)/\(x_1.x.lo<=x_1.x.hi/\x_1.y.lo<=x_1.y.hi)/\hX (x_1.ls.getD x_1.i zLo) (Zi x_1.j (a.links.getD x_1.i zLk).shape.tail) x_1.x=(hX (x_1.ls.getD x_1.i zLo) (a.links.getD x_1.i zLk).shape.tail (atX (x_1.ls.getD x_1.i zLo) ((a.links.getD x_1.i zLk).shape.headD (OfNat.ofNat 0,OfNat.ofNat 0))),hY (x_1.ls.getD x_1.i zLo) (a.links.getD x_1.i zLk).shape.tail (atY (x_1.ls.getD x_1.i zLo) ((a.links.getD x_1.i zLk).shape.headD (OfNat.ofNat 0,OfNat.ofNat 0)))).fst/\hY (x_1.ls.getD x_1.i zLo) (Zi x_1.j (a.links.getD x_1.i zLk).shape.tail) x_1.y=(hX (x_1.ls.getD x_1.i zLo) (a.links.getD x_1.i zLk).shape.tail (atX (x_1.ls.getD x_1.i zLo) ((a.links.getD x_1.i zLk).shape.headD (OfNat.ofNat 0,OfNat.ofNat 0))),hY (x_1.ls.getD x_1.i zLo) (a.links.getD x_1.i zLk).shape.tail (atY (x_1.ls.getD x_1.i zLo) ((a.links.getD x_1.i zLk).shape.headD (OfNat.ofNat 0,OfNat.ofNat 0)))).snd)/\a.links.length-x_1.i=a.links.length-x.i)/\0=0/\24=24/\K4 a x.ls x.l=K4 a x_1.ls x_1.l/\0=0/\x.i=x_1.i/\Za x.i=Za x_1.i/\0=0/\0=0/\0=0/\16=16/\Zb QB a.links=Zb QB a.links/\Za a.links.length=Za a.links.length/\Za x.i=Za x_1.i/\6=6/\Ze ((Za ys.length).toNat-1) (Zi 1 ys)=Zb Xl (a.links.getD x_1.i zLk).shape.tail/\Za (Ze ((Za ys.length).toNat-1) (Zi 1 ys)).length=Za (a.links.getD x_1.i zLk).shape.tail.length/\0=Za x_1.j/\34=34/\a.name=a.name/\a.x=a.x/\63<=63/\a.y=a.y/\63<=63/\a.half=a.half/\a.t=a.t/\63<=63/\16=16/\Zb QB a.links=Zb QB a.links/\63=63/\q=(a.links.getD x_1.i zLk).len/\n<=63/\q_1=(a.links.getD x_1.i zLk).lo/\n_1<=63/\q_2=(a.links.getD x_1.i zLk).hi/\n_2<=63/\q_3=(a.links.getD x_1.i zLk).sp/\n_3<=63/\q_4=(a.links.getD x_1.i zLk).br/\n_4<=63/\6=6/\ys=Zb Xl (a.links.getD x_1.i zLk).shape/\86=86/\(atX l p).lo=x_1.x.lo/\a_6<=126400000/\(atX l p).hi=x_1.x.hi/\a_6<=126400000/\86=86/\(atY l p).lo=x_1.y.lo/\b<=126400000/\(atY l p).hi=x_1.y.hi/\b<=126400000/\93=93/\12=12/\(Zb (bx4 126400000) (Ze x.i (XC x.ls a.links))=Zb (bx4 126400000) (Ze x_1.i (XC x_1.ls a.links))∨QC (Zb (bx4 126400000) (Ze x.i (XC x.ls a.links))) (Zb (bx4 126400000) (Ze x_1.i (XC x_1.ls a.links))))/\True)/\∀(x_1:HbX),(HbI a ts x_1/\x_1.i<a.links.length/\x_1.j<=(a.links.getD x_1.i zLk).shape.tail.length)/\(x_1.x.lo<=x_1.x.hi/\x_1.y.lo<=x_1.y.hi)/\hX (x_1.ls.getD x_1.i zLo) (Zi x_1.j (a.links.getD x_1.i zLk).shape.tail) x_1.x=(hX (x_1.ls.getD x_1.i zLo) (a.links.getD x_1.i zLk).shape.tail (atX (x_1.ls.getD x_1.i zLo) ((a.links.getD x_1.i zLk).shape.headD (OfNat.ofNat 0,OfNat.ofNat 0))),hY (x_1.ls.getD x_1.i zLo) (a.links.getD x_1.i zLk).shape.tail (atY (x_1.ls.getD x_1.i zLo) ((a.links.getD x_1.i zLk).shape.headD (OfNat.ofNat 0,OfNat.ofNat 0)))).fst/\hY (x_1.ls.getD x_1.i zLo) (Zi x_1.j (a.links.getD x_1.i zLk).shape.tail) x_1.y=(hX (x_1.ls.getD x_1.i zLo) (a.links.getD x_1.i zLk).shape.tail (atX (x_1.ls.getD x_1.i zLo) ((a.links.getD x_1.i zLk).shape.headD (OfNat.ofNat 0,OfNat.ofNat 0))),hY (x_1.ls.getD x_1.i zLo) (a.links.getD x_1.i zLk).shape.tail (atY (x_1.ls.getD x_1.i zLo) ((a.links.getD x_1.i zLk).shape.headD (OfNat.ofNat 0,OfNat.ofNat 0)))).snd->a.links.length-x_1.i=a.links.length-x.i->bif decide (Za x_1.j<Za (a.links.getD x_1.i zLk).shape.tail.length)then(0<=Za x_1.j/\Za x_1.j<Za (Zb Xl (a.links.getD x_1.i zLk).shape.tail).length)/\∃(q:Rat)(n:Nat)(q_15:Rat)(n_16:Nat),ldE (Zb Xl (a.links.getD x_1.i zLk).shape.tail) (Za x_1.j).toNat 0 6=some [Zd q n,Zd q_15 n_16]/\(0<=Za x_1.i/\Za x_1.i<Za (K4 a x_1.ls x_1.l).length)/\∃(q_16:Rat)(n_17:Nat)(q_17:Rat)(n_18:Nat)(q_18:Rat)(n_19:Nat)(q_19:Rat)(n_20:Nat)(q_20:Rat)(n_21:Nat)(q_21:Rat)(n_22:Nat)(q_22:Rat)(n_23:Nat)(q_23:Rat)(n_24:Nat),ldE (K4 a x_1.ls x_1.l) (Za x_1.i).toNat 0 24=some [Zd q_16 n_17,Zd q_17 n_18,Zd q_18 n_19,Zd q_19 n_20,Zd q_20 n_21,Zd q_21 n_22,Zd q_22 n_23,Zd q_23 n_24]/\∃(l:LoV)(n_25:Nat)(p:Rat×Rat)(f:FrV),[Zd q_16 n_17,Zd q_17 n_18,Zd q_18 n_19,Zd q_19 n_20,Zd q_20 n_21,Zd q_21 n_22,Zd q_22 n_23,Zd q_23 n_24]=[Zd l.x.lo n_25,Zd l.x.hi n_25,Zd l.y.lo n_25,Zd l.y.hi n_25,Zd l.c.lo n_25,Zd l.c.hi n_25,Zd l.s.lo n_25,Zd l.s.hi n_25]/\[Zd q n,Zd q_15 n_16]=[Zd p.fst 63,Zd p.snd 63]/\(n_25<=50000000/\l.has f)/\∀(a_11 b:Nat),a_11<=3*n_25+300->b<=3*n_25+300->(252800000+a_11+a_11<=4294967290/\x_1.x.lo<=x_1.x.hi/\(atX l p).lo<=(atX l p).hi)/\(252800000+b+b<=4294967290/\x_1.y.lo<=x_1.y.hi/\(atY l p).lo<=(atY l p).hi)/\∃(x':HbX),(((HbI a ts x'/\x'.i<a.links.length/\x'.j<=(a.links.getD x'.i zLk).shape.tail.length)/\(x'.x.lo<=x'.x.hi/\x'.y.lo<=x'.y.hi)/\hX (x'.ls.getD x'.i zLo) (Zi x'.j (a.links.getD x'.i zLk).shape.tail) x'.x=(hX (x'.ls.getD x'.i zLo) (a.links.getD x'.i zLk).shape.tail (atX (x'.ls.getD x'.i zLo) ((a.links.getD x'.i zLk).shape.headD (OfNat.ofNat 0,OfNat.ofNat 0))),hY (x'.ls.getD x'.i zLo) (a.links.getD x'.i zLk).shape.tail (atY (x'.ls.getD x'.i zLo) ((a.links.getD x'.i zLk).shape.headD (OfNat.ofNat 0,OfNat.ofNat 0)))).fst/\hY (x'.ls.getD x'.i zLo) (Zi x'.j (a.links.getD x'.i zLk).shape.tail) x'.y=(hX (x'.ls.getD x'.i zLo) (a.links.getD x'.i zLk).shape.tail (atX (x'.ls.getD x'.i zLo) ((a.links.getD x'.i zLk).shape.headD (OfNat.ofNat 0,OfNat.ofNat 0))),hY (x'.ls.getD x'.i zLo) (a.links.getD x'.i zLk).shape.tail (atY (x'.ls.getD x'.i zLo) ((a.links.getD x'.i zLk).shape.headD (OfNat.ofNat 0,OfNat.ofNat 0)))).snd)/\a.links.length-x'.i=a.links.length-x.i/\(a.links.getD x'.i zLk).shape.tail.length-x'.j<(a.links.getD x_1.i zLk).shape.tail.length-x_1.j)/\0=0/\24=24/\K4 a x_1.ls x_1.l=K4 a x'.ls x'.l/\0=0/\x_1.i=x'.i/\Za x_1.i=Za x'.i/\0=0/\0=0/\0=0/\16=16/\Zb QB a.links=Zb QB a.links/\Za a.links.length=Za a.links.length/\Za x_1.i=Za x'.i/\6=6/\Zb Xl (a.links.getD x_1.i zLk).shape.tail=Zb Xl (a.links.getD x'.i zLk).shape.tail/\Za (a.links.getD x_1.i zLk).shape.tail.length=Za (a.links.getD x'.i zLk).shape.tail.length/\IntKind.i64.wrap (Za x_1.j+1)=Za x'.j/\34=34/\a.name=a.name/\a.x=a.x/\63<=63/\a.y=a.y/\63<=63/\a.half=a.half/\a.t=a.t/\63<=63/\16=16/\Zb QB a.links=Zb QB a.links/\63=63/\(a.links.getD x_1.i zLk).len=(a.links.getD x'.i zLk).len/\63<=63/\(a.links.getD x_1.i zLk).lo=(a.links.getD x'.i zLk).lo/\63<=63/\(a.links.getD x_1.i zLk).hi=(a.links.getD x'.i zLk).hi/\63<=63/\(a.links.getD x_1.i zLk).sp=(a.links.getD x'.i zLk).sp/\63<=63/\(a.links.getD x_1.i zLk).br=(a.links.getD x'.i zLk).br/\63<=63/\6=6/\Zb Xl (a.links.getD x_1.i zLk).shape=Zb Xl (a.links.getD x'.i zLk).shape/\86=86/\XA x_1.x.lo (atX l p).lo=x'.x.lo/\max 126400000 a_11<=126400000/\XH x_1.x.hi (atX l p).hi=x'.x.hi/\max 126400000 a_11<=126400000/\86=86/\XA x_1.y.lo (atY l p).lo=x'.y.lo/\max 126400000 b<=126400000/\XH x_1.y.hi (atY l p).hi=x'.y.hi/\max 126400000 b<=126400000/\93=93/\12=12/\(Zb (bx4 126400000) (Ze x_1.i (XC x_1.ls a.links))=Zb (bx4 126400000) (Ze x'.i (XC x'.ls a.links))∨QC (Zb (bx4 126400000) (Ze x_1.i (XC x_1.ls a.links))) (Zb (bx4 126400000) (Ze x'.i (XC x'.ls a.links))))/\True else True/\((x_1.i+1)*160<=140737488355328/\x_1.i+1<=9223372036854775807)/\∃(x':HbX),((HbI a ts x'/\x'.i<=a.links.length)/\OfNat.ofNat 0=0/\a.links.length-x'.i<a.links.length-x.i)/\0=0/\24=24/\K4 a x_1.ls x_1.l=K4 a x'.ls x'.l/\0=0/\x_1.i+1=x'.i/\16=16/\Zb QB a.links=Zb QB a.links/\Za a.links.length=Za a.links.length/\IntKind.i64.wrap (Za x_1.i+1)=Za x'.i/\34=34/\a.name=a.name/\a.x=a.x/\63<=63/\a.y=a.y/\63<=63/\a.half=a.half/\a.t=a.t/\63<=63/\16=16/\Zb QB a.links=Zb QB a.links/\93=93/\12=12/\(Ze x_1.i (Zb (bx4 126400000) (Ze x_1.i (XC x_1.ls a.links)))++[[Zd x_1.x.lo 126400000,Zd x_1.y.lo 126400000,Zd x_1.x.hi 126400000,Zd x_1.y.hi 126400000]]=Zb (bx4 126400000) (Ze x'.i (XC x'.ls a.links))∨QC (Ze x_1.i (Zb (bx4 126400000) (Ze x_1.i (XC x_1.ls a.links)))++[[Zd x_1.x.lo 126400000,Zd x_1.y.lo 126400000,Zd x_1.x.hi 126400000,Zd x_1.y.hi 126400000]]) (Zb (bx4 126400000) (Ze x'.i (XC x'.ls a.links))))/\True else K (AV.t [(false,[Ch.s 12 (Ze x.i (Zi 0 (Zb (bx4 126400000) (Ze x.i (XC x.ls a.links)))))]),(false,[Ch.v (Value.int IntKind.i64 0)])])):=by kernel_rfl
theorem QQE (a:ArmV)(B:Nat)(ts:List Sp)(qs:List Rat)(hc:(QJ a)/\(B<=100000/\ts.length=a.links.length)/\(HasQ ts qs))(K:AV->Prop)(hK: ∀(ls:List LoV) (l:LoV),ls++[l]=XL (Xp a) a.links ts->ls.length=a.links.length->K (.t [(false,[.s 12 ((XC ls a.links).map (bx4 126400000))]),(false,[.v (.int .i64 0)])])):QM (GZ a B ts qs K):=by
 refine⟨?_⟩;rw[QBb];try simp only[Zj,R0,R1,Zh,R4]
 obtain⟨hg,⟨hB,hts⟩,hq⟩:=hc;have hn:=hg.n;have hqs:=hq.1;have fl:=UW a.links qs (Wx a) (by omega);refine⟨a,B,ts,qs,rfl,rfl,⟨hg,⟨hB,hts⟩,hq⟩,fun ls l he hl=>⟨⟨⟨ls,l,WG 0,WG 0,0,0⟩,⟨⟨he,hl⟩,by simp⟩,rfl,rfl,by simp,rfl,rfl⟩,fun x hx=>QF (fun hp=> ?_) (fun hp=> ?_)⟩⟩
 ·have hp:x.i<a.links.length:=by have:=R5 hp;omega
  have hxl:=hx.1.len;obtain⟨L,hL⟩: ∃L,a.links[x.i]? =some L:=⟨_,Zc hp⟩
  obtain⟨y,hy⟩: ∃y,x.ls[x.i]? =some y:=⟨_,Zc (by omega)⟩
  obtain⟨g,hgx⟩: ∃g,(WO (Wx a) a.links qs)[x.i]? =some g:=⟨_,Zc (by omega)⟩
  have hy2:(x.ls++[x.l])[x.i]? =some y:=by rw[List.getElem?_append_left (by omega)];exact hy
  obtain⟨m,hm,ld⟩:=QP5 hn.2 hy2;rw[hx.1.eq]at hy2;have hh:=Kp a.links ts qs (Xp a) (Wx a) (KS a) hq x.i y g hy2 hgx;have gL:a.links.getD x.i zLk=L:=U0 hL;have gS:x.ls.getD x.i zLo=y:=U0 hy;have hpo:=(hg.links L (List.mem_of_getElem? hL)).poly;have p1:=hpo.lo;have p2:=hpo.hi;obtain⟨p0,hp0⟩: ∃p,L.shape[0]? =some p:=⟨_,Zc (by omega)⟩
  have tl:L.shape.tail.length=L.shape.length-1:=List.length_tail;have et:Ze (((L.shape.map Xl).length:Int).toNat-1) (Zi 1 (L.shape.map Xl))=L.shape.tail.map Xl:=by
   rw[Zk,Zf,List.drop_one,<-List.map_tail,Zg (by simp)]
  refine⟨by rw[Zf];omega,_,_,_,_,_,_,_,_,_,_,_,Ko (by simpa using hL),by rw[QGe];omega,_,_,_,_,_,_,_,_,_,_,_,_,_,_,_,_,by rw[Zk];exact ld,by rw[Zf];omega,_,_,_,_,WE (i:=0) hp0,y,m,p0,g,rfl,rfl,⟨by omega,hh⟩,fun b1 b2 h1 h2=>⟨by rw[Zf];omega,⟨⟨x.ls,x.l,atX y p0,atY y p0,x.i,0⟩,⟨⟨⟨⟨hx.1.eq,hxl⟩,hp,by simp⟩,⟨(G7 hh p0).ok,(G8 hh p0).ok⟩,?_,?_⟩,rfl⟩,rfl,rfl,rfl,rfl,by rw[gL];exact et,by rw[et,gL,Zf],rfl,by rw[gL],Zh _,by rw[gL],Zh _,by rw[gL],Zh _,by rw[gL],Zh _,by rw[gL],Zh _,by rw[gL],rfl,by omega,rfl,by omega,rfl,by omega,rfl,by omega,.inl rfl⟩,fun z hz hzt=>QF (fun hk=> ?_) (fun hk=> ?_)⟩⟩
  ·show hX (x.ls.getD x.i zLo) ((a.links.getD x.i zLk).shape.tail.drop 0) (atX y p0)=(YW (x.ls.getD x.i zLo) (a.links.getD x.i zLk)).1
   rw[gL,gS,Zl];unfold YW;rw[QEV hp0]
  ·show hY (x.ls.getD x.i zLo) ((a.links.getD x.i zLk).shape.tail.drop 0) (atY y p0)=(YW (x.ls.getD x.i zLo) (a.links.getD x.i zLk)).2
   rw[gL,gS,Zl];unfold YW;rw[QEV hp0]
  ·have hk:z.j<(a.links.getD z.i zLk).shape.tail.length:=by have:=R5 hk;omega
   obtain⟨⟨hzI,hzi,hzj⟩,⟨ox,oy⟩,ex,ey⟩:=hz;have hzl:=hzI.len;obtain⟨M,hM⟩: ∃M,a.links[z.i]? =some M:=⟨_,Zc hzi⟩
   obtain⟨w,hw⟩: ∃w,z.ls[z.i]? =some w:=⟨_,Zc (by omega)⟩
   obtain⟨e,hex⟩: ∃g,(WO (Wx a) a.links qs)[z.i]? =some g:=⟨_,Zc (by omega)⟩
   have hw2:(z.ls++[z.l])[z.i]? =some w:=by rw[List.getElem?_append_left (by omega)];exact hw
   obtain⟨m',hm',ld'⟩:=QP5 hn.2 hw2;rw[hzI.eq]at hw2;have hh':=Kp a.links ts qs (Xp a) (Wx a) (KS a) hq z.i w e hw2 hex;have gM:a.links.getD z.i zLk=M:=U0 hM;have gW:z.ls.getD z.i zLo=w:=U0 hw;have q2:=((hg.links M (List.mem_of_getElem? hM)).poly).hi;have tM:M.shape.tail.length=M.shape.length-1:=List.length_tail;have hk2:z.j<M.shape.tail.length:=by rw[gM]at hk;exact hk
   obtain⟨v,hv⟩: ∃v,M.shape.tail[z.j]? =some v:=⟨_,Zc hk2⟩
   have hv2:(a.links.getD z.i zLk).shape.tail[z.j]? =some v:=by rw[gM];exact hv
   rw[KT hv2,gW]at ex ey;refine⟨by rw[Zf];omega,_,_,_,_,WE (by simpa using hv2),by rw[QGe];omega,_,_,_,_,_,_,_,_,_,_,_,_,_,_,_,_,by rw[Zk];exact ld',w,m',v,e,rfl,rfl,⟨by omega,hh'⟩,fun c1 c2 k1 k2=>⟨⟨by omega,ox,(G7 hh' v).ok⟩,⟨by omega,oy,(G8 hh' v).ok⟩,⟨z.ls,z.l,Ju z.x (atX w v),Ju z.y (atY w v),z.i,z.j+1⟩,⟨⟨⟨⟨hzI.eq,hzl⟩,hzi,hk⟩,⟨QKP ox,QKP oy⟩,?_,?_⟩,hzt,by simp only;omega⟩,rfl,rfl,rfl,rfl,rfl,rfl,by rw[w64 (by omega)];simp,rfl,rfl,rfl,rfl,rfl,rfl,rfl,by omega,rfl,by omega,rfl,by omega,rfl,by omega,.inl rfl⟩⟩
   ·rw[<-gW]at ex⊢;exact ex
   ·rw[<-gW]at ey⊢;exact ey
  ·obtain⟨⟨hzI,hzi,hzj⟩,⟨ox,oy⟩,ex,ey⟩:=hz;have hk:z.j=(a.links.getD z.i zLk).shape.tail.length:=by have:=R6 hk;omega
   have hzl:=hzI.len;obtain⟨M,hM⟩: ∃M,a.links[z.i]? =some M:=⟨_,Zc hzi⟩
   obtain⟨w,hw⟩: ∃w,z.ls[z.i]? =some w:=⟨_,Zc (by omega)⟩
   have gM:a.links.getD z.i zLk=M:=U0 hM;have gW:z.ls.getD z.i zLo=w:=U0 hw;rw[hk,List.drop_length,gW,gM]at ex ey;have ex:z.x=(YW w M).1:=ex;have ey:z.y=(YW w M).2:=ey;have hbl:=Vy hzl;refine⟨by omega,⟨z.ls,z.l,z.x,z.y,z.i+1,0⟩,⟨⟨⟨hzI.eq,hzl⟩,hzi⟩,by simp only;omega⟩,rfl,rfl,by rw[w64 (by omega)];simp,.inl ?_⟩;rw[Zg (by rw[Zf,List.length_take];omega),List.take_add_one,Hy hw hM,List.map_append,ex,ey];rfl
 ·have hp:x.i=a.links.length:=by have:=R6 hp;have:=hx.2;omega
  have hbl:=Vy hx.1.len;have:=hK x.ls x.l hx.1.eq hx.1.len;rw[Zl,Zg (by rw[Zf,List.length_take];omega),Zg (by omega)];exact this
def QBc:Ctr
 | [.x true xs,.x false [.s 6 ys]]=>some fun K=> ∃(a:ArmV) (B:Nat) (ts:List Sp) (qs:List Rat),xs=XM a/\ys=ts.map (spN B)/\((QJ a)/\(B<=100000/\ts.length=a.links.length)/\(HasQ ts qs))/\(∀(ls:List LoV) (l:LoV),ls++[l]=XL (Xp a) a.links ts->ls.length=a.links.length->K (.t [(false,[.s 12 ((XC ls a.links).map (bx4 126400000))]),(false,[.v (.int .i64 0)])]))
 | _=>none
theorem QMX:QI 54 QBc:=by
 refine okL Tryz.func54 fun l T hT K hK=> ?_
 unfold QBc at hT;split at hT<;>cases hT
 obtain⟨a,B,ts,qs,rfl,rfl,hc,hK⟩:=hK;exact spL (QW QQD Q8 Qg) QK Tryz.func54 (QQE _ _ _ _ hc K hK)
def Qa3:LC:=(54,QBc)::QYl
theorem QYm:QG Qa3:= .cons QMX QQD
def QUT:LC:=Qa3
noncomputable def Qa4:QZ:=mkT QUT M79 X4
theorem QJB:QG QUT:=QYm
theorem QYn:Q7 Qa4:=QW QJB Q8 Qg
end Go.Proofs
