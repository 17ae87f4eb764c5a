/- Columns, velocities. -/
import Derived.Test.YtfhfenokfkenoaaGreatDoorFL
open Go.IntKind renaming i64 → Za
open Int renaming ofNat → Zb, ofNat_eq_natCast → Zj
open List renaming map → Zc, take → Zg, take_of_length_le → Zi, length_map → Zk, getElem?_map → Zl, drop → Zn
open Go.Value renaming bool → Zd, int → Zf, string → Zm
open Go.Eng.Ch renaming r → Ze, v → Zh
namespace Go.Proofs
open Go Go.Eng
structure TqX where
 fs:List FrV
 f:FrV
 i:Nat
structure TqI (a:ArmV)(qs:List Rat)(x:TqX):Prop where
 eq:x.fs++[x.f]=Ql (XF a) a.links qs
 len:x.fs.length=a.links.length
 le:x.i<=a.links.length
def QZZ (n:Nat)(l:List (Rat×Rat)):Blk:= .row 27 6 (l.map (QT n))
def sVv (n:Nat)(l:List (Rat×Rat)):AV:= .x false [.s 6 (l.map (QT n))]
def QOQ (a:ArmV)(qs:List Rat):LI:=fun _=> .inv ⟨TqX,fun x=>⟨[(8,.x false [.p 8 0]),(9,.x false [.w 500 0 x.i]),(33,.x false [.s 10 (x.fs.map XL)]),(34,iA .i64 a.links.length),(35,iA .i64 x.i)],
 [(8,.box 27 [.r x.f.x 120000000,.r x.f.y 120000000]),(500,QZZ 132800001 ((XU x.f x.fs).take x.i))]⟩,TqI a qs,fun x=>a.links.length-x.i,fun _=>0⟩
def QOR (x:Int):Int:=([1,2,3,4,5,8]:List Int).getD (x % 6).toNat 1
def QIA (x:Int):Rat:=mkRat (Za.wrap (x.tdiv 6) % (16*QOR x+1)-8*QOR x) (QOR x).toNat
def QWi:LC:=L95
theorem QOS:QF QWi:=QU3
theorem QDy {n N:Nat}(qs:List Rat)(q:Rat)(h:n<=N):QE (lR N qs++[[Ze q n]]) (lR N (qs++[q])):=by
 have e:lR N (qs++[q])=lR N qs++[[Ze q N]]:=by simp[lR]
 rw[e];refine QA8 ?_ ⟨.r h .nil,rfl⟩
 refine⟨rfl,fun i x y hx hy=> ?_⟩;rw[hx]at hy;cases hy
 simp only[lR,Zl,Option.map_eq_some_iff]at hx;obtain⟨q,_,rfl⟩:=hx;exact⟨.r (Nat.le_refl _) .nil,rfl⟩
theorem QOT {n m N:Nat}(l:List (Rat×Rat))(x y:Rat)(h:n<=N)(k:m<=N):QE (l.map (QT N)++[[Ze x n,Ze y m]]) ((l++[(x,y)]).map (QT N)):=by
 rw[List.map_append];refine QA8 ?_ ⟨.r h (.r k .nil),rfl⟩
 refine⟨rfl,fun i x y hx hy=> ?_⟩;rw[hx]at hy;cases hy
 simp only[Zl,Option.map_eq_some_iff]at hx;obtain⟨q,_,rfl⟩:=hx;exact⟨.r (Nat.le_refl _) (.r (Nat.le_refl _) .nil),rfl⟩
theorem QU4 {fs:List FrV}{i:Nat}{f:FrV}(h:fs[i]? =some f):ldE (fs.map XL) i 0 10=some [.r f.x 12800000,.r f.y 12800000,.v (.bool f.h),.r f.t 12800000]:=by
 simp only[ldE,Zl,h];rfl
theorem Ur {fs gs:List FrV}{f g:FrV}(h:fs++[f]=gs++[g]):fs=gs/\f=g:=by
 have hl:fs.length=gs.length:=by have:=congrArg List.length h;simpa using this
 obtain⟨h1,h2⟩:=List.append_inj h hl;exact⟨h1,by simpa using h2⟩
theorem QFt {α:Type}{l:List α}{i:Nat}{a:α}(h:l[i]? =some a):l.drop i=a::l.drop (i+1):=by
 obtain⟨hi,e⟩:=List.getElem?_eq_some_iff.1 h
 rw[List.drop_eq_getElem_cons hi,e]
theorem QSl (x:Int)(_hc:(-9223372036854775808<=x/\x<9223372036854775808))(K:AV->Prop)(hK:K (rA (QIA x) 63)):QK (QP (mkT QWi M79 X4) (oF Tryz.f90) noL Tryz.f90 [iA .i64 x] K):=by
 refine HV ((((0:Int)<6/\(6:Int)<9223372036854775808)/\(0<=x%6/\x%6<6)/\∃(d:Int),ldE [[Zh (Zf Za 1)],[Zh (Zf Za 2)],[Zh (Zf Za 3)],[Zh (Zf Za 4)],[Zh (Zf Za 5)],[Zh (Zf Za 8)]] (0+(x%6).toNat) 0 1=some [Zh (Zf Za d)]/\(6:Int)≠0/\(0<Za.wrap (Za.wrap (16*d)+1)/\Za.wrap (Za.wrap (16*d)+1)<9223372036854775808)/\((-9223372036854775808<Za.wrap (Za.wrap (x.tdiv 6)%Za.wrap (Za.wrap (16*d)+1)-Za.wrap (8*d))/\Za.wrap (Za.wrap (x.tdiv 6)%Za.wrap (Za.wrap (16*d)+1)-Za.wrap (8*d))<9223372036854775808)/\0<d/\d<9223372036854775808)/\K (AV.x true [Ze (mkRat (Za.wrap (Za.wrap (x.tdiv 6)%Za.wrap (Za.wrap (16*d)+1)-Za.wrap (8*d))) d.toNat) 63]))) ?_
 try simp only[Nat.zero_add]
 have b1:=Int.emod_nonneg x (show(6:Int)≠0 by decide);have b2:=Int.emod_lt_of_pos x (show(0:Int)<6 by decide);obtain⟨d,hd,hdr,hde⟩: ∃d,ldE [[Zh (Zf Za 1)],[Zh (Zf Za 2)],[Zh (Zf Za 3)],[Zh (Zf Za 4)],[Zh (Zf Za 5)],[Zh (Zf Za 8)]] (x % 6).toNat 0 1=some [Zh (Zf Za d)]/\(1<=d/\d<=8)/\QOR x=d:=by
  unfold QOR;generalize x % 6=r at b1 b2;have:r=0∨r=1∨r=2∨r=3∨r=4∨r=5:=by omega
  rcases this with rfl | rfl | rfl | rfl | rfl | rfl
  ·exact⟨1,rfl,by omega,rfl⟩
  ·exact⟨2,rfl,by omega,rfl⟩
  ·exact⟨3,rfl,by omega,rfl⟩
  ·exact⟨4,rfl,by omega,rfl⟩
  ·exact⟨5,rfl,by omega,rfl⟩
  ·exact⟨8,rfl,by omega,rfl⟩
 unfold QIA at hK;rw[hde]at hK;have e1:Za.wrap (Za.wrap (16*d)+1)=16*d+1:=by rw[w64 (n:=16*d) (by omega),w64 (by omega)]
 have e2:Za.wrap (8*d)=8*d:=w64 (by omega);have b3:=Int.emod_nonneg (Za.wrap (x.tdiv 6)) (show 16*d+1≠0 by omega);have b4:=Int.emod_lt_of_pos (Za.wrap (x.tdiv 6)) (show 0<16*d+1 by omega);refine⟨by omega,by omega,d,hd,by decide,?_⟩;rw[e1,e2,w64 (n:=_-8*d) (by omega)];exact⟨by omega,by omega,hK⟩
def QDz:Ctr
 | [.x false [.v (.int .i64 x)]]=>some fun K=>((-9223372036854775808<=x/\x<9223372036854775808))/\(K (rA (QIA x) 63))
 | _=>none
theorem QOU:QI 90 QDz:=by
 refine okL Tryz.func90 fun l T hT K hK=> ?_
 unfold QDz at hT;split at hT<;>cases hT
 obtain⟨hc,hK⟩:=hK;exact spL (QS QOS Xe Qm) QM Tryz.func90 (QSl _ hc K hK)
def QZa:LC:=(90,QDz)::QWi
theorem QWj:QF QZa:= .cons QOU QOS
def QWk:LC:=QZa
theorem QOV:QF QWk:=QWj
theorem QWl (l:List Int)(hc:(l.length<=9223372036854775807))(K:AV->Prop)(hK: ∀p:Rat×Rat,K (.x true (Xc p))):QK (QP (mkT QWk M79 X4) (oF Tryz.f31) noL Tryz.f31 [.x false [.s 1 (ints l)]] K):=by
 refine HV ((∃(l_1:List Int),ints l=ints l_1/\((1:Int)<=1048576/\(1048576:Int)<9223372036854775808)/\l_1.length<=9223372036854775807/\∀(r:Int) (l':List Int),0<=r/\r<1048576->l'.length<=l_1.length->(-9223372036854775808<=r/\r<9223372036854775808)/\∃(l:List Int),ints l'=ints l/\((1:Int)<=1048576/\(1048576:Int)<9223372036854775808)/\l.length<=9223372036854775807/\∀(r_1:Int) (l':List Int),0<=r_1/\r_1<1048576->l'.length<=l.length->(-9223372036854775808<=r_1/\r_1<9223372036854775808)/\K (AV.x true [Ze (QIA r) 63,Ze (QIA r_1) 63]))) ?_
 try simp only[Zj,R0,R1,Nat.zero_add,Nat.le_refl,R4,R2,R3]
 exact⟨l,rfl,by omega,hc,fun r l1 hr h1=>⟨by omega,l1,rfl,by omega,by omega,fun r2 l2 hr2 h2=>⟨by omega,hK (QIA r,QIA r2)⟩⟩⟩
def QD0:Ctr
 | [.x false [.s 1 xs]]=>some fun K=> ∃(l:List Int),xs=ints l/\((l.length<=9223372036854775807))/\(∀p:Rat×Rat,K (.x true (Xc p)))
 | _=>none
theorem QJW:QI 31 QD0:=by
 refine okL Tryz.func31 fun l T hT K hK=> ?_
 unfold QD0 at hT;split at hT<;>cases hT
 obtain⟨l,rfl,hc,hK⟩:=hK;exact spL (QS QOV Xe Qm) QM Tryz.func31 (QWl _ hc K hK)
def QWm:LC:=(31,QD0)::QWk
theorem QOW:QF QWm:= .cons QJW QOV
theorem QSm (q:Rat)(a:Nat)(v:Rat)(b:Nat)(hc:(2*a+b<=4294967000))(K:AV->Prop)(hK: ∀n,n<=2*a+b+200->K (rA (YO q v) n)):QK (QP (mkT QWm M79 X4) (oF Tryz.f29) noL Tryz.f29 [rA q a,rA v b] K):=by
 refine HV ((((-9223372036854775808:Int)<=2/\(2:Int)<9223372036854775808)/\64+b<=4294967296/\((-9223372036854775808:Int)<=1/\(1:Int)<9223372036854775808)/\a+a<=4294967296/\64+(a+a)+1<=4294967296/\64+b+(64+(a+a)+1)<=4294967296/\(↑(1:Int)+q*q≠OfNat.ofNat 0->K (AV.x true [Ze (↑(2:Int)*v/(↑(1:Int)+q*q)) (64+b+(64+(a+a)+1))]))/\(↑(1:Int)+q*q=OfNat.ofNat 0->K (AV.x true [Zh (Zd false),Zh (Zm (ByteArray.mk (Array.mk []))),Zh (Zm (ByteArray.mk (Array.mk [])))])))) ?_
 try simp only[Zj,R0,R1,Nat.zero_add,Nat.le_refl,R4,R2,R3]
 exact⟨by omega,by omega,by omega,by omega,by omega,by omega,fun _=>hK _ (by omega),fun h0=>absurd h0 (sq1 q)⟩
def Gk:Ctr
 | [.x true [.r q a],.x true [.r v b]]=>some fun K=>((2*a+b<=4294967000))/\(∀n,n<=2*a+b+200->K (rA (YO q v) n))
 | _=>none
theorem QFu:QI 29 Gk:=by
 refine okL Tryz.func29 fun l T hT K hK=> ?_
 unfold Gk at hT;split at hT<;>cases hT
 obtain⟨hc,hK⟩:=hK;exact spL (QS QOW Xe Qm) QM Tryz.func29 (QSm _ _ _ _ hc K hK)
def QWn:LC:=(29,Gk)::QWm
theorem QOX:QF QWn:= .cons QFu QOW
abbrev QJX (a:ArmV)(b:Nat)(qs:List Rat)(K:AV->Prop):Prop:=((QU a)/\(b<=400/\qs.length=a.links.length))/\(∀(fs:List FrV) (f:FrV),fs++[f]=Ql (XF a) a.links qs->fs.length=a.links.length->K (.t [(false,[.s 6 ((XU f fs).map (QT 132800001))]),(false,[.v (.int .i64 0)])]))
set_option maxHeartbeats 1000000 in
theorem QSn (a:ArmV)(b:Nat)(qs:List Rat)(K:AV->Prop)(hK:QJX a b qs K):QK (QP (mkT QWn M79 X4) (oF Tryz.f85) (QOQ a qs) Tryz.f85 [Jq a,sR b qs] K):=by
 obtain⟨hc,hK⟩:=hK;refine HV ((∃(a_1:ArmV),∃(b_1:Nat),∃(qs_1:List Rat),[Zh (Zm a.name),Ze a.x 63,Ze a.y 63,Zh (Zd a.half),Ze a.t 63,Ch.s 16 (Zc QG a.links)]=[Zh (Zm a_1.name),Ze a_1.x 63,Ze a_1.y 63,Zh (Zd a_1.half),Ze a_1.t 63,Ch.s 16 (Zc QG a_1.links)]/\lR b qs=lR b_1 qs_1/\(QU a_1/\b_1<=400/\qs_1.length=a_1.links.length)/\∀(fs:List FrV) (f:FrV),fs++[f]=Ql (XF a_1) a_1.links qs_1->fs.length=a_1.links.length->(0<=Za.wrap (Zb (Zc XL fs++[[Ze f.x (bnd a_1.links.length),Ze f.y (bnd a_1.links.length),Zh (Zd f.h),Ze f.t (bnd a_1.links.length)]]).length-1)/\Za.wrap (Zb (Zc XL fs++[[Ze f.x (bnd a_1.links.length),Ze f.y (bnd a_1.links.length),Zh (Zd f.h),Ze f.t (bnd a_1.links.length)]]).length-1)<Zb (Zc XL fs++[[Ze f.x (bnd a_1.links.length),Ze f.y (bnd a_1.links.length),Zh (Zd f.h),Ze f.t (bnd a_1.links.length)]]).length)/\∃(q:Rat),∃(n:Nat),∃(q_1:Rat),∃(n_1:Nat),ldE (Zc XL fs++[[Ze f.x (bnd a_1.links.length),Ze f.y (bnd a_1.links.length),Zh (Zd f.h),Ze f.t (bnd a_1.links.length)]]) (Za.wrap (Zb (Zc XL fs++[[Ze f.x (bnd a_1.links.length),Ze f.y (bnd a_1.links.length),Zh (Zd f.h),Ze f.t (bnd a_1.links.length)]]).length-1)).toNat 0 6=some [Ze q n,Ze q_1 n_1]/\((0:Int)<=0/\0<=Za.wrap (Zb (Zc XL fs++[[Ze f.x (bnd a_1.links.length),Ze f.y (bnd a_1.links.length),Zh (Zd f.h),Ze f.t (bnd a_1.links.length)]]).length-1)/\Za.wrap (Zb (Zc XL fs++[[Ze f.x (bnd a_1.links.length),Ze f.y (bnd a_1.links.length),Zh (Zd f.h),Ze f.t (bnd a_1.links.length)]]).length-1)<=Zb (Zc XL fs++[[Ze f.x (bnd a_1.links.length),Ze f.y (bnd a_1.links.length),Zh (Zd f.h),Ze f.t (bnd a_1.links.length)]]).length)/\(∃(x:TqX),(TqI a qs x/\OfNat.ofNat 0=0)/\0=0/\Value.slice none 0 0=Value.slice none 0 0/\0=0/\x.i=0/\10=10/\Zg ((Za.wrap (Zb (Zc XL fs++[[Ze f.x (bnd a_1.links.length),Ze f.y (bnd a_1.links.length),Zh (Zd f.h),Ze f.t (bnd a_1.links.length)]]).length-1)).toNat-0) (Zn 0 (Zc XL fs++[[Ze f.x (bnd a_1.links.length),Ze f.y (bnd a_1.links.length),Zh (Zd f.h),Ze f.t (bnd a_1.links.length)]]))=Zc XL x.fs/\Zb (Zg ((Za.wrap (Zb (Zc XL fs++[[Ze f.x (bnd a_1.links.length),Ze f.y (bnd a_1.links.length),Zh (Zd f.h),Ze f.t (bnd a_1.links.length)]]).length-1)).toNat-0) (Zn 0 (Zc XL fs++[[Ze f.x (bnd a_1.links.length),Ze f.y (bnd a_1.links.length),Zh (Zd f.h),Ze f.t (bnd a_1.links.length)]]))).length=Zb a.links.length/\0=Zb x.i/\27=27/\q=x.f.x/\n<=120000000/\q_1=x.f.y/\n_1<=120000000/\Zc (QT 132800001) (Zg x.i (XU x.f x.fs))=[]/\True)/\∀(x:TqX),TqI a qs x->OfNat.ofNat 0=0->bif decide (Zb x.i<Zb a.links.length)then(0<=Zb x.i/\Zb x.i<Zb (Zc XL x.fs).length)/\∃(q:Rat),∃(n:Nat),∃(q_2:Rat),∃(n_2:Nat),∃(b:Bool),∃(q_3:Rat),∃(n_3:Nat),ldE (Zc XL x.fs) (Zb x.i).toNat 0 10=some [Ze q n,Ze q_2 n_2,Zh (Zd b),Ze q_3 n_3]/\(120000000+n<=4294967290/\120000000+n_2<=4294967290)/\120000000+n_2+1<=4294967296/\((x.i+1)*80<=140737488355328/\x.i+1<=9223372036854775807)/\∃(x':TqX),(TqI a qs x'/\OfNat.ofNat 0=0/\a.links.length-x'.i<a.links.length-x.i)/\0=0/\0=0/\x.i+1=x'.i/\10=10/\Zc XL x.fs=Zc XL x'.fs/\Zb a.links.length=Zb a.links.length/\Za.wrap (Zb x.i+1)=Zb x'.i/\27=27/\x.f.x=x'.f.x/\120000000<=120000000/\x.f.y=x'.f.y/\120000000<=120000000/\27=27/\6=6/\(Zg x.i (Zc (QT 132800001) (Zg x.i (XU x.f x.fs)))++[[Ze (-(x.f.y-q_2)) (120000000+n_2+1),Ze (x.f.x-q) (120000000+n+1)]]=Zc (QT 132800001) (Zg x'.i (XU x'.f x'.fs))∨QE (Zg x.i (Zc (QT 132800001) (Zg x.i (XU x.f x.fs)))++[[Ze (-(x.f.y-q_2)) (120000000+n_2+1),Ze (x.f.x-q) (120000000+n+1)]]) (Zc (QT 132800001) (Zg x'.i (XU x'.f x'.fs))))/\True else K (AV.t [(false,[Ch.s 6 (Zg x.i (Zn 0 (Zc (QT 132800001) (Zg x.i (XU x.f x.fs)))))]),(false,[Zh (Zf Za 0)])]))) ?_
 try simp only[Zj,R0,R1,Nat.le_refl,R4]
 obtain⟨hg,hb,hq⟩:=hc;have hn:=hg.n;refine⟨a,b,qs,rfl,rfl,⟨hg,hb,hq⟩,fun fs f hf hl=> ?_⟩;have hbn:bnd a.links.length<=120000000:=QH6 hn.2;simp only[List.length_append,Zk,List.length_cons,List.length_nil];rw[w64 (by omega)];have e:((((fs.length+(0+1):Nat):Int)-1).toNat)=a.links.length:=by omega
 rw[e];have hg2:(fs++[f])[a.links.length]? =some f:=by rw[<-hl];simp
 obtain⟨m,hm,ld,_⟩:=QOM hbn hg2;have e2:Zg (a.links.length-0) (Zn 0 (fs.map XL++[frN (bnd a.links.length) f]))=fs.map XL:=by
  rw[Nat.sub_zero,List.drop_zero,List.take_left' (by simp[hl])]
 have e3:List.length (Zg (a.links.length-0) (Zn 0 (fs.map XL++[frN (bnd a.links.length) f])))=a.links.length:=by
  rw[e2,Zk,hl]
 refine⟨by omega,_,m,_,m,ld,by omega,⟨⟨fs,f,0⟩,⟨hf,hl,by simp⟩,rfl,e2,congrArg Zb e3,rfl,rfl,hm,rfl,hm,rfl⟩,fun x hx=>QC (fun hp=> ?_) (fun hp=> ?_)⟩
 ·have hp:x.i<a.links.length:=by have:=R5 hp;omega
  have hxl:=hx.len;obtain⟨g,hgx⟩: ∃g,x.fs[x.i]? =some g:=⟨_,List.getElem?_eq_getElem (by omega)⟩
  have ht:(XU x.f x.fs)[x.i]? =some (-(x.f.y-g.y),x.f.x-g.x):=by simp[XU,hgx]
  refine⟨by omega,_,_,_,_,_,_,_,QU4 (by simpa using hgx),by omega,by omega,by omega,⟨x.fs,x.f,x.i+1⟩,⟨⟨hx.eq,hxl,hp⟩,by simp only;omega⟩,rfl,rfl,by rw[w64 (by omega)];simp,rfl,rfl,.inr ?_⟩;rw[Zi (by rw[Zk,List.length_take];omega),List.take_add_one,ht];exact QOT _ _ _ (by omega) (by omega)
 ·have hp:x.i=a.links.length:=by have:=R6 hp;have:=hx.le;omega
  have hxl:=hx.len;have:=hK x.fs x.f hx.eq hx.len;rw[List.drop_zero,Zi (by rw[Zk,List.length_take];omega),Zi (by simp[XU];omega)];exact this
def QD1:Ctr
 | [.x true xs,.x false [.s 3 ys]]=>some fun K=> ∃(a:ArmV) (b:Nat) (qs:List Rat),xs=Xd a/\ys=lR b qs/\QJX a b qs K
 | _=>none
theorem QOY:QI 85 QD1:=by
 refine okL Tryz.func85 fun l T hT K hK=> ?_
 unfold QD1 at hT;split at hT<;>cases hT
 obtain⟨a,b,qs,rfl,rfl,hK⟩:=hK;exact spL (QS QOX Xe Qm) QM Tryz.func85 (QSn _ _ _ K hK)
def QZb:LC:=(85,QD1)::QWn
theorem QWo:QF QZb:= .cons QOY QOX
def QZc:LC:=QZb
theorem QWp:QF QZc:=QWo
def QSo:LC:=QZc
noncomputable def QZd:Qb:=mkT QSo M79 X4
theorem QIB:QF QSo:=QWp
theorem QWq:XI QZd:=QS QIB Xe Qm
end Go.Proofs
