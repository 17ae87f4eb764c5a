/- frame.Back; inverse: solve, inside, Two. -/
import Derived.Test.YtmpfaflhpioaiaaGreatDoorIT
open Option renaming some → A, none → L
open _root_ renaming List → B, Rat → C, Nat → E, Int → M, OfNat → P, True → Q, absurd → O, Option → S
open Go.Eng.Ch renaming r → D, s → N, v → T
open Bool renaming false → F, true → G
open List renaming map → H, length → I, take → U, drop → X, length_map → Y, getElem?_eq_getElem → Zd, mem_append → Zr, mem_of_getElem? → Zm, take_of_length_le → Zl, drop_eq_getElem_cons → Zn, drop_eq_nil_of_le → Zp
open Int renaming ofNat → J, ofNat_eq_natCast → Zh, toNat_natCast → Zs
open Go.Value renaming slice → Z, bool → Zq, string → Zt
open Go.IntKind renaming i64 → u
open Nat renaming le_refl → Zo
set_option maxHeartbeats 1000000
set_option maxRecDepth 100000
namespace Go.Proofs
open Go Go.Eng Tryz
def K7 (f:FrV):FrV:=⟨(0-f.x)*Xy f.h (-f.t)-(0-f.y)*Q3 f.h (-f.t),(0-f.x)*Q3 f.h (-f.t)+(0-f.y)*Xy f.h (-f.t),f.h,-f.t⟩
theorem Qc5 (h:Bool)(t:C)(k:E)(b:(h=G->t=0)/\(k<=100000000))(K:AV->Prop)(a: ∀n,n<=k+64->K (.x G [.v (.bool h),.r (-t) n])):QM (QN Qjv (oF f95) noL f95 [.x G [.v (.bool h),.r t k]] K):=by
 refine HV (k<=1000000000/\∀(v:E),v<=k+64->v<=4294967296/\K (AV.x G [T (Zq h),D (-Xu h t) v])) ?_
 try simp only[Zh,R0,R1,E.zero_add,Zo,R4,R2,R3]
 have e:Xu h t=t:=by
  cases h with
  | true=>rw[b.1 rfl];rfl
  | false=>rfl
 rw[e];exact⟨o3,fun n d=>⟨o3,a n d⟩⟩
def gB:Ctr
 | [.x G [.v (.bool h),.r t k]]=>A fun K=>((h=G->t=0)/\(k<=100000000))/\(∀n,n<=k+64->K (.x G [.v (.bool h),.r (-t) n]))
 | _=>L
theorem QYg:QH 95 gB:=by
 refine okL func95 fun l a b K h=> ?_
 unfold gB at b;split at b<;>cases b
 obtain⟨d,h⟩:=h;exact spL Qg5 QK func95 (Qc5 _ _ _ d K h)
def qF:LC:=(95,gB)::bR
theorem QPX:QF qF:= .cons QYg eI
def RP:=(0:M)
def RY:=D ↑RP 64
theorem Qc6 (_hc:Q)(K:AV->Prop)(h:K (.x G [.r ((0:M):C) 64,.r ((0:M):C) 64,.v (.bool F),.r ((0:M):C) 64])):QM (QN (mkT qF M79 X4) (oF f97) noL f97 [] K):=by
 refine HV (((-9223372036854775808:M)<=0/\RP<9223372036854775808)/\64<=1000000000/\K (AV.x G [RY,RY,T (Zq F),RY])) ?_
 delta RP RY
 try simp only[Zh,R0,R1,E.zero_add,Zo,R4,R2,R3]
 exact⟨o3,o3,h⟩
def mr:Ctr
 | []=>A fun K=>(Q)/\(K (.x G [.r ((0:M):C) 64,.r ((0:M):C) 64,.v (.bool F),.r ((0:M):C) 64]))
 | _=>L
theorem QYi:QH 97 mr:=by
 refine okL func97 fun l a b K h=> ?_
 unfold mr at b;split at b<;>cases b
 obtain⟨d,h⟩:=h;exact spL (QP QPX Qq Qb) QK func97 (Qc6  d K h)
def pB:LC:=(97,mr)::qF
theorem Qc7:QF pB:= .cons QYi QPX
theorem Qc8 (x:C)(i:E)(y:C)(j:E)(h:Bool)(t:C)(k:E)(d:(h=G->t=0)/\(i+j+k<=1000))(K:AV->Prop)(b: ∀n m o,n<=20000->m<=20000->o<=1064->K (.x G [.r (K7 ⟨x,y,h,t⟩).x n,.r (K7 ⟨x,y,h,t⟩).y m,.v (.bool h),.r (-t) o])):QM (QN (mkT pB M79 X4) (oF f52) noL f52 [.x G [.r x i,.r y j,.v (.bool h),.r t k]] K):=by
 refine HV (((h=G->t=P.ofNat 0)/\k<=100000000)/\∀(v:E),v<=k+64->Q/\(64+i<=4294967290/\64+j<=4294967290)/\64+i+1+(64+j+1)+v<=400000000/\∀(a m:E),a<=64+i+1+(64+j+1)+8*v+1000->m<=64+i+1+(64+j+1)+8*v+1000->K (AV.x G [D ((↑RP-x)*Xy h (-t)-(↑RP-y)*Q3 h (-t)) a,D ((↑RP-x)*Q3 h (-t)+(↑RP-y)*Xy h (-t)) m,T (Zq h),D (-t) v])) ?_
 delta RP
 try simp only[R0]
 refine⟨⟨d.1,o3⟩,fun o g=>⟨⟨o3,o3⟩,o3,fun n m f e=>b n m o o3 o3 o3⟩⟩
def fH:Ctr
 | [.x G [.r x i,.r y j,.v (.bool h),.r t k]]=>A fun K=>((h=G->t=0)/\(i+j+k<=1000))/\(∀n m o,n<=20000->m<=20000->o<=1064->K (.x G [.r (K7 ⟨x,y,h,t⟩).x n,.r (K7 ⟨x,y,h,t⟩).y m,.v (.bool h),.r (-t) o]))
 | _=>L
theorem QYk:QH 52 fH:=by
 refine okL func52 fun l a b K h=> ?_
 unfold fH at b;split at b<;>cases b
 obtain⟨d,h⟩:=h;exact spL (QP Qc7 Qq Qb) QK func52 (Qc8 _ _ _ _ _ _ _ d K h)
def QkZ:LC:=(52,fH)::pB
noncomputable def QlO:Qd:=mkT QkZ M79 X4
def Q9 (r:RtV×RtV):B Ch:=[.s 3 (lR 100000 r.1.p),.r r.1.s.lo 100000,.r r.1.s.hi 100000,.s 3 (lR 100000 r.2.p),.r r.2.s.lo 100000,.r r.2.s.hi 100000]
def sP (l:B (RtV×RtV)):AV:= .x F [.s 14 (l.map Q9)]
def cQ:LC:=(131,Gk)::(52,fH)::qG
theorem ve:QF cQ:= .cons QR6 (.cons QYk Qc4)
variable{c:B (B C)}{m:C}
theorem QYm: ∀{k:E} {b:C} {t:Sp},HL c m k b=A t->0<=b->m-b<=t.lo/\t.lo<=m/\m<=t.hi/\t.hi<=m+b:=by
 intro k;induction k with
 | zero=>intro b t h;cases h
 | succ k B=>
  intro b t h K;rw[HL]at h;obtain⟨s,j,h⟩:=bind_some h;obtain⟨f,p,h⟩:=bind_some h;obtain⟨l,q,h⟩:=bind_some h;obtain⟨a,r,h⟩:=bind_some h;obtain⟨n,_,h⟩:=bind_some h;have e:s=1/2:=by have:=iu j;rw[this];decide+kernel
  have i:=(JY.1 p).2;have M:=(JY.1 q).2;have O:=(JY.1 r).2;rw[e]at i;have v:f=b/2:=by rw[<-i];grind
  have d:HL c m k f=A t->m-b<=t.lo/\t.lo<=m/\m<=t.hi/\t.hi<=m+b:=fun h=>by
   obtain⟨P,H,I,Q⟩:=B h j4;exact⟨j4,H,I,j4⟩
  cases g:n==1 with
  | false=>rw[g]at h;exact d h
  | true=>
   rw[g]at h;simp only[R7]at h;obtain⟨z,_,h⟩:=bind_some h;cases z with
   | true=>exact d h
   | false=>
    simp only[R8]at h;obtain⟨w,_,h⟩:=bind_some h;cases w with
    | true=>exact d h
    | false=>
     cases h
     exact⟨by show m-b<=l;grind,by show l<=m;grind,by show m<=a;grind,by show a<=m+b;grind⟩
theorem QSA: ∀{k:E} {d o:B Sp} {s:Sp},Xo c k d s=A o->s.lo<=s.hi->(∀t∈d,t.lo<=t.hi)-> ∀t∈o,t.lo<=t.hi:=by
 intro k;induction k with
 | zero=>intro d o s h;cases h
 | succ k i=>
  intro d o s h r g;rw[Xo]at h;obtain⟨n,I,h⟩:=bind_some h;cases p:n==0 with
  | true=>rw[p]at h;cases h;exact g
  | false=>
   rw[p]at h;cases f:n==1 with
   | true=>
    rw[f]at h;cases h
    intro t e;rcases Zr.1 e with e | e
    ·exact g t e
    ·simp at e;subst e;exact r
   | false=>
    rw[f]at h;simp only[R8]at h;obtain⟨m,q,h⟩:=bind_some h;obtain⟨z,K,h⟩:=bind_some h;have H:=iu q;cases z with
    | false=>
     obtain⟨v,j,h⟩:=bind_some h;exact i h (by show m<=s.hi;grind) (i j (by show s.lo<=m;grind) g)
    | true=>
     obtain⟨b,l,h⟩:=bind_some h;obtain⟨t,e,h⟩:=bind_some h;obtain⟨v,j,h⟩:=bind_some h;have w:=(JY.1 l).2;obtain⟨M,O,P,Q⟩:=QYm e j4;refine i h (by show t.hi<=s.hi;grind) fun a hu=> ?_
     rcases Zr.1 hu with hu | hu
     ·exact i j (by show s.lo<=t.lo;grind) g a hu
     ·simp at hu;subst hu;exact C.le_refl
theorem QdA: ∀{l:B C} {s m:C},Kr l s=A m->s<=m:=by
 intro l;induction l with
 | nil=>intro s m h;cases h;exact C.le_refl
 | cons x l i=>
  intro s m h;rw[Kr]at h;obtain⟨a,b,h⟩:=bind_some h;have e:=(JY.1 b).2;have:=i h;have b:0<=Xr x:=by
   unfold Xr;split
   ·rename_i d;have: ¬0<=x:=fun e=>by have:=C.num_nonneg.2 e;omega
    grind
   ·rename_i d;exact C.num_nonneg.1 o3
  grind
theorem QNV: ∀{k:E} {s t:Sp} {r:Sp×Sp},K6 c k s t=A r->s.lo<=s.hi->t.lo<=t.hi->r.1.lo<=r.1.hi/\r.2.lo<=r.2.hi:=by
 intro k;induction k with
 | zero=>intro s t r h;cases h
 | succ k i=>
  intro s t r h a b;rw[K6]at h;cases d:decide (t.lo<=s.hi)with
  | true=>
   rw[d]at h;obtain⟨g,e,h⟩:=bind_some h;obtain⟨j,f,h⟩:=bind_some h;exact i h (sA e a) (sA f b)
  | false=>rw[d]at h;cases h;exact⟨a,b⟩
theorem Gm {o:B Sp}(a: ∀t∈o,t.lo<=t.hi)(i:E):(o.getD i s0).lo<=(o.getD i s0).hi:=by
 rw[B.getD_eq_getElem?_getD];cases h:o[i]? with
 | none=>exact C.le_refl
 | some t=>exact a t (Zm h)
theorem QNW: ∀{k i:E} {o R:B Sp},YT c k i o=A R->(∀t∈o,t.lo<=t.hi)-> ∀t∈R,t.lo<=t.hi:=by
 intro k;induction k with
 | zero=>intro i o R h;cases h;exact fun h=>h
 | succ k e=>
  intro i o R h b;rw[YT]at h;obtain⟨r,d,h⟩:=bind_some h;obtain⟨f,g⟩:=QNV d (Gm b _) (Gm b _);refine e h fun t a=> ?_
  rcases B.mem_or_eq_of_mem_set a with a | a
  ·rcases B.mem_or_eq_of_mem_set a with a | a
   ·exact b t a
   ·subst a;exact f
  ·subst a;exact g
theorem VO {p:B C}{R:B Sp}(h:KW p=A R):R.length<=1000/\ ∀t∈R,t.lo<=t.hi:=by
 obtain⟨c,m,f,_,d,e,b,a⟩:=pg h;have g:=QdA d;refine⟨by rw[QNR a];exact b,QNW a (QSA e (by show-m<=m;grind) o6)⟩
structure SvX where
 i:E
 acc:B (RtV×RtV)
def uH (l:B (RtV×RtV)):Blk:= .row 117 14 (l.map Q9)
variable{o:B (RtV×RtV)}
theorem da{r:RtV×RtV}:U o.length (H Q9 o)++[Q9 r]=H Q9 (o++[r]):=by
 rw[Zl o6,B.map_append];rfl
theorem xx:U o.length (X 0 (H Q9 o))=H Q9 o:=by
 rw[B.drop_zero,Zl o6]
theorem QPZ{i:E}{r:RtV×RtV}(h:o[i]? =A r):ldE (o.map Q9) i 0 14=A (Q9 r):=by
 simp only[ldE,B.getElem?_map,h];rfl
def QNX (x y:C)(p q:B C)(first s:B Sp)(R:B (RtV×RtV)):LI:=fun i=>
 bif i.beq 8 then .cutf [36,74] ⟨Unit,fun _=>⟨[(5,.x F [.p 5 0]),(8,sR 100000 p),(11,sR 100000 q)],[(5,.box 27 [.r x 100000,.r y 100000])]⟩,fun _=>Q,fun _=>0,fun _=>0⟩
 else bif i.beq 12 then .inv ⟨SvX,fun e=>⟨[(5,.x F [.p 5 0]),(8,sR 100000 p),(11,sR 100000 q),(14,.x F [.s 6 (s.map (spN 100000))]),(16,.x F [.w 500 0 e.acc.length]),(85,.x F [.s 6 (first.map (spN 100000))]),(86,iA .i64 first.length),(87,iA .i64 e.i)],[(5,.box 27 [.r x 100000,.r y 100000]),(500,uH e.acc)]⟩,
  fun e=>(e.i<=I first/\e.acc.length<=e.i)/\W2 q p x y s (first.drop e.i) e.acc=A R,fun e=>I first-e.i,fun _=>0⟩
 else .no
def QBI (l:C)(a:E)(m:C)(b:E)(x:C)(y:C)(_far:C)(p:B C)(q:B C)(first:B Sp)(s:B Sp)(R:B (RtV×RtV))(K:AV->Prop):Prop:=QN (mkT cQ S5 X4) (oF f92) (QNX x y p q first s R) f92 [rA l a,rA m b,.x G [.r x 100000,.r y 100000]] K
theorem QEF (l:C)(a:E)(m:C)(b:E)(x:C)(y:C)(zf:C)(p:B C)(q:B C)(first:B Sp)(e:B Sp)(R:B (RtV×RtV))(K:AV->Prop):QBI l a m b x y zf p q first e R K=((100000<=100000/\100000<=100000)/\∃(s:C),Tg x y=A s/\a+b+1<=4294967296/\∃(r:C),VM l m=A r/\100000<=100000/\∃(jm:C),sqZ r=A jm/\200001<=4294967296/\∃(r:C),K5 s jm=A r/\((-9223372036854775808:M)<=0/\(0:M)<9223372036854775808)/\a+b+1<=4294967296/\∃(jg:C),K5 l m=A jg/\100000<=100000/\∃(jn:C),sqZ jg=A jn/\200001<=4294967296/\∃(be:C),K5 s jn=A be/\((0:M)<=0/\(0:M)<3)/\∃(je:C)(n:E),A [D r 100000]=A [D je n]/\n<=4294967296/\bif decide (XY je>0)then K (AV.x F [T (Z L 0 0)])else((0:M)<=2/\(2:M)<3)/\∃(jf:C)(n:E),A [D be 100000]=A [D jf n]/\n<=4294967296/\bif decide (XY jf<=0)then K (AV.x F [T (Z L 0 0)])else a<=100000/\∃(jq:C),sqZ l=A jq/\200001<=4294967296/\∃(jh:C),VM s jq=A jh/\b<=100000/\∃(s:C),sqZ m=A s/\200001<=4294967296/\∃(hZ:C),K5 jh s=A hZ/\((-9223372036854775808:M)<=2/\(2:M)<9223372036854775808)/\a+100000<=4294967296/\∃(ji:C),JX l x=A ji/\200000<=4294967296/\∃(ja:C),JX (↑(2:M)) ji=A ja/\(200001<=4294967296/\∃(jj:C),K5 hZ ja=A jj/\((-9223372036854775808:M)<= -4/\(-4:M)<9223372036854775808)/\a+100000<=4294967296/\∃(jk:C),JX l y=A jk/\200000<=4294967296/\∃(jl:C),JX (↑(-4:M)) jk=A jl/\200001<=4294967296/\∃(z:C),VM hZ ja=A z/\∃(_x_1:Unit),(Q/\P.ofNat 0=0)/\0=0/\3=3/\[[D r 100000],[D (↑(0:M)) 100000],[D be 100000]]=lR 100000 p/\3=3/\[[D jj 100000],[D jl 100000],[D z 100000]]=lR 100000 q/\27=27/\x=x/\100000<=100000/\y=y/\100000<=100000/\Q)/\∀(_x_1:Unit),Q->P.ofNat 0=0->∃(W:B C)(c:B (B C))(m:C)(g:B Sp)(O:B Sp),lR 100000 q=lR 100000 W/\(((I W<=1000/\g.length<=1000)/\JE W=A c)/\Kr (c.getD 0 []) (P.ofNat 1)=A m/\Xo c 100000 [] (Sp.mk (-m) m)=A g/\YT c (I g-1) 1 g=A O)/\∃(Y:B C)(c:B (B C))(m:C)(g:B Sp)(jc:B Sp),lR 100000 p=lR 100000 Y/\(((I Y<=1000/\g.length<=1000)/\JE Y=A c)/\Kr (c.getD 0 []) (P.ofNat 1)=A m/\Xo c 100000 [] (Sp.mk (-m) m)=A g/\YT c (I g-1) 1 g=A jc)/\(∃(d:SvX),(((d.i<=I first/\d.acc.length<=d.i)/\W2 q p x y e (X d.i first) d.acc=A R)/\P.ofNat 0=0)/\0=0/\3=3/\lR 100000 p=lR 100000 p/\3=3/\lR 100000 q=lR 100000 q/\6=6/\H (spN 100000) jc=H (spN 100000) e/\Z L 0 0=Z L 0 0/\0=0/\d.acc.length=0/\6=6/\H (spN 100000) O=H (spN 100000) first/\J (H (spN 100000) O).length=J first.length/\0=J d.i/\27=27/\x=x/\100000<=100000/\y=y/\100000<=100000/\H Q9 d.acc=[]/\Q)/\∀(d:SvX),(d.i<=I first/\d.acc.length<=d.i)/\W2 q p x y e (X d.i first) d.acc=A R->P.ofNat 0=0->bif decide (J d.i<J first.length)then(0<=J d.i/\J d.i<J (H (spN 100000) first).length)/\∃(i:C)(n:E)(j:C)(h:E),ldE (H (spN 100000) first) (J d.i).toNat 0 6=A [D i n,D j h]/\((0:M)<=0/\0<J (H (spN 100000) e).length)/\∃(v:C)(k:E)(w:C)(t:E),ldE (H (spN 100000) e) 0 0 6=A [D v k,D w t]/\bif J (H (spN 100000) e).length==2 then ∃(r:RtV)(jr:C)(jb:C)(m:C)(jd:M),[N 3 (lR 100000 q),D i n,D j h]=[N 3 (lR 100000 r.p),D r.s.lo 100000,D r.s.hi 100000]/\[D x 100000,D y 100000]=[D jr 100000,D jb 100000]/\((I r.p<=1000/\r.s.lo<=r.s.hi)/\JX (↑(-2:M)) jr=A m/\Gf [jb,m,-jb] 15 16 r=A jd)/\bif decide (jd>0)then((0:M)<=1/\1<J (H (spN 100000) e).length)/\∃(At:C)(S:E)(Lm:C)(V:E),ldE (H (spN 100000) e) 1 0 6=A [D At S,D Lm V]/\((I d.acc+1)*208<=140737488355328/\d.acc.length+1<=9223372036854775807)/\∃(f:SvX),(((f.i<=I first/\f.acc.length<=f.i)/\W2 q p x y e (X f.i first) f.acc=A R)/\P.ofNat 0=0/\first.length-f.i<I first-d.i)/\0=0/\3=3/\lR 100000 p=lR 100000 p/\3=3/\lR 100000 q=lR 100000 q/\6=6/\H (spN 100000) e=H (spN 100000) e/\0=0/\d.acc.length+1=I f.acc/\6=6/\H (spN 100000) first=H (spN 100000) first/\J first.length=J first.length/\u.wrap (J d.i+1)=J f.i/\27=27/\x=x/\100000<=100000/\y=y/\100000<=100000/\117=117/\14=14/\(U d.acc.length (H Q9 d.acc)++[[N 3 (lR 100000 q),D i n,D j h,N 3 (lR 100000 p),D At S,D Lm V]]=H Q9 f.acc\/QC (U d.acc.length (H Q9 d.acc)++[[N 3 (lR 100000 q),D i n,D j h,N 3 (lR 100000 p),D At S,D Lm V]]) (H Q9 f.acc))/\Q else((I d.acc+1)*208<=140737488355328/\d.acc.length+1<=9223372036854775807)/\∃(f:SvX),(((f.i<=I first/\f.acc.length<=f.i)/\W2 q p x y e (X f.i first) f.acc=A R)/\P.ofNat 0=0/\first.length-f.i<I first-d.i)/\0=0/\3=3/\lR 100000 p=lR 100000 p/\3=3/\lR 100000 q=lR 100000 q/\6=6/\H (spN 100000) e=H (spN 100000) e/\0=0/\d.acc.length+1=I f.acc/\6=6/\H (spN 100000) first=H (spN 100000) first/\J first.length=J first.length/\u.wrap (J d.i+1)=J f.i/\27=27/\x=x/\100000<=100000/\y=y/\100000<=100000/\117=117/\14=14/\(U d.acc.length (H Q9 d.acc)++[[N 3 (lR 100000 q),D i n,D j h,N 3 (lR 100000 p),D v k,D w t]]=H Q9 f.acc\/QC (U d.acc.length (H Q9 d.acc)++[[N 3 (lR 100000 q),D i n,D j h,N 3 (lR 100000 p),D v k,D w t]]) (H Q9 f.acc))/\Q else((I d.acc+1)*208<=140737488355328/\d.acc.length+1<=9223372036854775807)/\∃(f:SvX),(((f.i<=I first/\f.acc.length<=f.i)/\W2 q p x y e (X f.i first) f.acc=A R)/\P.ofNat 0=0/\first.length-f.i<I first-d.i)/\0=0/\3=3/\lR 100000 p=lR 100000 p/\3=3/\lR 100000 q=lR 100000 q/\6=6/\H (spN 100000) e=H (spN 100000) e/\0=0/\d.acc.length+1=I f.acc/\6=6/\H (spN 100000) first=H (spN 100000) first/\J first.length=J first.length/\u.wrap (J d.i+1)=J f.i/\27=27/\x=x/\100000<=100000/\y=y/\100000<=100000/\117=117/\14=14/\(U d.acc.length (H Q9 d.acc)++[[N 3 (lR 100000 q),D i n,D j h,N 3 (lR 100000 p),D v k,D w t]]=H Q9 f.acc\/QC (U d.acc.length (H Q9 d.acc)++[[N 3 (lR 100000 q),D i n,D j h,N 3 (lR 100000 p),D v k,D w t]]) (H Q9 f.acc))/\Q else K (AV.x F [N 14 (U d.acc.length (X 0 (H Q9 d.acc)))])):=o4
theorem QYo (l:C)(a:E)(m:C)(b:E)(x:C)(y:C)(zf:C)(p:B C)(q:B C)(first:B Sp)(g:B Sp)(R:B (RtV×RtV))(V:(a<=100000/\b<=100000)/\((Tg x y=A zf/\aF l m zf=A p)/\((0<XY (p.getD 0 0)\/XY (p.getD 2 0)<=0)/\R=[]\/ ¬(0<XY (p.getD 0 0)\/XY (p.getD 2 0)<=0)/\Z3 l m x y zf=A q/\KW q=A first/\KW p=A g/\1<=I g/\W2 q p x y g first []=A R)))(K:AV->Prop)(hK:(R=[]->K (.x F [.v (.slice L 0 0)]))/\K (sP R)):QM (QBI l a m b x y zf p q first g R K):=by
 refine⟨?_⟩;rw[QEF];try simp only[Zh,R0,R1,Zo,R4]
 obtain⟨⟨ha,hb⟩,⟨hf,j⟩,V⟩:=V;obtain⟨X,hK⟩:=hK;unfold aF at j;obtain⟨a1,h1,j⟩:=bind_some j;obtain⟨a2,h2,j⟩:=bind_some j;obtain⟨v,W,j⟩:=bind_some j;obtain⟨b1,h4,j⟩:=bind_some j;obtain⟨b2,h5,j⟩:=bind_some j;obtain⟨w,h6,j⟩:=bind_some j;cases j
 rw[show[v,0,w].getD 0 0=v from rfl,show[v,0,w].getD 2 0=w from rfl]at V;refine⟨zf,hf,o3,a1,h1,a2,h2,o3,v,W,⟨o3,o3⟩,o3,b1,h4,b2,h5,o3,w,h6,⟨o3,o3⟩,v,100000,rfl,o3,QE (fun s1=> ?_) (fun s1=>⟨⟨o3,o3⟩,w,100000,rfl,o3,QE (fun s2=> ?_) (fun s2=> ?_)⟩)⟩
 ·rcases V with⟨_,e⟩ | ⟨e,_⟩
  ·exact X e
  ·exact O (.inl (R5 s1)) e
 ·rcases V with⟨_,e⟩ | ⟨e,_⟩
  ·exact X e
  ·exact O (.inr (R5 s2)) e
 ·rcases V with⟨e,_⟩ | ⟨_,h,r1,r2,hl,hR⟩
  ·have:=R6 s1;have:=R6 s2;rcases e with e | e
   ·exact O e (by assumption)
   ·exact O e (by assumption)
  ·unfold Z3 at h;obtain⟨l2,g1,h⟩:=bind_some h;obtain⟨f,g2,h⟩:=bind_some h;obtain⟨m2,g3,h⟩:=bind_some h;obtain⟨k,g4,h⟩:=bind_some h;obtain⟨lx,g5,h⟩:=bind_some h;obtain⟨d,g6,h⟩:=bind_some h;obtain⟨H,g7,h⟩:=bind_some h;obtain⟨ly,g8,h⟩:=bind_some h;obtain⟨M,g9,h⟩:=bind_some h;obtain⟨P,Lm,h⟩:=bind_some h;cases h
   obtain⟨c,m',je,k1,k2,k3,k4,k5⟩:=pg r1;obtain⟨c',jd,At,be,hZ,ja,jb,jc⟩:=pg r2;have ord:=(VO r1).2;have fl:=(VO r1).1;obtain⟨t0,ht0⟩: ∃t,g[0]? =A t:=⟨_,Zd o3⟩
   refine⟨o3,l2,g1,o3,f,g2,o3,m2,g3,o3,k,g4,⟨o3,o3⟩,o3,lx,g5,o3,d,g6,⟨o3,H,g7,⟨o3,o3⟩,o3,ly,g8,o3,M,g9,o3,P,Lm,(),rfl,rfl⟩,
    fun _=>⟨[H,M,P],c,m',je,first,rfl,⟨⟨⟨o6,k4⟩,k1⟩,k2,k3,k5⟩,[v,0,w],c',jd,At,g,rfl,⟨⟨⟨o6,jb⟩,be⟩,hZ,ja,jc⟩,⟨⟨0,[]⟩,⟨⟨E.zero_le _,Zo _⟩,hR⟩,rfl,rfl,rfl,by rw[Y],rfl,rfl⟩,fun z ⟨⟨z1,z2⟩,i⟩=>QE (fun U=> ?_) (fun U=> ?_)⟩⟩
   ·have U:z.i<I first:=(j7 U)
    obtain⟨s,hs⟩: ∃s,first[z.i]? =A s:=⟨_,Zd o3⟩
    have ed:first.drop z.i=s::first.drop (z.i+1):=by
     rw[Zn U];congr 1;rw[Zd U]at hs;exact S.some.inj hs
    have os:=ord s (Zm hs);rw[ed,W2]at i;rw[Zs];refine⟨⟨o3,by rw[Y];omega⟩,s.lo,100000,s.hi,100000,ZD hs,⟨o3,by rw[Y];omega⟩,t0.lo,100000,t0.hi,100000,ZD ht0,QE (fun Q=> ?_) (fun Q=> ?_)⟩
    ·have Q:g.length=2:=by simp at Q;omega
     rw[show E.beq g.length 2=G by rw[Q];rfl]at i;simp only[R7]at i;obtain⟨n,hn,i⟩:=bind_some i;unfold wZ at hn;obtain⟨mm,hm,hn⟩:=bind_some hn;obtain⟨t1,ht1⟩: ∃t,g[1]? =A t:=⟨_,Zd o3⟩
     rw[spD ht0,spD ht1]at i;refine⟨⟨[H,M,P],s⟩,x,y,mm,n,rfl,rfl,⟨⟨o6,os⟩,hm,hn⟩,QE (fun W=> ?_) (fun W=> ?_)⟩
     ·rw[show decide (0<n)=G from W]at i;exact⟨⟨o3,by rw[Y];omega⟩,t1.lo,100000,t1.hi,100000,ZD ht1,⟨o3,o3⟩,⟨z.i+1,z.acc++[(⟨[H,M,P],s⟩,⟨[v,0,w],t1⟩)]⟩,⟨⟨⟨o5,o9⟩,i⟩,o5⟩,o6,by rw[w64 o3];simp,.inl (da (r:=(⟨[H,M,P],s⟩,⟨[v,0,w],t1⟩)))⟩
     ·rw[show decide (0<n)=F from W]at i;exact⟨⟨o3,o3⟩,⟨z.i+1,z.acc++[(⟨[H,M,P],s⟩,⟨[v,0,w],t0⟩)]⟩,⟨⟨⟨o5,o9⟩,i⟩,o5⟩,o6,by rw[w64 o3];simp,.inl (da (r:=(⟨[H,M,P],s⟩,⟨[v,0,w],t0⟩)))⟩
    ·have Q:g.length≠2:=fun e=>by rw[Y,e]at Q;simp at Q
     rw[show E.beq g.length 2=F by cases hb:E.beq g.length 2 with | false=>rfl | true=>exact O (E.eq_of_beq_eq_true hb) Q,spD ht0]at i;simp only[R8]at i;exact⟨⟨o3,o3⟩,⟨z.i+1,z.acc++[(⟨[H,M,P],s⟩,⟨[v,0,w],t0⟩)]⟩,⟨⟨⟨o5,o9⟩,i⟩,o5⟩,o6,by rw[w64 o3];simp,.inl (da (r:=(⟨[H,M,P],s⟩,⟨[v,0,w],t0⟩)))⟩
   ·have U:first.length<=z.i:=(j8 U)
    rw[Zp U]at i;have i:z.acc=R:=S.some.inj i;rw[xx,i];exact hK
def mY:Ctr
 | [.x G [.r l a],.x G [.r m b],.x G d]=>A fun K=> ∃(x:C) (y:C) (z:C) (p:B C) (q:B C) (first:B Sp) (s:B Sp) (R:B (RtV×RtV)),d=[.r x 100000,.r y 100000]/\((a<=100000/\b<=100000)/\((Tg x y=A z/\aF l m z=A p)/\((0<XY (p.getD 0 0)\/XY (p.getD 2 0)<=0)/\R=[]\/ ¬(0<XY (p.getD 0 0)\/XY (p.getD 2 0)<=0)/\Z3 l m x y z=A q/\KW q=A first/\KW p=A s/\1<=I s/\W2 q p x y s first []=A R)))/\((R=[]->K (.x F [.v (.slice L 0 0)]))/\K (sP R))
 | _=>L
theorem ok_iSolve:QH 92 mY:=by
 refine okL func92 fun l a b K h=> ?_
 unfold mY at b;split at b<;>cases b
 obtain⟨x,y,z,p,q,first,s,R,rfl,d,h⟩:=h;exact spL (QP ve al Qb) QK func92 (QYo _ _ _ _ _ _ _ _ _ _ _ _ d K h)
def Qka:LC:=(92,mY)::cQ
noncomputable def QlP:Qd:=mkT Qka S5 X4
def sQ:Ctr
 | [.x G [.r l a],.x G [.r m b],.x G d]=>A fun K=> ∃(x y:C) (R:B (RtV×RtV)),d=[.r x 100000,.r y 100000]/\((a<=100000/\b<=100000)/\WK l m x y=A R)/\K (sP R)
 | _=>L
theorem Qkb {w:World}{O:E->Prop}{ρ:Env}{n:E}{v:Value}(h:ConcV w O ρ (.x F [.v (.slice L 0 0)]) v):ConcV w O ρ (.x F [.s n []]) v:=by
 obtain⟨b,a,d⟩:=h;cases a with | v _ a=>exact⟨_,.s0 a,d⟩
variable{x y:C}
theorem ue{l:C}{R:B (RtV×RtV)}(h:WK l m x y=A R): ∃z p q first s,(Tg x y=A z/\aF l m z=A p)/\((0<XY (p.getD 0 0)\/XY (p.getD 2 0)<=0)/\R=[]\/ ¬(0<XY (p.getD 0 0)\/XY (p.getD 2 0)<=0)/\Z3 l m x y z=A q/\KW q=A first/\KW p=A s/\1<=I s/\W2 q p x y s first []=A R):=by
 unfold WK at h;obtain⟨z,b,h⟩:=bind_some h;obtain⟨p,d,h⟩:=bind_some h;by_cases e:0<XY (p.getD 0 0)\/XY (p.getD 2 0)<=0
 ·have:(decide (0<XY (p.getD 0 0)) || decide (XY (p.getD 2 0)<=0))=G:=(j9 e)
  rw[this]at h;cases h
  exact⟨z,p,[],[],[],⟨b,d⟩,.inl ⟨e,rfl⟩⟩
 ·have:(decide (0<XY (p.getD 0 0)) || decide (XY (p.getD 2 0)<=0))=F:=by
   cases a:(decide (0<XY (p.getD 0 0)) || decide (XY (p.getD 2 0)<=0))with
   | false=>rfl
   | true=>exact O ((j9 a)) e
  rw[this]at h;simp only[R8]at h;obtain⟨q,i,h⟩:=bind_some h;obtain⟨first,f,h⟩:=bind_some h;obtain⟨s,g,h⟩:=bind_some h;cases a:E.ble 1 s.length with
  | true=>rw[a]at h;exact⟨z,p,q,first,s,⟨b,d⟩,.inr ⟨e,i,f,g,E.le_of_ble_eq_true a,h⟩⟩
  | false=>rw[a]at h;cases h
theorem QNY:QH 92 sQ:=by
 refine⟨ok_iSolve.enter,fun l d g K j=> ?_⟩;unfold sQ at g;split at g
 ·rename_i l a m b C;cases g
  obtain⟨x,y,R,rfl,⟨r,h⟩,j⟩:=j;obtain⟨B,p,q,first,s,t,z⟩:=ue h;refine Spec.res (ok_iSolve.sound [.x G [.r l a],.x G [.r m b],.x G [.r x 100000,.r y 100000]] _ rfl (fun i=>R=[]/\i= .x F [.v (.slice L 0 0)]\/i=sP R) ⟨x,y,B,p,q,first,s,R,rfl,⟨r,t,z⟩,fun e=> .inl ⟨e,rfl⟩,.inr rfl⟩) fun w O i v e f=>⟨_,j,?_⟩;rcases e with⟨k,n⟩ | e
  ·subst k n;exact Qkb f
  ·subst e;exact f
 ·cases g
def eT:LC:=(92,sQ)::cQ
theorem QYp:QF eT:= .cons QNY ve
def QdC (_a:ArmV)(a L1:QV)(r R:B (RtV×RtV)):LI:=fun _=> .inv ⟨SvX,fun e=>⟨[(5,.x F [.p 5 0]),(6,.x F [.p 6 0]),(7,.x F [.w 500 0 e.acc.length]),(23,sP r),(24,iA .i64 r.length),(25,iA .i64 e.i)],[(5,.box 61 (QA a)),(6,.box 61 (QA L1)),(500,uH e.acc)]⟩,
  fun e=>(e.i<=I r/\e.acc.length<=e.i)/\inF a.lo a.hi L1.lo L1.hi (r.drop e.i) e.acc=A R,fun e=>I r-e.i,fun _=>0⟩
abbrev QeZ (a:ArmV)(b:QV)(L1:QV)(x:C)(y:C)(d:B (RtV×RtV))(R:B (RtV×RtV))(K:AV->Prop):Prop:=(((a.za[0]? =A b/\a.za[1]? =A L1)/\d.length<=1000/\ ∀r∈d,I r.1.p<=1000/\r.2.p.length<=1000)/\(WK b.len L1.len x y=A d/\inF b.lo b.hi L1.lo L1.hi d []=A R))/\(K (sP R))
def RL:=63<=63
def RO(a:SvX):=a.acc.length
def RM(a:SvX):=H Q9 a.acc
def RS:=61=61
def RR(a:B (RtV×RtV)):=J a.length
def RQ(a:C):=D a 100000
def RT:=14=14
def RU(a b:QV):=H XL a.shape=H XL b.shape
def RV:=P.ofNat 0=0
def RW(a:SvX)(b:B (RtV×RtV))(c d:SvX)(e f g h:QV)(i:SvX)(j:B (RtV×RtV))(k:SvX)(l:B (RtV×RtV)):=(a.i<=I b/\RO c<=d.i)/\inF e.lo f.hi g.lo h.hi (X i.i j) k.acc=A l
def RX:=63<=100000
theorem Qkc (a:ArmV)(f:QV)(L1:QV)(x:C)(y:C)(g:B (RtV×RtV))(R:B (RtV×RtV))(K:AV->Prop)(hK:QeZ a f L1 x y g R K):QM (QN (mkT eT S5 X4) (oF f50) (QdC a f L1 g R) f50 [JV a,.x G [.r x 100000,.r y 100000]] K):=by
 obtain⟨hc,hK⟩:=hK;refine HV ((RP<=0/\0<J (H QA a.za).length)/\∃(q:C)(n:E)(jh:C)(hZ:E)(ji:C)(ja:E)(jj:C)(jb:E)(jk:C)(jc:E)(ys:B (B Ch)),ldE (H QA a.za) 0 0 16=A [D q n,D jh hZ,D ji ja,D jj jb,D jk jc,N 6 ys]/\(RP<=1/\1<J (H QA a.za).length)/\∃(W:C)(V:E)(jl:C)(jd:E)(jm:C)(je:E)(jn:C)(jf:E)(jq:C)(jg:E)(M:B (B Ch)),ldE (H QA a.za) 1 0 16=A [D W V,D jl jd,D jm je,D jn jf,D jq jg,N 6 M]/\∃(jr jt:C)(O:B (RtV×RtV)),[RQ x,RQ y]=[RQ jr,RQ jt]/\((n<=100000/\V<=100000)/\WK q W jr jt=A O)/\(∃(x:SvX),(RW x g x x f f L1 L1 x g x R/\RV)/\0=0/\0=0/\Z L 0 0=Z L 0 0/\0=0/\RO x=0/\RT/\H Q9 O=H Q9 g/\J (H Q9 O).length=RR g/\0=J x.i/\RS/\q=f.len/\n<=63/\jh=f.lo/\hZ<=63/\ji=f.hi/\ja<=63/\jj=f.sp/\jb<=63/\jk=f.br/\jc<=63/\6=6/\ys=H XL f.shape/\RS/\W=L1.len/\V<=63/\jl=L1.lo/\jd<=63/\jm=L1.hi/\je<=63/\jn=L1.sp/\jf<=63/\jq=L1.br/\jg<=63/\6=6/\M=H XL L1.shape/\RM x=[]/\Q)/\∀(x:SvX),RW x g x x f f L1 L1 x g x R->RV->bif decide (J x.i<RR g)then(0<=J x.i/\J x.i<J (H Q9 g).length)/\∃(ys:B (B Ch))(q:C)(n:E)(l:C)(i:E)(t:B (B Ch))(p:C)(j:E)(s:C)(k:E),ldE (H Q9 g) (J x.i).toNat 0 14=A [N 3 ys,D q n,D l i,N 3 t,D p j,D s k]/\∃(r:RtV)(At:Bool),[N 3 ys,D q n,D l i]=[N 3 (lR 100000 r.p),RQ r.s.lo,RQ r.s.hi]/\((I r.p<=1000/\RX/\RX)/\Vh r f.lo f.hi=A At)/\bif At then∃(r:RtV)(Lm:Bool),[N 3 t,D p j,D s k]=[N 3 (lR 100000 r.p),RQ r.s.lo,RQ r.s.hi]/\((I r.p<=1000/\RX/\RX)/\Vh r L1.lo L1.hi=A Lm)/\bif Lm then((RO x+1)*208<=140737488355328/\RO x+1<=9223372036854775807)/\∃(v:SvX),(RW v g v v f f L1 L1 v g v R/\RV/\g.length-v.i<I g-x.i)/\0=0/\0=0/\0=0/\RO x+1=RO v/\RT/\H Q9 g=H Q9 g/\RR g=RR g/\u.wrap (J x.i+1)=J v.i/\RS/\f.len=f.len/\RL/\f.lo=f.lo/\RL/\f.hi=f.hi/\RL/\f.sp=f.sp/\RL/\f.br=f.br/\RL/\6=6/\RU f f/\RS/\L1.len=L1.len/\RL/\L1.lo=L1.lo/\RL/\L1.hi=L1.hi/\RL/\L1.sp=L1.sp/\RL/\L1.br=L1.br/\RL/\6=6/\RU L1 L1/\117=117/\RT/\(U (RO x) (RM x)++[[N 3 ys,D q n,D l i,N 3 t,D p j,D s k]]=RM v\/QC (U (RO x) (RM x)++[[N 3 ys,D q n,D l i,N 3 t,D p j,D s k]]) (RM v))/\Q else∃(e:SvX),(RW e g e e f f L1 L1 e g e R/\RV/\g.length-e.i<I g-x.i)/\0=0/\0=0/\0=0/\RO x=RO e/\RT/\H Q9 g=H Q9 g/\RR g=RR g/\u.wrap (J x.i+1)=J e.i/\RS/\f.len=f.len/\RL/\f.lo=f.lo/\RL/\f.hi=f.hi/\RL/\f.sp=f.sp/\RL/\f.br=f.br/\RL/\6=6/\RU f f/\RS/\L1.len=L1.len/\RL/\L1.lo=L1.lo/\RL/\L1.hi=L1.hi/\RL/\L1.sp=L1.sp/\RL/\L1.br=L1.br/\RL/\6=6/\RU L1 L1/\117=117/\RT/\(RM x=RM e\/QC (RM x) (RM e))/\Q else∃(z:SvX),(RW z g z z f f L1 L1 z g z R/\RV/\g.length-z.i<I g-x.i)/\0=0/\0=0/\0=0/\RO x=RO z/\RT/\H Q9 g=H Q9 g/\RR g=RR g/\u.wrap (J x.i+1)=J z.i/\RS/\f.len=f.len/\RL/\f.lo=f.lo/\RL/\f.hi=f.hi/\RL/\f.sp=f.sp/\RL/\f.br=f.br/\RL/\6=6/\RU f f/\RS/\L1.len=L1.len/\RL/\L1.lo=L1.lo/\RL/\L1.hi=L1.hi/\RL/\L1.sp=L1.sp/\RL/\L1.br=L1.br/\RL/\6=6/\RU L1 L1/\117=117/\RT/\(RM x=RM z\/QC (RM x) (RM z))/\Q else K (AV.x F [N 14 (U (RO x) (X 0 (RM x)))])) ?_
 delta RL RO RM RP RS RR RQ RT RU RV RW RX
 try simp only[Zh,R0,R1,Zo,R4]
 obtain⟨⟨⟨h0,h1⟩,jv,ju⟩,hs,hR⟩:=hc;have l0:=(B.getElem?_eq_some_iff.1 h0).1;have l1:=(B.getElem?_eq_some_iff.1 h1).1
 refine⟨⟨o3,by rw[Y];omega⟩,f.len,63,f.lo,63,f.hi,63,f.sp,63,f.br,63,_,JW h0,⟨o3,by rw[Y];omega⟩,L1.len,63,L1.lo,63,L1.hi,63,L1.sp,63,L1.br,63,_,JW h1,x,y,g,rfl,⟨⟨o3,o3⟩,hs⟩,
  ⟨⟨0,[]⟩,⟨⟨E.zero_le _,Zo _⟩,hR⟩,rfl,rfl,by rw[Y],rfl,rfl,o3,rfl,o3,rfl,o3,rfl,o3,rfl,o3,rfl,rfl,o3,rfl,o3,rfl,o3,rfl,o3,rfl,o3,rfl,rfl⟩,fun z ⟨⟨z1,z2⟩,h⟩=>QE (fun w=> ?_) (fun w=> ?_)⟩
 ·have w:z.i<I g:=(j7 w)
  obtain⟨r,hr⟩: ∃r,g[z.i]? =A r:=⟨_,Zd o3⟩
  have ed:g.drop z.i=r::g.drop (z.i+1):=by
   rw[Zn w];congr 1;rw[Zd w]at hr;exact S.some.inj hr
  have be:=ju r (Zm hr);rw[ed,inF]at h;obtain⟨b,hA,h⟩:=bind_some h;rw[Zs];refine⟨⟨o3,by rw[Y];omega⟩,_,_,_,_,_,_,_,_,_,_,QPZ hr,r.1,b,rfl,⟨⟨be.1,o3,o3⟩,hA⟩,QE (fun P=> ?_) (fun P=> ?_)⟩
  ·rw[P]at h;simp only[R7]at h;obtain⟨d,hB,h⟩:=bind_some h;refine⟨r.2,d,rfl,⟨⟨be.2,o3,o3⟩,hB⟩,QE (fun P=> ?_) (fun P=> ?_)⟩
   ·rw[P]at h;exact⟨⟨o3,o3⟩,⟨z.i+1,z.acc++[r]⟩,⟨⟨⟨o5,o9⟩,h⟩,o5⟩,o6,by rw[w64 o3];simp,.inl (da (r:=r))⟩
   ·rw[P]at h;exact⟨⟨z.i+1,z.acc⟩,⟨⟨⟨o5,o5⟩,h⟩,o5⟩,rfl,by rw[w64 o3];simp,.inl rfl⟩
  ·rw[P]at h;exact⟨⟨z.i+1,z.acc⟩,⟨⟨⟨o5,o5⟩,h⟩,o5⟩,rfl,by rw[w64 o3];simp,.inl rfl⟩
 ·have w:g.length<=z.i:=(j8 w)
  rw[Zp w]at h;have h:z.acc=R:=S.some.inj h;rw[xx,h];exact hK
def pJ:Ctr
 | [.x G d,.x G e]=>A fun K=> ∃(a:ArmV) (b:QV) (L1:QV) (x:C) (y:C) (r:B (RtV×RtV)) (R:B (RtV×RtV)),d=Qp a/\e=[.r x 100000,.r y 100000]/\QeZ a b L1 x y r R K
 | _=>L
theorem ok_iIn:QH 50 pJ:=by
 refine okL func50 fun l b d K h=> ?_
 unfold pJ at d;split at d<;>cases d
 obtain⟨a,e,L1,x,y,r,R,rfl,rfl,h⟩:=h;exact spL (QP QYp al Qb) QK func50 (Qkc _ _ _ _ _ _ _ K h)
def Qkd:LC:=(50,pJ)::eT
noncomputable def QlQ:Qd:=mkT Qkd S5 X4
theorem QYr {q p:B C}{a:B Sp}(d: ∀t∈a,t.lo<=t.hi): ∀{l:B Sp} {b R:B (RtV×RtV)},W2 q p x y a l b=A R->(∀t∈l,t.lo<=t.hi)->(∀r∈b,(r.1.p=q/\r.1.s.lo<=r.1.s.hi)/\r.2.p=p/\r.2.s.lo<=r.2.s.hi)->
  R.length=I b+I l/\ ∀r∈R,(r.1.p=q/\r.1.s.lo<=r.1.s.hi)/\r.2.p=p/\r.2.s.lo<=r.2.s.hi:=by
 intro l;induction l with
 | nil=>intro b R h _ e;cases h;exact⟨o6,e⟩
 | cons s l w=>
  intro b R h i e;have v:=i s o6;have k: ∀{t:Sp},t.lo<=t.hi->W2 q p x y a l (b++[(⟨q,s⟩,⟨p,t⟩)])=A R->I R=I b+(s::l).length/\ ∀r∈R,(r.1.p=q/\r.1.s.lo<=r.1.s.hi)/\r.2.p=p/\r.2.s.lo<=r.2.s.hi:=fun f h=>by
   obtain⟨z,H⟩:=w h (fun t f=>i t (by simp[f])) (fun r hr=>by
    rcases Zr.1 hr with hr | hr
    ·exact e r hr
    ·simp at hr;subst hr;exact⟨⟨rfl,v⟩,rfl,f⟩)
   exact⟨by rw[z];simp;omega,H⟩
  rw[W2]at h;cases g:E.beq a.length 2 with
  | true=>
   rw[g]at h;obtain⟨n,_,h⟩:=bind_some h;cases j:decide (0<n)with
   | true=>rw[j]at h;exact k (Gm d 1) h
   | false=>rw[j]at h;exact k (Gm d 0) h
  | false=>rw[g]at h;exact k (Gm d 0) h
theorem vK{l:C}{R:B (RtV×RtV)}(h:WK l m x y=A R):R.length<=1000/\ ∀r∈R,(I r.1.p=3/\r.1.s.lo<=r.1.s.hi)/\r.2.p.length=3/\r.2.s.lo<=r.2.s.hi:=by
 obtain⟨E,p,q,first,s,⟨_,b⟩,h⟩:=ue h;rcases h with⟨_,rfl⟩ | ⟨_,a,d,z,_,h⟩
 ·simp
 ·obtain⟨n,t⟩:=QYr (VO z).2 h (VO d).2 o6;have j:=(VO d).1;have v:p.length=3:=by
   unfold aF at b;obtain⟨_,_,b⟩:=bind_some b;obtain⟨_,_,b⟩:=bind_some b;obtain⟨_,_,b⟩:=bind_some b;obtain⟨_,_,b⟩:=bind_some b;obtain⟨_,_,b⟩:=bind_some b;obtain⟨_,_,b⟩:=bind_some b;cases b;rfl
  have w:q.length=3:=by
   unfold Z3 at a;obtain⟨_,_,a⟩:=bind_some a;obtain⟨_,_,a⟩:=bind_some a;obtain⟨_,_,a⟩:=bind_some a;obtain⟨_,_,a⟩:=bind_some a;obtain⟨_,_,a⟩:=bind_some a;obtain⟨_,_,a⟩:=bind_some a;obtain⟨_,_,a⟩:=bind_some a;obtain⟨_,_,a⟩:=bind_some a;obtain⟨_,_,a⟩:=bind_some a;obtain⟨_,_,a⟩:=bind_some a;cases a;rfl
  refine⟨by rw[n];simp;exact j,fun r k=> ?_⟩;obtain⟨⟨e,f⟩,g,i⟩:=t r k;exact⟨⟨by rw[e,w],f⟩,by rw[g,v],i⟩
theorem QdD {a b c d:C}: ∀{l g R:B (RtV×RtV)},inF a b c d l g=A R->I R<=I g+I l/\ ∀r∈R,r∈g\/r∈l:=by
 intro l;induction l with
 | nil=>intro g R h;cases h;exact⟨o6,fun r hr=> .inl hr⟩
 | cons s l i=>
  intro g R h;rw[inF]at h;obtain⟨e,_,h⟩:=bind_some h;have skip:inF a b c d l g=A R->I R<=I g+(s::l).length/\ ∀r∈R,r∈g\/r∈s::l:=fun h=>by
   obtain⟨j,k⟩:=i h;exact⟨o9,fun r hr=>(k r hr).imp id (fun h=>by simp[h])⟩
  cases e with
  | false=>exact skip h
  | true=>
   simp only[R7]at h;obtain⟨f,_,h⟩:=bind_some h;cases f with
   | false=>exact skip h
   | true=>
    obtain⟨j,k⟩:=i h;refine⟨by simp at j|-;omega,fun r hr=> ?_⟩;rcases k r hr with hr | hr
    ·rcases Zr.1 hr with hr | hr
     ·exact .inl hr
     ·simp at hr;subst hr;exact .inr o6
    ·exact .inr (by simp[hr])
theorem QlF {W:World}{O:E->Prop}{ρ:Env}{n m d b:E}(h1:n<=d)(i:m<=b){v:Value}(h:ConcV W O ρ (.x G [.r x n,.r y m]) v):ConcV W O ρ (.x G [.r x d,.r y b]) v:=by
 obtain⟨e,a,j⟩:=h;cases a with | r f a=>cases a with | r g a=>exact⟨_,.r (f.mono h1) (.r (g.mono i) a),j⟩
def m7:Ctr
 | [.x G d,.x G [.r x n,.r y m]]=>A fun K=> ∃(a:ArmV) (b L1:QV) (r R:B (RtV×RtV)),d=Qp a/\((a.za[0]? =A b/\a.za[1]? =A L1)/\n<=100000/\m<=100000)/\(WK b.len L1.len x y=A r/\inF b.lo b.hi L1.lo L1.hi r []=A R)/\K (sP R)
 | _=>L
theorem QdE:QH 50 m7:=by
 refine⟨ok_iIn.enter,fun l b h K e=> ?_⟩;unfold m7 at h;split at h
 ·rename_i M x n y m;cases h
  obtain⟨a,g,L1,B,R,rfl,⟨q,t,s⟩,⟨f,k⟩,e⟩:=e;obtain⟨C,E⟩:=vK f;refine Eng.Spec.args (ok_iIn.sound [.x G (Qp a),.x G [.r x 100000,.r y 100000]] _ rfl K ⟨a,g,L1,x,y,B,R,rfl,rfl,⟨⟨q,C,fun r z=> ?_⟩,f,k⟩,e⟩) fun w O v p=> ?_
  ·obtain⟨⟨H,_⟩,I,_⟩:=E r z;exact⟨o3,o3⟩
  ·cases p with
   | cons i d=>cases d with
    | cons d j=>exact .cons i (.cons (QlF t s d) j)
 ·cases h
def ak:LC:=(50,m7)::eT
theorem vJ:QF ak:= .cons QdE QYp
def Ui (o:B Sp):B Ch:=[.s 6 (o.map (spN 100000))]
structure TwX where
 i:E
 acc:B (B Sp)
def QYu (R:B (RtV×RtV))(O:B (B Sp)):LI:=fun _=> .inv ⟨TwX,fun e=>⟨[(7,.x F [.w 500 0 e.acc.length]),(21,sP R),(22,iA .i64 R.length),(23,iA .i64 e.i)],[(500,.row 119 1 (e.acc.map Ui))]⟩,
  fun e=>(e.i<=I R/\e.acc.length<=e.i)/\S3 (R.drop e.i) e.acc=A O,fun e=>I R-e.i,fun _=>0⟩
def wT (a:ArmV):FrV:=⟨a.x,a.y,a.half,a.t⟩
def aK (a:ArmV)(x y:C):C:=Vu (K7 (wT a)) x y
def aP (a:ArmV)(x y:C):C:=Vv (K7 (wT a)) x y
def QFo (a:ArmV)(_L0:QV)(_L1:QV)(x:C)(n:E)(y:C)(m:E)(_rs:B (RtV×RtV))(R:B (RtV×RtV))(O:B (B Sp))(K:AV->Prop):Prop:=QN (mkT ak S5 X4) (oF f18) (QYu R O) f18 [JV a,.x G [.r x n,.r y m]] K
theorem QH5 (a:ArmV)(l:QV)(L1:QV)(x:C)(n:E)(y:C)(m:E)(W:B (RtV×RtV))(R:B (RtV×RtV))(O:B (B Sp))(K:AV->Prop):QFo a l L1 x n y m W R O K=(∃(b:ArmV),[T (Zt a.name),D a.x 63,D a.y 63,T (Zq a.half),D a.t 63,N 16 (H QA a.za)]=[T (Zt b.name),D b.x 63,D b.y 63,T (Zq b.half),D b.t 63,N 16 (H QA b.za)]/\(QJ b/\2=J b.za.length)/\((a.half=G->a.t=P.ofNat 0)/\189<=1000)/\∀(k j o:E),k<=20000->j<=20000->o<=1064->k+j+o+n+m<=400000000/\∀(s p:E),s<=k+n+m+8*o+1100->p<=j+n+m+8*o+1100->∃(d:ArmV)(l:QV)(L1:QV)(W:B (RtV×RtV))(i:B (RtV×RtV)),[T (Zt a.name),D a.x 63,D a.y 63,T (Zq a.half),D a.t 63,N 16 (H QA a.za)]=[T (Zt d.name),D d.x 63,D d.y 63,T (Zq d.half),D d.t 63,N 16 (H QA d.za)]/\((d.za[0]?=A l/\d.za[1]?=A L1)/\s<=100000/\p<=100000)/\(WK l.len L1.len (Vu (FrV.mk (K7 (FrV.mk a.x a.y a.half a.t)).x (K7 (FrV.mk a.x a.y a.half a.t)).y a.half (-a.t)) x y) (Vv (FrV.mk (K7 (FrV.mk a.x a.y a.half a.t)).x (K7 (FrV.mk a.x a.y a.half a.t)).y a.half (-a.t)) x y)=A W/\inF l.lo l.hi L1.lo L1.hi W []=A i)/\(∃(x:TwX),(((x.i<=I R/\x.acc.length<=x.i)/\S3 (X x.i R) x.acc=A O)/\P.ofNat 0=0)/\Z L 0 0=Z L 0 0/\0=0/\x.acc.length=0/\14=14/\H Q9 i=H Q9 R/\J (H Q9 i).length=J R.length/\0=J x.i/\H Ui x.acc=[]/\Q)/\∀(x:TwX),(x.i<=I R/\x.acc.length<=x.i)/\S3 (X x.i R) x.acc=A O->P.ofNat 0=0->bif decide (J x.i<J R.length)then(0<=J x.i/\J x.i<J (H Q9 R).length)/\∃(Y:B (B Ch))(q:C)(n:E)(z:C)(t:E)(h:B (B Ch))(S:C)(v:E)(V:C)(w:E),ldE (H Q9 R) (J x.i).toNat 0 14=A [N 3 Y,D q n,D z t,N 3 h,D S v,D V w]/\∃(r:RtV)(e:RtV),[N 3 Y,D q n,D z t]=[N 3 (lR 100000 r.p),D r.s.lo 100000,D r.s.hi 100000]/\(((I r.p<=1000/\r.s.lo<=r.s.hi)/\(1:M)<=1000/\(1000:M)<9223372036854775808)/\Ug r 1000=A e)/\∃(r:RtV)(f:RtV),[N 3 h,D S v,D V w]=[N 3 (lR 100000 r.p),D r.s.lo 100000,D r.s.hi 100000]/\(((I r.p<=1000/\r.s.lo<=r.s.hi)/\(1:M)<=1000/\(1000:M)<9223372036854775808)/\Ug r 1000=A f)/\((I x.acc+1)*24<=140737488355328/\x.acc.length+1<=9223372036854775807)/\∃(g:TwX),(((g.i<=I R/\g.acc.length<=g.i)/\S3 (X g.i R) g.acc=A O)/\P.ofNat 0=0/\R.length-g.i<I R-x.i)/\0=0/\x.acc.length+1=I g.acc/\14=14/\H Q9 R=H Q9 R/\J R.length=J R.length/\u.wrap (J x.i+1)=J g.i/\119=119/\1=1/\(U x.acc.length (H Ui x.acc)++[[N 6 [[D e.s.lo 100000,D e.s.hi 100000],[D f.s.lo 100000,D f.s.hi 100000]]]]=H Ui g.acc\/QC (U x.acc.length (H Ui x.acc)++[[N 6 [[D e.s.lo 100000,D e.s.hi 100000],[D f.s.lo 100000,D f.s.hi 100000]]]]) (H Ui g.acc))/\Q else bif J x.acc.length==0 then K (AV.t [(F,[T (Z L 0 0)]),(F,[T (Value.int u 17)])])else K (AV.t [(F,[N 1 (U x.acc.length (X 0 (H Ui x.acc)))]),(F,[T (Value.int u 0)])])):=o4
theorem QiD (a:ArmV)(g:QV)(L1:QV)(x:C)(n:E)(y:C)(m:E)(j:B (RtV×RtV))(R:B (RtV×RtV))(O:B (B Sp))(X:((QJ a/\a.za=[g,L1])/\n<=20000/\m<=20000)/\((WK g.len L1.len (aK a x y) (aP a x y)=A j/\inF g.lo g.hi L1.lo L1.hi j []=A R)/\S3 R []=A O))(K:AV->Prop)(V:(O=[]->K (.t [(F,[.v (.slice L 0 0)]),(F,[.v (.int .i64 17)])]))/\(O≠[]->K (.t [(F,[.s 1 (O.map Ui)]),(F,[.v (.int .i64 0)])]))):QM (QFo a g L1 x n y m j R O K):=by
 refine⟨?_⟩;rw[QH5];try simp only[Zh,R0,R1,R4]
 obtain⟨⟨⟨t,p⟩,hn,hm⟩,⟨v,s⟩,W⟩:=X;obtain⟨k,l⟩:=V;obtain⟨s1,s2⟩:=vK v;obtain⟨w,i2⟩:=QdD s;have w:R.length<=1000:=by simp at w;omega
 have q: ∀r∈R,(I r.1.p=3/\r.1.s.lo<=r.1.s.hi)/\r.2.p.length=3/\r.2.s.lo<=r.2.s.hi:=fun r q=>s2 r ((i2 r q).resolve_left o6);refine⟨a,rfl,⟨t,by rw[p];rfl⟩,⟨t.half,o3⟩,fun n1 m1 o h1 h2 h3=>⟨o3,fun n2 m2 h4 h5=>⟨a,g,L1,j,R,rfl,⟨⟨by rw[p];rfl,by rw[p];rfl⟩,o3,o3⟩,⟨v,s⟩,⟨⟨0,[]⟩,⟨⟨E.zero_le _,Zo _⟩,W⟩,rfl,rfl,by rw[Y],rfl,rfl⟩,fun z ⟨⟨z1,z2⟩,f⟩=>QE (fun h=> ?_) (fun h=> ?_)⟩⟩⟩
 ·have h:z.i<I R:=(j7 h)
  obtain⟨r,hri⟩: ∃r,R[z.i]? =A r:=⟨_,Zd o3⟩
  have P:R.drop z.i=r::R.drop (z.i+1):=by
   rw[Zn h];congr 1;rw[Zd h]at hri;exact S.some.inj hri
  obtain⟨⟨e1,H⟩,e3,M⟩:=q r (Zm hri);rw[P,S3]at f;obtain⟨b,Q,f⟩:=bind_some f;obtain⟨d,U,f⟩:=bind_some f;rw[Zs];refine⟨⟨o3,by rw[Y];omega⟩,_,_,_,_,_,_,_,_,_,_,QPZ hri,r.1,b,rfl,⟨⟨⟨o3,H⟩,o3,o3⟩,Q⟩,r.2,d,rfl,⟨⟨⟨o3,M⟩,o3,o3⟩,U⟩,⟨o3,o3⟩,⟨z.i+1,z.acc++[[b.s,d.s]]⟩,⟨⟨⟨o5,o9⟩,f⟩,o5⟩,o6,by rw[w64 o3];simp,.inl ?_⟩;rw[Zl o6,B.map_append];rfl
 ·have h:R.length<=z.i:=(j8 h)
  rw[Zp h]at f;have f:z.acc=O:=S.some.inj f;refine QE (fun i=> ?_) (fun i=> ?_)
  ·refine k ?_
   rw[<-f];exact B.eq_nil_of_length_eq_zero ((j9 i))
  ·rw[B.drop_zero,Zl o6,f];refine l fun e=> ?_
   rw[f,e]at i;simp at i
def iZ:Ctr
 | [.x G d,.x G [.r x n,.r y m]]=>A fun K=> ∃(a:ArmV) (b:QV) (L1:QV) (r:B (RtV×RtV)) (R:B (RtV×RtV)) (O:B (B Sp)),d=Qp a/\(((QJ a/\a.za=[b,L1])/\n<=20000/\m<=20000)/\((WK b.len L1.len (aK a x y) (aP a x y)=A r/\inF b.lo b.hi L1.lo L1.hi r []=A R)/\S3 R []=A O))/\((O=[]->K (.t [(F,[.v (.slice L 0 0)]),(F,[.v (.int .i64 17)])]))/\(O≠[]->K (.t [(F,[.s 1 (O.map Ui)]),(F,[.v (.int .i64 0)])])))
 | _=>L
theorem ok_iTwo:QH 18 iZ:=by
 refine okL func18 fun l b d K h=> ?_
 unfold iZ at d;split at d<;>cases d
 obtain⟨a,f,L1,r,R,O,rfl,e,h⟩:=h;exact spL (QP vJ al Qb) QK func18 (QiD _ _ _ _ _ _ _ _ _ _ e K h)
def Qkf:LC:=(18,iZ)::ak
noncomputable def QlR:Qd:=mkT Qkf S5 X4
end Go.Proofs
