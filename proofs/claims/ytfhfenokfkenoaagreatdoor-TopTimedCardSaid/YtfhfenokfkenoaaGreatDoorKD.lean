/- TopTimed. -/
import Derived.Test.YtfhfenokfkenoaaGreatDoorKM
import Derived.Test.YtfhfenokfkenoaaGreatDoorKLim
import Derived.Test.YtfhfenokfkenoaaGreatDoorRV
open Int renaming ofNat → Za, toNat_natCast → Zk
open List renaming map → Zb, getElem?_eq_getElem → Zc, getD_eq_getElem?_getD → Zg, mem_of_getElem? → Zh, take_of_length_le → Zm, drop_zero → Zn, getElem?_eq_none → Zo, length_map → Zp, getElem?_map → Zq, take → Zt
open Go.Value renaming bool → Zd, string → Zi, int → Zr
open Nat renaming le_refl → Ze, zero_le → Zs
open Go.IntKind renaming i64 → Zf
open Go.Eng.Ch renaming r → Zj, v → Zl
namespace Go.Proofs
open Go Go.Eng
structure TzX where
 a:ArmV
 w:List (List Rat)
 l:List Int
 n:Nat
structure TzI (x:TzX):Prop where
 made:MadeA x.a
 hn:x.w.length<=x.n/\1<=x.n/\x.n<=3
 len: ∀q∈x.w,q.length=x.a.links.length
 fit: ∀q∈x.w,Fit x.a q
 hl:x.l.length<=9223372036854775807
structure TtX where
 a:ArmV
 w:List (List Rat)
 ks:List Qh
 b:Nat
 k:Nat
 nx:Nat
 s:Rat
 i:Nat
def ttF (ks:List Qh):Int:=(ks.getD 0 QI).tick
def ttE (ks:List Qh):Int:=(ks.getD (ks.length-1) QI).tick
def ttN (ks:List Qh):Nat:=(ttE ks+1-ttF ks).toNat
def ttB (x:TtX):Nat:=64+1400*(3*x.k+x.i)
def QDp:List Rat->Rat
 | []=>0
 | v::vs=>Q5 v+QDp vs
def Jt (ks:List Qh)(n:Nat)(t:Int):Rat:=bif Nat.blt n ks.length then dst (atR ks t).1 ((ks.getD n QI).q)+XL ((ks.drop n).map (·.q))else 0
structure TtK (x:TtX):Prop where
 good:QX x.a
 ok:H7 x.a x.ks
 keys:Q1 x.ks x.a.links.length 128
 qs:x.ks.map (·.q)=x.w
 n:1<=x.ks.length/\x.ks.length<=3
 b:x.b<=1000000
 k:x.k<=ttN x.ks
 nle:x.nx<=x.ks.length
structure TtI (x:TtX):Prop where
 c:TtK x
 i:x.i=0
 lo: ∀(j:Nat) y,j<x.nx->x.ks[j]? =some y->y.tick<ttF x.ks+x.k
 hi: ∀y,x.ks[x.nx]? =some y->ttF x.ks+x.k<=y.tick
 sum:x.s+Jt x.ks x.nx (ttF x.ks+x.k)=XL x.w
structure TtJ (x:TtX):Prop where
 c:TtK x
 kN:x.k<ttN x.ks
 i:x.i<=x.a.links.length
 lo: ∀(j:Nat) y,j<x.nx->x.ks[j]? =some y->y.tick<=ttF x.ks+x.k
 hi: ∀y,x.ks[x.nx]? =some y->ttF x.ks+x.k<y.tick
 sum:x.s+QDp ((Xt x.ks (ttF x.ks+x.k)).drop x.i)+Jt x.ks x.nx (ttF x.ks+x.k+1)=XL x.w
theorem QPC (p:Rat):Q5 p=p/\0<=p∨Q5 p= -p/\p<0:=by
 rw[UL];split
 ·exact .inr ⟨rfl,by assumption⟩
 ·exact .inl ⟨rfl,by grind⟩
theorem QHz {c d:Rat}(hc:0<=c):Q5 (c*d)=c*Q5 d:=by
 rcases Rat.le_iff_lt_or_eq.1 hc with h | h
 ·rcases QPC d with⟨e,k⟩ | ⟨e,k⟩<;>rcases QPC (c*d)with⟨e2,k2⟩ | ⟨e2,k2⟩<;>rw[e,e2]
  ·have:=Rat.mul_nonneg hc k;grind
  ·have:=Rat.mul_pos (a:=c) (b:= -d) h (by grind);grind
  ·grind
 ·rw[<-h,Rat.zero_mul,Rat.zero_mul,ab_z]
where ab_z:Q5 0=0:=by decide+kernel
theorem QJF: ∀p q:List Rat,QDp (List.zipWith (fun x y=>y-x) p q)=dst p q
 | [],_=>rfl
 | _::_,[]=>rfl
 | p::ps,q::qs=>by
  show Q5 (q-p)+QDp (List.zipWith (fun x y=>y-x) ps qs)=Q5 (q-p)+dst ps qs
  rw[QJF ps qs]
theorem QPD {v:List Rat}{i:Nat}{q:Rat}(h:v[i]? =some q):QDp (v.drop i)=Q5 q+QDp (v.drop (i+1)):=by
 rw[QAY h];rfl
theorem QFV {s s':Rat}(h:s<=s')(h1:s'<=1): ∀p q:List Rat,dst (mix s p q) q=dst (mix s p q) (mix s' p q)+dst (mix s' p q) q
  | [],_=>by show(0:Rat)=0+0;grind
  | _::_,[]=>by show(0:Rat)=0+0;grind
  | p::ps,q::qs=>by
    show Q5 (q-(p+s*(q-p)))+dst (mix s ps qs) qs=Q5 (p+s'*(q-p)-(p+s*(q-p)))+dst (mix s ps qs) (mix s' ps qs)+(Q5 (q-(p+s'*(q-p)))+dst (mix s' ps qs) qs)
    rw[QFV h h1 ps qs,show q-(p+s*(q-p))=(1-s)*(q-p)by grind,show p+s'*(q-p)-(p+s*(q-p))=(s'-s)*(q-p)by grind,show q-(p+s'*(q-p))=(1-s')*(q-p)by grind,
      QHz (show 0<=1-s by grind),QHz (show 0<=s'-s by grind),QHz (show 0<=1-s' by grind)]
    grind
theorem UY {ks:List Qh}{n:Nat}{t:Int}{y:Qh}(h:ks[n]? =some y):Jt ks n t=dst (atR ks t).1 y.q+XL ((ks.drop n).map (·.q)):=by
 have hn:=(List.getElem?_eq_some_iff.1 h).1;unfold Jt;rw[show Nat.blt n ks.length=true from Nat.ble_eq_true_of_le hn,R7,Zg,h];rfl
theorem GC {ks:List Qh}{n:Nat}{t:Int}(h:ks.length<=n):Jt ks n t=0:=by
 unfold Jt;cases hb:Nat.blt n ks.length with
 | false=>rfl
 | true=>have:n+1<=ks.length:=Nat.le_of_ble_eq_true hb;omega
theorem QSW {ks:List Qh}{n:Nat}{x y:Qh}(hx:ks[n]? =some x)(hy:ks[n+1]? =some y):XL ((ks.drop n).map (·.q))=dst x.q y.q+XL ((ks.drop (n+1)).map (·.q)):=by
 rw[K4 hx,K4 hy];rfl
theorem QPE {ks:List Qh}{m N n:Nat}{y:Qh}(hk:Q1 ks m N)(h:ks[n]? =some y):Jt ks n y.tick=Jt ks (n+1) y.tick:=by
  rw[UY h,QDT hk h,QAb];by_cases hl:n+1<ks.length
  · obtain⟨z,hz⟩: ∃z,ks[n+1]? =some z:=⟨_,Zc hl⟩
    rw[UY hz,QDT hk h,QSW h hz];grind
  · rw[GC (by omega),K4 h,List.drop_of_length_le (by omega)];show(0:Rat)+0=0
    grind
theorem QK6 {ks:List Qh}{m N n:Nat}{t:Int}(hk:Q1 ks m N)(hne:1<=ks.length)(hn:n<=ks.length)(lo: ∀(j:Nat) y,j<n->ks[j]? =some y->y.tick<=t)(hi: ∀y,ks[n]? =some y->t<y.tick)(h1:1<=n):Jt ks n t=QDp (Xt ks t)+Jt ks n (t+1):=by
  have hne':ks≠[]:=fun e=>by rw[e]at hne;simp at hne
  unfold Xt;rw[QJF];by_cases hl:n<ks.length
  · obtain⟨y,hy⟩: ∃y,ks[n]? =some y:=⟨_,Zc hl⟩
    have ty:=hi y hy;rw[UY hy,UY hy];rcases V7 hk hne' t with⟨z,hz,h2,_⟩ | ⟨i,x,y',hx,hy',h3,h4,e1,e2⟩ | ⟨z,hz,h2,_⟩
    · have:=lo 0 z (by omega) hz;omega
    · have ei:i+1=n:=by
        rcases Nat.lt_trichotomy (i+1) n with h | h | h
        · have:=lo (i+1) y' h hy';omega
        · exact h
        · have:=hk.mono (by omega:n<=i) hy hx;omega
      rw[ei,hy]at hy';cases hy'
      have hinc:=hk.inc i x y hx (by rw[ei];exact hy);have f1:=HK hinc (t:=t+1) (by omega) (by omega);have f0:=QBu hinc t;have tl:=W7 hinc;have iv:0<((y.tick:Rat)-(x.tick:Rat))⁻¹:=Rat.inv_pos.2 (by grind);rw[e1,e2];unfold Qd;rw[QFV (s:=XQ x y t) (s':=XQ x y (t+1)) (by grind) f1.2];grind
    · have:=hk.mono (by omega:n<=ks.length-1) hy hz;omega
  · rw[GC (by omega),GC (by omega)];rcases V7 hk hne' t with⟨z,hz,h2,_⟩ | ⟨i,x,y',hx,hy',h3,h4,_⟩ | ⟨z,hz,h2,e1,e2⟩
    · have:=lo 0 z (by omega) hz;omega
    · have:=lo (i+1) y' (by have:=(List.getElem?_eq_some_iff.1 hy').1;omega) hy';omega
    · rw[e1,e2,QAb];grind
theorem TtK.ends {x:TtX}(c:TtK x): ∃y z,x.ks[0]? =some y/\x.ks[x.ks.length-1]? =some z/\y.tick=ttF x.ks/\z.tick=ttE x.ks/\(0<=ttF x.ks/\ttF x.ks<=ttE x.ks/\ttE x.ks<=2000):=by
 have hn:=c.n;obtain⟨y,hy⟩: ∃y,x.ks[0]? =some y:=⟨_,Zc (by omega)⟩
 obtain⟨z,hz⟩: ∃z,x.ks[x.ks.length-1]? =some z:=⟨_,Zc (by omega)⟩
 have ty:=c.keys.tick y (Zh hy);have tz:=c.keys.tick z (Zh hz);have:=c.keys.mono (Zs _) hy hz;have e1:y.tick=ttF x.ks:=by unfold ttF;rw[Zg,hy];rfl
 have e2:z.tick=ttE x.ks:=by unfold ttE;rw[Zg,hz];rfl
 exact⟨y,z,hy,hz,e1,e2,by omega⟩
theorem TtK.bits {x:TtX}(c:TtK x)(t:Int):(atR x.ks t).2<=644/\(atR x.ks t).1.length=x.a.links.length:=by
 have hn:=c.n;have:=Ks (t:=t) c.keys (fun e=>by rw[e]at hn;simp at hn);omega
theorem TtK.spd {x:TtX}(c:TtK x)(t:Int):(Xt x.ks t).length=x.a.links.length:=by
 unfold Xt;rw[List.length_zipWith,(c.bits t).2,(c.bits (t+1)).2];omega
def ttH (x:TtX):List (Nat×Blk):=[(4,.box 4 [.v (.bool false)]),(5,.box 34 (XY x.a)),(7,.box 39 [.s 1 (wN 63 x.w)]),(8,.box 44 [.s 2 (x.ks.map QP)]),(10,.box 25 [.r (XL x.w) x.b]),(12,.box 25 [.r x.s (ttB x)]),(13,.box 3 [.v (.int .i64 x.nx)]),(72,.box 44 [.s 2 (x.ks.map QP)])]
def ttT:List (Nat×AV):=[(4,.x false [.p 4 0]),(5,.x false [.p 5 0]),(7,.x false [.p 7 0]),(8,.x false [.p 8 0]),(10,.x false [.p 10 0]),(12,.x false [.p 12 0]),(13,.x false [.p 13 0])]
def QYf:Inv:=⟨TtX,fun x=>⟨[(0,.x false [.yl 900]),(1,.x false [.p 72 0]),(3,iA .i64 (ttF x.ks+x.k))],(900,.lp 0)::ttH x⟩,TtI,fun x=>5000-(ttF x.ks+x.k).toNat,fun _=>0⟩
def QYg:Inv:=⟨TtX,fun x=>⟨(14,iA .i64 (ttF x.ks+x.k))::(103,sR ((atR x.ks (ttF x.ks+x.k+1)).2+(atR x.ks (ttF x.ks+x.k)).2+1) (Xt x.ks (ttF x.ks+x.k)))::(104,iA .i64 x.a.links.length)::(105,iA .i64 x.i)::ttT,(900,.lp 1)::ttH x⟩,TtJ,fun x=>x.a.links.length-x.i,fun x=>5000-(ttF x.ks+x.k).toNat⟩
def QYh:Inv:=⟨TtX,fun x=>⟨(72,.x false [.f 71 [72]])::ttT,ttH x⟩,fun x=>TtI x/\x.k=0,fun _=>0,fun _=>0⟩
def QYi:Inv:=⟨TtX,fun x=>⟨(14,iA .i64 (ttF x.ks+x.k))::(15,.x false [.w 600 0 x.a.links.length])::ttT,(600,Xs (atR x.ks (ttF x.ks+x.k)).2 (atR x.ks (ttF x.ks+x.k)).1)::(900,.lp 1)::ttH x⟩,fun x=>TtJ x/\x.i=0,fun _=>0,fun x=>5000-(ttF x.ks+x.k).toNat⟩
def tzH (x:TzX):List (Nat×Blk):=[(4,.box 4 [.v (.bool false)]),(5,.box 34 (XY x.a)),(24,stB x.l)]
def QPF:LI:=fun id=>bif id.beq 7 then .inv ⟨TzX,fun x=>⟨[(4,.x false [.p 4 0]),(5,.x false [.p 5 0]),(6,.x false [.p 24 0]),(7,.x false [.p 7 0]),(27,iA .i64 x.n),(28,iA .i64 x.w.length)],(7,.box 39 [.w 500 0 x.w.length])::(500,.row 41 1 (wN 63 x.w))::tzH x⟩,TzI,fun x=>x.n-x.w.length,fun _=>0⟩
 else bif id.beq 10 then .cutf [500] ⟨TzX,fun x=>⟨[(4,.x false [.p 4 0]),(5,.x false [.p 5 0]),(6,.x false [.p 24 0]),(7,.x false [.p 7 0])],(7,.box 39 [.s 1 (wN 63 x.w)])::tzH x⟩,fun x=>TzI x/\x.w.length=x.n,fun _=>0,fun _=>0⟩
 else bif id.beq 22 then .cut QYi else bif id.beq 16 then .it QYh [] 900 [0,1,3] (fun _ _=> .inv QYf)else .inv QYg
def QYG:List (Nat×XW):=(17,UN)::(60,QDW)::M99
def QYH:LC:=(10,GB)::(16,QAy)::(14,UM)::(15,KF)::QTP
theorem QWH:Xe QYG:= .cons QKl (.cons QRd QAZ)
theorem QWI:QG QYH:= .cons QPB (.cons QDo (.cons QAd (.cons HW QRZ)))
set_option maxRecDepth 100000 in
set_option maxHeartbeats 1000000 in
theorem QWJ (l m:List Int)(hl:l.length<=9223372036854775807)(hm:m.length<=9223372036854775807)(K:AV->Prop)(hK:K (.x false [.v (.bool true)])):QK (QT (mkT QYH QYG X4) (oF Tryz.f3) QPF Tryz.f3 [.x false [.s 1 (ints l)],.x false [.s 1 (ints m)]] K):=by
 refine HV ((True/\∃(l_1:List Int),ints l=ints l_1/\l_1.length<=9223372036854775807/\∀(a:ArmV),Made a/\1<=a.links.length->(∃(l:List Int),ints m=ints l/\((1:Int)<=3/\(3:Int)<9223372036854775808)/\l.length<=9223372036854775807/\∀(r:Int) (l':List Int),0<=r/\r<3->l'.length<=l.length->(∃(x:TzX),(TzI x/\OfNat.ofNat 0=0)/\0=0/\0=0/\0=0/\0=0/\Zf.wrap (1+r)=Za x.n/\0=Za x.w.length/\39=39/\Value.slice none 0 0=Value.slice none 0 0/\0=0/\x.w.length=0/\wN 63 x.w=[]/\4=4/\false=false/\34=34/\a.name=x.a.name/\a.x=x.a.x/\63<=63/\a.y=x.a.y/\63<=63/\a.half=x.a.half/\a.t=x.a.t/\63<=63/\16=16/\Zb QH a.links=Zb QH x.a.links/\38=38/\1=1/\ints l'=ints x.l/\True)/\∀(x:TzX),TzI x->OfNat.ofNat 0=0->bif decide (Za x.w.length<Za x.n)then ∃(l:List Int),ints x.l=ints l/\((1:Int)<=9/\(9:Int)<9223372036854775808)/\l.length<=9223372036854775807/\∀(r:Int) (l':List Int),0<=r/\r<9->l'.length<=l.length->∃(l:List Int),ints l'=ints l/\((1:Int)<=9/\(9:Int)<9223372036854775808)/\l.length<=9223372036854775807/\∀(r_1:Int) (l':List Int),0<=r_1/\r_1<9->l'.length<=l.length->∃(l:List Int),ints l'=ints l/\((1:Int)<=9/\(9:Int)<9223372036854775808)/\l.length<=9223372036854775807/\∀(r_2:Int) (l':List Int),0<=r_2/\r_2<9->l'.length<=l.length->∃(a:ArmV),∃(l:List Int),[Zl (Zi x.a.name),Zj x.a.x 63,Zj x.a.y 63,Zl (Zd x.a.half),Zj x.a.t 63,Ch.s 16 (Zb QH x.a.links)]=[Zl (Zi a.name),Zj a.x 63,Zj a.y 63,Zl (Zd a.half),Zj a.t 63,Ch.s 16 (Zb QH a.links)]/\[[Zl (Zr Zf r)],[Zl (Zr Zf r_1)],[Zl (Zr Zf r_2)]]=ints l/\(QX a/\l.length<=9223372036854775807)/\∀(qs:List Rat),(∀(i:Nat) (L:QZ) (q:Rat),a.links[i]?=some L->qs[i]?=some q->L.lo<=q/\q<=L.hi)->qs.length=a.links.length->((x.w.length+1)*24<=140737488355328/\x.w.length+1<=9223372036854775807)/\∃(x':TzX),(TzI x'/\OfNat.ofNat 0=0/\x'.n-x'.w.length<x.n-x.w.length)/\0=0/\0=0/\0=0/\0=0/\Za x.n=Za x'.n/\Zf.wrap (Za x.w.length+1)=Za x'.w.length/\39=39/\0=0/\x.w.length+1=x'.w.length/\41=41/\1=1/\(Zt x.w.length (wN 63 x.w)++[[Ch.s 3 (lR 63 qs)]]=wN 63 x'.w∨QE (Zt x.w.length (wN 63 x.w)++[[Ch.s 3 (lR 63 qs)]]) (wN 63 x'.w))/\4=4/\false=false/\34=34/\x.a.name=x'.a.name/\x.a.x=x'.a.x/\63<=63/\x.a.y=x'.a.y/\63<=63/\x.a.half=x'.a.half/\x.a.t=x'.a.t/\63<=63/\16=16/\Zb QH x.a.links=Zb QH x'.a.links/\38=38/\1=1/\ints l'=ints x'.l/\True else ∃(x_1:TzX),((TzI x_1/\x_1.w.length=x_1.n)/\OfNat.ofNat 0=0)/\0=0/\0=0/\0=0/\0=0/\39=39/\1=1/\Zt x.w.length (List.drop 0 (wN 63 x.w))=wN 63 x_1.w/\4=4/\false=false/\34=34/\x.a.name=x_1.a.name/\x.a.x=x_1.a.x/\63<=63/\x.a.y=x_1.a.y/\63<=63/\x.a.half=x_1.a.half/\x.a.t=x_1.a.t/\63<=63/\16=16/\Zb QH x.a.links=Zb QH x_1.a.links/\38=38/\1=1/\ints x.l=ints x_1.l/\True)/\∀(x:TzX),TzI x/\x.w.length=x.n->OfNat.ofNat 0=0->∃(l:List Int),ints x.l=ints l/\((1:Int)<=20/\(20:Int)<9223372036854775808)/\l.length<=9223372036854775807/\∀(r:Int) (l':List Int),0<=r/\r<20->l'.length<=l.length->∃(a:ArmV),∃(n:Nat),∃(w:List (List Rat)),[Zl (Zi x.a.name),Zj x.a.x 63,Zj x.a.y 63,Zl (Zd x.a.half),Zj x.a.t 63,Ch.s 16 (Zb QH x.a.links)]=[Zl (Zi a.name),Zj a.x 63,Zj a.y 63,Zl (Zd a.half),Zj a.t 63,Ch.s 16 (Zb QH a.links)]/\wN 63 x.w=wN n w/\(QX a/\(WQ w a.links.length/\n<=1000)/\((∀(q:List Rat),q∈w->∀(i:Nat) (L:QZ) (q_1:Rat),a.links[i]?=some L->q[i]?=some q_1->L.lo<=q_1/\q_1<=L.hi)/\∀(i:Nat) (p q:List Rat),w[i]?=some p->w[i+1]?=some q->∀(i:Nat) (L:QZ) (p_1 q_1:Rat),a.links[i]?=some L->p[i]?=some p_1->q[i]?=some q_1->Q5 (q_1-p_1)<=L.sp*OfNat.ofNat 100)/\0<=r/\r+100*Za w.length<=2000)/\∃(a_2:ArmV),∃(n_1:Nat),∃(w_1:List (List Rat)),[Zl (Zi x.a.name),Zj x.a.x 63,Zj x.a.y 63,Zl (Zd x.a.half),Zj x.a.t 63,Ch.s 16 (Zb QH x.a.links)]=[Zl (Zi a_2.name),Zj a_2.x 63,Zj a_2.y 63,Zl (Zd a_2.half),Zj a_2.t 63,Ch.s 16 (Zb QH a_2.links)]/\wN 63 x.w=wN n_1 w_1/\(QX a_2/\WQ w_1 a_2.links.length/\n_1<=100000)/\bif Za (Zb QP (XM a (n+65) r w)).length !=Za (wN 63 x.w).length then K (AV.x false [Zl (Zd false)])else(((-9223372036854775808:Int)<0/\(0:Int)<9223372036854775808)/\(0:Int)<1/\(1:Int)<9223372036854775808)/\∃(ks:List Qh),Zb QP (XM a (n+65) r w)=Zb QP ks/\(∃(x_1:TtX),((TtI x_1/\x_1.k=0)/\OfNat.ofNat 0=0)/\71=71/\0=0/\0=0/\0=0/\0=0/\0=0/\0=0/\0=0/\4=4/\false=false/\34=34/\x.a.name=x_1.a.name/\x.a.x=x_1.a.x/\63<=63/\x.a.y=x_1.a.y/\63<=63/\x.a.half=x_1.a.half/\x.a.t=x_1.a.t/\63<=63/\16=16/\Zb QH x.a.links=Zb QH x_1.a.links/\39=39/\1=1/\wN 63 x.w=wN 63 x_1.w/\44=44/\2=2/\Zb QP (XM a (n+65) r w)=Zb QP x_1.ks/\25=25/\XL w_1=XL x_1.w/\64+(2*n_1+2)*(3*(w_1.length-1))<=x_1.b/\25=25/\mkRat 0 1=x_1.s/\63<=ttB x_1/\3=3/\0=Za x_1.nx/\44=44/\2=2/\Zb QP ks=Zb QP x_1.ks/\True)/\∀(x:TtX),TtI x/\x.k=0->OfNat.ofNat 0=0->bif Za (Zb QP x.ks).length==0 then bif Za x.nx==Za (Zb QP x.ks).length then ttB x+x.b<=4294967296/\K (AV.x false [Zl (Zd (YT x.s (XL x.w)==0))])else K (AV.x false [Zl (Zd false)])else((0:Int)<=0/\0<Za (Zb QP x.ks).length)/\∃(d:Int),ldE (Zb QP x.ks) 0 0 1=some [Zl (Zr Zf d)]/\(∃(x_1:TtX),(TtI x_1/\OfNat.ofNat 0=OfNat.ofNat 0)/\0=0/\d=ttF x_1.ks+Za x_1.k/\0=0/\4=4/\false=false/\34=34/\x.a.name=x_1.a.name/\x.a.x=x_1.a.x/\63<=63/\x.a.y=x_1.a.y/\63<=63/\x.a.half=x_1.a.half/\x.a.t=x_1.a.t/\63<=63/\16=16/\Zb QH x.a.links=Zb QH x_1.a.links/\39=39/\1=1/\wN 63 x.w=wN 63 x_1.w/\44=44/\2=2/\Zb QP x.ks=Zb QP x_1.ks/\25=25/\XL x.w=XL x_1.w/\x.b<=x_1.b/\25=25/\x.s=x_1.s/\ttB x<=ttB x_1/\3=3/\Za x.nx=Za x_1.nx/\44=44/\2=2/\Zb QP x.ks=Zb QP x_1.ks/\True)/\∀(x:TtX),TtI x->OfNat.ofNat 0=OfNat.ofNat 0->(0<=Zf.wrap (Za (Zb QP x.ks).length-1)/\Zf.wrap (Za (Zb QP x.ks).length-1)<Za (Zb QP x.ks).length)/\∃(d:Int),ldE (Zb QP x.ks) (Zf.wrap (Za (Zb QP x.ks).length-1)).toNat 0 1=some [Zl (Zr Zf d)]/\bif decide (ttF x.ks+Za x.k<=d)then ∃(ks:List Qh),∃(m:Nat),∃(N:Nat),Zb QP x.ks=Zb QP ks/\Q1 ks m N/\((N<=10000/\m<=100000/\1<=ks.length/\ks.length<=100000)/\ -4611686018427387904<=ttF x.ks+Za x.k/\ttF x.ks+Za x.k<4611686018427387904)/\(bif decide (Za x.nx<Za (Zb QP x.ks).length)then(0<=Za x.nx/\Za x.nx<Za (Zb QP x.ks).length)/\∃(d:Int),ldE (Zb QP x.ks) (Za x.nx).toNat 0 1=some [Zl (Zr Zf d)]/\bif d==ttF x.ks+Za x.k then(0<=Za x.nx/\Za x.nx<Za (wN 63 x.w).length)/\∃(ys:List (List Ch)),ldE (wN 63 x.w) (Za x.nx).toNat 0 1=some [Ch.s 3 ys]/\∃(a:Nat),∃(ps:List Rat),∃(b:Nat),∃(qs:List Rat),Zt m (List.drop 0 (Zb (fun(q:Rat)=>[Zj q (atR ks (ttF x.ks+Za x.k)).snd]) (atR ks (ttF x.ks+Za x.k)).fst))=lR a ps/\ys=lR b qs/\(ps.length<=1000000000/\qs.length<=1000000000)/\bif !decide (ps=qs)then K (AV.x false [Zl (Zd false)])else ∃(x_1:TtX),((TtJ x_1/\x_1.i=0)/\5000-(ttF x_1.ks+Za x_1.k).toNat=5000-(ttF x.ks+Za x.k).toNat)/\ttF x.ks+Za x.k=ttF x_1.ks+Za x_1.k/\0=0/\m=x_1.a.links.length/\0=0/\0=0/\0=0/\0=0/\0=0/\0=0/\0=0/\25=25/\3=3/\(Zb (fun(q:Rat)=>[Zj q (atR ks (ttF x.ks+Za x.k)).snd]) (atR ks (ttF x.ks+Za x.k)).fst=Zb (fun(q:Rat)=>[Zj q (atR x_1.ks (ttF x_1.ks+Za x_1.k)).snd]) (atR x_1.ks (ttF x_1.ks+Za x_1.k)).fst∨QE (Zb (fun(q:Rat)=>[Zj q (atR ks (ttF x.ks+Za x.k)).snd]) (atR ks (ttF x.ks+Za x.k)).fst) (Zb (fun(q:Rat)=>[Zj q (atR x_1.ks (ttF x_1.ks+Za x_1.k)).snd]) (atR x_1.ks (ttF x_1.ks+Za x_1.k)).fst))/\1=1/\4=4/\false=false/\34=34/\x.a.name=x_1.a.name/\x.a.x=x_1.a.x/\63<=63/\x.a.y=x_1.a.y/\63<=63/\x.a.half=x_1.a.half/\x.a.t=x_1.a.t/\63<=63/\16=16/\Zb QH x.a.links=Zb QH x_1.a.links/\39=39/\1=1/\wN 63 x.w=wN 63 x_1.w/\44=44/\2=2/\Zb QP x.ks=Zb QP x_1.ks/\25=25/\XL x.w=XL x_1.w/\x.b<=x_1.b/\25=25/\x.s=x_1.s/\ttB x<=ttB x_1/\3=3/\Zf.wrap (Za x.nx+1)=Za x_1.nx/\44=44/\2=2/\Zb QP x.ks=Zb QP x_1.ks/\True else ∃(x_1:TtX),((TtJ x_1/\x_1.i=0)/\5000-(ttF x_1.ks+Za x_1.k).toNat=5000-(ttF x.ks+Za x.k).toNat)/\ttF x.ks+Za x.k=ttF x_1.ks+Za x_1.k/\0=0/\m=x_1.a.links.length/\0=0/\0=0/\0=0/\0=0/\0=0/\0=0/\0=0/\25=25/\3=3/\(Zb (fun(q:Rat)=>[Zj q (atR ks (ttF x.ks+Za x.k)).snd]) (atR ks (ttF x.ks+Za x.k)).fst=Zb (fun(q:Rat)=>[Zj q (atR x_1.ks (ttF x_1.ks+Za x_1.k)).snd]) (atR x_1.ks (ttF x_1.ks+Za x_1.k)).fst∨QE (Zb (fun(q:Rat)=>[Zj q (atR ks (ttF x.ks+Za x.k)).snd]) (atR ks (ttF x.ks+Za x.k)).fst) (Zb (fun(q:Rat)=>[Zj q (atR x_1.ks (ttF x_1.ks+Za x_1.k)).snd]) (atR x_1.ks (ttF x_1.ks+Za x_1.k)).fst))/\1=1/\4=4/\false=false/\34=34/\x.a.name=x_1.a.name/\x.a.x=x_1.a.x/\63<=63/\x.a.y=x_1.a.y/\63<=63/\x.a.half=x_1.a.half/\x.a.t=x_1.a.t/\63<=63/\16=16/\Zb QH x.a.links=Zb QH x_1.a.links/\39=39/\1=1/\wN 63 x.w=wN 63 x_1.w/\44=44/\2=2/\Zb QP x.ks=Zb QP x_1.ks/\25=25/\XL x.w=XL x_1.w/\x.b<=x_1.b/\25=25/\x.s=x_1.s/\ttB x<=ttB x_1/\3=3/\Za x.nx=Za x_1.nx/\44=44/\2=2/\Zb QP x.ks=Zb QP x_1.ks/\True else ∃(x_1:TtX),((TtJ x_1/\x_1.i=0)/\5000-(ttF x_1.ks+Za x_1.k).toNat=5000-(ttF x.ks+Za x.k).toNat)/\ttF x.ks+Za x.k=ttF x_1.ks+Za x_1.k/\0=0/\m=x_1.a.links.length/\0=0/\0=0/\0=0/\0=0/\0=0/\0=0/\0=0/\25=25/\3=3/\(Zb (fun(q:Rat)=>[Zj q (atR ks (ttF x.ks+Za x.k)).snd]) (atR ks (ttF x.ks+Za x.k)).fst=Zb (fun(q:Rat)=>[Zj q (atR x_1.ks (ttF x_1.ks+Za x_1.k)).snd]) (atR x_1.ks (ttF x_1.ks+Za x_1.k)).fst∨QE (Zb (fun(q:Rat)=>[Zj q (atR ks (ttF x.ks+Za x.k)).snd]) (atR ks (ttF x.ks+Za x.k)).fst) (Zb (fun(q:Rat)=>[Zj q (atR x_1.ks (ttF x_1.ks+Za x_1.k)).snd]) (atR x_1.ks (ttF x_1.ks+Za x_1.k)).fst))/\1=1/\4=4/\false=false/\34=34/\x.a.name=x_1.a.name/\x.a.x=x_1.a.x/\63<=63/\x.a.y=x_1.a.y/\63<=63/\x.a.half=x_1.a.half/\x.a.t=x_1.a.t/\63<=63/\16=16/\Zb QH x.a.links=Zb QH x_1.a.links/\39=39/\1=1/\wN 63 x.w=wN 63 x_1.w/\44=44/\2=2/\Zb QP x.ks=Zb QP x_1.ks/\25=25/\XL x.w=XL x_1.w/\x.b<=x_1.b/\25=25/\x.s=x_1.s/\ttB x<=ttB x_1/\3=3/\Za x.nx=Za x_1.nx/\44=44/\2=2/\Zb QP x.ks=Zb QP x_1.ks/\True)/\∀(x_1:TtX),TtJ x_1/\x_1.i=0->5000-(ttF x_1.ks+Za x_1.k).toNat=5000-(ttF x.ks+Za x.k).toNat->∃(a:ArmV),∃(n:Nat),∃(qs:List Rat),[Zl (Zi x_1.a.name),Zj x_1.a.x 63,Zj x_1.a.y 63,Zl (Zd x_1.a.half),Zj x_1.a.t 63,Ch.s 16 (Zb QH x_1.a.links)]=[Zl (Zi a.name),Zj a.x 63,Zj a.y 63,Zl (Zd a.half),Zj a.t 63,Ch.s 16 (Zb QH a.links)]/\Zt x_1.a.links.length (List.drop 0 (Zb (fun(q:Rat)=>[Zj q (atR x_1.ks (ttF x_1.ks+Za x_1.k)).snd]) (atR x_1.ks (ttF x_1.ks+Za x_1.k)).fst))=lR n qs/\(QX a/\n<=1000000/\qs.length=a.links.length)/\((∀(i:Nat) (L:QZ) (q:Rat),a.links[i]?=some L->qs[i]?=some q->L.lo<=q/\q<=L.hi)->∃(ks:List Qh),∃(m:Nat),∃(N:Nat),Zb QP x_1.ks=Zb QP ks/\(Q1 ks m N/\(N<=10000/\m<=100000/\1<=ks.length/\ks.length<=100000)/\ -4611686018427387904<=ttF x_1.ks+Za x_1.k/\ttF x_1.ks+Za x_1.k+1<4611686018427387904)/\(∃(x_2:TtX),(TtJ x_2/\5000-(ttF x_2.ks+Za x_2.k).toNat=5000-(ttF x.ks+Za x.k).toNat)/\ttF x_1.ks+Za x_1.k=ttF x_2.ks+Za x_2.k/\3=3/\lR ((atR ks (ttF x_1.ks+Za x_1.k+1)).snd+(atR ks (ttF x_1.ks+Za x_1.k)).snd+1) (Xt ks (ttF x_1.ks+Za x_1.k))=lR ((atR x_2.ks (ttF x_2.ks+Za x_2.k+1)).snd+(atR x_2.ks (ttF x_2.ks+Za x_2.k)).snd+1) (Xt x_2.ks (ttF x_2.ks+Za x_2.k))/\Za (lR ((atR ks (ttF x_1.ks+Za x_1.k+1)).snd+(atR ks (ttF x_1.ks+Za x_1.k)).snd+1) (Xt ks (ttF x_1.ks+Za x_1.k))).length=Za x_2.a.links.length/\0=Za x_2.i/\0=0/\0=0/\0=0/\0=0/\0=0/\0=0/\0=0/\1=1/\4=4/\false=false/\34=34/\x_1.a.name=x_2.a.name/\x_1.a.x=x_2.a.x/\63<=63/\x_1.a.y=x_2.a.y/\63<=63/\x_1.a.half=x_2.a.half/\x_1.a.t=x_2.a.t/\63<=63/\16=16/\Zb QH x_1.a.links=Zb QH x_2.a.links/\39=39/\1=1/\wN 63 x_1.w=wN 63 x_2.w/\44=44/\2=2/\Zb QP x_1.ks=Zb QP x_2.ks/\25=25/\XL x_1.w=XL x_2.w/\x_1.b<=x_2.b/\25=25/\x_1.s=x_2.s/\ttB x_1<=ttB x_2/\3=3/\Za x_1.nx=Za x_2.nx/\44=44/\2=2/\Zb QP x_1.ks=Zb QP x_2.ks/\True)/\∀(x_2:TtX),TtJ x_2->5000-(ttF x_2.ks+Za x_2.k).toNat=5000-(ttF x.ks+Za x.k).toNat->bif decide (Za x_2.i<Za x_2.a.links.length)then(0<=Za x_2.i/\Za x_2.i<Za (lR ((atR x_2.ks (ttF x_2.ks+Za x_2.k+1)).snd+(atR x_2.ks (ttF x_2.ks+Za x_2.k)).snd+1) (Xt x_2.ks (ttF x_2.ks+Za x_2.k))).length)/\∃(q:Rat),∃(n:Nat),ldE (lR ((atR x_2.ks (ttF x_2.ks+Za x_2.k+1)).snd+(atR x_2.ks (ttF x_2.ks+Za x_2.k)).snd+1) (Xt x_2.ks (ttF x_2.ks+Za x_2.k))) (Za x_2.i).toNat 0 3=some [Zj q n]/\bif decide (Za x_2.i≥Za (Zb QH x_2.a.links).length)then K (AV.x false [Zl (Zd false)])else(0<=Za x_2.i/\Za x_2.i<Za (Zb QH x_2.a.links).length)/\∃(q_1:Rat),∃(n_2:Nat),ldE (Zb QH x_2.a.links) (Za x_2.i).toNat 9 3=some [Zj q_1 n_2]/\n<=4294967296/\n+n_2<=4294967296/\bif decide (YT (Q5 q) q_1>0)then K (AV.x false [Zl (Zd false)])else n<=4294967296/\ttB x_2+n+1<=4294967296/\∃(x':TtX),(TtJ x'/\5000-(ttF x'.ks+Za x'.k).toNat=5000-(ttF x.ks+Za x.k).toNat/\x'.a.links.length-x'.i<x_2.a.links.length-x_2.i)/\ttF x_2.ks+Za x_2.k=ttF x'.ks+Za x'.k/\3=3/\lR ((atR x_2.ks (ttF x_2.ks+Za x_2.k+1)).snd+(atR x_2.ks (ttF x_2.ks+Za x_2.k)).snd+1) (Xt x_2.ks (ttF x_2.ks+Za x_2.k))=lR ((atR x'.ks (ttF x'.ks+Za x'.k+1)).snd+(atR x'.ks (ttF x'.ks+Za x'.k)).snd+1) (Xt x'.ks (ttF x'.ks+Za x'.k))/\Za x_2.a.links.length=Za x'.a.links.length/\Zf.wrap (Za x_2.i+1)=Za x'.i/\0=0/\0=0/\0=0/\0=0/\0=0/\0=0/\0=0/\1=1/\4=4/\false=false/\34=34/\x_2.a.name=x'.a.name/\x_2.a.x=x'.a.x/\63<=63/\x_2.a.y=x'.a.y/\63<=63/\x_2.a.half=x'.a.half/\x_2.a.t=x'.a.t/\63<=63/\16=16/\Zb QH x_2.a.links=Zb QH x'.a.links/\39=39/\1=1/\wN 63 x_2.w=wN 63 x'.w/\44=44/\2=2/\Zb QP x_2.ks=Zb QP x'.ks/\25=25/\XL x_2.w=XL x'.w/\x_2.b<=x'.b/\25=25/\x_2.s+Q5 q=x'.s/\ttB x_2+n+1<=ttB x'/\3=3/\Za x_2.nx=Za x'.nx/\44=44/\2=2/\Zb QP x_2.ks=Zb QP x'.ks/\True else bif ttF x.ks+Za x.k==9223372036854775807 then bif Za x_2.nx==Za (Zb QP x_2.ks).length then ttB x_2+x_2.b<=4294967296/\K (AV.x false [Zl (Zd (YT x_2.s (XL x_2.w)==0))])else K (AV.x false [Zl (Zd false)])else ∃(x':TtX),(TtI x'/\OfNat.ofNat 0=OfNat.ofNat 0/\5000-(ttF x'.ks+Za x'.k).toNat<5000-(ttF x.ks+Za x.k).toNat)/\0=0/\Zf.wrap (ttF x.ks+Za x.k+1)=ttF x'.ks+Za x'.k/\0=0/\4=4/\false=false/\34=34/\x_2.a.name=x'.a.name/\x_2.a.x=x'.a.x/\63<=63/\x_2.a.y=x'.a.y/\63<=63/\x_2.a.half=x'.a.half/\x_2.a.t=x'.a.t/\63<=63/\16=16/\Zb QH x_2.a.links=Zb QH x'.a.links/\39=39/\1=1/\wN 63 x_2.w=wN 63 x'.w/\44=44/\2=2/\Zb QP x_2.ks=Zb QP x'.ks/\25=25/\XL x_2.w=XL x'.w/\x_2.b<=x'.b/\25=25/\x_2.s=x'.s/\ttB x_2<=ttB x'/\3=3/\Za x_2.nx=Za x'.nx/\44=44/\2=2/\Zb QP x_2.ks=Zb QP x'.ks/\True)/\(¬Fit a qs->K (AV.x false [Zl (Zd false)]))else bif Za x.nx==Za (Zb QP x.ks).length then ttB x+x.b<=4294967296/\K (AV.x false [Zl (Zd (YT x.s (XL x.w)==0))])else K (AV.x false [Zl (Zd false)]))) ?_
 simp only[Int.ofNat_eq_natCast,R0,R1,Nat.zero_add,Ze,R4,R2,R3];have wl: ∀n (w:List (List Rat)),(wN n w).length=w.length:=fun n w=>by simp[wN]
 refine⟨l,rfl,hl,fun a ha=>⟨⟨m,rfl,by omega,hm,fun r l1 hr h1=> ?_⟩,fun x hx=> ?_⟩⟩;rw[w64 (n:=1+r) (by omega)];refine⟨⟨⟨a,[],l1,(1+r).toNat⟩,⟨ha,⟨by simp only[List.length_nil];omega,by simp only;omega⟩,by simp,by simp,by simp only;omega⟩,by simp only;omega,rfl,rfl,rfl,rfl,rfl,rfl,rfl,rfl,rfl,rfl⟩,fun x hx=>QC (fun hp=> ?_) (fun hp=> ?_)⟩
 ·have hp:=R5 hp;have hn:=hx.hn;have hl:=hx.hl;have hgx:=MadeA.good hx.made;refine⟨x.l,rfl,by omega,by omega,fun r l1 hr h1=>⟨l1,rfl,by omega,by omega,fun r2 l2 hr2 h2=>⟨l2,rfl,by omega,by omega,fun r3 l3 hr3 h3=>⟨x.a,[r,r2,r3],rfl,rfl,⟨hgx,by simp⟩,fun qs hf hq=>⟨by omega,⟨x.a,x.w++[qs],l3,x.n⟩,⟨⟨hx.made,⟨by simp only[List.length_append,List.length_singleton];omega,hn.2⟩,fun q hq'=> ?_,fun q hq'=> ?_,by simp only;omega⟩,by simp only[List.length_append,List.length_singleton];omega⟩,rfl,by rw[w64 (by omega)];simp,by simp,.inl (QRL 63 x.w qs),rfl,rfl,rfl,rfl,rfl,rfl,rfl⟩⟩⟩⟩⟩
  ·rcases List.mem_append.1 hq' with h | h
   ·exact hx.len q h
   ·rw[List.mem_singleton.1 h];exact hq
  ·rcases List.mem_append.1 hq' with h | h
   ·exact hx.fit q h
   ·rw[List.mem_singleton.1 h];exact hf
 ·have hp:=R6 hp;have hn:=hx.hn;refine⟨x,⟨hx,by omega⟩,?_,rfl,rfl,rfl,rfl,rfl,rfl,rfl⟩;rw[Zn,Zm (by rw[wl];exact Ze _)]
 obtain⟨hx,hxn⟩:=hx;have hg:=MadeA.good hx.made;have hgn:=hg.n;have hn:=hx.hn;have hw:WQ x.w x.a.links.length:=⟨by omega,hx.len,by omega⟩;have hnr: ∀(i:Nat) (p q:List Rat),x.w[i]? =some p->x.w[i+1]? =some q->KQ x.a p q:=fun i p q hp hq=>QKk hx.made.1 (hx.fit p (Zh hp)) (hx.fit q (Zh hq))
 refine⟨x.l,rfl,by omega,hx.hl,fun r l2 hr h2=>⟨x.a,63,x.w,rfl,rfl,⟨hg,⟨hw,by omega⟩,⟨hx.fit,hnr⟩,hr.1,by omega⟩,x.a,63,x.w,rfl,rfl,⟨hg,hw,by omega⟩,?_⟩⟩;obtain⟨g1,g2,g3,g4⟩:=QAe (a:=x.a) (N:=128) (w:=x.w) (f:=r);obtain⟨kok,tok⟩:=QRb hg hw hnr hx.fit (f:=r) (by omega) (N:=128) (by omega);simp only[Zp,wl];have hqs:(XM x.a 128 r x.w).map (·.q)=x.w:=by
  apply List.ext_getElem?
  intro i;rw[Zq];by_cases hi:i<x.w.length
  ·obtain⟨q,hq⟩: ∃q,x.w[i]? =some q:=⟨_,Zc hi⟩
   obtain⟨t,ht⟩:=g2 i q hq;rw[ht,hq];rfl
  ·rw[Zo (by omega),Zo (by omega)];rfl
 show bif((XM x.a 128 r x.w).length:Int) !=(x.w.length:Int)then _ else _
 generalize hks:XM x.a 128 r x.w=ks at*;refine QC (fun h=>by simp[g1]at h) (fun _=>⟨by omega,ks,?_,⟨⟨x.a,x.w,ks,64+(2*63+2)*(3*(x.w.length-1)),0,0,mkRat 0 1,0⟩,⟨⟨⟨hg,tok,kok,hqs,by simp only;omega,by simp only;omega,Zs _,Zs _⟩,rfl,fun j y hj=>absurd hj (Nat.not_lt_zero _),fun y hy=> ?_,?_⟩,rfl⟩,rfl,rfl,rfl,rfl,rfl,rfl,rfl,?_,rfl,Ze _,rfl,by unfold ttB;omega,rfl,rfl⟩,fun x hx=> ?_⟩)
 ·rw[<-hks]
 ·have hy:ks[0]? =some y:=hy
  show ttF ks+((0:Nat):Int)<=y.tick
  unfold ttF;rw[Zg,hy];simp
 ·obtain⟨y,hy⟩: ∃y,ks[0]? =some y:=⟨_,Zc (by omega)⟩
  have hF:ttF ks+((0:Nat):Int)=y.tick:=by unfold ttF;rw[Zg,hy];simp
  show mkRat 0 1+Jt ks 0 (ttF ks+((0:Nat):Int))=XL x.w
  rw[hF,UY hy,QDT kok hy,QAb,Zn,hqs,show mkRat 0 1=0 by decide+kernel];grind
 ·rw[<-hks]
 clear hks g1 g2 g3 g4 kok tok hqs hnr hw hxn hn hgn hg h2 hr;obtain⟨hx,hk0⟩:=hx;obtain⟨y0,z0,hy0,hz0,ey,ez,hr⟩:=hx.c.ends;have hnk:=hx.c.n;refine QC (fun h=>by simp only[beq_iff_eq]at h;omega) (fun _=>⟨by omega,y0.tick,Jx hy0,⟨x,hx,by rw[ey,hk0];simp,rfl,rfl,rfl,rfl,rfl,rfl,rfl,rfl,rfl,Ze _,rfl,Ze _,rfl,rfl⟩,fun x hx=> ?_⟩);clear ey ez hr hy0 hz0 y0 z0 hnk hk0;obtain⟨y0,z0,hy0,hz0,ey,ez,hr⟩:=hx.c.ends;have hnk:=hx.c.n;have hgn:=hx.c.good.n;have hkN:=hx.c.k;have e1:Zf.wrap ((x.ks.length:Int)-1)=((x.ks.length-1:Nat):Int):=by rw[w64 (by omega)];omega
 rw[e1,Zk];refine⟨by omega,z0.tick,Jx hz0,QC (fun hp=> ?_) (fun hp=> ?_)⟩
 ·have hp:=R5 hp;have hkN':x.k<ttN x.ks:=by unfold ttN;omega
  have hb:=hx.c.bits (ttF x.ks+x.k);have hle:=hx.c.nle;have J: ∀nx',nx'<=x.ks.length->(∀(j:Nat) y,j<nx'->x.ks[j]? =some y->y.tick<=ttF x.ks+x.k)->(∀y,x.ks[nx']? =some y->ttF x.ks+x.k<y.tick)->Jt x.ks x.nx (ttF x.ks+x.k)=Jt x.ks nx' (ttF x.ks+x.k)->TtJ {x with nx:=nx'}:=fun nx' h1 h2 h3 h4=>by
   have hn1:1<=nx':=Nat.not_lt.1 fun k=>by
    have:nx'=0:=by omega
    subst this;have:=h3 y0 hy0;omega
   refine⟨⟨hx.c.good,hx.c.ok,hx.c.keys,hx.c.qs,hx.c.n,hx.c.b,hx.c.k,h1⟩,hkN',by show x.i<=_;rw[hx.i];exact Zs _,h2,h3,?_⟩;show x.s+QDp ((Xt x.ks (ttF x.ks+x.k)).drop x.i)+Jt x.ks nx' (ttF x.ks+x.k+1)=XL x.w
   rw[hx.i,Zn,<-hx.sum,h4,QK6 hx.c.keys hnk.1 h1 h2 h3 hn1];grind
  refine⟨x.ks,x.a.links.length,128,rfl,hx.c.keys,by omega,⟨QC (fun hq=> ?_) (fun hq=> ?_),fun y hy hyt=> ?_⟩⟩
  ·have hq:x.nx<x.ks.length:=by have:=R5 hq;omega
   obtain⟨y,hy⟩: ∃y,x.ks[x.nx]? =some y:=⟨_,Zc hq⟩
   have hyt:=hx.hi y hy;have hwq:x.w[x.nx]? =some y.q:=by rw[<-hx.c.qs,Zq,hy];rfl
   have hwl:x.w.length=x.ks.length:=by rw[<-hx.c.qs,Zp]
   refine⟨by omega,y.tick,by rw[Zk];exact Jx hy,QC (fun he=> ?_) (fun he=> ?_)⟩
   ·have he:y.tick=ttF x.ks+x.k:=by simpa using he
    have hat:=QDT hx.c.keys hy;refine⟨by omega,_,by rw[Zk];exact WZ hwq,(atR x.ks (ttF x.ks+x.k)).2,(atR x.ks (ttF x.ks+x.k)).1,63,y.q,?_,rfl,⟨by omega,by have:=hx.c.keys.len y (Zh hy);omega⟩,QC (fun h=> ?_) (fun _=>⟨{x with nx:=x.nx+1},⟨⟨J (x.nx+1) hq (fun j z hj hz=> ?_) (fun z hz=> ?_) ?_,hx.i⟩,rfl⟩,rfl,rfl,.inl rfl,rfl,rfl,rfl,rfl,rfl,rfl,rfl,rfl,rfl,Ze _,rfl,Ze _,by rw[w64 (by omega)];simp,rfl⟩)⟩
    ·rw[Zn,Zm (by rw[Zp];omega)];rfl
    ·rw[<-he,hat]at h;simp at h
    ·by_cases e:j=x.nx
     ·subst e;rw[hy]at hz;cases hz;omega
     ·have:=hx.lo j z (by omega) hz;omega
    ·have:=hx.c.keys.inc x.nx y z hy hz;omega
    ·rw[<-he];exact QPE hx.c.keys hy
   ·have he:y.tick≠ttF x.ks+x.k:=by simpa using he
    refine⟨x,⟨⟨J x.nx hle (fun j z hj hz=>by have:=hx.lo j z hj hz;omega) (fun z hz=>by rw[hy]at hz;cases hz;omega) rfl,hx.i⟩,rfl⟩,rfl,rfl,.inl rfl,rfl,rfl,rfl,rfl,rfl,rfl,rfl,rfl,rfl,Ze _,rfl,Ze _,rfl,rfl⟩
  ·have hq: ¬x.nx<x.ks.length:=by have:=R6 hq;omega
   refine⟨x,⟨⟨J x.nx hle (fun j z hj hz=>by have:=hx.lo j z hj hz;omega) (fun z hz=>by rw[Zo (by omega)]at hz;cases hz) rfl,hx.i⟩,rfl⟩,rfl,rfl,.inl rfl,rfl,rfl,rfl,rfl,rfl,rfl,rfl,rfl,rfl,Ze _,rfl,Ze _,rfl,rfl⟩
  ·obtain⟨hy,hyi⟩:=hy;have G:=hy.c.good.n;obtain⟨_,_,_,_,_,_,hr'⟩:=hy.c.ends;have hyk:=hy.kN;have hnk':=hy.c.n;have b1:=hy.c.bits (ttF y.ks+y.k);have b2:=hy.c.bits (ttF y.ks+y.k+1);obtain⟨f1,f2⟩:=QBv hy.c.ok (ttF y.ks+y.k);have sl:=hy.c.spd (ttF y.ks+y.k);have ety:ttF y.ks+y.k=ttF x.ks+x.k:=by unfold ttN at hyk hkN';omega
   refine⟨y.a,(atR y.ks (ttF y.ks+y.k)).2,(atR y.ks (ttF y.ks+y.k)).1,rfl,?_,⟨hy.c.good,by omega,b1.2⟩,fun _=>⟨y.ks,y.a.links.length,128,rfl,⟨hy.c.keys,by omega,by unfold ttN at hyk;omega,by unfold ttN at hyk;omega⟩,⟨y,⟨hy,hyt⟩,rfl,rfl,by rw[Qr,sl],by rw[hyi];rfl,rfl,rfl,rfl,rfl,rfl,rfl,rfl,rfl,rfl,Ze _,rfl,Ze _,rfl,rfl⟩,fun z hz hzt=> ?_⟩,fun h=>absurd f1 h⟩
   ·rw[Zn,Zm (by rw[Zp];omega)];rfl
   clear hyi f1 f2 sl b1 b2;have hzk:=hz.kN;obtain⟨_,_,_,_,_,_,hrz⟩:=hz.c.ends;have hzn:=hz.c.n;have etz:ttF z.ks+z.k=ttF x.ks+x.k:=by unfold ttN at hzk hkN';omega
   have b1:=hz.c.bits (ttF z.ks+z.k);have b2:=hz.c.bits (ttF z.ks+z.k+1);obtain⟨f1,f2⟩:=QBv hz.c.ok (ttF z.ks+z.k);have sl:=hz.c.spd (ttF z.ks+z.k);have hzi:=hz.i;have hzg:=hz.c.good.n;have hzb:=hz.c.b;have hzkk:z.k<=2001:=by unfold ttN at hzk;omega
   refine QC (fun hi=> ?_) (fun hi=> ?_)
   ·have hi:z.i<z.a.links.length:=by have:=R5 hi;omega
    obtain⟨v,hv⟩: ∃v,(Xt z.ks (ttF z.ks+z.k))[z.i]? =some v:=⟨_,Zc (by omega)⟩
    obtain⟨L,hL⟩: ∃L,z.a.links[z.i]? =some L:=⟨_,Zc hi⟩
    have hs:=f2 z.i L v hL hv;refine⟨by rw[Qr];omega,v,_,by rw[Zk];exact XD hv,QC (fun h=>by have:=R5 h;omega) (fun _=>⟨by omega,L.sp,63,?_,by omega,by omega,QC (fun h=> ?_) (fun _=>⟨by omega,by unfold ttB;omega,{z with i:=z.i+1,s:=z.s+Q5 v},⟨⟨⟨hz.c.good,hz.c.ok,hz.c.keys,hz.c.qs,hz.c.n,hz.c.b,hz.c.k,hz.c.nle⟩,hz.kN,hi,hz.lo,hz.hi,?_⟩,hzt,by show z.a.links.length-(z.i+1)<_;omega⟩,rfl,rfl,rfl,by rw[w64 (by omega)];simp,rfl,rfl,rfl,rfl,rfl,rfl,rfl,rfl,rfl,Ze _,rfl,by unfold ttB;simp only;omega,rfl,rfl⟩)⟩)⟩
    ·rw[Zk];simp only[ldE,Zq,hL];rfl
    ·have h:=QNW.1 (R5 h);grind
    ·have:=hz.sum;rw[QPD hv]at this;show z.s+Q5 v+QDp ((Xt z.ks (ttF z.ks+z.k)).drop (z.i+1))+Jt z.ks z.nx (ttF z.ks+z.k+1)=XL z.w
     rw[<-this];grind
   ·have hi:z.i=z.a.links.length:=by have:=R6 hi;omega
    have hsum:=hz.sum;rw[List.drop_of_length_le (by omega)]at hsum;refine QC (fun h=>by simp only[beq_iff_eq]at h;omega) (fun _=>⟨{z with k:=z.k+1,i:=0},⟨⟨⟨hz.c.good,hz.c.ok,hz.c.keys,hz.c.qs,hz.c.n,hz.c.b,hzk,hz.c.nle⟩,rfl,fun j w hj hw=> ?_,fun w hw=> ?_,?_⟩,?_⟩,?_,rfl,rfl,rfl,rfl,rfl,rfl,rfl,rfl,rfl,Ze _,rfl,by unfold ttB;simp only;omega,rfl,rfl⟩)
    ·have:=hz.lo j w hj hw;show w.tick<ttF z.ks+((z.k+1:Nat):Int)
     omega
    ·have:=hz.hi w hw;show ttF z.ks+((z.k+1:Nat):Int)<=w.tick
     omega
    ·show z.s+Jt z.ks z.nx (ttF z.ks+((z.k+1:Nat):Int))=XL z.w
     rw[<-hsum,show ttF z.ks+((z.k+1:Nat):Int)=ttF z.ks+z.k+1 by omega];show _=z.s+0+_
     grind
    ·show 5000-(ttF z.ks+((z.k+1:Nat):Int)).toNat<_
     omega
    ·rw[w64 (by omega)];show _=ttF z.ks+((z.k+1:Nat):Int)
     omega
 ·have hp:=R6 hp;have hkE:x.k=ttN x.ks:=by unfold ttN at*;omega
  have hnx:x.nx=x.ks.length:=by
   have hle:=hx.c.nle;by_cases h:x.nx<x.ks.length
   ·obtain⟨y,hy⟩: ∃y,x.ks[x.nx]? =some y:=⟨_,Zc h⟩
    have h1:=hx.hi y hy;have h2:=hx.c.keys.mono (by omega:x.nx<=x.ks.length-1) hy hz0;unfold ttN at hkE;omega
   ·omega
  have hs:=hx.sum;rw[GC (by omega)]at hs;have hs:x.s=XL x.w:=by grind
  have hb:=hx.c.b;have hkk:x.k<=2001:=by unfold ttN at hkE;omega
  have hxi:=hx.i;refine QC (fun _=>⟨by unfold ttB;omega,?_⟩) (fun h=>by rw[hnx]at h;simp at h);rw[hs];simpa [YT,Rat.lt_irrefl]using hK
theorem QK7 (l m:List Int)(hl:l.length<=9223372036854775807)(hm:m.length<=9223372036854775807):Eng.Spec Tryz.prog QEn QBD 3 [.x false [.s 1 (ints l)],.x false [.s 1 (ints m)]] (fun av=>av= .x false [.v (.bool true)]):=
 Qm (QV QWI QWH Qo) QN Tryz.func3 (by kernel_rfl) (by kernel_rfl) (by rfl) (QWJ l m hl hm _ rfl)
end Go.Proofs
