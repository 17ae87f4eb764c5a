/- path: walk. -/
import Derived.Test.YtmpfaflhpioaiaaGreatDoorPH3
open _root_ renaming Int → A, List → B, Rat → E, Nat → F, Option → G, True → H, False → I
open Bool renaming false → J
open List renaming length → K, take → N, drop → O, map → R, mem_of_getElem? → Zo, getElem?_eq_some_iff → Zl, length_singleton → Zw, getElem?_append_left → Zt, take_of_length_le → Zv
open Go.IntKind renaming i64 → L
open Go.Eng.Blk renaming mp → M, box → Zs, row → Zz
open Nat renaming le_refl → P, le_of_lt → Zy
open Int renaming ofNat → Q, toNat_natCast → Zm, ofNat_eq_natCast → Zp
open Go.Eng.Ch renaming s → Zj, v → Ze, r → Zi, m → Zu
open Option renaming getD_some → Zq
open Go.Value renaming int → Zb, string → Zf, bool → Zh, slice → Zg
set_option maxHeartbeats 4000000
set_option maxRecDepth 100000
namespace Go.Proofs
open Go Go.Eng
structure Sk where
 out:B (B A)
 u:B A
 d:F
 i:F
 v:A
 j:F
 w:B A
 b:B A
structure Sn (a:ArmV)(ws:B (B (E×E)))(s:A)(fr:B A)(f:A->G A)(D:F)(x:Sk):Prop where
 zn:ZW a ws s fr x.u x.out
 zf:FN s f x.u=some x.d
 d:x.d<=D
 len:x.out.length+x.d=D+1
def wkP (x:Sk)(v:B A):Prop:= ∃i y w,x.u[i]? =some y/\((w=y-1/\(i<x.i\/(i=x.i/\0<x.j)))\/(w=y+1/\(i<x.i\/(i=x.i/\1<x.j))))/\v=x.u.set i w
def wkG (a:ArmV)(ws:B (B (E×E)))(s:A)(f:A->G A)(x:Sk)(v:B A):Prop:=FN s f v=some (x.d-1)/\EdS a ws s v x.u
def wkA (a:ArmV)(ws:B (B (E×E)))(s:A)(f:A->G A)(x:Sk):Prop:= ∀v,wkP x v-> ¬wkG a ws s f x v
def wkB (a:ArmV)(ws:B (B (E×E)))(s:A)(f:A->G A)(x:Sk):Prop:=wkG a ws s f x x.b
structure TV (a:ArmV)(ws:B (B (E×E)))(s:A)(fr:B A)(f:A->G A)(D:F)(C:Sk->Prop)(x:Sk):Prop where
 all:Sn a ws s fr f D x
 d0:0<x.d
 i:x.i<=x.u.length
 c:C x
structure So (a:ArmV)(ws:B (B (E×E)))(s:A)(fr:B A)(f:A->G A)(D:F)(C:Sk->Prop)(x:Sk):Prop where
 all:Sn a ws s fr f D x
 d0:0<x.d
 v:x.u[x.i]? =some x.v
 j:x.j<=2
 c:C x
structure Sm (a:ArmV)(ws:B (B (E×E)))(s:A)(fr:B A)(f:A->G A)(D:F)(C:Sk->Prop)(x:Sk):Prop where
 all:So a ws s fr f D C x
 j1:x.j<2
 r:0<=rsW x.v x.j/\rsW x.v x.j<=s
 w:x.w=x.u.set x.i (rsW x.v x.j)
def wkC (a:ArmV)(s:A)(x:Sk):F:=(x.d*(NS a s+1)+(numV s x.u).toNat)*16+(K x.u-x.i)*3+(2-x.j)
def wkT (x:Sk):B (F×AV):=[(2,.x J [.p 2 0]),(5,.x J [.w 500 0 x.out.length]),(6,.x J [.p 60 0])]
def wkH (a:ArmV)(m:F)(ws:B (B (E×E)))(s:A)(f:A->G A)(x:Sk):B (F×Blk):=[(2,.box 80 [.p 1000 0]),(60,.box 22 [.s 1 (ints x.u)]),(500,Kp x.out),(1000,seB a m ws s (.m 6000)),(6000,.mp f)]
def cD (a:ArmV)(m:F)(ws:B (B (E×E)))(s:A)(f:A->G A)(b:Ch)(x:Sk):B (F×Blk):=(7,.box 22 [b])::(34,.box 3 [.v (.int .i64 s)])::(1034,.box 22 [.s 1 (ints x.u)])::wkH a m ws s f x
def uE:Ch:= .v (.slice none 0 0)
def Qhm (a:ArmV)(m:F)(ws:B (B (E×E)))(s:A)(fr:B A)(f:A->G A)(D:F):Inv:=⟨Sk,fun x=>⟨wkT x,wkH a m ws s f x⟩,Sn a ws s fr f D,fun x=>x.d,fun _=>0⟩
def QlC (a:ArmV)(m:F)(ws:B (B (E×E)))(s:A)(fr:B A)(f:A->G A)(D:F):Inv:=⟨Sk,fun x=>⟨(7,.x J [.p 7 0])::(34,.x J [.f 109 [1034,34]])::wkT x,cD a m ws s f uE x⟩,fun x=>Sn a ws s fr f D x/\0<x.d,fun _=>0,fun x=>x.d⟩
def QkH (a:ArmV)(m:F)(ws:B (B (E×E)))(s:A)(fr:B A)(f:A->G A)(D:F)(C:Sk->Prop)(b:Sk->Ch)(q:F):Inv:=⟨Sk,fun x=>⟨bX 900 1034 34 x.u x.i,(900,.lp 0)::cD a m ws s f (b x) x⟩,fun x=>TV a ws s fr f D C x/\x.j=0/\x.d=q,fun x=>K x.u-x.i,fun _=>0⟩
def QkI (a:ArmV)(m:F)(ws:B (B (E×E)))(s:A)(fr:B A)(f:A->G A)(D:F)(C:Sk->Prop)(b:Sk->Ch)(q:F):Inv:=⟨Sk,fun x=>⟨fg x.i x.v 820 x.j++bX 900 1034 34 x.u x.i,(900,.lp 0)::(820,YV [x.v-1,x.v+1])::cD a m ws s f (b x) x⟩,fun x=>So a ws s fr f D C x/\x.d=q,wkC a s,fun x=>K x.u-x.i⟩
def QeS (a:ArmV)(m:F)(ws:B (B (E×E)))(s:A)(fr:B A)(f:A->G A)(D:F)(C:Sk->Prop)(b:Sk->Ch):Inv:=⟨Sk,fun x=>⟨(9,iA .i64 ((f (numV s x.w)).getD 0))::(10,.x J [.v (.bool (f (numV s x.w)).isSome)])::(8,.x J [.s 1 (ints x.w)])::(7,.x J [.p 7 0])::wkT x,(900,.lp 1)::(820,YV [x.v-1,x.v+1])::cD a m ws s f (b x) x⟩,Sm a ws s fr f D C,fun _=>0,wkC a s⟩
def wkY (a:ArmV)(m:F)(ws:B (B (E×E)))(s:A)(fr:B A)(f:A->G A)(D:F)(C:Sk->Prop)(b:Sk->Ch)(q:F):Inv:=⟨Sk,fun x=>⟨(8,.x J [.w 830 0 x.w.length])::(fg x.i x.v 820 x.j++bX 900 1034 34 x.u x.i),(830,YV x.w)::(900,.lp 0)::(820,YV [x.v-1,x.v+1])::cD a m ws s f (b x) x⟩,fun x=>Sm a ws s fr f D C x/\x.d=q,fun _=>0,wkC a s⟩
def chA (_:Sk):Ch:=uE
def chB (x:Sk):Ch:= .s 1 (ints x.b)
def QXb (a:ArmV)(m:F)(ws:B (B (E×E)))(s:A)(fr:B A)(f:A->G A)(D:F):LI:=fun i=>
 bif i.beq 3 then .inv (Qhm a m ws s fr f D)
 else bif i.beq 7 then .it (QlC a m ws s fr f D) [] 900 Qj5 (fun b i=>bif i.beq 1 then .inv2 (QkH a m ws s fr f D (wkA a ws s f) chA b.d) (QkH a m ws s fr f D (wkB a ws s f) chB b.d)else bif i.beq 9 then .cutf2 [] (wkY a m ws s fr f D (wkA a ws s f) chA b.d) (wkY a m ws s fr f D (wkB a ws s f) chB b.d)else .inv2 (QkI a m ws s fr f D (wkA a ws s f) chA b.d) (QkI a m ws s fr f D (wkB a ws s f) chB b.d))
 else bif i.beq 9 then .cutf2 [830] (QeS a m ws s fr f D (wkA a ws s f) chA) (QeS a m ws s fr f D (wkB a ws s f) chB)
 else .no
def QcL:OT:=fun i=>bif i.beq 3 then([0,1,2,3,4,5,6,7,8],[[],[0],[1,0],[2,1,0],[],[],[4,5],[3,2,1,0,6,4,5],[7,3,2,1,0,6,4,5]])else bif i.beq 6 then([0,1,2,3,4,5],[[],[0],[1,0],[2,1,0],[],[3,2,1,0,4]])else bif i.beq 8 then([0,1,2,3,4,5,6,7,8,9,10,11,12],[[],[0],[1,0],[2,1,0],[],[],[4,5],[3,2,1,0,6,4,5],[7,3,2,1,0,6,4,5],[8,7,3,2,1,0,6,4,5],[8,7,3,2,1,0,6,4,5],[9,8,7,3,2,1,0,6,4,5],[10,8,7,3,2,1,0,6,4,5,11,9]])else bif i.beq 9 then([0,1,2,3,4,5,6,7,8,9,10,11,12,13,14,15,16,17,18,19,20,21,22,23,24,25,26,27,28,29],[[],[0],[1,0],[1,0],[3,1,0],[4,3,1,0],[5,4,3,1,0],[1,0],[1,0],[7,1,0,8],[6,5,4,3,1,0,9,7,8],[10,6,5,4,3,1,0,9,7,8],[2,1,0,11,10,6,5,4,3,9,7,8],[1,0,12,2,11,10,6,5,4,3,9,7,8],[13,1,0,12,2,11,10,6,5,4,3,9,7,8],[14,13,1,0,12,2,11,10,6,5,4,3,9,7,8],[15,14,13,1,0,12,2,11,10,6,5,4,3,9,7,8],[16,15,14,13,1,0,12,2,11,10,6,5,4,3,9,7,8],[17,16,15,14,13,1,0,12,2,11,10,6,5,4,3,9,7,8],[17,16,15,14,13,1,0,12,2,11,10,6,5,4,3,9,7,8],[18,17,16,15,14,13,1,0,12,2,11,10,6,5,4,3,9,7,8,19],[20,18,17,16,15,14,13,1,0,12,2,11,10,6,5,4,3,9,7,8,19],[17,16,15,14,13,1,0,12,2,11,10,6,5,4,3,9,7,8,21,20,18,19],[14,13,1,0,12,2,11,10,6,5,4,3,9,7,8,22,17,16,15,21,20,18,19],[23,14,13,1,0,12,2,11,10,6,5,4,3,9,7,8,22,17,16,15,21,20,18,19],[24,23,14,13,1,0,12,2,11,10,6,5,4,3,9,7,8,22,17,16,15,21,20,18,19],[24,23,14,13,1,0,12,2,11,10,6,5,4,3,9,7,8,22,17,16,15,21,20,18,19],[24,23,14,13,1,0,12,2,11,10,6,5,4,3,9,7,8,22,17,16,15,21,20,18,19],[25,24,23,14,13,1,0,12,2,11,10,6,5,4,3,9,7,8,22,17,16,15,21,20,18,19,26,27],[24,23,14,13,1,0,12,2,11,10,6,5,4,3,9,7,8,22,17,16,15,21,20,18,19,28,25,26,27]])else([],[])
def OI(a:A):B Ch:=[Ze (Zb L a)]
def N7(a:Sk):=ints a.u
def No(a:Sk):=Q a.i
def OA(a b:Sk):B (B Ch):=[OI (a.v-1),OI (b.v+1)]
def OB(a:Sk):=R spE a.out
def Ns(a b:Sk):=N7 a=N7 b
def OQ:=63<=63
def OR(a:ArmV):=R QA a.za
def Np(a:Sk):=Q a.u.length
def Nq(a:Sk):=Q a.j
def Nr(a b:Sk):=K a.u-b.i
def OO:=22=22
def Nt(a b c d e f g h:Sk):=OA a b=OA c d\/QC (OA e f) (OA g h)
def Nv(a:A):=L.wrap (a+1)
def Nw(a:Sk):=ints a.w
def Nu(a:ArmV)(b:B (B (E×E)))(c:A)(d:B A)(e:A->G A)(f:F)(g:Sk->Prop)(h i j:Sk):=So a b c d e f g h/\i.d=j.d
def Ny(a:F)(b:B (B (E×E)))(c:F)(d:B (B (E×E))):=shN a b=shN c d
def N2(a b c d e f:ArmV)(g:F)(h:B (B (E×E)))(i:A):B Ch:=[Ze (Zf a.name),Zi b.x 63,Zi c.y 63,Ze (Zh d.half),Zi e.t 63,Zj 16 (OR f),Zj 1 (shN g h),Ze (Zb L i),Zu 6000]
def OW:=Zg none 0 0
def Nz(a b c d:Sk):=OB a=OB b\/QC (OB c) (OB d)
def N0(a:A->G A)(b:A)(c:B A):=(a (numV b c)).getD 0
def N3(a:Prop)(b c d e f g h i j k l m:ArmV)(n:Prop):=a/\83=83/\b.name=c.name/\d.x=e.x/\OQ/\f.y=g.y/\OQ/\h.half=i.half/\j.t=k.t/\OQ/\16=16/\OR l=OR m/\n
def N4(a:A->G A)(b:A)(c:B A):=(a (numV b c)).isSome
def N6(a b:A)(c d e f:Sk)(g:Prop):=3=3/\a=b/\OO/\1=1/\Ns c d/\80=80/\0=0/\22=22/\1=1/\Ns e f/\OO/\1=1/\g
def N8(a:Prop)(b c d e f g h i j k l m:ArmV)(n:Prop):=1=1/\a/\83=83/\b.name=c.name/\d.x=e.x/\OQ/\f.y=g.y/\OQ/\h.half=i.half/\j.t=k.t/\OQ/\16=16/\OR l=OR m/\1=1/\n
def OC:=OW=OW
def N9(a b c d e f:ArmV)(g:F)(h:B (B (E×E)))(i:A):=Zs 83 (N2 a b c d e f g h i)
def OD(a b:Sk)(c:Prop):=22=22/\1=1/\Ns a b/\22=22/\c
def OF(a:Prop)(b c:A)(d e:Sk)(f:Prop):=a/\3=3/\b=c/\22=22/\1=1/\Ns d e/\80=80/\0=0/\f
def OG(a:B A)(b:ArmV)(c:A->B A)(d:A->A):=K a=K b.za/\∀(z:A),z∈c z->0<=z/\z<=d z
def OH(a b:A):=1<=a/\b<=12
def JA (a:ArmV)(m:F)(ws:B (B (E×E)))(s:A)(fr:B A)(f:A->G A)(D:F)(r:Sk)(j:Sk)(q:Sk)(c:Sk):Prop:=∀(b:Sk),Sm a ws s fr f D (wkA a ws s f) b->wkC a s b=wkC a s q->bif N4 f s b.w then∃(K:ArmV)(W:F)(V:B (B (E×E)))(O:A)(T:B A),N2 a a a a a a m ws s=N2 K K K K K K W V O/\N7 b=ints T/\QJ K/\OH O O/\OG T K (fun v=>T) (fun u=>O)/\N9 a a a a a a m ws s=N9 a a a a a a m ws s/\M f=M f/\bif N0 f s b.w ==L.wrap (N0 f O T-1)then H/\∃(p:ArmV)(U:F)(P:B (B (E×E)))(N:A)(R S:B A),N2 a a a a a a m ws s=N2 p p p p p p U P N/\N7 b=ints R/\Nw b=ints S/\(QJ p/\OH N N/\OG R p (fun z=>R) (fun y=>N)/\OG S p (fun x=>S) (fun w=>N)/\U<=400000000/\(∀(t:B (E×E)),t∈P->QY t)/\P.length<=20)/\bif frV p P N R S then(∃(n:Sk),(Nu a ws s fr f D (wkA a ws s f) n n r/\Nr n n=Nr j j/\wkC a s n<wkC a s q)/\No c=No n/\c.v=n.v/\0=0/\2=2/\(2:A)=2/\Nv (Nq c)=Nq n/\0=0/\0=0/\1=1/\Ns c n/\Np c=Np n/\No c=No n/\0=0/\3=3/\1=1/\Nt b b n n b b n n/\22=22/\I)\/∃(d:Sk),(Nu a ws s fr f D (wkB a ws s f) d d r/\Nr d d=Nr j j/\wkC a s d<wkC a s q)/\No c=No d/\c.v=d.v/\0=0/\2=2/\(2:A)=2/\Nv (Nq c)=Nq d/\0=0/\0=0/\1=1/\Ns c d/\Np c=Np d/\No c=No d/\0=0/\3=3/\1=1/\Nt b b d d b b d d/\22=22/\1=1/\Nw b=ints d.b/\N6 s s b d b d (N3 (Nz b d b d) a a a a a a a a a a a a (1=1/\Ny m ws m ws/\s=s/\f=f/\H))else(∃(e:Sk),(Nu a ws s fr f D (wkA a ws s f) e e r/\Nr e e=Nr j j/\wkC a s e<wkC a s q)/\No c=No e/\c.v=e.v/\0=0/\2=2/\(2:A)=2/\Nv (Nq c)=Nq e/\0=0/\0=0/\1=1/\Ns c e/\Np c=Np e/\No c=No e/\0=0/\3=3/\1=1/\Nt b b e e b b e e/\22=22/\OF OC s s b e (OD b e (N8 (Nz b e b e) a a a a a a a a a a a a (Ny m ws m ws/\s=s/\f=f/\H))))\/∃(o:Sk),(Nu a ws s fr f D (wkB a ws s f) o o r/\Nr o o=Nr j j/\wkC a s o<wkC a s q)/\No c=No o/\c.v=o.v/\0=0/\2=2/\(2:A)=2/\Nv (Nq c)=Nq o/\0=0/\0=0/\1=1/\Ns c o/\Np c=Np o/\No c=No o/\0=0/\3=3/\1=1/\Nt b b o o b b o o/\22=22/\I else(∃(h:Sk),(Nu a ws s fr f D (wkA a ws s f) h h r/\Nr h h=Nr j j/\wkC a s h<wkC a s q)/\No c=No h/\c.v=h.v/\0=0/\2=2/\(2:A)=2/\Nv (Nq c)=Nq h/\0=0/\0=0/\1=1/\Ns c h/\Np c=Np h/\No c=No h/\0=0/\3=3/\1=1/\Nt b b h h b b h h/\22=22/\OF OC s s b h (OD b h (N8 (Nz b h b h) a a a a a a a a a a a a (Ny m ws m ws/\s=s/\f=f/\H))))\/∃(k:Sk),(Nu a ws s fr f D (wkB a ws s f) k k r/\Nr k k=Nr j j/\wkC a s k<wkC a s q)/\No c=No k/\c.v=k.v/\0=0/\2=2/\(2:A)=2/\Nv (Nq c)=Nq k/\0=0/\0=0/\1=1/\Ns c k/\Np c=Np k/\No c=No k/\0=0/\3=3/\1=1/\Nt b b k k b b k k/\22=22/\I else(∃(i:Sk),(Nu a ws s fr f D (wkA a ws s f) i i r/\Nr i i=Nr j j/\wkC a s i<wkC a s q)/\No c=No i/\c.v=i.v/\0=0/\2=2/\(2:A)=2/\Nv (Nq c)=Nq i/\0=0/\0=0/\1=1/\Ns c i/\Np c=Np i/\No c=No i/\0=0/\3=3/\1=1/\Nt b b i i b b i i/\22=22/\OF OC s s b i (OD b i (N8 (Nz b i b i) a a a a a a a a a a a a (Ny m ws m ws/\s=s/\f=f/\H))))\/∃(l:Sk),(Nu a ws s fr f D (wkB a ws s f) l l r/\Nr l l=Nr j j/\wkC a s l<wkC a s q)/\No c=No l/\c.v=l.v/\0=0/\2=2/\(2:A)=2/\Nv (Nq c)=Nq l/\0=0/\0=0/\1=1/\Ns c l/\Np c=Np l/\No c=No l/\0=0/\3=3/\1=1/\Nt b b l l b b l l/\22=22/\I
def OE(a b:Sk):=ints a.b=ints b.b
def OS(a:A):=decide (a<0)
def HK (a:ArmV)(m:F)(ws:B (B (E×E)))(s:A)(fr:B A)(f:A->G A)(D:F)(o:Sk)(l:Sk)(p:Sk)(c:Sk)(b:Sk):Prop:=∀(N:A),bif OS N then∃(n:ArmV)(K:F)(r:B (B (E×E)))(q:A)(t w:B A),N2 a a a a a a m ws s=N2 n n n n n n K r q/\N7 b=ints t/\Nw b=ints w/\(QJ n/\OH q q/\OG t n (fun v=>t) (fun u=>q)/\OG w n (fun z=>w) (fun y=>q)/\K<=400000000/\(∀(x:B (E×E)),x∈r->QY x)/\r.length<=20)/\bif frV n r q t w then(∃(i:Sk),(Nu a ws s fr f D (wkA a ws s f) i i o/\Nr i i=Nr l l/\wkC a s i<wkC a s p)/\No c=No i/\c.v=i.v/\0=0/\2=2/\(2:A)=2/\Nv (Nq c)=Nq i/\0=0/\0=0/\1=1/\Ns c i/\Np c=Np i/\No c=No i/\0=0/\3=3/\1=1/\Nt b b i i b b i i/\22=22/\I)\/∃(d:Sk),(Nu a ws s fr f D (wkB a ws s f) d d o/\Nr d d=Nr l l/\wkC a s d<wkC a s p)/\No c=No d/\c.v=d.v/\0=0/\2=2/\(2:A)=2/\Nv (Nq c)=Nq d/\0=0/\0=0/\1=1/\Ns c d/\Np c=Np d/\No c=No d/\0=0/\3=3/\1=1/\Nt b b d d b b d d/\22=22/\1=1/\Nw b=ints d.b/\N6 s s b d b d (N3 (Nz b d b d) a a a a a a a a a a a a (1=1/\Ny m ws m ws/\s=s/\f=f/\H))else(∃(j:Sk),(Nu a ws s fr f D (wkA a ws s f) j j o/\Nr j j=Nr l l/\wkC a s j<wkC a s p)/\No c=No j/\c.v=j.v/\0=0/\2=2/\(2:A)=2/\Nv (Nq c)=Nq j/\0=0/\0=0/\1=1/\Ns c j/\Np c=Np j/\No c=No j/\0=0/\3=3/\1=1/\Nt b b j j b b j j/\22=22/\I)\/∃(e:Sk),(Nu a ws s fr f D (wkB a ws s f) e e o/\Nr e e=Nr l l/\wkC a s e<wkC a s p)/\No c=No e/\c.v=e.v/\0=0/\2=2/\(2:A)=2/\Nv (Nq c)=Nq e/\0=0/\0=0/\1=1/\Ns c e/\Np c=Np e/\No c=No e/\0=0/\3=3/\1=1/\Nt b b e e b b e e/\22=22/\1=1/\OE b e/\N6 s s b e b e (N3 (Nz b e b e) a a a a a a a a a a a a (1=1/\Ny m ws m ws/\s=s/\f=f/\H))else(∃(k:Sk),(Nu a ws s fr f D (wkA a ws s f) k k o/\Nr k k=Nr l l/\wkC a s k<wkC a s p)/\No c=No k/\c.v=k.v/\0=0/\2=2/\(2:A)=2/\Nv (Nq c)=Nq k/\0=0/\0=0/\1=1/\Ns c k/\Np c=Np k/\No c=No k/\0=0/\3=3/\1=1/\Nt b b k k b b k k/\22=22/\I)\/∃(h:Sk),(Nu a ws s fr f D (wkB a ws s f) h h o/\Nr h h=Nr l l/\wkC a s h<wkC a s p)/\No c=No h/\c.v=h.v/\0=0/\2=2/\(2:A)=2/\Nv (Nq c)=Nq h/\0=0/\0=0/\1=1/\Ns c h/\Np c=Np h/\No c=No h/\0=0/\3=3/\1=1/\Nt b b h h b b h h/\22=22/\1=1/\OE b h/\N6 s s b h b h (N3 (Nz b h b h) a a a a a a a a a a a a (1=1/\Ny m ws m ws/\s=s/\f=f/\H))
def JB (a:ArmV)(m:F)(ws:B (B (E×E)))(s:A)(fr:B A)(f:A->G A)(D:F)(y:Sk)(i:Sk)(k:Sk)(b:Sk):Prop:=∀(z:Sk),Sm a ws s fr f D (wkB a ws s f) z->wkC a s z=wkC a s k->bif N4 f s z.w then∃(j:ArmV)(q:F)(r:B (B (E×E)))(l:A)(n:B A),N2 a a a a a a m ws s=N2 j j j j j j q r l/\N7 z=ints n/\QJ j/\OH l l/\OG n j (fun v=>n) (fun u=>l)/\N9 a a a a a a m ws s=N9 a a a a a a m ws s/\M f=M f/\bif N0 f s z.w ==L.wrap (N0 f l n-1)then ints z.b≠[]/\∃(o p:B A),Nw z=ints o/\ints z.b=ints p/\(K o<=1000/\p.length<=1000)/\HK a m ws s fr f D y i k b z else(∃(e:Sk),(Nu a ws s fr f D (wkA a ws s f) e e y/\Nr e e=Nr i i/\wkC a s e<wkC a s k)/\No b=No e/\b.v=e.v/\0=0/\2=2/\(2:A)=2/\Nv (Nq b)=Nq e/\0=0/\0=0/\1=1/\Ns b e/\Np b=Np e/\No b=No e/\0=0/\3=3/\1=1/\Nt z z e e z z e e/\22=22/\I)\/∃(c:Sk),(Nu a ws s fr f D (wkB a ws s f) c c y/\Nr c c=Nr i i/\wkC a s c<wkC a s k)/\No b=No c/\b.v=c.v/\0=0/\2=2/\(2:A)=2/\Nv (Nq b)=Nq c/\0=0/\0=0/\1=1/\Ns b c/\Np b=Np c/\No b=No c/\0=0/\3=3/\1=1/\Nt z z c c z z c c/\22=22/\1=1/\OE z c/\N6 s s z c z c (N3 (Nz z c z c) a a a a a a a a a a a a (1=1/\Ny m ws m ws/\s=s/\f=f/\H))else(∃(h:Sk),(Nu a ws s fr f D (wkA a ws s f) h h y/\Nr h h=Nr i i/\wkC a s h<wkC a s k)/\No b=No h/\b.v=h.v/\0=0/\2=2/\(2:A)=2/\Nv (Nq b)=Nq h/\0=0/\0=0/\1=1/\Ns b h/\Np b=Np h/\No b=No h/\0=0/\3=3/\1=1/\Nt z z h h z z h h/\22=22/\I)\/∃(d:Sk),(Nu a ws s fr f D (wkB a ws s f) d d y/\Nr d d=Nr i i/\wkC a s d<wkC a s k)/\No b=No d/\b.v=d.v/\0=0/\2=2/\(2:A)=2/\Nv (Nq b)=Nq d/\0=0/\0=0/\1=1/\Ns b d/\Np b=Np d/\No b=No d/\0=0/\3=3/\1=1/\Nt z z d d z z d d/\22=22/\1=1/\OE z d/\N6 s s z d z d (N3 (Nz z d z d) a a a a a a a a a a a a (1=1/\Ny m ws m ws/\s=s/\f=f/\H))
def Nx(a:Sk):=a.out.length
def N1:F:=OfNat.ofNat 0
def N5(a:Sk):=a.w.length
def OJ:=OO/\I
def OL(a:Sk):=Zz 3 1 (Nw a)
def ON(a:B A)(b:Sk)(c:A):=(ints a).set (0+(No b).toNat) (OI c)
def OU(a b:F):=a*b<=140737488355328
def WI (a:ArmV)(m:F)(ws:B (B (E×E)))(s:A)(fr:B A)(f:A->G A)(D:F)(h:Sk)(c:Sk):Prop:=∀(b:Sk),Nu a ws s fr f D (wkA a ws s f) b b h->Nr b b=Nr c c->bif decide (Nq b<2)then(0<=Nq b/\Nq b<2)/\∃(u:A),ldE (OA b b) (0+(Nq b).toNat) 0 1=some (OI u)/\bif OS b.v then(∃(k:Sk),(Nu a ws s fr f D (wkA a ws s f) k k h/\Nr k k=Nr c c/\wkC a s k<wkC a s b)/\No b=No k/\b.v=k.v/\0=0/\2=2/\(2:A)=2/\Nv (Nq b)=Nq k/\0=0/\0=0/\1=1/\Ns b k/\Np b=Np k/\No b=No k/\0=0/\3=3/\1=1/\Nt b b k k b b k k/\22=22/\OF OC s s b k (OD b k (N8 (Nz b k b k) a a a a a a a a a a a a (Ny m ws m ws/\s=s/\f=f/\H))))\/∃(p:Sk),(Nu a ws s fr f D (wkB a ws s f) p p h/\Nr p p=Nr c c/\wkC a s p<wkC a s b)/\No b=No p/\b.v=p.v/\0=0/\2=2/\(2:A)=2/\Nv (Nq b)=Nq p/\0=0/\0=0/\1=1/\Ns b p/\Np b=Np p/\No b=No p/\0=0/\3=3/\1=1/\Nt b b p p b b p p/\22=22/\I else bif decide (b.v>s)then(∃(l:Sk),(Nu a ws s fr f D (wkA a ws s f) l l h/\Nr l l=Nr c c/\wkC a s l<wkC a s b)/\No b=No l/\b.v=l.v/\0=0/\2=2/\(2:A)=2/\Nv (Nq b)=Nq l/\0=0/\0=0/\1=1/\Ns b l/\Np b=Np l/\No b=No l/\0=0/\3=3/\1=1/\Nt b b l l b b l l/\22=22/\OF OC s s b l (OD b l (N8 (Nz b l b l) a a a a a a a a a a a a (Ny m ws m ws/\s=s/\f=f/\H))))\/∃(q:Sk),(Nu a ws s fr f D (wkB a ws s f) q q h/\Nr q q=Nr c c/\wkC a s q<wkC a s b)/\No b=No q/\b.v=q.v/\0=0/\2=2/\(2:A)=2/\Nv (Nq b)=Nq q/\0=0/\0=0/\1=1/\Ns b q/\Np b=Np q/\No b=No q/\0=0/\3=3/\1=1/\Nt b b q q b b q q/\22=22/\I else bif OS u then(∃(n:Sk),(Nu a ws s fr f D (wkA a ws s f) n n h/\Nr n n=Nr c c/\wkC a s n<wkC a s b)/\No b=No n/\b.v=n.v/\0=0/\2=2/\(2:A)=2/\Nv (Nq b)=Nq n/\0=0/\0=0/\1=1/\Ns b n/\Np b=Np n/\No b=No n/\0=0/\3=3/\1=1/\Nt b b n n b b n n/\22=22/\OF OC s s b n (OD b n (N8 (Nz b n b n) a a a a a a a a a a a a (Ny m ws m ws/\s=s/\f=f/\H))))\/∃(r:Sk),(Nu a ws s fr f D (wkB a ws s f) r r h/\Nr r r=Nr c c/\wkC a s r<wkC a s b)/\No b=No r/\b.v=r.v/\0=0/\2=2/\(2:A)=2/\Nv (Nq b)=Nq r/\0=0/\0=0/\1=1/\Ns b r/\Np b=Np r/\No b=No r/\0=0/\3=3/\1=1/\Nt b b r r b b r r/\22=22/\I else bif decide (u>s)then(∃(j:Sk),(Nu a ws s fr f D (wkA a ws s f) j j h/\Nr j j=Nr c c/\wkC a s j<wkC a s b)/\No b=No j/\b.v=j.v/\0=0/\2=2/\(2:A)=2/\Nv (Nq b)=Nq j/\0=0/\0=0/\1=1/\Ns b j/\Np b=Np j/\No b=No j/\0=0/\3=3/\1=1/\Nt b b j j b b j j/\22=22/\OF OC s s b j (OD b j (N8 (Nz b j b j) a a a a a a a a a a a a (Ny m ws m ws/\s=s/\f=f/\H))))\/∃(t:Sk),(Nu a ws s fr f D (wkB a ws s f) t t h/\Nr t t=Nr c c/\wkC a s t<wkC a s b)/\No b=No t/\b.v=t.v/\0=0/\2=2/\(2:A)=2/\Nv (Nq b)=Nq t/\0=0/\0=0/\1=1/\Ns b t/\Np b=Np t/\No b=No t/\0=0/\3=3/\1=1/\Nt b b t t b b t t/\22=22/\I else∃(S:B A),N7 b=ints S/\OU S.length 8/\((0<=No b/\No b<Q S.length)/\0+(No b).toNat<(ints S).length/\((∃(i:Sk),((Sm a ws s fr f D (wkA a ws s f) i/\i.d=h.d)/\wkC a s i=wkC a s b)/\0=0/\S.length=N5 i/\No b=No i/\b.v=i.v/\0=0/\2=2/\(2:A)=2/\Nq b=Nq i/\0=0/\0=0/\1=1/\Ns b i/\Np b=Np i/\No b=No i/\3=3/\1=1/\(ON S b u=Nw i\/QC (ON S b u) (Nw i))/\0=0/\3=3/\1=1/\Nt b b i i b b i i/\22=22/\OC/\N6 s s b i b i (N3 (Nz b i b i) a a a a a a a a a a a a (1=1/\Ny m ws m ws/\s=s/\f=f/\H)))\/∃(o:Sk),((Sm a ws s fr f D (wkB a ws s f) o/\o.d=h.d)/\wkC a s o=wkC a s b)/\0=0/\S.length=N5 o/\No b=No o/\b.v=o.v/\0=0/\2=2/\(2:A)=2/\Nq b=Nq o/\0=0/\0=0/\1=1/\Ns b o/\Np b=Np o/\No b=No o/\3=3/\1=1/\(ON S b u=Nw o\/QC (ON S b u) (Nw o))/\0=0/\3=3/\1=1/\Nt b b o o b b o o/\OJ))/\(∀(e:Sk),Sm a ws s fr f D (wkA a ws s f) e/\e.d=h.d->wkC a s e=wkC a s b->(∃(W:ArmV)(w5:F)(w6:B (B (E×E)))(X:A)(Y:B A),N2 a a a a a a m ws s=N2 W W W W W W w5 w6 X/\Nw e=ints Y/\N5 e=K Y/\QJ W/\OH X X/\OG Y W (fun z=>Y) (fun y=>X)/\N9 a a a a a a m ws s=N9 a a a a a a m ws s/\M f=M f/\OL e=OL e/\((∃(P:Sk),(Sm a ws s fr f D (wkA a ws s f) P/\wkC a s P=wkC a s b)/\N0 f X Y=N0 f s P.w/\N4 f X Y=N4 f s P.w/\1=1/\N (N5 e) (O 0 (Nw e))=Nw P/\0=0/\0=0/\0=0/\Nx h=Nx P/\0=0/\1=1/\3=3/\1=1/\Nt e e P P e e P P/\22=22/\OC/\N6 s s e P e P (N3 (Nz e P e P) a a a a a a a a a a a a (1=1/\Ny m ws m ws/\s=s/\f=f/\H)))\/∃(T:Sk),(Sm a ws s fr f D (wkB a ws s f) T/\wkC a s T=wkC a s b)/\N0 f X Y=N0 f s T.w/\N4 f X Y=N4 f s T.w/\1=1/\N (N5 e) (O 0 (Nw e))=Nw T/\0=0/\0=0/\0=0/\Nx h=Nx T/\0=0/\1=1/\3=3/\1=1/\Nt e e T T e e T T/\OJ))/\JA a m ws s fr f D h c b e/\JB a m ws s fr f D h c b e)/\∀(d:Sk),Sm a ws s fr f D (wkB a ws s f) d/\d.d=h.d->wkC a s d=wkC a s b->(∃(Z:ArmV)(w7:F)(w8:B (B (E×E)))(x8:A)(x9:B A),N2 a a a a a a m ws s=N2 Z Z Z Z Z Z w7 w8 x8/\Nw d=ints x9/\N5 d=K x9/\QJ Z/\OH x8 x8/\OG x9 Z (fun x=>x9) (fun w=>x8)/\N9 a a a a a a m ws s=N9 a a a a a a m ws s/\M f=M f/\OL d=OL d/\((∃(U:Sk),(Sm a ws s fr f D (wkA a ws s f) U/\wkC a s U=wkC a s b)/\N0 f x8 x9=N0 f s U.w/\N4 f x8 x9=N4 f s U.w/\1=1/\N (N5 d) (O 0 (Nw d))=Nw U/\0=0/\0=0/\0=0/\Nx h=Nx U/\0=0/\1=1/\3=3/\1=1/\Nt d d U U d d U U/\OJ)\/∃(v:Sk),(Sm a ws s fr f D (wkB a ws s f) v/\wkC a s v=wkC a s b)/\N0 f x8 x9=N0 f s v.w/\N4 f x8 x9=N4 f s v.w/\1=1/\N (N5 d) (O 0 (Nw d))=Nw v/\0=0/\0=0/\0=0/\Nx h=Nx v/\0=0/\1=1/\3=3/\1=1/\Nt d d v v d d v v/\OO/\1=1/\OF (OE d v) s s d v (OD d v (N8 (Nz d v d v) a a a a a a a a a a a a (Ny m ws m ws/\s=s/\f=f/\H)))))/\JA a m ws s fr f D h c b d/\JB a m ws s fr f D h c b d else(∃(R:Sk),((TV a ws s fr f D (wkA a ws s f) R/\R.j=0/\R.d=h.d)/\N1=N1/\Nr R R<Nr c c)/\0=0/\0=0/\1=1/\Ns b R/\Np b=Np R/\Nv (No b)=No R/\0=0/\22=22/\OC/\N6 s s b R b R (N3 (Nz b R b R) a a a a a a a a a a a a (1=1/\Ny m ws m ws/\s=s/\f=f/\H)))\/∃(V:Sk),((TV a ws s fr f D (wkB a ws s f) V/\V.j=0/\V.d=h.d)/\N1=N1/\Nr V V<Nr c c)/\0=0/\0=0/\1=1/\Ns b V/\Np b=Np V/\Nv (No b)=No V/\0=0/\OJ
def WJ (a:ArmV)(m:F)(ws:B (B (E×E)))(s:A)(fr:B A)(f:A->G A)(D:F)(h:Sk)(c:Sk):Prop:=∀(b:Sk),Nu a ws s fr f D (wkB a ws s f) b b h->Nr b b=Nr c c->bif decide (Nq b<2)then(0<=Nq b/\Nq b<2)/\∃(u:A),ldE (OA b b) (0+(Nq b).toNat) 0 1=some (OI u)/\bif OS b.v then(∃(p:Sk),(Nu a ws s fr f D (wkA a ws s f) p p h/\Nr p p=Nr c c/\wkC a s p<wkC a s b)/\No b=No p/\b.v=p.v/\0=0/\2=2/\(2:A)=2/\Nv (Nq b)=Nq p/\0=0/\0=0/\1=1/\Ns b p/\Np b=Np p/\No b=No p/\0=0/\3=3/\1=1/\Nt b b p p b b p p/\22=22/\I)\/∃(k:Sk),(Nu a ws s fr f D (wkB a ws s f) k k h/\Nr k k=Nr c c/\wkC a s k<wkC a s b)/\No b=No k/\b.v=k.v/\0=0/\2=2/\(2:A)=2/\Nv (Nq b)=Nq k/\0=0/\0=0/\1=1/\Ns b k/\Np b=Np k/\No b=No k/\0=0/\3=3/\1=1/\Nt b b k k b b k k/\22=22/\1=1/\OE b k/\N6 s s b k b k (N3 (Nz b k b k) a a a a a a a a a a a a (1=1/\Ny m ws m ws/\s=s/\f=f/\H))else bif decide (b.v>s)then(∃(q:Sk),(Nu a ws s fr f D (wkA a ws s f) q q h/\Nr q q=Nr c c/\wkC a s q<wkC a s b)/\No b=No q/\b.v=q.v/\0=0/\2=2/\(2:A)=2/\Nv (Nq b)=Nq q/\0=0/\0=0/\1=1/\Ns b q/\Np b=Np q/\No b=No q/\0=0/\3=3/\1=1/\Nt b b q q b b q q/\22=22/\I)\/∃(l:Sk),(Nu a ws s fr f D (wkB a ws s f) l l h/\Nr l l=Nr c c/\wkC a s l<wkC a s b)/\No b=No l/\b.v=l.v/\0=0/\2=2/\(2:A)=2/\Nv (Nq b)=Nq l/\0=0/\0=0/\1=1/\Ns b l/\Np b=Np l/\No b=No l/\0=0/\3=3/\1=1/\Nt b b l l b b l l/\22=22/\1=1/\OE b l/\N6 s s b l b l (N3 (Nz b l b l) a a a a a a a a a a a a (1=1/\Ny m ws m ws/\s=s/\f=f/\H))else bif OS u then(∃(r:Sk),(Nu a ws s fr f D (wkA a ws s f) r r h/\Nr r r=Nr c c/\wkC a s r<wkC a s b)/\No b=No r/\b.v=r.v/\0=0/\2=2/\(2:A)=2/\Nv (Nq b)=Nq r/\0=0/\0=0/\1=1/\Ns b r/\Np b=Np r/\No b=No r/\0=0/\3=3/\1=1/\Nt b b r r b b r r/\22=22/\I)\/∃(n:Sk),(Nu a ws s fr f D (wkB a ws s f) n n h/\Nr n n=Nr c c/\wkC a s n<wkC a s b)/\No b=No n/\b.v=n.v/\0=0/\2=2/\(2:A)=2/\Nv (Nq b)=Nq n/\0=0/\0=0/\1=1/\Ns b n/\Np b=Np n/\No b=No n/\0=0/\3=3/\1=1/\Nt b b n n b b n n/\22=22/\1=1/\OE b n/\N6 s s b n b n (N3 (Nz b n b n) a a a a a a a a a a a a (1=1/\Ny m ws m ws/\s=s/\f=f/\H))else bif decide (u>s)then(∃(t:Sk),(Nu a ws s fr f D (wkA a ws s f) t t h/\Nr t t=Nr c c/\wkC a s t<wkC a s b)/\No b=No t/\b.v=t.v/\0=0/\2=2/\(2:A)=2/\Nv (Nq b)=Nq t/\0=0/\0=0/\1=1/\Ns b t/\Np b=Np t/\No b=No t/\0=0/\3=3/\1=1/\Nt b b t t b b t t/\22=22/\I)\/∃(j:Sk),(Nu a ws s fr f D (wkB a ws s f) j j h/\Nr j j=Nr c c/\wkC a s j<wkC a s b)/\No b=No j/\b.v=j.v/\0=0/\2=2/\(2:A)=2/\Nv (Nq b)=Nq j/\0=0/\0=0/\1=1/\Ns b j/\Np b=Np j/\No b=No j/\0=0/\3=3/\1=1/\Nt b b j j b b j j/\22=22/\1=1/\OE b j/\N6 s s b j b j (N3 (Nz b j b j) a a a a a a a a a a a a (1=1/\Ny m ws m ws/\s=s/\f=f/\H))else∃(S:B A),N7 b=ints S/\OU S.length 8/\((0<=No b/\No b<Q S.length)/\0+(No b).toNat<(ints S).length/\((∃(o:Sk),((Sm a ws s fr f D (wkA a ws s f) o/\o.d=h.d)/\wkC a s o=wkC a s b)/\0=0/\S.length=N5 o/\No b=No o/\b.v=o.v/\0=0/\2=2/\(2:A)=2/\Nq b=Nq o/\0=0/\0=0/\1=1/\Ns b o/\Np b=Np o/\No b=No o/\3=3/\1=1/\(ON S b u=Nw o\/QC (ON S b u) (Nw o))/\0=0/\3=3/\1=1/\Nt b b o o b b o o/\OJ)\/∃(i:Sk),((Sm a ws s fr f D (wkB a ws s f) i/\i.d=h.d)/\wkC a s i=wkC a s b)/\0=0/\S.length=N5 i/\No b=No i/\b.v=i.v/\0=0/\2=2/\(2:A)=2/\Nq b=Nq i/\0=0/\0=0/\1=1/\Ns b i/\Np b=Np i/\No b=No i/\3=3/\1=1/\(ON S b u=Nw i\/QC (ON S b u) (Nw i))/\0=0/\3=3/\1=1/\Nt b b i i b b i i/\OO/\1=1/\OF (OE b i) s s b i (OD b i (N8 (Nz b i b i) a a a a a a a a a a a a (Ny m ws m ws/\s=s/\f=f/\H)))))/\(∀(e:Sk),Sm a ws s fr f D (wkA a ws s f) e/\e.d=h.d->wkC a s e=wkC a s b->(∃(W:ArmV)(w5:F)(w6:B (B (E×E)))(X:A)(Y:B A),N2 a a a a a a m ws s=N2 W W W W W W w5 w6 X/\Nw e=ints Y/\N5 e=K Y/\QJ W/\OH X X/\OG Y W (fun z=>Y) (fun y=>X)/\N9 a a a a a a m ws s=N9 a a a a a a m ws s/\M f=M f/\OL e=OL e/\((∃(P:Sk),(Sm a ws s fr f D (wkA a ws s f) P/\wkC a s P=wkC a s b)/\N0 f X Y=N0 f s P.w/\N4 f X Y=N4 f s P.w/\1=1/\N (N5 e) (O 0 (Nw e))=Nw P/\0=0/\0=0/\0=0/\Nx h=Nx P/\0=0/\1=1/\3=3/\1=1/\Nt e e P P e e P P/\22=22/\OC/\N6 s s e P e P (N3 (Nz e P e P) a a a a a a a a a a a a (1=1/\Ny m ws m ws/\s=s/\f=f/\H)))\/∃(T:Sk),(Sm a ws s fr f D (wkB a ws s f) T/\wkC a s T=wkC a s b)/\N0 f X Y=N0 f s T.w/\N4 f X Y=N4 f s T.w/\1=1/\N (N5 e) (O 0 (Nw e))=Nw T/\0=0/\0=0/\0=0/\Nx h=Nx T/\0=0/\1=1/\3=3/\1=1/\Nt e e T T e e T T/\OJ))/\JA a m ws s fr f D h c b e/\JB a m ws s fr f D h c b e)/\∀(d:Sk),Sm a ws s fr f D (wkB a ws s f) d/\d.d=h.d->wkC a s d=wkC a s b->(∃(Z:ArmV)(w7:F)(w8:B (B (E×E)))(x8:A)(x9:B A),N2 a a a a a a m ws s=N2 Z Z Z Z Z Z w7 w8 x8/\Nw d=ints x9/\N5 d=K x9/\QJ Z/\OH x8 x8/\OG x9 Z (fun x=>x9) (fun w=>x8)/\N9 a a a a a a m ws s=N9 a a a a a a m ws s/\M f=M f/\OL d=OL d/\((∃(U:Sk),(Sm a ws s fr f D (wkA a ws s f) U/\wkC a s U=wkC a s b)/\N0 f x8 x9=N0 f s U.w/\N4 f x8 x9=N4 f s U.w/\1=1/\N (N5 d) (O 0 (Nw d))=Nw U/\0=0/\0=0/\0=0/\Nx h=Nx U/\0=0/\1=1/\3=3/\1=1/\Nt d d U U d d U U/\OJ)\/∃(v:Sk),(Sm a ws s fr f D (wkB a ws s f) v/\wkC a s v=wkC a s b)/\N0 f x8 x9=N0 f s v.w/\N4 f x8 x9=N4 f s v.w/\1=1/\N (N5 d) (O 0 (Nw d))=Nw v/\0=0/\0=0/\0=0/\Nx h=Nx v/\0=0/\1=1/\3=3/\1=1/\Nt d d v v d d v v/\OO/\1=1/\OF (OE d v) s s d v (OD d v (N8 (Nz d v d v) a a a a a a a a a a a a (Ny m ws m ws/\s=s/\f=f/\H)))))/\JA a m ws s fr f D h c b d/\JB a m ws s fr f D h c b d else(∃(V:Sk),((TV a ws s fr f D (wkA a ws s f) V/\V.j=0/\V.d=h.d)/\N1=N1/\Nr V V<Nr c c)/\0=0/\0=0/\1=1/\Ns b V/\Np b=Np V/\Nv (No b)=No V/\0=0/\OJ)\/∃(R:Sk),((TV a ws s fr f D (wkB a ws s f) R/\R.j=0/\R.d=h.d)/\N1=N1/\Nr R R<Nr c c)/\0=0/\0=0/\1=1/\Ns b R/\Np b=Np R/\Nv (No b)=No R/\0=0/\22=22/\1=1/\OF (OE b R) s s b R (OD b R (N8 (Nz b R b R) a a a a a a a a a a a a (Ny m ws m ws/\s=s/\f=f/\H)))
def OM(a b:A):B (B Ch):=[OI (L.wrap (a-1)),OI (Nv b)]
def OP(a:Sk):=L.wrap (Q (Nx a+1)-1)
def OV(a:Sk):=Q (N7 a).length
def OY(a:B (B Ch))(b:Sk)(c:Prop):=0=0/\80=80/\0=0/\22=22/\1=1/\a=N7 b/\OO/\1=1/\c
def OX(a b c:Sk):=N (Nx a) (OB b)++[[Zj 1 (ints c.b)]]
def OZ(a b:Sk):=N (Nx a) (OB b)++[[Ze OW]]
def KU (a:ArmV)(m:F)(ws:B (B (E×E)))(s:A)(fr:B A)(f:A->G A)(D:F)(n:Sk):Prop:=∀(z:Sk),Sn a ws s fr f D z/\0<z.d->z.d=n.d->((∃(y:Sk),((TV a ws s fr f D (wkA a ws s f) y/\y.j=0/\y.d=z.d)/\N1=N1)/\0=0/\0=0/\1=1/\Ns z y/\OV z=Np y/\0=No y/\0=0/\22=22/\OC/\N6 s s z y z y (N3 (Nz z y z y) a a a a a a a a a a a a (1=1/\Ny m ws m ws/\s=s/\f=f/\H)))\/∃(j:Sk),((TV a ws s fr f D (wkB a ws s f) j/\j.j=0/\j.d=z.d)/\N1=N1)/\0=0/\0=0/\1=1/\Ns z j/\OV z=Np j/\0=No j/\0=0/\OJ)/\(∀(c:Sk),TV a ws s fr f D (wkA a ws s f) c/\c.j=0/\c.d=z.d->N1=N1->bif decide (No c<Np c)then(0<=No c/\No c<OV c)/\∃(v:A),ldE (N7 c) (No c).toNat 0 1=some (OI v)/\((∃(e:Sk),(Nu a ws s fr f D (wkA a ws s f) e e z/\Nr e e=Nr c c)/\No c=No e/\v=e.v/\0=0/\2=2/\(2:A)=2/\0=Nq e/\0=0/\0=0/\1=1/\Ns c e/\Np c=Np e/\No c=No e/\0=0/\3=3/\1=1/\(OM v v=OA e e\/QC (OM v v) (OA e e))/\22=22/\OF OC s s c e (OD c e (N8 (Nz c e c e) a a a a a a a a a a a a (Ny m ws m ws/\s=s/\f=f/\H))))\/∃(h:Sk),(Nu a ws s fr f D (wkB a ws s f) h h z/\Nr h h=Nr c c)/\No c=No h/\v=h.v/\0=0/\2=2/\(2:A)=2/\0=Nq h/\0=0/\0=0/\1=1/\Ns c h/\Np c=Np h/\No c=No h/\0=0/\3=3/\1=1/\(OM v v=OA h h\/QC (OM v v) (OA h h))/\22=22/\I)/\WI a m ws s fr f D z c/\WJ a m ws s fr f D z c else(OU (Nx z+1) 24/\Nx z+1<=9223372036854775807)/\(0<=OP z/\OP z<Q (Nx z+1))/\∃(o:B (B Ch)),ldE (OZ z c) (0+(OP z).toNat) 0 1=some [Zj 1 o]/\∃(k:Sk),(Sn a ws s fr f D k/\N1=0/\k.d<n.d)/\0=0/\0=0/\Nx z+1=Nx k/\OY o k (N3 (OZ z c=OB k\/QC (OZ z c) (OB k)) a a a a a a a a a a a a (1=1/\Ny m ws m ws/\s=s/\f=f/\H)))/\∀(b:Sk),TV a ws s fr f D (wkB a ws s f) b/\b.j=0/\b.d=z.d->N1=N1->bif decide (No b<Np b)then(0<=No b/\No b<OV b)/\∃(u:A),ldE (N7 b) (No b).toNat 0 1=some (OI u)/\((∃(i:Sk),(Nu a ws s fr f D (wkA a ws s f) i i z/\Nr i i=Nr b b)/\No b=No i/\u=i.v/\0=0/\2=2/\(2:A)=2/\0=Nq i/\0=0/\0=0/\1=1/\Ns b i/\Np b=Np i/\No b=No i/\0=0/\3=3/\1=1/\(OM u u=OA i i\/QC (OM u u) (OA i i))/\22=22/\I)\/∃(d:Sk),(Nu a ws s fr f D (wkB a ws s f) d d z/\Nr d d=Nr b b)/\No b=No d/\u=d.v/\0=0/\2=2/\(2:A)=2/\0=Nq d/\0=0/\0=0/\1=1/\Ns b d/\Np b=Np d/\No b=No d/\0=0/\3=3/\1=1/\(OM u u=OA d d\/QC (OM u u) (OA d d))/\22=22/\1=1/\OE b d/\N6 s s b d b d (N3 (Nz b d b d) a a a a a a a a a a a a (1=1/\Ny m ws m ws/\s=s/\f=f/\H)))/\WI a m ws s fr f D z b/\WJ a m ws s fr f D z b else(OU (Nx z+1) 24/\Nx z+1<=9223372036854775807)/\(0<=OP z/\OP z<Q (Nx z+1))/\∃(p:B (B Ch)),ldE (OX z b b) (0+(OP z).toNat) 0 1=some [Zj 1 p]/\∃(l:Sk),(Sn a ws s fr f D l/\N1=0/\l.d<n.d)/\0=0/\0=0/\Nx z+1=Nx l/\OY p l (N3 (OX z b b=OB l\/QC (OX z b b) (OB l)) a a a a a a a a a a a a (1=1/\Ny m ws m ws/\s=s/\f=f/\H))
variable{x:Sk}
theorem QcM{b:B A}(d:x.u[x.i]? =some x.v)(c:x.j<2)(v:B A)(h:wkP {x with j:=x.j+1,b:=b} v):wkP x v\/v=x.u.set x.i (rsW x.v x.j):=QJ7 d c h
theorem Sn.okU {a:ArmV}{ws:B (B (E×E))}{s:A}{fr:B A}{f:A->G A}{D:F}(h:Sn a ws s fr f D x):OkS s a.za.length x.u:=h.zn.ok _ (Zo h.zn.last)
theorem fY {a:ArmV}{ws:B (B (E×E))}{s:A}{fr:B A}{f:A->G A}{D:F}(h:So a ws s fr f D (wkA a ws s f) x)(d:x.j<2)(hk: ¬wkG a ws s f x (x.u.set x.i (rsW x.v x.j))):So a ws s fr f D (wkA a ws s f) {x with j:=x.j+1}:=
  ⟨⟨h.all.zn,h.all.zf,h.all.d,h.all.len⟩,h.d0,h.v,o5,fun v k c=>(QcM (b:=x.b) h.v d v k).elim (fun i=>h.c v i c) (fun e=>hk (e▸c))⟩
theorem qR {a:ArmV}{ws:B (B (E×E))}{s:A}{fr:B A}{f:A->G A}{D:F}(h:So a ws s fr f D (wkB a ws s f) x)(b:x.j<2):So a ws s fr f D (wkB a ws s f) {x with j:=x.j+1}:=
 ⟨⟨h.all.zn,h.all.zf,h.all.d,h.all.len⟩,h.d0,h.v,o5,h.c⟩
variable{C:Sk->Prop}
theorem QO4 {a:ArmV}{ws:B (B (E×E))}{s:A}{fr:B A}{f:A->G A}{D:F}(h:So a ws s fr f D C x)(d:x.j<2){w:B A}(c:wkG a ws s f x w):So a ws s fr f D (wkB a ws s f) {x with j:=x.j+1,b:=w}:=
 ⟨⟨h.all.zn,h.all.zf,h.all.d,h.all.len⟩,h.d0,h.v,o5,c⟩
theorem Qhn {a:ArmV}{s:A}(d:1<=s){y:Sk}(b:OkS s a.za.length x.u)(c:OkS s a.za.length y.u)(l:a.za.length<=3)(o:x.i<K x.u)(t:y.i<K y.u)(p:x.j<=2)(u:y.j<=2)(h:wkC a s x=wkC a s y):x.d=y.d/\x.u=y.u/\x.i=y.i/\x.j=y.j:=by
 unfold wkC at h;have n:=Jw d b;have r:=Jw d c;have q:=b.1;have v:=c.1;have i:x.d*(NS a s+1)+(numV s x.u).toNat=y.d*(NS a s+1)+(numV s y.u).toNat:=o3
 obtain⟨j,k⟩:=Gc o3 o3 i;have e:x.u=y.u:=Ud o3 o3 b.2 c.2 o3;exact⟨j,e,o3,o3⟩
theorem aa {a:ArmV}{s:A}(h:x.j<2)(b:B A):wkC a s {x with j:=x.j+1,b:=b}<wkC a s x:=by
 unfold wkC;simp only;omega
theorem QcN {a:ArmV}{ws:B (B (E×E))}{s:A}{fr:B A}{f:A->G A}{D:F}(h:Sn a ws s fr f D x)(w:0<x.d)(j:wkG a ws s f x x.b)(y:Sk):Sn a ws s fr f D {y with out:=x.out++[x.b],u:=x.b,d:=x.d-1}:=by
  have n:=h.len;have r:=h.d;have v:1<=K x.out:=o3
  refine⟨⟨?_,?_,?_,?_⟩,j.1,o5,by simp only[B.length_append,Zw];omega⟩
  · simp only;rw[Zt o3];exact h.zn.first
  · simp
  · intro l n;rcases B.mem_append.1 n with i | i
    · exact h.zn.ok l i
    · have:l=x.b:=(j9 i)
      rw[this];exact j.2.1
  · intro k p q c b;simp only at c b;have t:=(Zl.1 b).1;simp only[B.length_append,Zw]at t;by_cases e:k+1=x.out.length
    · have o:k=K x.out-1:=o3
      rw[Zt o3]at c;rw[e,B.getElem?_append_right (P _)]at b;simp at b;rw[o,h.zn.last]at c;cases c
      rw[<-b];exact j.2
    · rw[Zt o3]at c b;exact h.zn.ch k p q c b
theorem QkJ {a:ArmV}{ws:B (B (E×E))}{s:A}{g fr:B A}{f:A->G A}{D:F}(k:OkS s a.za.length g)(i:FdS a ws s g fr f)(e:Dst (EdS a ws s) g D fr)(h:Sn a ws s fr f D x)(r:0<x.d)(l:x.i=K x.u)(n:x.j=0)(c:wkA a ws s f x):I:=by
  have o:=h.okU;have j:=h.d;obtain⟨w,p,q,b⟩:=i.found.step k bC e (d:=x.d-1) o3 o (by rw[h.zf];congr 1;omega);refine c w ?_ ⟨q,b⟩
  have:=QO1 (b.2.1.symm p);show Bef x.u x.i x.j w
  rw[l,n];exact this
structure Kq (a:ArmV)(m:F)(ws:B (B (E×E)))(s:A)(g fr:B A)(f:A->G A)(D:F):Prop where
 hg:QJ a
 hs:1<=s/\s<=12
 hgo:OkS s a.za.length g
 hfo:OkS s a.za.length fr
 hm:m<=400000000
 hw:(∀w∈ws,QY w)/\ws.length<=20
 hF:FdS a ws s g fr f
 hD:Dst (EdS a ws s) g D fr
theorem So.any {a:ArmV}{ws:B (B (E×E))}{s:A}{fr:B A}{f:A->G A}{D:F}(h:So a ws s fr f D C x):So a ws s fr f D (fun _=>H) x:=⟨h.all,h.d0,h.v,h.j,trivial⟩
section
variable {a:ArmV}{m:F}{ws:B (B (E×E))}{s:A}{g fr:B A}{f:A->G A}{D:F}
theorem Kq.zf (E:Kq a m ws s g fr f D)(h:Sn a ws s fr f D x):f (numV s x.u)=some (x.d:A):=(Gb E.hF.nn).1 h.zf
theorem Kq.lt (E:Kq a m ws s g fr f D)(h:Sn a ws s fr f D x):x.d+1<=2197/\x.out.length<=2197:=by
 have b:=(iC E.hg E.hs).2;have c:=VL E.hs.1 E.hgo E.hD;have d:=h.d;have e:=h.len;omega
theorem Kq.same (E:Kq a m ws s g fr f D){y:Sk}(b:So a ws s fr f D (fun _=>H) x)(c:So a ws s fr f D (fun _=>H) y)(h:wkC a s x=wkC a s y):x.d=y.d/\x.u=y.u/\x.i=y.i/\x.j=y.j/\x.v=y.v:=by
 have l:=(Zl.1 b.v).1;have n:=(Zl.1 c.v).1;obtain⟨j,d,e,k⟩:=Qhn E.hs.1 b.all.okU c.all.okU E.hg.n.2 l n b.j c.j h;refine⟨j,d,e,k,?_⟩;have i:=b.v;rw[d,e,c.v]at i;exact(G.some.inj i).symm
theorem Sm.okW(h:Sm a ws s fr f D C x):OkS s a.za.length x.w:=by
 rw[h.w];exact(Ga h.all.v h.j1 h.r).ok h.all.all.okU
theorem Kq.goes (E:Kq a m ws s g fr f D)(h:Sm a ws s fr f D C x):wkG a ws s f x x.w↔((f (numV s x.w)).isSome=true/\((f (numV s x.w)).getD 0==L.wrap ((f (numV s x.u)).getD 0-1))=true)/\frV a ws s x.u x.w=true:=by
 have i:=E.zf h.all.all;have l:=E.lt h.all.all;have n:=h.all.d0;rw[i,Zq,w64 o3];unfold wkG EdS;rw[Gb E.hF.nn];have j:AdjS s x.w x.u:=by
  have:=Ga h.all.v h.j1 h.r;rw[<-h.w]at this;exact this.symm h.all.all.okU
 constructor
 ·rintro⟨e,_,_,k⟩;rw[e];refine⟨⟨rfl,?_⟩,k⟩;rw[beq_iff_eq,Zq];omega
 ·rintro⟨⟨d,b⟩,k⟩;obtain⟨v,c⟩:=G.isSome_iff_exists.1 d;rw[c,Zq,beq_iff_eq]at b;refine⟨?_,h.okW,j,k⟩;rw[c,b];congr 1;omega
theorem fK {j:F}(h:j<=2):L.wrap ((j:A)+1)=((j+1:F):A):=by rw[w64 o3];simp
variable{z11 z14:Sk}
theorem ef (E:Kq a m ws s g fr f D){z18 c:Sk}(t:So a ws s fr f D (fun _=>H) c)(G:wkC a s c=wkC a s z18)(d:c.d=z11.d)(l:c.u.length-c.i=K z14.u-z14.i):JA a m ws s fr f D z11 z14 z18 c:=by
 unfold JA;delta OI N7 No OA OB Ns OQ OR Np Nq Nr OO Nt Nv Nw Nu Ny N2 OW Nz N0 N3 N4 N6 N8 OC N9 OD OF OG OH;simp only[Zp,R0,R1,P];intro z h e;obtain⟨A,y,w,B,F⟩:=E.same h.all.any t (e.trans G.symm);rw[<-w,<-F,<-B,<-y];rw[<-y,<-w]at l;rw[<-A]at d;have i:=h.j1;have N:=fK (Zy i);have o:=h.all.all.okU;have v:=h.okW;have skip: ¬wkG a ws s f z z.w->So a ws s fr f D (wkA a ws s f) {z with j:=z.j+1}:=fun I=>fY h.all i (by rw[<-h.w];exact I);have u:wkC a s {z with j:=z.j+1}<wkC a s z18:=by rw[<-e];exact aa i z.b
 have n:=E.goes h;refine QE (fun p=>⟨a,m,ws,s,z.u,rfl,rfl,E.hg,E.hs,o,QE (fun q=>⟨a,m,ws,s,z.u,z.w,rfl,rfl,rfl,⟨E.hg,E.hs,o,v,E.hm,E.hw⟩,QE (fun r=> ?_) (fun r=> ?_)⟩) (fun q=> ?_)⟩) (fun p=> ?_)
 ·refine .inr ⟨{z with j:=z.j+1,b:=z.w},⟨⟨QO4 h.all i (n.2 ⟨⟨p,q⟩,r⟩),d⟩,l,?_⟩,?_⟩
  ·rw[<-e];exact aa i z.w
  ·and_intros<;>first | rfl | exact .inl rfl | assumption | (left;assumption)
 ·refine .inl ⟨{z with j:=z.j+1},⟨⟨skip fun k=> ?_,d⟩,l,u⟩,?_⟩
  ·rw[(n.1 k).2]at r;cases r
  ·and_intros<;>first | rfl | exact .inl rfl | assumption | (left;assumption)
 ·refine .inl ⟨{z with j:=z.j+1},⟨⟨skip fun k=> ?_,d⟩,l,u⟩,?_⟩
  ·rw[(n.1 k).1.2]at q;cases q
  ·and_intros<;>first | rfl | exact .inl rfl | assumption | (left;assumption)
 ·refine .inl ⟨{z with j:=z.j+1},⟨⟨skip fun k=> ?_,d⟩,l,u⟩,?_⟩
  ·rw[(n.1 k).1.1]at p;cases p
  ·and_intros<;>first | rfl | exact .inl rfl | assumption | (left;assumption)
theorem fD (E:Kq a m ws s g fr f D){z18 c:Sk}(q:So a ws s fr f D (fun _=>H) c)(O:wkC a s c=wkC a s z18)(d:c.d=z11.d)(i:c.u.length-c.i=K z14.u-z14.i):JB a m ws s fr f D z11 z14 z18 c:=by
 unfold JB HK;delta OI N7 No OA OB Ns OQ OR Np Nq Nr OO Nt Nv Nw Nu Ny N2 Nz N0 N3 N4 N6 N9 OE OG OH OS;simp only[Zp,R0,R1,P];intro z h e;obtain⟨A,u,t,F,G⟩:=E.same h.all.any q (e.trans O.symm);rw[<-t,<-G,<-F,<-u];rw[<-u,<-t]at i;rw[<-A]at d;have l:=h.j1;have U:=fK (Zy l);have o:=h.all.all.okU;have n:=h.okW;have r:OkS s a.za.length z.b:=h.all.c.2.1;have S:=E.hg.n;have T:=n.1;have lb:=r.1;have skip:So a ws s fr f D (wkB a ws s f) {z with j:=z.j+1}:=qR h.all l;have p:wkC a s {z with j:=z.j+1}<wkC a s z18:=by rw[<-e];exact aa l z.b
 have I:=E.goes h;refine QE (fun v=>⟨a,m,ws,s,z.u,rfl,rfl,E.hg,E.hs,o,QE (fun w=>⟨?_,z.w,z.b,rfl,rfl,⟨o3,o3⟩,fun R=>QE (fun N=>⟨a,m,ws,s,z.u,z.w,rfl,rfl,rfl,⟨E.hg,E.hs,o,n,E.hm,E.hw⟩,QE (fun y=> ?_) (fun y=> ?_)⟩) (fun N=> ?_)⟩) (fun w=> ?_)⟩) (fun v=> ?_)
 ·intro k;have:=congrArg B.length k;rw[XG]at this;simp only[B.length_nil]at this;omega
 ·refine .inr ⟨{z with j:=z.j+1,b:=z.w},⟨⟨QO4 h.all l (I.2 ⟨⟨v,w⟩,y⟩),d⟩,i,?_⟩,?_⟩
  ·rw[<-e];exact aa l z.w
  ·and_intros<;>first | rfl | exact .inl rfl | assumption | (left;assumption)
 ·refine .inr ⟨{z with j:=z.j+1},⟨⟨skip,d⟩,i,p⟩,?_⟩;and_intros<;>first | rfl | exact .inl rfl | assumption | (left;assumption)
 ·refine .inr ⟨{z with j:=z.j+1},⟨⟨skip,d⟩,i,p⟩,?_⟩;and_intros<;>first | rfl | exact .inl rfl | assumption | (left;assumption)
 ·refine .inr ⟨{z with j:=z.j+1},⟨⟨skip,d⟩,i,p⟩,?_⟩;and_intros<;>first | rfl | exact .inl rfl | assumption | (left;assumption)
 ·refine .inr ⟨{z with j:=z.j+1},⟨⟨skip,d⟩,i,p⟩,?_⟩;and_intros<;>first | rfl | exact .inl rfl | assumption | (left;assumption)
theorem wh (E:Kq a m ws s g fr f D)(H:Sn a ws s fr f D z11):WI a m ws s fr f D z11 z14:=by
 unfold WI;delta OI N7 No OA OB Ns OQ OR Np Nq Nr OO Nt Nv Nx Nw Nu Ny N2 OW Nz N0 N1 N3 N4 N6 N5 N8 OC N9 OD OE OF OG OH OJ OL ON OS OU;simp only[Zp,R0,R1,F.zero_add,P];intro x ⟨b,G⟩ t;have p:=b.all.okU;have hl:=p.1;have hn:=E.hg.n;have X:=(Zl.1 b.v).1;have Y:=p.2 x.v (Zo b.v);have hs:=E.hs;have o: ∀{y:Sk},Sn a ws s fr f D y->y.d=z11.d->K z11.out=K y.out:=fun S h2=>by
  have k1:=S.len;have k2:=H.len;omega
 refine QE (fun e=> ?_) (fun e=> ?_)
 ·have e:x.j<2:=(j7 e)
  have wj:=fK (Zy e);have I:wkC a s {x with j:=x.j+1}<wkC a s x:=aa e x.b;refine⟨⟨o3,o3⟩,rsW x.v x.j,by rw[Zm];exact lP e,QE (fun h=>(j7 h)) (fun _=>QE (fun h=>(j7 h)) (fun _=>QE (fun h=> ?_) (fun u=>QE (fun h=> ?_) (fun z=> ?_))))⟩
  ·have h:=R5 h;refine .inl ⟨{x with j:=x.j+1},⟨⟨fY b e fun k=>cZ p b.v o3 (k.2.2.1.symm k.2.1),G⟩,t,I⟩,?_⟩;and_intros<;>first | rfl | exact .inl rfl | assumption | (left;assumption)
  ·have h:=R5 h;refine .inl ⟨{x with j:=x.j+1},⟨⟨fY b e fun k=>cZ p b.v o3 (k.2.2.1.symm k.2.1),G⟩,t,I⟩,?_⟩;and_intros<;>first | rfl | exact .inl rfl | assumption | (left;assumption)
  ·have u:=R6 u;have z:=R6 z;have V:0<=rsW x.v x.j/\rsW x.v x.j<=s:=o3
   have R: ∀l:B A,N l.length (O 0 (ints l))=ints l:=fun l=>by
    rw[B.drop_zero];exact Zv (by rw[XG];exact P _)
   have ew:(ints x.u).set (x.i:A).toNat [Ze (.int .i64 (rsW x.v x.j))]=ints (x.u.set x.i (rsW x.v x.j)):=by rw[Zm,Gd]
   have U:x.u.length=(x.u.set x.i (rsW x.v x.j)).length:=o6
   refine⟨x.u,rfl,o3,⟨⟨o3,o3⟩,by rw[XG];omega,.inl ⟨{x with w:=x.u.set x.i (rsW x.v x.j)},⟨⟨⟨⟨⟨b.all.zn,b.all.zf,b.all.d,b.all.len⟩,b.d0,b.v,b.j,b.c⟩,e,V,rfl⟩,G⟩,rfl⟩,?_⟩⟩,fun y ⟨c,d⟩ n=>⟨⟨a,m,ws,s,y.w,rfl,rfl,rfl,E.hg,E.hs,c.okW,.inl ⟨y,⟨c,n⟩,?_⟩⟩,?_,?_⟩,fun y ⟨c,d⟩ n=>⟨⟨a,m,ws,s,y.w,rfl,rfl,rfl,E.hg,E.hs,c.okW,.inr ⟨y,⟨c,n⟩,?_⟩⟩,?_,?_⟩⟩
   ·and_intros<;>first | rfl | exact .inl rfl | assumption | (left;assumption)
   ·have tw:=R y.w;have Z:=o c.all.all d;and_intros<;>first | rfl | exact .inl rfl | assumption | (left;assumption)
   ·obtain⟨_,r,q,_,_⟩:=E.same c.all.any b.any n;exact ef E (z11:=z11) (z14:=z14) (z18:=x) c.all.any n d (by rw[r,q];exact t)
   ·obtain⟨_,r,q,_,_⟩:=E.same c.all.any b.any n;exact fD E (z11:=z11) (z14:=z14) (z18:=x) c.all.any n d (by rw[r,q];exact t)
   ·have tw:=R y.w;have Z:=o c.all.all d;and_intros<;>first | rfl | exact .inl rfl | assumption | (left;assumption)
   ·obtain⟨_,r,q,_,_⟩:=E.same c.all.any b.any n;exact ef E (z11:=z11) (z14:=z14) (z18:=x) c.all.any n d (by rw[r,q];exact t)
   ·obtain⟨_,r,q,_,_⟩:=E.same c.all.any b.any n;exact fD E (z11:=z11) (z14:=z14) (z18:=x) c.all.any n d (by rw[r,q];exact t)
 ·have e:x.j=2:=by have:=R6 e;have:=b.j;omega
  have wi:L.wrap ((x.i:A)+1)=((x.i+1:F):A):=by rw[w64 o3];simp
  refine .inl ⟨{x with i:=x.i+1,j:=0},⟨⟨⟨⟨b.all.zn,b.all.zf,b.all.d,b.all.len⟩,b.d0,o5,fun v W T=>b.c v (by have:=vh W;rw[<-e]at this;exact this) T⟩,rfl,G⟩,o5⟩,?_⟩;and_intros<;>first | rfl | exact .inl rfl | assumption | (left;assumption)
theorem tT (E:Kq a m ws s g fr f D)(z:Sn a ws s fr f D z11):WJ a m ws s fr f D z11 z14:=by
 unfold WJ;delta OI N7 No OA OB Ns OQ OR Np Nq Nr OO Nt Nv Nx Nw Nu Ny N2 OW Nz N0 N1 N3 N4 N6 N5 N8 OC N9 OD OE OF OG OH OJ OL ON OS OU;simp only[Zp,R0,R1,F.zero_add,P];intro x ⟨b,v⟩ q;have u:=b.all.okU;have Z:=u.1;have hn:=E.hg.n;have T:=(Zl.1 b.v).1;have U:=u.2 x.v (Zo b.v);have hs:=E.hs;have n: ∀{y:Sk},Sn a ws s fr f D y->y.d=z11.d->K z11.out=K y.out:=fun I Y=>by
  have k1:=I.len;have k2:=z.len;omega
 refine QE (fun k=> ?_) (fun k=> ?_)
 ·have k:x.j<2:=(j7 k)
  have wj:=fK (Zy k);have G:wkC a s {x with j:=x.j+1}<wkC a s x:=aa k x.b;refine⟨⟨o3,o3⟩,rsW x.v x.j,by rw[Zm];exact lP k,QE (fun h=>(j7 h)) (fun _=>QE (fun h=>(j7 h)) (fun _=>QE (fun h=> ?_) (fun r=>QE (fun h=> ?_) (fun t=> ?_))))⟩
  ·have h:=R5 h;refine .inr ⟨{x with j:=x.j+1},⟨⟨qR b k,v⟩,q,G⟩,?_⟩;and_intros<;>first | rfl | exact .inl rfl | assumption | (left;assumption)
  ·have h:=R5 h;refine .inr ⟨{x with j:=x.j+1},⟨⟨qR b k,v⟩,q,G⟩,?_⟩;and_intros<;>first | rfl | exact .inl rfl | assumption | (left;assumption)
  ·have r:=R6 r;have t:=R6 t;have S:0<=rsW x.v x.j/\rsW x.v x.j<=s:=o3
   have H: ∀l:B A,N l.length (O 0 (ints l))=ints l:=fun l=>by
    rw[B.drop_zero];exact Zv (by rw[XG];exact P _)
   have X:(ints x.u).set (x.i:A).toNat [Ze (.int .i64 (rsW x.v x.j))]=ints (x.u.set x.i (rsW x.v x.j)):=by rw[Zm,Gd]
   have R:x.u.length=(x.u.set x.i (rsW x.v x.j)).length:=o6
   refine⟨x.u,rfl,o3,⟨⟨o3,o3⟩,by rw[XG];omega,.inr ⟨{x with w:=x.u.set x.i (rsW x.v x.j)},⟨⟨⟨⟨⟨b.all.zn,b.all.zf,b.all.d,b.all.len⟩,b.d0,b.v,b.j,b.c⟩,k,S,rfl⟩,v⟩,rfl⟩,?_⟩⟩,fun y ⟨c,d⟩ e=>⟨⟨a,m,ws,s,y.w,rfl,rfl,rfl,E.hg,E.hs,c.okW,.inl ⟨y,⟨c,e⟩,?_⟩⟩,?_,?_⟩,fun y ⟨c,d⟩ e=>⟨⟨a,m,ws,s,y.w,rfl,rfl,rfl,E.hg,E.hs,c.okW,.inr ⟨y,⟨c,e⟩,?_⟩⟩,?_,?_⟩⟩
   ·and_intros<;>first | rfl | exact .inl rfl | assumption | (left;assumption)
   ·have W:=H y.w;have V:=n c.all.all d;and_intros<;>first | rfl | exact .inl rfl | assumption | (left;assumption)
   ·obtain⟨_,p,o,_,_⟩:=E.same c.all.any b.any e;exact ef E (z11:=z11) (z14:=z14) (z18:=x) c.all.any e d (by rw[p,o];exact q)
   ·obtain⟨_,p,o,_,_⟩:=E.same c.all.any b.any e;exact fD E (z11:=z11) (z14:=z14) (z18:=x) c.all.any e d (by rw[p,o];exact q)
   ·have W:=H y.w;have V:=n c.all.all d;and_intros<;>first | rfl | exact .inl rfl | assumption | (left;assumption)
   ·obtain⟨_,p,o,_,_⟩:=E.same c.all.any b.any e;exact ef E (z11:=z11) (z14:=z14) (z18:=x) c.all.any e d (by rw[p,o];exact q)
   ·obtain⟨_,p,o,_,_⟩:=E.same c.all.any b.any e;exact fD E (z11:=z11) (z14:=z14) (z18:=x) c.all.any e d (by rw[p,o];exact q)
 ·have k:x.j=2:=by have:=R6 k;have:=b.j;omega
  have wi:L.wrap ((x.i:A)+1)=((x.i+1:F):A):=by rw[w64 o3];simp
  refine .inr ⟨{x with i:=x.i+1,j:=0},⟨⟨⟨⟨b.all.zn,b.all.zf,b.all.d,b.all.len⟩,b.d0,o5,b.c⟩,rfl,v⟩,o5⟩,?_⟩;and_intros<;>first | rfl | exact .inl rfl | assumption | (left;assumption)
theorem QcP (E:Kq a m ws s g fr f D){G:Sk}(_h2:Sn a ws s fr f D G):KU a m ws s fr f D G:=by
 unfold KU;delta OI N7 No OA OB Ns OQ OR Np Nq Nr OO Nv Nx Nu Ny OW Nz N1 N3 N6 N8 OC OD OE OF OJ OM OP OU OV OY OX OZ;simp only[Zp,R0,R1,F.zero_add,P,R4];intro z11 ⟨b,r⟩ T;have spl: ∀l:B (B A),(R spE l).length=K l:=fun l=>o6
 have S:=b.okU;refine⟨.inl ⟨{z11 with i:=0,j:=0},⟨⟨⟨b.zn,b.zf,b.d,b.len⟩,r,F.zero_le _,fun v e=>absurd e QJ5⟩,rfl,rfl⟩,?_⟩,fun x ⟨h,k,q⟩=>QE (fun c=> ?_) (fun c=> ?_),fun x ⟨h,k,q⟩=>QE (fun c=> ?_) (fun c=> ?_)⟩
 ·have O:=XG z11.u;and_intros<;>first | rfl | exact .inl rfl | rw[O]
 ·have c:x.i<K x.u:=(j7 c)
  obtain⟨v,e⟩: ∃v,x.u[x.i]? =some v:=⟨_,B.getElem?_eq_getElem c⟩
  have t:=h.all.okU.2 v (Zo e);have I:=E.hs;refine⟨⟨o3,by rw[XG];omega⟩,v,by rw[Zm];exact We e,.inl ⟨{x with v:=v},⟨⟨⟨⟨h.all.zn,h.all.zf,h.all.d,h.all.len⟩,h.d0,e,o5,h.c⟩,q⟩,rfl⟩,?_⟩,wh E b,tT E b⟩;have H:(0:A)=(x.j:A):=by rw[k];rfl
  have n:L.wrap (v-1)=v-1:=w64 o3;have o:L.wrap (v+1)=v+1:=w64 o3;rw[n,o];and_intros<;>first | rfl | exact .inl rfl | assumption | (left;assumption)
 ·exact(QkJ E.hgo E.hF E.hD h.all h.d0 (by have:=R6 c;have:=h.i;omega) k h.c).elim
 ·have c:x.i<K x.u:=(j7 c)
  obtain⟨v,e⟩: ∃v,x.u[x.i]? =some v:=⟨_,B.getElem?_eq_getElem c⟩
  have t:=h.all.okU.2 v (Zo e);have I:=E.hs;refine⟨⟨o3,by rw[XG];omega⟩,v,by rw[Zm];exact We e,.inr ⟨{x with v:=v},⟨⟨⟨⟨h.all.zn,h.all.zf,h.all.d,h.all.len⟩,h.d0,e,o5,h.c⟩,q⟩,rfl⟩,?_⟩,wh E b,tT E b⟩;have H:(0:A)=(x.j:A):=by rw[k];rfl
  have n:L.wrap (v-1)=v-1:=w64 o3;have o:L.wrap (v+1)=v+1:=w64 o3;rw[n,o];and_intros<;>first | rfl | exact .inl rfl | assumption | (left;assumption)
 ·have V:=E.lt b;have W:=b.len;have X:=h.all.len;have y:z11.out.length=K x.out:=o3
  have z:N z11.out.length (R spE x.out)=R spE x.out:=Zv (by rw[spl];omega);have p:L.wrap (((K z11.out+1:F):A)-1)=(K z11.out:A):=by rw[w64 o3];omega
  have w:R spE x.out++[[Zj 1 (ints x.b)]]=R spE (x.out++[x.b]):=by simp[spE]
  refine⟨⟨o3,o3⟩,⟨by rw[p];omega,by rw[p];omega⟩,ints x.b,?_,{x with out:=x.out++[x.b],u:=x.b,d:=x.d-1},⟨QcN h.all h.d0 h.c x,by have:=h.d0;simp only;omega⟩,?_⟩
  ·rw[p,z,w,Zm];exact nO (by rw[y];simp)
  ·rw[z,w];have U:z11.out.length+1=(x.out++[x.b]).length:=by simp[y]
   and_intros<;>first | rfl | exact .inl rfl | assumption | (left;assumption)
theorem Qho (b:Kq a m ws s g fr f D):QM (Xp (X:=B (B A)) QeR QcL (QXb a m ws s fr f D) Tryz.f30 [.x J [.p 1000 0],.x J [.s 1 (ints fr)]] [(1000,seB a m ws s (.m 6000)),(6000,.mp f)] (fun o=>ZW a ws s fr g o/\o.length=D+1) (fun o=>⟨[(4,.x J [.w 500 0 o.length])],[(500,Kp o),(1000,seB a m ws s (.m 6000)),(6000,.mp f)]⟩)):=by
 refine HV ((∃(p:Sk),(Sn a ws s fr f D p/\N1=0)/\0=0/\0=0/\1=Nx p/\OY (ints fr) p (N3 ([[Zj 1 (ints fr)]]=OB p\/QC [[Zj 1 (ints fr)]] (OB p)) a a a a a a a a a a a a (1=1/\Ny m ws m ws/\s=s/\f=f/\H)))/\∀(d:Sk),Sn a ws s fr f D d->N1=0->∃(i:ArmV)(N:F)(O:B (B (E×E)))(q:A)(r:B A),N2 a a a a a a m ws s=N2 i i i i i i N O q/\N7 d=ints r/\QJ i/\OH q q/\OG r i (fun v=>r) (fun u=>q)/\N9 a a a a a a m ws s=N9 a a a a a a m ws s/\M f=M f/\bif decide (N0 f q r>0)then∃(G:B A),N7 d=ints G/\(∃(z:Sk),((Sn a ws s fr f D z/\0<z.d)/\z.d=d.d)/\0=0/\109=109/\0=0/\0=0/\Nx d=Nx z/\0=0/\22=22/\OC/\3=3/\s=s/\22=22/\1=1/\ints G=N7 z/\80=80/\0=0/\OD d z (N8 (Nz d z d z) a a a a a a a a a a a a (Ny m ws m ws/\s=s/\f=f/\H)))/\KU a m ws s fr f D d else∃(c:B (B A)),(ZW a ws s fr g c/\c.length=D+1)/\0=0/\Nx d=K c/\22=22/\N8 (OB d=R spE c\/QC (OB d) (R spE c)) a a a a a a a a a a a a (Ny m ws m ws/\s=s/\f=f/\H)) ?_
 delta N7 OB Ns OQ OR OO Nx Ny N2 OW Nz N0 N1 N3 N8 OC N9 OD OG OH OY
 simp only[R0,R1,P,R4];have n:=(b.hF.found.2 D b.hD).1;refine⟨⟨⟨[fr],fr,D,0,0,0,[],[]⟩,⟨⟨rfl,rfl,fun l w=> ?_,fun k x y h t=> ?_⟩,n,P _,by simp only[Zw];omega⟩,?_⟩,fun x h=>⟨a,m,ws,s,x.u,rfl,rfl,b.hg,b.hs,h.okU,QE (fun e=> ?_) (fun e=> ?_)⟩⟩
 ·have:l=fr:=(j9 w)
  rw[this];exact b.hfo
 ·have t:[fr][k+1]? =some y:=t
  simp at t
 ·and_intros<;>first | rfl | exact .inl rfl | assumption | (left;assumption)
 ·rw[b.zf h]at e;have e:0<x.d:=by have:=R5 e;rw[Zq]at this;omega
  refine⟨x.u,rfl,⟨x,⟨⟨h,e⟩,rfl⟩,?_⟩,QcP b h⟩;and_intros<;>first | rfl | exact .inl rfl | assumption | (left;assumption)
 ·rw[b.zf h]at e;have e:x.d=0:=by have:=R6 e;rw[Zq]at this;omega
  have j:=b.hF.found.1 x.u x.d h.okU h.zf;rw[e]at j;have I:x.u=g:=Dst.zero_iff.1 j;have w:=h.len;refine⟨x.out,⟨I▸h.zn,o3⟩,?_⟩;and_intros<;>first | rfl | exact .inl rfl | assumption | (left;assumption)
end
end Go.Proofs
