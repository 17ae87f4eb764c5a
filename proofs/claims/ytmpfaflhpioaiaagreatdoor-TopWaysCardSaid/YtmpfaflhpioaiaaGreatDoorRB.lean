/- Digits of a base, the highest first. -/
import Derived.Test.YtmpfaflhpioaiaaGreatDoorRN
open Bool renaming false → A
open _root_ renaming Int → B, List → C, Rat → F, Nat → G, True → H
open Option renaming some → D, none → J
open List renaming length → E, take → N, getElem?_eq_getElem → Zf, map → Zd, drop → Zj, take_of_length_le → Zg, mem_of_getElem? → Zi, take_add_one → Zo
open Int renaming ofNat → I, pow_succ → Zq, ofNat_eq_natCast → Zn
open Go.Eng.Ch renaming r → L, v → Zk
open Go.IntKind renaming i64 → M
open Go.Value renaming int → Ze, bool → Zm, slice → Zh, string → Zp
set_option maxHeartbeats 1000000
set_option maxRecDepth 100000
namespace Go.Proofs
def numV (s:B):C B->B
  | []=>0
  | k::l=>k*(s+1)^l.length+numV s l
variable{s:B}
theorem Ub(h:0<=s)(n:G):1<=(s+1)^n:=by
 induction n with
 | zero=>simp
 | succ n i=>
  rw[Zq];have:(s+1)^n*1<=(s+1)^n*(s+1):=B.mul_le_mul_of_nonneg_left (by omega) (by omega);omega
theorem Uc(b:0<=s): ∀{l:C B},(∀k∈l,0<=k/\k<=s)->0<=numV s l/\numV s l<(s+1)^l.length:=by
 intro l;induction l with
 | nil=>intro _;simp[numV]
 | cons k l i=>
  intro h;have a:=h k (by simp);obtain⟨j,m⟩:=i fun z c=>h z (by simp[c]);have g:=Ub b l.length;unfold numV;rw[C.length_cons,Zq];have d:0<=k*(s+1)^l.length:=B.mul_nonneg a.1 (by omega);have e:k*(s+1)^l.length<=s*(s+1)^l.length:=B.mul_le_mul_of_nonneg_right a.2 (by omega);have f:(s+1)^l.length*(s+1)=s*(s+1)^l.length+(s+1)^l.length:=by grind
  omega
theorem QRo{l:C B}{i:G}{k n:B}(h:l[i]? =D k)(b:n*(s+1)^(E l-i)+numV s (l.drop i)=numV s l):(n*(s+1)+k)*(s+1)^(E l-(i+1))+numV s (l.drop (i+1))=numV s l:=by
 have a:=(C.getElem?_eq_some_iff.1 h).1;have e:l.drop i=k::l.drop (i+1):=by
  rw[C.drop_eq_getElem_cons a];rw[Zf a]at h;rw[Option.some.inj h]
 rw[e,numV,C.length_drop,show l.length-i=(E l-(i+1))+1 by omega,Zq]at b;grind
end Go.Proofs
namespace Go.Proofs
open Go Go.Eng Tryz
def Qb2 (l:C B)(m:C B):LI:=fun _=> .inv ⟨G,fun i=>⟨[(0,.x A [.s 1 (ints l)]),(1,.x A [.s 1 (ints m)]),(12,iA .i64 l.length),(13,iA .i64 i)],[]⟩,fun i=>i<=E l/\l.take i=m.take i,fun i=>E l-i,fun _=>0⟩
def MT(a b:C B):=ints a=ints b
def MU(a b c d:C B):=MT a b\/QC (ints c) (ints d)
def MX(a b:C B):=N a.length (Zj 0 (ints b))
theorem QW8 (l:C B)(h0:l≠[])(h:l.length*8<=140737488355328):QM (Xp (X:=Unit) Qj4 (oF f110) noL f110 [.x A [.w 1000 0 l.length]] [(1000,YV l)] (fun _=>H) (fun _=>⟨[(2,.x A [.w 500 0 l.length])],[(1000,YV l),(500,YV l)]⟩)):=by
 refine HV (l.length≠0/\((0+(MX l l).length)*8<=140737488355328/\0+(MX l l).length<=9223372036854775807)/\∃(_x:Unit),H/\0=0/\0+(MX l l).length=E l/\3=3/\1=1/\MU l l l l/\3=3/\1=1/\(MX l l=ints l\/QC (MX l l) (ints l))/\H) ?_
 delta MT MU MX
 simp only[R0,R1,G.zero_add,R2];have e:N l.length (Zj 0 (ints l))=ints l:=by rw[C.drop_zero,Zg (by rw[XG];exact G.le_refl _)]
 rw[e,XG];exact⟨fun e=>h0 (C.length_eq_zero_iff.1 e),⟨h,o3⟩,(),rfl,.inl rfl⟩
def q5:XS:=fun a H d=>match a with
 | [.x A [.w k o n]]=>match o with
  | 0=>match H k with
   | some (.row t 1 y)=>match H d with
    | none=>bif t.beq 3 then
     D fun K=> ∃l:C B,y=ints l/\n=E l/\(l≠[]/\l.length*8<=140737488355328)/\
      K (.x A [.w d 0 l.length]) (XW [(1000,k),(500,d)] (QO [(1000,YV l),(500,YV l)]) H)
     else J
    | some _=>J
   | _=>J
  | _+1=>J
 | _=>J
theorem QMu:Xg 110 q5:=by
 refine⟨Qf func110 o4,fun l H d T a K g=> ?_⟩;unfold q5 at a;split at a
 ·rename_i k o n;split at a
  ·split at a
   ·rename_i t y i;split at a
    ·rename_i m;cases e:t.beq 3 with
     | false=>rw[e]at a;cases a
     | true=>
      rw[e]at a;cases a
      have r:=G.eq_of_beq_eq_true e;subst r;obtain⟨l,rfl,rfl,⟨j,q⟩,g⟩:=g;refine Xc (R:=[(1000,k)]) (N:=[(500,d)]) (Hl:=[(1000,YV l)]) QhW QK func110 o4 o4 j6
       (as0:=[.x A [.w 1000 0 l.length]]) ?_ (Kk i rfl rfl) rfl o6 o6 (fun p c=>by simp at c;subst c;exact m) (fun x=>⟨fun p c=> ?_,fun p c b e=> ?_⟩) (QW8 l j q) (fun x u=> ?_)
      ·simp[X7,X2,XZ,lkB]
      ·simp at c;subst c;exact fun h=>by have f:D (YV _)=J:=h;cases f
      ·simp at c;rcases c with rfl | rfl
       ·have f:D (YV _)=D b:=e;cases f;rfl
       ·have f:D (YV _)=D b:=e;cases f;rfl
      ·exact⟨_,rfl,g⟩
    ·cases a
   ·cases a
  ·cases a
 ·cases a
def ky:C (G×XS):=(110,q5)::aJ
theorem QW9:XK ky:= .cons QMu eJ
def MM(a:C B):=I a.length
def MN:G:=OfNat.ofNat 0
def MP:=Zh J 0 0
def MS(a:G)(b:ArmV)(c:B)(d:C B):=Zd (fun(z:F)=>[L z 319]) (N a (XQ b c d))
def MV(a:ArmV):=Zd Wv a.za
def MW(a:ArmV)(b:B)(c:C B):=Zd (fun(z:F)=>[L z 319]) (XQ a b c)
def MZ(a b c d e f:ArmV):C Ch:=[Zk (Zp a.name),L b.x 63,L c.y 63,Zk (Zm d.half),L e.t 63,Ch.s 16 (Zd QA f.za)]
theorem QhY (a:ArmV)(s:B)(ks:C B)(j:QJ a)(p:1<=s/\s<=12)(n:ks.length=E a.za)(l: ∀k∈ks,0<=k/\k<=s):QM (Xp (X:=Unit) (mkTV Z5 ky X4) (oF f25) (fun _=> .inv ⟨G,fun i=>⟨[(1,iA .i64 s),(2,.x A [.w 1000 0 ks.length]),(9,.x A [.s 1 (a.za.map Wv)]),(11,.x A [.w 500 0 i]),(36,.x A [.w 1000 0 ks.length]),(37,iA .i64 ks.length),(38,iA .i64 i)],[(1000,YV ks),(500,YU 319 ((XQ a s ks).take i))]⟩,fun i=>i<=E ks,fun i=>E ks-i,fun _=>0⟩) f25 [JV a,iA .i64 s,.x A [.w 1000 0 ks.length]] [(1000,YV ks)] (fun _=>H) (fun _=>⟨[(6,.x A [.w 500 0 ks.length]),(7,iA .i64 0)],[(1000,YV ks),(500,YU 319 (XQ a s ks))]⟩)):=by
 refine HV (∃(e:ArmV),MZ a a a a a a=MZ e e e e e e/\(QJ e/\1<=s/\s<=12)/\bif MM ks !=I (Zd QA a.za).length then∃(v:Unit),H/\MP=MP/\0=0/\ks.length=0/\(1:B)=0/\3=3/\1=1/\MU ks ks ks ks/\MW a s ks=[]/\H else∃(c:ArmV),MZ a a a a a a=MZ c c c c c c/\QJ c/\(∃(x:G),(x<=E ks/\MN=0)/\s=s/\0=0/\ks.length=E ks/\1=1/\MV c=MV a/\MP=MP/\0=0/\x=0/\0=0/\ks.length=E ks/\MM ks=MM ks/\0=I x/\3=3/\1=1/\MU ks ks ks ks/\MS x a s ks=[]/\H)/\∀(x:G),x<=E ks->MN=0->bif decide (I x<MM ks)then(0<=I x/\I x<MM ks)/\∃(d:B),ldE (ints ks) (0+(I x).toNat) 0 1=D [Zk (Ze M d)]/\bif decide (d<0)then∃(u:Unit),H/\MP=MP/\0=0/\ks.length=0/\(17:B)=0/\3=3/\1=1/\MU ks ks ks ks/\MW a s ks=[]/\H else bif decide (d>s)then∃(z:Unit),H/\MP=MP/\0=0/\ks.length=0/\(17:B)=0/\3=3/\1=1/\MU ks ks ks ks/\MW a s ks=[]/\H else(((-9223372036854775808<=d/\d<9223372036854775808)/\ -9223372036854775808<=s/\s<9223372036854775808)/\(↑s:F)≠OfNat.ofNat 0)/\(0<=I x/\I x<I (MV a).length)/\∃(m:C Ch),ldE (MV a) (I x).toNat 0 1=D [Ch.i 173 true m]/\∃(b:QV),m=[L b.len 63,L b.lo 63,L b.hi 63,L b.sp 63,L b.br 63,Ch.s 6 (Zd XL b.shape)]/\128<=1000000/\((x+1)*40<=140737488355328/\x+1<=9223372036854775807)/\∃(g:G),(g<=E ks/\MN=0/\ks.length-g<E ks-x)/\s=s/\0=0/\ks.length=E ks/\1=1/\MV a=MV a/\0=0/\x+1=g/\0=0/\ks.length=E ks/\MM ks=MM ks/\M.wrap (I x+1)=I g/\3=3/\1=1/\MU ks ks ks ks/\25=25/\3=3/\(N x (MS x a s ks)++[[L (b.lo+(b.hi-b.lo)*((↑d:F)/(↑s:F))) 319]]=MS g a s ks\/QC (N x (MS x a s ks)++[[L (b.lo+(b.hi-b.lo)*((↑d:F)/(↑s:F))) 319]]) (MS g a s ks))/\H else∃(_x_1:Unit),H/\0=0/\x=E ks/\(0:B)=0/\3=3/\1=1/\MU ks ks ks ks/\25=25/\3=3/\(MS x a s ks=MW a s ks\/QC (MS x a s ks) (MW a s ks))/\H) ?_
 delta MM MT MN MP MU MS MV MW MZ
 simp only[Zn,R0,R1,G.zero_add,R4,R2];obtain⟨r,t⟩:=p;have y:=j.n;have O:(XQ a s ks).length=E ks:=by simp[XQ,n]
 simp only[C.length_map];refine⟨a,rfl,⟨j,r,t⟩,QE (fun h=>by simp[n]at h) (fun _=>⟨a,rfl,j,⟨0,o3,rfl,rfl,rfl,rfl⟩,fun x K=>QE (fun f=> ?_) (fun f=> ?_)⟩)⟩
 ·have f:x<E ks:=(j7 f)
  obtain⟨k,hk⟩: ∃k,ks[x]? =D k:=⟨_,Zf f⟩
  have o:=l k (Zi hk);obtain⟨b,hL⟩: ∃b,a.za[x]? =D b:=⟨_,Zf o3⟩
  have q:(XQ a s ks)[x]? =D (aV s b k):=by simp[XQ,C.getElem?_zipWith,hL,hk]
  refine⟨o3,k,We ((j9 hk)),QE (fun h=>(j7 h)) (fun _=>QE (fun h=>(j7 h)) (fun _=>⟨⟨o3,?_⟩,o3,_,zu ((j9 hL)),b,rfl,o3,o3,x+1,⟨o3,o3⟩,rfl,by rw[w64 o3];simp,.inl ?_⟩))⟩
  ·intro h;have w:(0:F)<((s:B):F):=F.intCast_pos.2 o3;grind
  ·rw[Zg (by rw[C.length_map,C.length_take];omega),Zo,q,C.map_append];rfl
 ·have f:x=E ks:=(j8 f)
  subst f;exact⟨(),by first | trivial | rfl,.inl (by rw[Zg o3])⟩
def kB:XS:=fun c H d=>match c with
 | [.x true x,.x A [.v (.int .i64 s)],.x A [.w k o n]]=>match o with
  | 0=>match H k with
   | some (.row t 1 y)=>match H d with
    | none=>bif t.beq 3 then
     D fun K=> ∃(a:ArmV) (b:C B),x=Qp a/\y=ints b/\n=E b/\QJ a/\(1<=s/\s<=12)/\b.length=E a.za/\(∀k∈b,0<=k/\k<=s)/\
      K (.t [(A,[.w d 0 b.length]),(A,[.v (.int .i64 0)])]) (XW [(1000,k),(500,d)] (QO [(1000,YV b),(500,YU 319 (XQ a s b))]) H)
     else J
    | some _=>J
   | _=>J
  | _+1=>J
 | _=>J
theorem QXA:Xg 25 kB:=by
 refine⟨Qf func25 o4,fun l H d T c K i=> ?_⟩;unfold kB at c;split at c
 ·rename_i B s k o n;split at c
  ·split at c
   ·rename_i t C q;split at c
    ·rename_i u;cases f:t.beq 3 with
     | false=>rw[f]at c;cases c
     | true=>
      rw[f]at c;cases c
      have y:=G.eq_of_beq_eq_true f;subst y;obtain⟨a,m,rfl,rfl,rfl,r,w,v,j,i⟩:=i;refine Xc (R:=[(1000,k)]) (N:=[(500,d)]) (Hl:=[(1000,YV m)]) (KT dY QW9 Qb) QK func25 o4 o4 j6
       (as0:=[JV a,iA .i64 s,.x A [.w 1000 0 m.length]]) ?_ (Kk q rfl rfl) rfl o6 o6 (fun p e=>by simp at e;subst e;exact u) (fun x=>⟨fun p e=> ?_,fun p e b f=> ?_⟩) (QhY a s m r w v j) (fun x z=> ?_)
      ·simp[X7,X2,XZ,lkB,JV,Qp];rfl
      ·simp at e;subst e;exact fun h=>by have g:D (YV _)=J:=h;cases g
      ·simp at e;rcases e with rfl | rfl
       ·have g:D (YV _)=D b:=f;cases g;rfl
       ·have g:D (YU _ _)=D b:=f;cases g;rfl
      ·exact⟨_,rfl,i⟩
    ·cases c
   ·cases c
  ·cases c
 ·cases c
def ea:C (G×XS):=(25,kB)::ky
noncomputable def QhZ:Qd:=mkTV Z5 ea X4
theorem QXB:XK ea:= .cons QXA QW9
theorem uU:Qr QhZ:=KT dY QXB Qb
def MR(a:B):Bool×C Ch:=(A,[Zk (Ze M a)])
def MO(a:C B):=I (ints a).length
def MY(a:Bool)(b:AV->Prop)(c:Prop):=bif a then b (AV.t [MR 0,MR 1])else c
theorem QXD (n:B)(s:B)(l:C B)(p:((1<=E l/\l.length<=3)/\n=E l)/\(1<=s/\s<=12)/\(∀k∈l,0<=k/\k<=s))(K:AV->Prop)(o:K (.t [(A,[.v (.int .i64 (numV s l))]),(A,[.v (.int .i64 0)])])):QM (QN QhZ (oF f68) (fun _=> .inv ⟨G×B,fun x=>⟨[(1,iA .i64 s),(8,iA .i64 x.2),(31,.x A [.s 1 (ints l)]),(32,iA .i64 l.length),(33,iA .i64 x.1)],[]⟩,fun x=>x.1<=E l/\x.2*(s+1)^(E l-x.1)+numV s (l.drop x.1)=numV s l/\0<=x.2/\x.2<13^x.1,fun x=>E l-x.1,fun _=>0⟩) f68 [iA .i64 n,iA .i64 s,.x A [.s 1 (ints l)]] K):=by
 refine HV (MY (decide (n<1)) K (MY (decide (n>3)) K (MY (decide (s<1)) K (MY (decide (s>12)) K (MY (MO l !=n) K ((∃(x:G×B),((x.1<=E l/\x.2*(s+1)^(E l-x.1)+numV s (Zj x.1 l)=numV s l/\0<=x.2/\x.2<13^x.1)/\MN=0)/\s=s/\0=x.2/\1=1/\MT l l/\MO l=MM l/\0=I x.1/\H)/\∀(x:G×B),x.1<=E l/\x.2*(s+1)^(E l-x.1)+numV s (Zj x.1 l)=numV s l/\0<=x.2/\x.2<13^x.1->MN=0->bif decide (I x.1<MM l)then(0<=I x.1/\I x.1<MO l)/\∃(d:B),ldE (ints l) (I x.1).toNat 0 1=D [Zk (Ze M d)]/\bif decide (d<0)then K (AV.t [MR 0,MR 17])else bif decide (d>s)then K (AV.t [MR 0,MR 17])else∃(a:G×B),((a.1<=E l/\a.2*(s+1)^(E l-a.1)+numV s (Zj a.1 l)=numV s l/\0<=a.2/\a.2<13^a.1)/\MN=0/\l.length-a.1<E l-x.1)/\s=s/\M.wrap (M.wrap (x.2*M.wrap (s+1))+d)=a.2/\1=1/\MT l l/\MM l=MM l/\M.wrap (I x.1+1)=I a.1/\H else K (AV.t [MR x.2,MR 0]))))))) ?_
 delta MR MM MT MN MO MY
 try simp only[Zn,R0,R1,R4]
 obtain⟨⟨⟨u,v⟩,rfl⟩,⟨N,O⟩,q⟩:=p;have m:M.wrap (s+1)=s+1:=w64 o3;simp only[XG,m];refine QE (fun h=>(j7 h)) (fun _=>QE (fun h=>(j7 h)) (fun _=>QE (fun h=>(j7 h)) (fun _=>QE (fun h=>(j7 h)) (fun _=>QE (fun h=>by simp at h) (fun _=>⟨⟨(0,0),⟨G.zero_le _,o6,o6,o6⟩,rfl,by first | trivial | rfl,rfl⟩,fun x j=>QE (fun b=> ?_) (fun b=> ?_)⟩)))))
 ·obtain⟨i,n⟩:=x;obtain⟨g,c,e,f⟩:=j;simp only at g c e f b|-;have b:i<E l:=(j7 b)
  obtain⟨k,hkk⟩: ∃k,l[i]? =D k:=⟨_,Zf b⟩
  have w:=q k (Zi hkk);have r:n<=168:=by
   have:i=0\/i=1\/i=2:=o3
   rcases this with rfl | rfl | rfl<;>simp at f<;>omega
  have y:0<=n*(s+1):=B.mul_nonneg e o3;have z:n*(s+1)<=168*13:=B.mul_le_mul r o3 o3 o3;have F:n*(s+1)<=(13^i-1)*13:=B.mul_le_mul o3 o3 o3 o3;have t:(13:B)^(i+1)=13^i*13:=Zq ..;refine⟨o3,k,We ((j9 hkk)),QE (fun h=>(j7 h)) (fun _=>QE (fun h=>(j7 h)) (fun _=>⟨(i+1,n*(s+1)+k),⟨⟨o5,QRo hkk c,o5,by simp only;rw[t];omega⟩,o5⟩,by rw[w64 (n:=n*(s+1)) o3,w64 o3],by rw[w64 o3];simp⟩))⟩
 ·obtain⟨i,n⟩:=x;obtain⟨g,c,e,f⟩:=j;simp only at g c e f b|-;have b:i=E l:=(j8 b)
  subst b;rw[C.drop_length,G.sub_self]at c;have:n=numV s l:=by rw[<-c];simp[numV]
  rw[this];exact o
def GY:Ctr
 | [.x A [.v (.int .i64 n)],.x A [.v (.int .i64 s)],.x A [.s 1 y]]=>D fun K=> ∃(l:C B),y=ints l/\(((1<=E l/\l.length<=3)/\n=E l)/\(1<=s/\s<=12)/\(∀k∈l,0<=k/\k<=s))/\(K (.t [(A,[.v (.int .i64 (numV s l))]),(A,[.v (.int .i64 0)])]))
 | _=>J
theorem QFg:QH 68 GY:=by
 refine okL func68 fun l T a K h=> ?_
 unfold GY at a;split at a<;>cases a
 obtain⟨l,rfl,b,h⟩:=h;exact spL uU QK func68 (QXD _ _ _ b K h)
def kj:LC:=(68,GY)::Z5
theorem Qhb:QF kj:= .cons QFg dY
def Ma(a:Bool):=AV.x A [Zk (Zm a)]
theorem Qb4 (l:C B)(m:C B)(j:(E l<=1000/\m.length<=1000))(K:AV->Prop)(b:K (.x A [.v (.bool (decide (l=m)))])):QM (QN (mkTV kj ea X4) (oF f65) (Qb2 l m) f65 [.x A [.s 1 (ints l)],.x A [.s 1 (ints m)]] K):=by
 refine HV (bif MO l !=MO m then K (Ma A)else(∃(x:G),((x<=E l/\N x l=N x m)/\MN=0)/\1=1/\MT l l/\1=1/\MT m m/\MO l=MM l/\0=I x/\H)/\∀(x:G),x<=E l/\N x l=N x m->MN=0->bif decide (I x<MM l)then(0<=I x/\I x<MO l)/\∃(d:B),ldE (ints l) (I x).toNat 0 1=D [Zk (Ze M d)]/\(0<=I x/\I x<MO m)/\∃(f:B),ldE (ints m) (I x).toNat 0 1=D [Zk (Ze M f)]/\bif d !=f then K (Ma A)else∃(g:G),((g<=E l/\N g l=N g m)/\MN=0/\l.length-g<E l-x)/\1=1/\MT l l/\1=1/\MT m m/\MM l=MM l/\M.wrap (I x+1)=I g/\H else K (Ma true)) ?_
 delta MM MT MN MO Ma
 try simp only[Zn,R0,R1,R4]
 obtain⟨n,k⟩:=j;simp only[XG];refine QE (fun h=> ?_) (fun h=>⟨⟨0,⟨o3,rfl⟩,by first | trivial | rfl,rfl⟩,fun x i=>QE (fun c=> ?_) (fun c=> ?_)⟩)
 ·have h:l.length≠m.length:=fun e=>by rw[e]at h;simp at h
  have:decide (l=m)=A:=by simp;exact fun e=>h (by rw[e])
  rw[this]at b;exact b
 ·have h:l.length=E m:=by simp at h;omega
  have c:x<E l:=(j7 c)
  obtain⟨p,hpp⟩: ∃p,l[x]? =D p:=⟨_,Zf c⟩
  obtain⟨q,hqq⟩: ∃q,m[x]? =D q:=⟨_,Zf o3⟩
  simp only[B.toNat_natCast];refine⟨o3,p,We hpp,o3,q,We hqq,QE (fun a=> ?_) (fun a=> ?_)⟩
  ·have a:p≠q:=(j9 a)
   have:decide (l=m)=A:=by
    simp;intro e;rw[e,hqq]at hpp;exact a (Option.some.inj hpp).symm
   rw[this]at b;exact b
  ·have a:p=q:=(j9 a)
   subst a;refine⟨x+1,⟨⟨o3,?_⟩,o3⟩,by rw[w64 o3];simp⟩;rw[Zo,Zo,i.2,hpp,hqq]
 ·have h:l.length=E m:=by simp at h;omega
  have c: ¬x<E l:=(j8 c)
  have e:=i.2;rw[Zg o3,Zg o3]at e;have:decide (l=m)=true:=(j9 e)
  rw[this]at b;exact b
def di:Ctr
 | [.x A [.s 1 x],.x A [.s 1 y]]=>D fun K=> ∃(l:C B) (m:C B),x=ints l/\y=ints m/\((E l<=1000/\m.length<=1000))/\(K (.x A [.v (.bool (decide (l=m)))]))
 | _=>J
theorem QXE:QH 65 di:=by
 refine okL func65 fun l T a K h=> ?_
 unfold di at a;split at a<;>cases a
 obtain⟨l,m,rfl,rfl,b,h⟩:=h;exact spL (KT Qhb QXB Qb) QK func65 (Qb4 _ _ b K h)
def Qk7:LC:=(65,di)::kj
theorem Qb5 {a:ArmV}{s:B}{ks:C B}(l:QJ a)(r:1<=s)(hk: ∀k∈ks,0<=k/\k<=s):Fit a (XQ a s ks):=by
 intro i b q e d;unfold XQ at d;rw[C.getElem?_zipWith_eq_some]at d;obtain⟨c,k,f,h,rfl⟩:=d;rw[e]at f;cases f
 obtain⟨m,n⟩:=hk k (Zi h);have p:=(l.za b (Zi e)).lim;have s0:(0:F)<(s:F):=F.intCast_pos.2 o3;have j:(s:F)*(s:F)⁻¹=1:=F.mul_inv_cancel _ j4;have g:0<(s:F)⁻¹:=F.inv_pos.2 s0;have y:0<=(k:F)/(s:F):=by
  rw[F.div_def];exact F.mul_nonneg (F.intCast_nonneg.2 m) (F.le_of_lt g)
 have o:(k:F)/(s:F)<=1:=by
  rw[F.div_def,<-j];exact F.mul_le_mul_of_nonneg_right (F.intCast_le_intCast.2 n) (F.le_of_lt g)
 unfold aV;have z:=F.mul_nonneg (j4:0<=b.hi-b.lo) y;have t:=F.mul_le_mul_of_nonneg_left o (j4:0<=b.hi-b.lo);constructor<;>grind
def Qk8:LC:=Qk7
noncomputable def Qlf:Qd:=mkTV Qk8 ea X4
end Go.Proofs
