/- The stream of raw numbers. -/
import Derived.Test.YtjdhppdpbkoihaaGreatDoorR1
open Int renaming ofNat → Za, ofNat_eq_natCast → Zd
open List renaming map → Zb, getElem?_eq_getElem → Ze
open Go.IntKind renaming i64 → Zc
namespace Go.Proofs
open Go Go.Eng
def ints (l:List Int):List (List Ch):=l.map fun n=>[Ch.v (.int .i64 n)]
theorem QKK (l:List Int):(ints l).length=l.length:=by simp[ints]
def M30:List (Nat×Xi):=M23
theorem QTU:Xx M30:=QKH
end Go.Proofs
namespace Go.Proofs
open Go Go.Eng
def Qp (n:Nat)(p:Rat×Rat):List Ch:=[.r p.1 n,.r p.2 n]
def at4 (x y:Int):Rat×Rat:=(mkRat x 4,mkRat y 4)
def L31:LC:=L26
theorem QTV:QC L31:=QTT
def QTW (x y u v:Int):List (Rat×Rat):=[at4 x y,at4 u y,at4 u v,at4 x v]
def L32:LC:=L31
noncomputable def T32:QY:=mkT L32 M30 X4
theorem QTX:QC L32:=QTV
structure QDU where
 len:Rat
 lo:Rat
 hi:Rat
 sp:Rat
 br:Rat
 shape:List (Rat×Rat)
structure QTY where
 name:ByteArray
 x:Rat
 y:Rat
 half:Bool
 t:Rat
 links:List QDU
def QQ7 (long i j s b:Int)(tri:Bool):QDU:=⟨mkRat long 4,mkRat (-1-i) 3,mkRat (1+j) 3,mkRat 1 (4+s).toNat,mkRat 1 (10+b).toNat,bif tri then[at4 (-1) (-1),at4 (long+1) 0,at4 (-1) 1]else QTW (-1) (-1) (long+1) 1⟩
def MadeLink (L:QDU):Prop:= ∃r i j s b:Int,∃tri,(0<=r/\r<4)/\(0<=i/\i<6)/\(0<=j/\j<6)/\(0<=s/\s<8)/\(0<=b/\b<20)/\L=QQ7 (4+2*r) i j s b tri
def QU9:ByteArray:=⟨⟨[111,110,101]⟩⟩
structure Made (a:QTY):Prop where
 name:a.name=QU9
 x:a.x=mkRat 0 4
 y:a.y=mkRat 0 4
 half:a.half=false
 t: ∃c d:Int,(-1<=c/\c<=1)/\(1<=d/\d<=3)/\a.t=mkRat c d.toNat
 n:a.links.length<=3
 links: ∀L∈a.links,MadeLink L
theorem Made.add {a:QTY}{L:QDU}(h:Made a)(hL:MadeLink L)(hn:a.links.length<3):Made {a with links:=a.links++[L]}:=
 ⟨h.name,h.x,h.y,h.half,h.t,by simp only[List.length_append,List.length_cons,List.length_nil];omega,fun M hM=>by
  rcases List.mem_append.1 hM with hM | hM
  ·exact h.links M hM
  ·rw[List.mem_singleton.1 hM];exact hL⟩
end Go.Proofs
namespace Go.Proofs
open Go Go.Eng
def M33:List (Nat×Xi):=M30
theorem QDV:Xx M33:=QTU
def L34:LC:=L32
noncomputable def T34:QY:=mkT L34 M33 X4
theorem QTZ:QC L34:=QTX
end Go.Proofs
namespace Go.Proofs
open Go Go.Eng
def lft (a b c:Rat×Rat):Rat:=(b.1-a.1)*(c.2-a.2)-(b.2-a.2)*(c.1-a.1)
structure Js (l:List (Rat×Rat)):Prop where
 lo:3<=l.length
 hi:l.length<=8
 left: ∀i k a b c,2<=k->k<l.length->l[i]? =some a->l[(i+1) % l.length]? =some b->l[(i+k) % l.length]? =some c->0<lft a b c
def L35:LC:=L34
theorem QPX:QC L35:=QTZ
theorem QQ8 (px:Rat)(a:Nat)(py:Rat)(b:Nat)(qx:Rat)(c:Nat)(qy:Rat)(d:Nat)(hc:(a+c<=4294967290)/\(b+d<=4294967290))(K:AV->Prop)(hK:K (.x true [.r (px-qx) (a+c+1),.r (py-qy) (b+d+1)])):QN (QU (mkT L35 M33 X4) (oF Tryz.f40) noL Tryz.f40 [.x true [.r px a,.r py b],.x true [.r qx c,.r qy d]] K):=by
 refine HV ((a+c+1<=4294967296/\b+d+1<=4294967296/\K (AV.x true [Ch.r (px-qx) (a+c+1),Ch.r (py-qy) (b+d+1)]))) ?_
 try simp only[Zd,R0,R1,Nat.zero_add,Nat.le_refl,R4,R2,R3]
 exact⟨by omega,by omega,hK⟩
def QFN:Ctr
 | [.x true [.r px a,.r py b],.x true [.r qx c,.r qy d]]=>some fun K=>((a+c<=4294967290)/\(b+d<=4294967290))/\(K (.x true [.r (px-qx) (a+c+1),.r (py-qy) (b+d+1)]))
 | _=>none
theorem QNo:QH 40 QFN:=by
 refine okL Tryz.func40 fun l T hT K hK=> ?_
 unfold QFN at hT;split at hT<;>cases hT
 obtain⟨hc,hK⟩:=hK;exact spL (QW QPX QDV Q0) QO Tryz.func40 (QQ8 _ _ _ _ _ _ _ _ hc K hK)
def L36:LC:=(40,QFN)::L35
theorem QPY:QC L36:= .cons QNo QPX
theorem QKL (px:Rat)(a:Nat)(py:Rat)(b:Nat)(qx:Rat)(c:Nat)(qy:Rat)(d:Nat)(hc:(a+b+c+d<=4294967290))(K:AV->Prop)(hK:K (rA (px*qy-py*qx) (a+d+(b+c)+1))):QN (QU (mkT L36 M33 X4) (oF Tryz.f64) noL Tryz.f64 [.x true [.r px a,.r py b],.x true [.r qx c,.r qy d]] K):=by
 refine HV ((a+d<=4294967296/\b+c<=4294967296/\a+d+(b+c)+1<=4294967296/\K (AV.x true [Ch.r (px*qy-py*qx) (a+d+(b+c)+1)]))) ?_
 try simp only[Zd,R0,R1,Nat.zero_add,Nat.le_refl,R4,R2,R3]
 exact⟨by omega,by omega,by omega,hK⟩
def GN:Ctr
 | [.x true [.r px a,.r py b],.x true [.r qx c,.r qy d]]=>some fun K=>((a+b+c+d<=4294967290))/\(K (rA (px*qy-py*qx) (a+d+(b+c)+1)))
 | _=>none
theorem QID:QH 64 GN:=by
 refine okL Tryz.func64 fun l T hT K hK=> ?_
 unfold GN at hT;split at hT<;>cases hT
 obtain⟨hc,hK⟩:=hK;exact spL (QW QPY QDV Q0) QO Tryz.func64 (QKL _ _ _ _ _ _ _ _ hc K hK)
def L37:LC:=(64,GN)::L36
theorem QPZ:QC L37:= .cons QID QPY
theorem QNp (a:Rat×Rat)(b:Rat×Rat)(c:Rat×Rat)(n:Nat)(hc:(n<=500000000))(K:AV->Prop)(hK:K (iA .i64 (Y1 (lft a b c)))):QN (QU (mkT L37 M33 X4) (oF Tryz.f135) noL Tryz.f135 [.x true (Qp n a),.x true (Qp n b),.x true (Qp n c)] K):=by
 refine HV (((n+n<=4294967290/\n+n<=4294967290)/\(n+n<=4294967290/\n+n<=4294967290)/\n+n+1+(n+n+1)+(n+n+1)+(n+n+1)<=4294967290/\n+n+1+(n+n+1)+(n+n+1+(n+n+1))+1<=4294967296/\K (AV.x false [Ch.v (Value.int Zc (Y1 ((b.fst-a.fst)*(c.snd-a.snd)-(b.snd-a.snd)*(c.fst-a.fst))))]))) ?_
 try simp only[Zd,R0,R1,Nat.zero_add,Nat.le_refl,R4,R2,R3]
 exact⟨by omega,by omega,by omega,by omega,hK⟩
def QBn:Ctr
 | [.x true p1,.x true p2,.x true p3]=>some fun K=> ∃(a:Rat×Rat) (b:Rat×Rat) (c:Rat×Rat) (n:Nat),p1=Qp n a/\p2=Qp n b/\p3=Qp n c/\((n<=500000000))/\(K (iA .i64 (Y1 (lft a b c))))
 | _=>none
theorem QKM:QH 135 QBn:=by
 refine okL Tryz.func135 fun l T hT K hK=> ?_
 unfold QBn at hT;split at hT<;>cases hT
 obtain⟨a,b,c,n,rfl,rfl,rfl,hc,hK⟩:=hK;exact spL (QW QPZ QDV Q0) QO Tryz.func135 (QNp _ _ _ _ hc K hK)
def L38:LC:=(135,QBn)::L37
noncomputable def T38:QY:=mkT L38 M33 X4
theorem QTa:QC L38:= .cons QKM QPZ
end Go.Proofs
namespace Go.Proofs
open Go Go.Eng
theorem VG {n:Nat}{l:List (Rat×Rat)}{i:Nat}{a:Rat×Rat}(h:l[i]? =some a):ldE (l.map (Qp n)) i 0 6=some [.r a.1 n,.r a.2 n]:=by
 simp only[ldE,List.getElem?_map,h];rfl
theorem QKN {q:Rat}(h:0<q):Y1 q=1:=by
 unfold Y1;have h1:=Rat.num_nonneg.2 (Rat.le_of_lt h);have h2:q.num≠0:=fun e=>by
  rw[Rat.num_eq_zero.1 e]at h;exact absurd h Rat.lt_irrefl
 rw[if_neg h2,if_neg (by omega)]
def L39:LC:=L38
theorem QTb:QC L39:=QTa
def L40:LC:=L39
theorem QPa:QC L40:=QTb
set_option maxHeartbeats 1000000 in
theorem QNq (n:Nat)(l:List (Rat×Rat))(most:Int)(hc:(n<=500000000)/\(Js l)/\((8<=most)))(K:AV->Prop)(hK:K (iA .i64 0)):QN (QU (mkT L40 M33 X4) (oF Tryz.f105) (fun id=>bif id.beq 10 then .inv ⟨Nat×Nat,fun x=>⟨[(0,.x false [.s 6 (l.map (Qp n))]),(5,iA .i64 l.length),(6,iA .i64 x.1),(7,.x false [.p 7 0]),(8,iA .i64 x.2),(18,.x false [.s 6 (l.map (Qp n))]),(19,iA .i64 l.length),(20,iA .i64 x.1)],[(7,.box 32 (Qp n (l.getD x.1 (0,0))))]⟩,fun x=>x.1<l.length/\2<=x.2/\x.2<=l.length,fun x=>l.length-x.2,fun x=>l.length-x.1⟩else .inv ⟨Nat,fun i=>⟨[(0,.x false [.s 6 (l.map (Qp n))]),(5,iA .i64 l.length),(18,.x false [.s 6 (l.map (Qp n))]),(19,iA .i64 l.length),(20,iA .i64 i)],[]⟩,fun i=>i<=l.length,fun i=>l.length-i,fun _=>0⟩) Tryz.f105 [.x false [.s 6 (l.map (Qp n))],iA .i64 most] K):=by
 refine HV ((bif decide (Za (Zb (Qp n) l).length>most)then K (AV.x false [Ch.v (Value.int Zc 2)])else bif decide (Za (Zb (Qp n) l).length<3)then K (AV.x false [Ch.v (Value.int Zc 3)])else(∃(x:Nat),(x<=l.length/\OfNat.ofNat 0=0)/\6=6/\Zb (Qp n) l=Zb (Qp n) l/\Za (Zb (Qp n) l).length=Za l.length/\6=6/\Zb (Qp n) l=Zb (Qp n) l/\Za (Zb (Qp n) l).length=Za l.length/\0=Za x/\True)/\∀(x:Nat),x<=l.length->OfNat.ofNat 0=0->bif decide (Za x<Za l.length)then(0<=Za x/\Za x<Za (Zb (Qp n) l).length)/\∃(q:Rat),∃(n_1:Nat),∃(q_1:Rat),∃(n_2:Nat),ldE (Zb (Qp n) l) (Za x).toNat 0 6=some [Ch.r q n_1,Ch.r q_1 n_2]/\(∃(x_1:Nat×Nat),((x_1.fst<l.length/\2<=x_1.snd/\x_1.snd<=l.length)/\l.length-x_1.fst=l.length-x)/\6=6/\Zb (Qp n) l=Zb (Qp n) l/\Za l.length=Za l.length/\Za x=Za x_1.fst/\0=0/\2=Za x_1.snd/\6=6/\Zb (Qp n) l=Zb (Qp n) l/\Za l.length=Za l.length/\Za x=Za x_1.fst/\32=32/\q=(l.getD x_1.fst (OfNat.ofNat 0,OfNat.ofNat 0)).fst/\n_1<=n/\q_1=(l.getD x_1.fst (OfNat.ofNat 0,OfNat.ofNat 0)).snd/\n_2<=n/\True)/\∀(x_1:Nat×Nat),x_1.fst<l.length/\2<=x_1.snd/\x_1.snd<=l.length->l.length-x_1.fst=l.length-x->bif decide (Za x_1.snd<Za l.length)then Za l.length≠0/\(0<=(Zc.wrap (Za x_1.fst+1)).tmod (Za l.length)/\(Zc.wrap (Za x_1.fst+1)).tmod (Za l.length)<Za (Zb (Qp n) l).length)/\∃(q:Rat),∃(n_3:Nat),∃(q_2:Rat),∃(n_4:Nat),ldE (Zb (Qp n) l) ((Zc.wrap (Za x_1.fst+1)).tmod (Za l.length)).toNat 0 6=some [Ch.r q n_3,Ch.r q_2 n_4]/\Za l.length≠0/\(0<=(Zc.wrap (Za x_1.fst+Za x_1.snd)).tmod (Za l.length)/\(Zc.wrap (Za x_1.fst+Za x_1.snd)).tmod (Za l.length)<Za (Zb (Qp n) l).length)/\∃(q_3:Rat),∃(n_5:Nat),∃(q_4:Rat),∃(n_6:Nat),ldE (Zb (Qp n) l) ((Zc.wrap (Za x_1.fst+Za x_1.snd)).tmod (Za l.length)).toNat 0 6=some [Ch.r q_3 n_5,Ch.r q_4 n_6]/\∃(a:Rat×Rat),∃(b:Rat×Rat),∃(c:Rat×Rat),∃(n_7:Nat),[Ch.r (l.getD x_1.fst (OfNat.ofNat 0,OfNat.ofNat 0)).fst n,Ch.r (l.getD x_1.fst (OfNat.ofNat 0,OfNat.ofNat 0)).snd n]=[Ch.r a.fst n_7,Ch.r a.snd n_7]/\[Ch.r q n_3,Ch.r q_2 n_4]=[Ch.r b.fst n_7,Ch.r b.snd n_7]/\[Ch.r q_3 n_5,Ch.r q_4 n_6]=[Ch.r c.fst n_7,Ch.r c.snd n_7]/\n_7<=500000000/\bif decide (Y1 (lft a b c)<=0)then K (AV.x false [Ch.v (Value.int Zc 3)])else ∃(x':Nat×Nat),((x'.fst<l.length/\2<=x'.snd/\x'.snd<=l.length)/\l.length-x'.fst=l.length-x/\l.length-x'.snd<l.length-x_1.snd)/\6=6/\Zb (Qp n) l=Zb (Qp n) l/\Za l.length=Za l.length/\Za x_1.fst=Za x'.fst/\0=0/\Zc.wrap (Za x_1.snd+1)=Za x'.snd/\6=6/\Zb (Qp n) l=Zb (Qp n) l/\Za l.length=Za l.length/\Za x_1.fst=Za x'.fst/\32=32/\(l.getD x_1.fst (OfNat.ofNat 0,OfNat.ofNat 0)).fst=(l.getD x'.fst (OfNat.ofNat 0,OfNat.ofNat 0)).fst/\n<=n/\(l.getD x_1.fst (OfNat.ofNat 0,OfNat.ofNat 0)).snd=(l.getD x'.fst (OfNat.ofNat 0,OfNat.ofNat 0)).snd/\n<=n/\True else ∃(x':Nat),(x'<=l.length/\OfNat.ofNat 0=0/\l.length-x'<l.length-x)/\6=6/\Zb (Qp n) l=Zb (Qp n) l/\Za l.length=Za l.length/\6=6/\Zb (Qp n) l=Zb (Qp n) l/\Za l.length=Za l.length/\Zc.wrap (Za x_1.fst+1)=Za x'/\True else K (AV.x false [Ch.v (Value.int Zc 0)]))) ?_
 try simp only[Zd,R0,R1,Nat.le_refl,R4]
 obtain⟨h1,h2,h3⟩:=hc;have l1:=h2.lo;have l2:=h2.hi;simp only[List.length_map];refine QG (fun h=>by have:=R5 h;omega) (fun _=>QG (fun h=>by have:=R5 h;omega) (fun _=>⟨⟨0,by omega,trivial,trivial,rfl⟩,fun x hx=>QG (fun hp=> ?_) (fun _=>hK)⟩));have hp:x<l.length:=by have:=R5 hp;omega
 obtain⟨a,ha⟩: ∃a,l[x]? =some a:=⟨_,Ze hp⟩
 have hga:l.getD x (0,0)=a:=by rw[List.getD_eq_getElem?_getD,ha];rfl
 refine⟨by omega,_,_,_,_,VG (by simpa using ha),⟨(x,2),⟨⟨hp,by simp only;omega,by simp only;omega⟩,rfl⟩,rfl,rfl,rfl,by simp only;rw[<-hga],Nat.le_refl _,by simp only;rw[<-hga],Nat.le_refl _⟩,fun y hy ht=> ?_⟩;obtain⟨i,k⟩:=y;simp only at hy ht⊢;have hi:i=x:=by omega
 subst hi;refine QG (fun hk=> ?_) (fun _=>⟨i+1,⟨by omega,by omega⟩,by rw[w64 (by omega)];simp⟩);have hk:k<l.length:=by have:=R5 hk;omega
 have e1:(Zc.wrap ((i:Int)+1)).tmod (l.length:Int)=(((i+1) % l.length:Nat):Int):=by
  rw[w64 (by omega),tm (by omega)];simp
 have e2:(Zc.wrap ((i:Int)+k)).tmod (l.length:Int)=(((i+k) % l.length:Nat):Int):=by
  rw[w64 (by omega),tm (by omega)];simp
 have m1:=Nat.mod_lt (i+1) (by omega:0<l.length);have m2:=Nat.mod_lt (i+k) (by omega:0<l.length);obtain⟨b,hb⟩: ∃b,l[(i+1) % l.length]? =some b:=⟨_,Ze m1⟩
 obtain⟨c,hcc⟩: ∃c,l[(i+k) % l.length]? =some c:=⟨_,Ze m2⟩
 have hpos:=h2.left i k a b c hy.2.1 hk ha hb hcc;rw[e1,e2,Int.toNat_natCast,Int.toNat_natCast];refine⟨by omega,by omega,_,_,_,_,VG hb,by omega,by omega,_,_,_,_,VG hcc,a,b,c,n,by rw[hga],rfl,rfl,by omega,QG (fun h=> ?_) (fun _=> ?_)⟩
 ·have h:=R5 h;rw[QKN hpos]at h;omega
 ·refine⟨(i,k+1),?_⟩;simp only;refine⟨⟨⟨hp,by omega,by omega⟩,trivial,by omega⟩,trivial,?_,trivial,trivial,trivial⟩;rw[w64 (by omega)];simp
def QBo:Ctr
 | [.x false [.s 6 xs],.x false [.v (.int .i64 most)]]=>some fun K=> ∃(n:Nat) (l:List (Rat×Rat)),xs=l.map (Qp n)/\((n<=500000000)/\(Js l)/\((8<=most)))/\(K (iA .i64 0))
 | _=>none
theorem QKO:QH 105 QBo:=by
 refine okL Tryz.func105 fun l T hT K hK=> ?_
 unfold QBo at hT;split at hT<;>cases hT
 obtain⟨n,l,rfl,hc,hK⟩:=hK;exact spL (QW QPa QDV Q0) QO Tryz.func105 (QNq _ _ _ hc K hK)
def L41:LC:=(105,QBo)::L40
noncomputable def T41:QY:=mkT L41 M33 X4
theorem QTc:QC L41:= .cons QKO QPa
end Go.Proofs
namespace Go.Proofs
open Go Go.Eng
def L42:LC:=L41
theorem QTd:QC L42:=QTc
def L43:LC:=L42
theorem QTe:QC L43:=QTd
def L44:LC:=L43
theorem QTf:QC L44:=QTe
def L45:LC:=L44
theorem QTg:QC L45:=QTf
def L46:LC:=L45
noncomputable def T46:QY:=mkT L46 M33 X4
theorem QTh:QC L46:=QTg
end Go.Proofs
namespace Go.Proofs
open Go Go.Eng
theorem MadeLink.wide {L:QDU}(h:MadeLink L):L.hi-L.lo<=4/\mkRat 1 11<=L.sp:=by
  obtain⟨r,i,j,s,b,tri,hr,hi,hj,hs,hb,rfl⟩:=h;show mkRat (1+j) 3-mkRat (-1-i) 3<=4/\mkRat 1 11<=mkRat 1 (4+s).toNat
  have hj':j=0∨j=1∨j=2∨j=3∨j=4∨j=5:=by omega
  have hi':i=0∨i=1∨i=2∨i=3∨i=4∨i=5:=by omega
  have hs':s=0∨s=1∨s=2∨s=3∨s=4∨s=5∨s=6∨s=7:=by omega
  constructor
  · rcases hj' with rfl | rfl | rfl | rfl | rfl | rfl<;>rcases hi' with rfl | rfl | rfl | rfl | rfl | rfl<;>decide+kernel
  · rcases hs' with rfl | rfl | rfl | rfl | rfl | rfl | rfl | rfl<;>decide+kernel
end Go.Proofs
namespace Go.Proofs
open Go Go.Eng
def L47:LC:=L46
noncomputable def T47:QY:=mkT L47 M33 X4
theorem QTi:QC L47:=QTh
end Go.Proofs
namespace Go.Proofs
open Go Go.Eng
def M48:List (Nat×Xi):=M33
theorem QGU:Xx M48:=QDV
def L49:LC:=L47
noncomputable def T49:QY:=mkT L49 M48 X4
theorem QKP:QC L49:=QTi
theorem QTj:XM T49:=QW QKP QGU Q0
end Go.Proofs
