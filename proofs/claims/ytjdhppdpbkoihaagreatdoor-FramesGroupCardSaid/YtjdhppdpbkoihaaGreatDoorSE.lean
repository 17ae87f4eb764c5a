/- Placed shapes: List, Place, Convex, Area, Around. -/
import Derived.Test.YtjdhppdpbkoihaaGreatDoorFA
open Int renaming ofNat → Za, ofNat_eq_natCast → Zf
open List renaming map → Zb
open ByteArray renaming mk → Zc
open Go.IntKind renaming i64 → Zd
open Array renaming mk → Ze
namespace Go.Proofs
open Go Go.Eng
def QKg (n:Nat)(l:List (Rat×Rat)):LI:=fun _=> .inv ⟨Nat,fun i=>⟨[(0,sVv n l),(2,.x false [.p 2 0]),(3,.x false [.p 3 0]),(13,sVv n l),(14,iA .i64 l.length),(15,iA .i64 i)],[(2,.box 26 YB),(3,.box 26 [.r (KQ l i) (64+(4*n+2)*i)])]⟩,fun i=>i<=l.length,fun i=>l.length-i,fun _=>0⟩
structure VH where
 x1:Rat
 y1:Rat
 x2:Rat
 y2:Rat
def Wf (b:VH)(v:Rat×Rat):VH:=⟨Y4 b.x1 v.1,Y4 b.y1 v.2,UQ b.x2 v.1,UQ b.y2 v.2⟩
def bxN (n:Nat)(b:VH):List Ch:=[.r b.x1 n,.r b.y1 n,.r b.x2 n,.r b.y2 n]
theorem QPo {α:Type}{l:List α}{i:Nat}{d a:α}(h:l[i]? =some a):l.getD i d=a:=by
 rw[List.getD_eq_getElem?_getD,h];rfl
def QPp:LC:=QRN
theorem QN5:QC QPp:=QRO
def QT4:LC:=QPp
theorem QRP:QC QT4:=QN5
def QRQ:LC:=QT4
theorem QKh:QC QRQ:=QRP
theorem QII (n:Nat)(l:List (Rat×Rat))(hc:(n<=500000000)/\(Js l))(K:AV->Prop)(hK:K (iA .i64 0)):QN (QU (mkT QRQ M79 X4) (oF Tryz.f63) noL Tryz.f63 [sVv n l] K):=by
 refine HV ((∃(n_1:Nat),∃(l_1:List (Rat×Rat)),Zb (Qp n) l=Zb (Qp n_1) l_1/\(n_1<=500000000/\Js l_1/\(8:Int)<=64)/\K (AV.x false [Ch.v (Value.int Zd 0)]))) ?_
 try simp only[Zf,R0,R1,Nat.zero_add,Nat.le_refl,R4,R2,R3]
 exact⟨n,l,rfl,⟨hc.1,hc.2,by omega⟩,hK⟩
def Kl:Ctr
 | [.x false [.s 6 xs]]=>some fun K=> ∃(n:Nat) (l:List (Rat×Rat)),xs=l.map (Qp n)/\((n<=500000000)/\(Js l))/\(K (iA .i64 0))
 | _=>none
theorem GO:QH 63 Kl:=by
 refine okL Tryz.func63 fun l T hT K hK=> ?_
 unfold Kl at hT;split at hT<;>cases hT
 obtain⟨n,l,rfl,hc,hK⟩:=hK;exact spL (QW QKh XC Q0) QO Tryz.func63 (QII _ _ hc K hK)
def QRR:LC:=(63,Kl)::QRQ
theorem QKi:QC QRR:= .cons GO QKh
theorem QKj (n:Int)(d:Int)(hc:(-9223372036854775808<=n/\n<9223372036854775808)/\(0<d/\d<9223372036854775808))(K:AV->Prop)(hK:K (.t [(true,[.r ((n:Rat)/(d:Rat)) 128]),(false,[.v (.int .i64 0)])])):QN (QU (mkT QRR M79 X4) (oF Tryz.f51) noL Tryz.f51 [iA .i64 n,iA .i64 d] K):=by
 refine HV (((-9223372036854775808<=n/\n<9223372036854775808)/\(-9223372036854775808<=d/\d<9223372036854775808)/\128<=4294967296/\((↑d:Rat)≠OfNat.ofNat 0->K (AV.t [(true,[Ch.r ((↑n:Rat)/(↑d:Rat)) 128]),(false,[Ch.v (Value.int Zd 0)])]))/\((↑d:Rat)=OfNat.ofNat 0->K (AV.t [(true,[Ch.v (Value.bool false),Ch.v (Value.string (Zc (Ze []))),Ch.v (Value.string (Zc (Ze [])))]),(false,[Ch.v (Value.int Zd 12)])])))) ?_
 try simp only[Zf,R0,R1,Nat.zero_add,Nat.le_refl,R4,R2,R3]
 exact⟨by omega,by omega,by omega,fun _=>hK,fun h=>absurd (Rat.intCast_eq_zero_iff.1 h) (by omega)⟩
def KR:Ctr
 | [.x false [.v (.int .i64 n)],.x false [.v (.int .i64 d)]]=>some fun K=>((-9223372036854775808<=n/\n<9223372036854775808)/\(0<d/\d<9223372036854775808))/\(K (.t [(true,[.r ((n:Rat)/(d:Rat)) 128]),(false,[.v (.int .i64 0)])]))
 | _=>none
theorem US:QH 51 KR:=by
 refine okL Tryz.func51 fun l T hT K hK=> ?_
 unfold KR at hT;split at hT<;>cases hT
 obtain⟨hc,hK⟩:=hK;exact spL (QW QKi XC Q0) QO Tryz.func51 (QKj _ _ hc K hK)
def QRS:LC:=(51,KR)::QRR
theorem QRT:QC QRS:= .cons US QKi
set_option maxHeartbeats 1000000 in
theorem QN6 (n:Nat)(l:List (Rat×Rat))(hc:(n<=120000000)/\(Js l))(K:AV->Prop)(hK: ∀m,m<=64+(4*n+2)*8+128->K (rA (((1:Int):Rat)/((2:Int):Rat)*KQ l l.length) m)):QN (QU (mkT QRS M79 X4) (oF Tryz.f30) (QKg n l) Tryz.f30 [sVv n l] K):=by
 refine HV ((((-9223372036854775808:Int)<=0/\(0:Int)<9223372036854775808)/\∃(n_1:Nat),∃(l_1:List (Rat×Rat)),Zb (Qp n) l=Zb (Qp n_1) l_1/\(n_1<=500000000/\Js l_1)/\(∃(x:Nat),(x<=l.length/\OfNat.ofNat 0=0)/\6=6/\Zb (Qp n) l=Zb (Qp n) l/\0=0/\0=0/\6=6/\Zb (Qp n) l=Zb (Qp n) l/\Za (Zb (Qp n) l).length=Za l.length/\0=Za x/\26=26/\false=false/\Zc (Ze [])=Zc (Ze [])/\Zc (Ze [])=Zc (Ze [])/\26=26/\↑(0:Int)=KQ l x/\64<=64+(4*n+2)*x/\True)/\∀(x:Nat),x<=l.length->OfNat.ofNat 0=0->bif decide (Za x<Za l.length)then(0<=Za x/\Za x<Za (Zb (Qp n) l).length)/\∃(q:Rat),∃(n_2:Nat),∃(q_1:Rat),∃(n_3:Nat),ldE (Zb (Qp n) l) (Za x).toNat 0 6=some [Ch.r q n_2,Ch.r q_1 n_3]/\Za (Zb (Qp n) l).length≠0/\(0<=(Zd.wrap (Za x+1)).tmod (Za (Zb (Qp n) l).length)/\(Zd.wrap (Za x+1)).tmod (Za (Zb (Qp n) l).length)<Za (Zb (Qp n) l).length)/\∃(q_2:Rat),∃(n_4:Nat),∃(q_3:Rat),∃(n_5:Nat),ldE (Zb (Qp n) l) ((Zd.wrap (Za x+1)).tmod (Za (Zb (Qp n) l).length)).toNat 0 6=some [Ch.r q_2 n_4,Ch.r q_3 n_5]/\n_2+n_3+n_4+n_5<=4294967290/\64+(4*n+2)*x+(n_2+n_5+(n_3+n_4)+1)+1<=4294967296/\∃(x':Nat),(x'<=l.length/\OfNat.ofNat 0=0/\l.length-x'<l.length-x)/\6=6/\Zb (Qp n) l=Zb (Qp n) l/\0=0/\0=0/\6=6/\Zb (Qp n) l=Zb (Qp n) l/\Za l.length=Za l.length/\Zd.wrap (Za x+1)=Za x'/\26=26/\false=false/\Zc (Ze [])=Zc (Ze [])/\Zc (Ze [])=Zc (Ze [])/\26=26/\KQ l x+(q*q_3-q_1*q_2)=KQ l x'/\64+(4*n+2)*x+(n_2+n_5+(n_3+n_4)+1)+1<=64+(4*n+2)*x'/\True else(((-9223372036854775808:Int)<=1/\(1:Int)<9223372036854775808)/\(0:Int)<2/\(2:Int)<9223372036854775808)/\128+(64+(4*n+2)*x)<=4294967296/\K (AV.x true [Ch.r ((↑(1:Int):Rat)/(↑(2:Int):Rat)*KQ l x) (128+(64+(4*n+2)*x))]))) ?_
 try simp only[Zf,R0,R1,R4]
 obtain⟨hn,hp0⟩:=hc;have l1:=hp0.lo;have l2:=hp0.hi;simp only[List.length_map];refine⟨by omega,n,l,rfl,⟨by omega,hp0⟩,⟨0,by omega,trivial,rfl,rfl,by simp⟩,fun x hx=>QG (fun hp=> ?_) (fun hp=> ?_)⟩
 ·have hp:x<l.length:=by have:=R5 hp;omega
  obtain⟨a,ha⟩: ∃a,l[x]? =some a:=⟨_,List.getElem?_eq_getElem hp⟩
  have e1:(Zd.wrap ((x:Int)+1)).tmod (l.length:Int)=(((x+1) % l.length:Nat):Int):=by
   rw[w64 (by omega),tm (by omega)];simp
  have m1:=Nat.mod_lt (x+1) (by omega:0<l.length);obtain⟨b,hb⟩: ∃b,l[(x+1) % l.length]? =some b:=⟨_,List.getElem?_eq_getElem m1⟩
  have hm:(4*n+2)*x<=(4*n+2)*7:=Nat.mul_le_mul_left _ (by omega);have hs:(4*n+2)*(x+1)=(4*n+2)*x+(4*n+2):=Nat.mul_succ _ _;rw[e1,Int.toNat_natCast];refine⟨by omega,_,_,_,_,VG (by simpa using ha),by omega,by omega,_,_,_,_,VG hb,by omega,by omega,x+1,⟨by omega,by omega⟩,by rw[w64 (by omega)];simp,?_,by rw[hs];omega⟩;show _=KQ l x+crs (l.getD x (0,0)) (l.getD ((x+1) % l.length) (0,0))
  rw[QPo ha,QPo hb];rfl
 ·have hp:x=l.length:=by have:=R6 hp;omega
  have hm:(4*n+2)*x<=(4*n+2)*8:=Nat.mul_le_mul_left _ (by omega);have:=hK (128+(64+(4*n+2)*x)) (by omega);rw[<-hp]at this;exact⟨by omega,by omega,this⟩
def U9:Ctr
 | [.x false [.s 6 xs]]=>some fun K=> ∃(n:Nat) (l:List (Rat×Rat)),xs=l.map (Qp n)/\((n<=120000000)/\(Js l))/\(∀m,m<=64+(4*n+2)*8+128->K (rA (((1:Int):Rat)/((2:Int):Rat)*KQ l l.length) m))
 | _=>none
theorem QKk:QH 30 U9:=by
 refine okL Tryz.func30 fun l T hT K hK=> ?_
 unfold U9 at hT;split at hT<;>cases hT
 obtain⟨n,l,rfl,hc,hK⟩:=hK;exact spL (QW QRT XC Q0) QO Tryz.func30 (QN6 _ _ hc K hK)
def QVC:LC:=(30,U9)::QRS
def QVD:LC:=QVC
noncomputable def QVR:QY:=mkT QVD M79 X4
end Go.Proofs
