/- Polygons apart: poly.Box of points, apart.valid, Boxes, both, beyond, Meet. -/
import Derived.Test.YtjdhppdpbkoihaaGreatDoorCL
open ByteArray renaming mk → Za
open Array renaming mk → Zb
open Int renaming ofNat → Zc
open List renaming map → Zd, drop → Ze, foldl → Zf
namespace Go.Proofs
open Go Go.Eng
def orC (c d:Ctr):Ctr:=fun a0=>match c a0 with
 | none=>d a0
 | some T=>some T
def QK3 (n:Nat)(l:List (Rat×Rat)):LI:=fun _=> .inv ⟨VH×Nat,fun x=>⟨[(2,.x false [.p 2 0]),(5,.x false [.p 5 0]),(26,.x false [.s 6 (l.tail.map (Qp n))]),(27,iA .i64 l.tail.length),(28,iA .i64 x.2)],
 [(2,.box 76 (YB++YB++YB++YB)),(5,.box 76 (bxN (n+66) x.1))]⟩,fun x=>x.2<=l.tail.length/\(l.tail.drop x.2).foldl Wf x.1=VI l,fun x=>l.tail.length-x.2,fun _=>0⟩
theorem _root_.Go.Eng.CtrOK.or {P:Program}{g:Nat}{tab:List Value}{f:Nat}{c d:Ctr}(h:CtrOK P g tab f c)(k:CtrOK P g tab f d):CtrOK P g tab f (orC c d):=by
 refine⟨h.enter,fun a0 T hT K hK=> ?_⟩;unfold orC at hT;split at hT
 ·exact k.sound a0 T hT K hK
 ·rename_i e;cases hT
  exact h.sound a0 _ e K hK
theorem QK4 (_hc:True)(K:AV->Prop)(hK:K (.x false [.v (.bool false)])):QN (QU QUV (oF Tryz.f106) noL Tryz.f106 [.x true YB] K):=by
 refine HV ((K (AV.x false [Ch.v (Value.bool false)]))) ?_
 try simp only[Int.ofNat_eq_natCast,R0,R1,Nat.zero_add,Nat.le_refl,R4,R2,R3]
 exact hK
def GP:Ctr
 | [.x true [.v (.bool false),.v (.string ⟨⟨[]⟩⟩),.v (.string ⟨⟨[]⟩⟩)]]=>some fun K=>(True)/\(K (.x false [.v (.bool false)]))
 | _=>none
theorem QIM:QH 106 GP:=by
 refine okL Tryz.func106 fun l T hT K hK=> ?_
 unfold GP at hT;split at hT<;>cases hT
 obtain⟨hc,hK⟩:=hK;exact spL QR7 QO Tryz.func106 (QK4  hc K hK)
def QK5:LC:=(106,GP)::QOE
theorem QGa:QC QK5:= .cons QIM QFX
theorem QOF (_hc:True)(K:AV->Prop)(hK:K (.x true [.r 0 1])):QN (QU (mkT QK5 M79 X4) (oF Tryz.f65) noL Tryz.f65 [.x true YB] K):=by
 refine HV ((True/\K (AV.x true [Ch.r (OfNat.ofNat 0) 1]))) ?_
 try simp only[R0]
 exact hK
def QB1:Ctr
 | [.x true [.v (.bool false),.v (.string ⟨⟨[]⟩⟩),.v (.string ⟨⟨[]⟩⟩)]]=>some fun K=>(True)/\(K (.x true [.r 0 1]))
 | _=>none
theorem QK6:QH 65 QB1:=by
 refine okL Tryz.func65 fun l T hT K hK=> ?_
 unfold QB1 at hT;split at hT<;>cases hT
 obtain⟨hc,hK⟩:=hK;exact spL (QW QGa XC Q0) QO Tryz.func65 (QOF  hc K hK)
def QK7:LC:=(65,QB1)::QK5
theorem QGb:QC QK7:= .cons QK6 QGa
theorem QOG (_hc:True)(K:AV->Prop)(hK:K (.x true [.r 0 2])):QN (QU (mkT QK7 M79 X4) (oF Tryz.f54) noL Tryz.f54 [.x true YB,.x true YB] K):=by
 refine HV ((True/\True/\(1<=549755813888/\1<=549755813888)/\((2<=4294967296/\1<=4294967296)/\1≠0)/\K (AV.x true [Ch.r (Q9 false 0 1) 2]))) ?_
 try simp only[R0]
 exact⟨⟨by omega,by omega⟩,⟨⟨by omega,by omega⟩,by omega⟩,by rw[Hu];exact hK⟩
def QB2:Ctr
 | [.x true [.v (.bool false),.v (.string ⟨⟨[]⟩⟩),.v (.string ⟨⟨[]⟩⟩)],.x true [.v (.bool false),.v (.string ⟨⟨[]⟩⟩),.v (.string ⟨⟨[]⟩⟩)]]=>some fun K=>(True)/\(K (.x true [.r 0 2]))
 | _=>none
theorem QK8:QH 54 QB2:=by
 refine okL Tryz.func54 fun l T hT K hK=> ?_
 unfold QB2 at hT;split at hT<;>cases hT
 obtain⟨hc,hK⟩:=hK;exact spL (QW QGb XC Q0) QO Tryz.func54 (QOG  hc K hK)
def QPs:LC:=(54,QB2)::QK7
theorem QOH:QC QPs:= .cons QK8 QGb
theorem QOI (_hc:True)(K:AV->Prop)(hK:K (.x true [.r 0 2,.r 0 2])):QN (QU (mkT QPs M79 X4) (oF Tryz.f37) noL Tryz.f37 [.x true (YB++YB),.x true (YB++YB)] K):=by
 refine HV ((True/\True/\K (AV.x true [Ch.r (OfNat.ofNat 0) 2,Ch.r (OfNat.ofNat 0) 2]))) ?_
 try simp only[R0]
 exact hK
def QB3:Ctr
 | [.x true [.v (.bool false),.v (.string ⟨⟨[]⟩⟩),.v (.string ⟨⟨[]⟩⟩),.v (.bool false),.v (.string ⟨⟨[]⟩⟩),.v (.string ⟨⟨[]⟩⟩)],.x true [.v (.bool false),.v (.string ⟨⟨[]⟩⟩),.v (.string ⟨⟨[]⟩⟩),.v (.bool false),.v (.string ⟨⟨[]⟩⟩),.v (.string ⟨⟨[]⟩⟩)]]=>some fun K=>(True)/\(K (.x true [.r 0 2,.r 0 2]))
 | _=>none
theorem QK9:QH 37 QB3:=by
 refine okL Tryz.func37 fun l T hT K hK=> ?_
 unfold QB3 at hT;split at hT<;>cases hT
 obtain⟨hc,hK⟩:=hK;exact spL (QW QOH XC Q0) QO Tryz.func37 (QOI  hc K hK)
def QR9:LC:=(51,KR)::(63,Kl)::(37,orC QB3 QBs)::QOE
theorem QSA:QC QR9:= .cons US (.cons GO (.cons (.or QK9 QGV) QFX))
set_option maxHeartbeats 1000000 in
theorem QSB (n:Nat)(l:List (Rat×Rat))(hc:(n<=1000000000/\1<=l.length/\l.length<=100))(K:AV->Prop)(hK:K (.x true (bxN (n+66) (VI l)))):QN (QU (mkT QR9 M79 X4) (oF Tryz.f29) (QK3 n l) Tryz.f29 [sVv n l] K):=by
 refine HV ((True/\bif Zc (Zd (Qp n) l).length==0 then K (AV.x true [Ch.r (OfNat.ofNat 0) 2,Ch.r (OfNat.ofNat 0) 2,Ch.r (OfNat.ofNat 0) 2,Ch.r (OfNat.ofNat 0) 2])else((0:Int)<=0/\0<Zc (Zd (Qp n) l).length)/\∃(q:Rat),∃(n_1:Nat),∃(q_1:Rat),∃(n_2:Nat),ldE (Zd (Qp n) l) 0 0 6=some [Ch.r q n_1,Ch.r q_1 n_2]/\(n_1+2<=4294967290/\n_2+2<=4294967290)/\((0:Int)<=1/\1<=Zc (Zd (Qp n) l).length/\Zc (Zd (Qp n) l).length<=Zc (Zd (Qp n) l).length)/\(∃(x:VH×Nat),((x.snd<=l.tail.length/\Zf Wf x.fst (Ze x.snd l.tail)=VI l)/\OfNat.ofNat 0=0)/\0=0/\0=0/\6=6/\List.take ((Zc (Zd (Qp n) l).length).toNat-1) (Ze 1 (Zd (Qp n) l))=Zd (Qp n) l.tail/\Zc (List.take ((Zc (Zd (Qp n) l).length).toNat-1) (Ze 1 (Zd (Qp n) l))).length=Zc l.tail.length/\0=Zc x.snd/\76=76/\false=false/\Za (Zb [])=Za (Zb [])/\Za (Zb [])=Za (Zb [])/\false=false/\Za (Zb [])=Za (Zb [])/\Za (Zb [])=Za (Zb [])/\false=false/\Za (Zb [])=Za (Zb [])/\Za (Zb [])=Za (Zb [])/\false=false/\Za (Zb [])=Za (Zb [])/\Za (Zb [])=Za (Zb [])/\76=76/\q+OfNat.ofNat 0=x.fst.x1/\n_1+2+1<=n+66/\q_1+OfNat.ofNat 0=x.fst.y1/\n_2+2+1<=n+66/\q+OfNat.ofNat 0=x.fst.x2/\n_1+2+1<=n+66/\q_1+OfNat.ofNat 0=x.fst.y2/\n_2+2+1<=n+66/\True)/\∀(x:VH×Nat),x.snd<=l.tail.length/\Zf Wf x.fst (Ze x.snd l.tail)=VI l->OfNat.ofNat 0=0->bif decide (Zc x.snd<Zc l.tail.length)then(0<=Zc x.snd/\Zc x.snd<Zc (Zd (Qp n) l.tail).length)/\∃(q:Rat),∃(n_3:Nat),∃(q_2:Rat),∃(n_4:Nat),ldE (Zd (Qp n) l.tail) (Zc x.snd).toNat 0 6=some [Ch.r q n_3,Ch.r q_2 n_4]/\n+66+n_3<=4294967296/\n+66+n_4<=4294967296/\n+66+n_3<=4294967296/\n+66+n_4<=4294967296/\∃(x':VH×Nat),((x'.snd<=l.tail.length/\Zf Wf x'.fst (Ze x'.snd l.tail)=VI l)/\OfNat.ofNat 0=0/\l.tail.length-x'.snd<l.tail.length-x.snd)/\0=0/\0=0/\6=6/\Zd (Qp n) l.tail=Zd (Qp n) l.tail/\Zc l.tail.length=Zc l.tail.length/\IntKind.i64.wrap (Zc x.snd+1)=Zc x'.snd/\76=76/\false=false/\Za (Zb [])=Za (Zb [])/\Za (Zb [])=Za (Zb [])/\false=false/\Za (Zb [])=Za (Zb [])/\Za (Zb [])=Za (Zb [])/\false=false/\Za (Zb [])=Za (Zb [])/\Za (Zb [])=Za (Zb [])/\false=false/\Za (Zb [])=Za (Zb [])/\Za (Zb [])=Za (Zb [])/\76=76/\Y4 x.fst.x1 q=x'.fst.x1/\max (n+66) n_3<=n+66/\Y4 x.fst.y1 q_2=x'.fst.y1/\max (n+66) n_4<=n+66/\UQ x.fst.x2 q=x'.fst.x2/\max (n+66) n_3<=n+66/\UQ x.fst.y2 q_2=x'.fst.y2/\max (n+66) n_4<=n+66/\True else K (AV.x true [Ch.r x.fst.x1 (n+66),Ch.r x.fst.y1 (n+66),Ch.r x.fst.x2 (n+66),Ch.r x.fst.y2 (n+66)]))) ?_
 try simp only[Int.ofNat_eq_natCast,R0,R1,R4]
 obtain⟨hn,hl1,hl2⟩:=hc;obtain⟨p0,hp0⟩: ∃p,l[0]? =some p:=⟨_,List.getElem?_eq_getElem (by omega)⟩
 have tl:l.tail.length=l.length-1:=List.length_tail;have et:List.take (l.length-1) (Ze 1 (l.map (Qp n)))=l.tail.map (Qp n):=by rw[List.drop_one,<-List.map_tail,List.take_of_length_le (by simp)]
 simp only[List.length_map,Int.toNat_natCast];refine QG (fun h=>by have:=eq_of_beq h;omega) (fun _=>⟨by omega,_,_,_,_,VG hp0,by omega,by omega,⟨(⟨p0.1,p0.2,p0.1,p0.2⟩,0),⟨by simp,?_⟩,et,by rw[et,List.length_map],rfl,Rat.add_zero _,by omega,Rat.add_zero _,by omega,Rat.add_zero _,by omega,Rat.add_zero _,by omega⟩,fun x ⟨hx,he⟩=>QG (fun hp=> ?_) (fun hp=> ?_)⟩)
 ·show Zf Wf ⟨p0.1,p0.2,p0.1,p0.2⟩ (l.tail.drop 0)=VI l
  unfold VI;rw[List.drop_zero,QOD hp0]
 ·have hp:x.2<l.tail.length:=by have:=R5 hp;omega
  obtain⟨p,hpp⟩: ∃p,l.tail[x.2]? =some p:=⟨_,List.getElem?_eq_getElem hp⟩
  rw[QDX hpp,List.foldl_cons]at he;exact⟨by omega,_,_,_,_,VG (by simpa using hpp),by omega,by omega,by omega,by omega,(Wf x.1 p,x.2+1),⟨⟨hp,he⟩,by simp only;omega⟩,by rw[w64 (by omega)];simp,rfl,by omega,rfl,by omega,rfl,by omega,rfl,by omega⟩
 ·have hp:x.2=l.tail.length:=by have:=R6 hp;omega
  rw[hp,List.drop_length]at he;have he:x.1=VI l:=he;rw[<-he]at hK;exact hK
def QB4:Ctr
 | [.x false [.s 6 xs]]=>some fun K=> ∃(n:Nat) (l:List (Rat×Rat)),xs=l.map (Qp n)/\((n<=1000000000/\1<=l.length/\l.length<=100))/\(K (.x true (bxN (n+66) (VI l))))
 | _=>none
theorem QOJ:QH 29 QB4:=by
 refine okL Tryz.func29 fun l T hT K hK=> ?_
 unfold QB4 at hT;split at hT<;>cases hT
 obtain⟨n,l,rfl,hc,hK⟩:=hK;exact spL (QW QSA XC Q0) QO Tryz.func29 (QSB _ _ hc K hK)
def QUY:LC:=(29,QB4)::QR9
def QUZ:LC:=QUY
def QUa:LC:=QUZ
def QUb:LC:=QUa
def QUc:LC:=QUb
def QUd:LC:=QUc
noncomputable def QVJ:QY:=mkT QUd M79 X4
end Go.Proofs
