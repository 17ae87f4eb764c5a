/- Still, with velocities that are not small. -/
import Derived.Test.YtfhfenokfkenoaaGreatDoorSA
open Int renaming ofNat → Za
open List renaming map → Zb, take → Zc, take_of_length_le → Ze
open Go.Value renaming string → Zd, bool → Zf
namespace Go.Proofs
open Go Go.Eng
def Xv (qs ws:List Rat):List Rat:=List.zipWith (fun q w=>w/YO q 1) qs ws
structure StX where
 fs:List FrV
 f:FrV
 wl:List (Rat×Nat)
 i:Nat
structure StI (a:ArmV)(qs:List Rat)(x:StX):Prop where
 eq:x.fs++[x.f]=Ql (XF a) a.links qs
 len:x.fs.length=a.links.length
 null:Ut (XU x.f x.fs) x.wl
 bits: ∀p∈x.wl,p.2<=531200005
 wlen:x.wl.length=a.links.length
 le:x.i<=a.links.length
def QLd (a:ArmV)(b:Nat)(qs:List Rat):LI:=fun _=> .inv ⟨StX,fun x=>⟨[(1,sR b qs),(8,.x false [.s 3 (lRb x.wl)]),(9,.x false [.w 500 0 x.i]),(27,iA .i64 a.links.length),(28,iA .i64 x.i)],
 [(500,Y9 531210000 ((Xv qs (x.wl.map (·.1))).take x.i))]⟩,StI a qs,fun x=>a.links.length-x.i,fun _=>0⟩
def QWz:LC:=QWx
theorem QW0:QF QWz:=QWy
set_option maxHeartbeats 1000000 in
theorem QOt (a:ArmV)(b:Nat)(qs:List Rat)(hc:(QU a)/\(b<=400/\qs.length=a.links.length))(K:AV->Prop)(hK: ∀(fs:List FrV) (f:FrV),fs++[f]=Ql (XF a) a.links qs->fs.length=a.links.length->(∀wl,Ut (XU f fs) wl->K (.t [(false,[.s 3 (lR 531210000 (Xv qs (wl.map (·.1))))]),(false,[.v (.int .i64 0)])]))/\(YP (XU f fs)=a.links.length->K (.t [(false,[.v (.slice none 0 0)]),(false,[.v (.int .i64 4)])]))):QK (QP (mkT QWz QOn X4) (oF Tryz.f28) (QLd a b qs) Tryz.f28 [Jq a,sR b qs] K):=by
 refine HV ((∃(a_1:ArmV),∃(b_1:Nat),∃(qs_1:List Rat),[Ch.v (Zd a.name),Ch.r a.x 63,Ch.r a.y 63,Ch.v (Zf a.half),Ch.r a.t 63,Ch.s 16 (Zb QG a.links)]=[Ch.v (Zd a_1.name),Ch.r a_1.x 63,Ch.r a_1.y 63,Ch.v (Zf a_1.half),Ch.r a_1.t 63,Ch.s 16 (Zb QG a_1.links)]/\lR b qs=lR b_1 qs_1/\(QU a_1/\b_1<=400/\qs_1.length=a_1.links.length)/\∀(fs:List FrV) (f:FrV),fs++[f]=Ql (XF a_1) a_1.links qs_1->fs.length=a_1.links.length->∃(l:List (Rat×Rat)),∃(n:Nat),Zb (QT 132800001) (XU f fs)=Zb (QT n) l/\((1<=l.length/\l.length<=3)/\64<=n/\n<=200000000)/\(∀(wl:List (Rat×Nat)),(∀(p:Rat×Nat),p∈wl->p.snd<=4*n+1)->Ut l wl->lRb wl≠[]/\(∃(x:StX),(StI a qs x/\OfNat.ofNat 0=0)/\3=3/\lR b qs=lR b qs/\3=3/\lRb wl=lRb x.wl/\Value.slice none 0 0=Value.slice none 0 0/\0=0/\x.i=0/\Za (lRb wl).length=Za a.links.length/\0=Za x.i/\Zb (fun(q:Rat)=>[Ch.r q 531210000]) (Zc x.i (Xv qs (Zb (fun(x:Rat×Nat)=>x.fst) x.wl)))=[]/\True)/\∀(x:StX),StI a qs x->OfNat.ofNat 0=0->bif decide (Za x.i<Za a.links.length)then(0<=Za x.i/\Za x.i<Za (lRb x.wl).length)/\∃(q:Rat),∃(n:Nat),ldE (lRb x.wl) (Za x.i).toNat 0 3=some [Ch.r q n]/\(0<=Za x.i/\Za x.i<Za (lR b qs).length)/\∃(q_1:Rat),∃(n_1:Nat),ldE (lR b qs) (Za x.i).toNat 0 3=some [Ch.r q_1 n_1]/\((-9223372036854775808:Int)<=1/\(1:Int)<9223372036854775808)/\2*n_1+64<=4294967000/\∀(n_2:Nat),n_2<=2*n_1+64+200->n+n_2<=4294967296/\(YO q_1 ↑(1:Int)≠OfNat.ofNat 0->((x.i+1)*40<=140737488355328/\x.i+1<=9223372036854775807)/\∃(x':StX),(StI a qs x'/\OfNat.ofNat 0=0/\a.links.length-x'.i<a.links.length-x.i)/\3=3/\lR b qs=lR b qs/\3=3/\lRb x.wl=lRb x'.wl/\0=0/\x.i+1=x'.i/\Za a.links.length=Za a.links.length/\IntKind.i64.wrap (Za x.i+1)=Za x'.i/\25=25/\3=3/\(Zc x.i (Zb (fun(q:Rat)=>[Ch.r q 531210000]) (Zc x.i (Xv qs (Zb (fun(x:Rat×Nat)=>x.fst) x.wl))))++[[Ch.r (q/YO q_1 ↑(1:Int)) (n+n_2)]]=Zb (fun(q:Rat)=>[Ch.r q 531210000]) (Zc x'.i (Xv qs (Zb (fun(x:Rat×Nat)=>x.fst) x'.wl)))∨QE (Zc x.i (Zb (fun(q:Rat)=>[Ch.r q 531210000]) (Zc x.i (Xv qs (Zb (fun(x:Rat×Nat)=>x.fst) x.wl))))++[[Ch.r (q/YO q_1 ↑(1:Int)) (n+n_2)]]) (Zb (fun(q:Rat)=>[Ch.r q 531210000]) (Zc x'.i (Xv qs (Zb (fun(x:Rat×Nat)=>x.fst) x'.wl)))))/\True)/\(YO q_1 ↑(1:Int)=OfNat.ofNat 0->((x.i+1)*40<=140737488355328/\x.i+1<=9223372036854775807)/\∃(x':StX),(StI a qs x'/\OfNat.ofNat 0=0/\a.links.length-x'.i<a.links.length-x.i)/\3=3/\lR b qs=lR b qs/\3=3/\lRb x.wl=lRb x'.wl/\0=0/\x.i+1=x'.i/\Za a.links.length=Za a.links.length/\IntKind.i64.wrap (Za x.i+1)=Za x'.i/\25=25/\3=3/\(Zc x.i (Zb (fun(q:Rat)=>[Ch.r q 531210000]) (Zc x.i (Xv qs (Zb (fun(x:Rat×Nat)=>x.fst) x.wl))))++[[Ch.v (Zf false),Ch.v (Zd (ByteArray.mk (Array.mk []))),Ch.v (Zd (ByteArray.mk (Array.mk [])))]]=Zb (fun(q:Rat)=>[Ch.r q 531210000]) (Zc x'.i (Xv qs (Zb (fun(x:Rat×Nat)=>x.fst) x'.wl)))∨QE (Zc x.i (Zb (fun(q:Rat)=>[Ch.r q 531210000]) (Zc x.i (Xv qs (Zb (fun(x:Rat×Nat)=>x.fst) x.wl))))++[[Ch.v (Zf false),Ch.v (Zd (ByteArray.mk (Array.mk []))),Ch.v (Zd (ByteArray.mk (Array.mk [])))]]) (Zb (fun(q:Rat)=>[Ch.r q 531210000]) (Zc x'.i (Xv qs (Zb (fun(x:Rat×Nat)=>x.fst) x'.wl)))))/\True)else K (AV.t [(false,[Ch.s 3 (Zc x.i (List.drop 0 (Zb (fun(q:Rat)=>[Ch.r q 531210000]) (Zc x.i (Xv qs (Zb (fun(x:Rat×Nat)=>x.fst) x.wl))))))]),(false,[Ch.v (Value.int IntKind.i64 0)])]))/\(YP l=Za l.length->True/\K (AV.t [(false,[Ch.v (Value.slice none 0 0)]),(false,[Ch.v (Value.int IntKind.i64 4)])])))) ?_
 try simp only[Int.ofNat_eq_natCast,R0,R1,R4]
 obtain⟨hg,hb,hq⟩:=hc;have hn:=hg.n;refine⟨a,b,qs,rfl,rfl,⟨hg,hb,hq⟩,fun fs f hf hl=> ?_⟩;have cl:(XU f fs).length=a.links.length:=by simp[XU,hl]
 obtain⟨k1,k2⟩:=hK fs f hf hl;refine⟨XU f fs,132800001,rfl,⟨by omega,by omega,by omega⟩,fun wl hwb hw=>⟨?_,⟨⟨fs,f,wl,0⟩,⟨hf,hl,hw,fun p hp=>by have:=hwb p hp;omega,by rw[hw.len,cl],by simp⟩,rfl,rfl,by simp[lRb,hw.len,cl],rfl,rfl⟩,fun x hx=>QC (fun hp=> ?_) (fun hp=> ?_)⟩,fun hr=>k2 (by rw[hr,cl])⟩
 ·intro e;have h0:(lRb wl).length=a.links.length:=by simp[lRb,hw.len,cl]
  rw[e]at h0;simp only[List.length_nil]at h0;omega
 ·have hp:x.i<a.links.length:=by have:=R5 hp;omega
  have hxw:=hx.wlen;obtain⟨p,hpx⟩: ∃p,x.wl[x.i]? =some p:=⟨_,List.getElem?_eq_getElem (by omega)⟩
  obtain⟨q,hqx⟩: ∃q,qs[x.i]? =some q:=⟨_,List.getElem?_eq_getElem (by omega)⟩
  have hb2:=hx.bits p (List.mem_of_getElem? hpx);have ht:(Xv qs (x.wl.map (·.1)))[x.i]? =some (p.1/YO q 1):=by simp[Xv,List.getElem?_zipWith,hpx,hqx]
  refine⟨by simp[lRb];omega,p.1,p.2,by simp only[ldE,lRb,List.getElem?_map,Int.toNat_natCast,hpx];rfl,by rw[XH];omega,_,_,Xk (by simpa using hqx),by omega,by omega,fun r hr=>⟨by omega,fun _=>⟨by omega,⟨x.fs,x.f,x.wl,x.i+1⟩,⟨⟨hx.eq,hx.len,hx.null,hx.bits,hx.wlen,hp⟩,by simp only;omega⟩,rfl,rfl,by rw[w64 (by omega)];simp,.inr ?_⟩,fun h0=>absurd h0 (QJV q)⟩⟩;rw[Ze (by rw[List.length_map,List.length_take];omega),List.take_add_one,ht];exact QDy _ _ (by omega)
 ·have hp:x.i=a.links.length:=by have:=R6 hp;have:=hx.le;omega
  have hxw:=hx.wlen;have:=(hK x.fs x.f hx.eq hx.len).1 x.wl hx.null;rw[List.drop_zero,Ze (by rw[List.length_map,List.length_take];omega),Ze (by simp[Xv];omega)];exact this
def Uu:Ctr
 | [.x true xs,.x false [.s 3 ys]]=>some fun K=> ∃(a:ArmV) (b:Nat) (qs:List Rat),xs=Xd a/\ys=lR b qs/\((QU a)/\(b<=400/\qs.length=a.links.length))/\(∀(fs:List FrV) (f:FrV),fs++[f]=Ql (XF a) a.links qs->fs.length=a.links.length->(∀wl,Ut (XU f fs) wl->K (.t [(false,[.s 3 (lR 531210000 (Xv qs (wl.map (·.1))))]),(false,[.v (.int .i64 0)])]))/\(YP (XU f fs)=a.links.length->K (.t [(false,[.v (.slice none 0 0)]),(false,[.v (.int .i64 4)])])))
 | _=>none
theorem QLe:QI 28 Uu:=by
 refine okL Tryz.func28 fun l T hT K hK=> ?_
 unfold Uu at hT;split at hT<;>cases hT
 obtain⟨a,b,qs,rfl,rfl,hc,hK⟩:=hK;exact spL (QS QW0 QOo Qm) QM Tryz.func28 (QOt _ _ _ hc K hK)
def Qaw:LC:=(28,Uu)::QWz
noncomputable def QbP:Qb:=mkT Qaw QOn X4
end Go.Proofs
