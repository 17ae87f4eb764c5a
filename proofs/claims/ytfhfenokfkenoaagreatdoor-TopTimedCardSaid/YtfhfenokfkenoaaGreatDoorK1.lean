/- track: copied, At, Speed. -/
import Derived.Test.YtfhfenokfkenoaaGreatDoorA1
import Derived.Test.YtfhfenokfkenoaaGreatDoorTk
open Int renaming ofNat → Za, ofNat_eq_natCast → Zp
open List renaming map → Zb, take → Zc, getElem?_eq_getElem → Ze, take_of_length_le → Zf, length_map → Zi, mem_of_getElem? → Zj, getD_eq_getElem?_getD → Zk, length_take → Zl, length_append → Zm, length_cons → Zn, drop → Zo, length_nil → Zq, getElem?_append_right → Zr, take_add_one → Zs, getElem?_map → Zt, map_append → Zu, drop_zero → Zv
open Go.IntKind renaming i64 → Zd
open Go.Eng.Ch renaming r → Zg
open Go.Value renaming slice → Zh
namespace Go.Proofs
open Go Go.Eng
def QP (k:Qh):List Ch:=[.v (.int .i64 k.tick),.s 3 (lR k.n k.q)]
def QE7 (ks:List Qh):AV:= .x false [.s 2 (ks.map QP)]
def QI:Qh:=⟨0,0,[]⟩
theorem QDG {l:List Qh}{i:Nat}{k:Qh}(h:l[i]? =some k):ldE (l.map QP) i 0 2=some [.v (.int .i64 k.tick),.s 3 (lR k.n k.q)]:=by
 simp only[ldE,Zt,h];rfl
theorem Jx {l:List Qh}{i:Nat}{k:Qh}(h:l[i]? =some k):ldE (l.map QP) i 0 1=some [.v (.int .i64 k.tick)]:=by
 simp only[ldE,Zt,h];rfl
theorem H6 {l:List Qh}{i:Nat}{k:Qh}(h:l[i]? =some k):ldE (l.map QP) i 1 1=some [.s 3 (lR k.n k.q)]:=by
 simp only[ldE,Zt,h];rfl
theorem QAU {ks:List Qh}{a:Qh}{t:Int}(ha:ks[0]? =some a)(h:t<=a.tick):atR ks t=(a.q,a.n+65):=by
 match ks,ha with
 | b::ks,ha=>cases ha;rw[atR,if_pos h]
theorem QE8 {ks:List Qh}{a:Qh}{t:Int}(ha:ks[0]? =some a)(h: ¬t<=a.tick):atR ks t=Xr (ks.getD (1-1) QI) (ks.drop 1) t:=by
 match ks,ha with
 | b::ks,ha=>cases ha;rw[atR,if_neg h];rfl
theorem QKW (n:Nat)(qs:List Rat)(hc:(n<=1000000/\qs.length<=1000000))(K:AV->Prop)(hK:K (sR (n+65) qs)):QK (QT T49 (oF Tryz.f117) (fun _=> .inv ⟨Nat,fun k=>⟨[(3,.x false [.w 500 0 k]),(6,sR n qs),(7,iA .i64 qs.length),(8,iA .i64 k)],[(500,Xs (n+65) (qs.take k))]⟩,fun k=>k<=qs.length,fun k=>qs.length-k,fun _=>0⟩) Tryz.f117 [sR n qs] K):=by
 refine HV (((∃(x:Nat),(x<=qs.length/\OfNat.ofNat 0=0)/\Zh none 0 0=Zh none 0 0/\0=0/\x=0/\3=3/\lR n qs=lR n qs/\Za (lR n qs).length=Za qs.length/\0=Za x/\Zb (fun(q:Rat)=>[Zg q (n+65)]) (Zc x qs)=[]/\True)/\∀(x:Nat),x<=qs.length->OfNat.ofNat 0=0->bif decide (Za x<Za qs.length)then(0<=Za x/\Za x<Za (lR n qs).length)/\∃(q:Rat),∃(n_1:Nat),ldE (lR n qs) (Za x).toNat 0 3=some [Zg q n_1]/\((-9223372036854775808:Int)<=0/\(0:Int)<9223372036854775808)/\n_1+64+1<=4294967296/\((x+1)*40<=140737488355328/\x+1<=9223372036854775807)/\∃(x':Nat),(x'<=qs.length/\OfNat.ofNat 0=0/\qs.length-x'<qs.length-x)/\0=0/\x+1=x'/\3=3/\lR n qs=lR n qs/\Za qs.length=Za qs.length/\Zd.wrap (Za x+1)=Za x'/\25=25/\3=3/\(Zc x (Zb (fun(q:Rat)=>[Zg q (n+65)]) (Zc x qs))++[[Zg (q+↑(0:Int)) (n_1+64+1)]]=Zb (fun(q:Rat)=>[Zg q (n+65)]) (Zc x' qs)∨QE (Zc x (Zb (fun(q:Rat)=>[Zg q (n+65)]) (Zc x qs))++[[Zg (q+↑(0:Int)) (n_1+64+1)]]) (Zb (fun(q:Rat)=>[Zg q (n+65)]) (Zc x' qs)))/\True else K (AV.x false [Ch.s 3 (Zc x (Zo 0 (Zb (fun(q:Rat)=>[Zg q (n+65)]) (Zc x qs))))]))) ?_
 try simp only[Zp,R0,R1,R4]
 refine⟨⟨0,by omega,rfl,by rw[Qr],rfl,by simp⟩,fun x hx=>QC (fun hp=> ?_) (fun hp=> ?_)⟩
 ·have hp:x<qs.length:=by have:=R5 hp;omega
  obtain⟨q,hq⟩: ∃q,qs[x]? =some q:=⟨_,Ze hp⟩
  refine⟨by rw[Qr];omega,_,_,XD (by simpa using hq),by omega,by omega,by omega,x+1,⟨by omega,by omega⟩,rfl,by rw[w64 (by omega)];simp,.inl ?_⟩;rw[Zf (by rw[Zi,Zl];omega),Zs,hq,Zu];simp only[Option.toList,List.map_cons,List.map_nil];rw[show q+((0:Int):Rat)=q by rw[Rat.intCast_zero,Rat.add_zero]]
 ·have hp:x=qs.length:=by have:=R6 hp;omega
  subst hp;rw[Zv,List.take_length,Zf (by rw[Zi];exact Nat.le_refl _)];exact hK
def U6:Ctr
 | [.x false [.s 3 xs]]=>some fun K=> ∃(n:Nat) (qs:List Rat),xs=lR n qs/\((n<=1000000/\qs.length<=1000000))/\(K (sR (n+65) qs))
 | _=>none
theorem QHF:QJ 117 U6:=by
 refine okL Tryz.func117 fun l T hT K hK=> ?_
 unfold U6 at hT;split at hT<;>cases hT
 obtain⟨n,qs,rfl,hc,hK⟩:=hK;exact spL QIZ QN Tryz.func117 (QKW _ _ hc K hK)
def QUf:LC:=(117,U6)::L49
theorem QNC:QG QUf:= .cons QHF QE6
def QE9 (ks:List Qh)(m:Nat)(_N:Nat)(t:Int)(K:AV->Prop):Prop:=QT (mkT QUf M48 X4) (oF Tryz.f60) (fun id=>bif id.beq 6 then .inv ⟨Nat,fun i=>⟨[(0,QE7 ks),(1,iA .i64 t),(5,iA .i64 i)],[]⟩,fun i=>(1<=i/\i<=ks.length)/\atR ks t=Xr (ks.getD (i-1) QI) (ks.drop i) t,fun i=>ks.length-i,fun _=>0⟩else .inv ⟨Nat×Nat,fun x=>⟨[(6,.x false [.p 6 0]),(7,.x false [.p 7 0]),(9,.x false [.p 9 0]),(11,.x false [.w 500 0 x.2]),(71,iA .i64 m),(72,iA .i64 x.2)],[(6,.box 55 (QP (ks.getD (x.1-1) QI))),(7,.box 55 (QP (ks.getD x.1 QI))),(9,.box 25 [.r (XQ (ks.getD (x.1-1) QI) (ks.getD x.1 QI) t) 258]),(500,Xs (2*(ks.getD (x.1-1) QI).n+(ks.getD x.1 QI).n+260) ((Qd (ks.getD (x.1-1) QI) (ks.getD x.1 QI) t).take x.2))]⟩,fun x=>((1<=x.1/\x.1<ks.length)/\atR ks t=(Qd (ks.getD (x.1-1) QI) (ks.getD x.1 QI) t,2*(ks.getD (x.1-1) QI).n+(ks.getD x.1 QI).n+260))/\x.2<=m,fun x=>m-x.2,fun x=>ks.length-x.1⟩) Tryz.f60 [QE7 ks,iA .i64 t] K
theorem QFA (ks:List Qh)(m:Nat)(N:Nat)(t:Int)(K:AV->Prop):QE9 ks m N t K=(bif Za (Zb QP ks).length==0 then K (AV.x false [Ch.v (Zh none 0 0)])else((0:Int)<=0/\0<Za (Zb QP ks).length)/\∃(d:Int),ldE (Zb QP ks) 0 0 1=some [Ch.v (Value.int Zd d)]/\bif decide (t<=d)then((0:Int)<=0/\0<Za (Zb QP ks).length)/\∃(ys:List (List Ch)),ldE (Zb QP ks) 0 1 1=some [Ch.s 3 ys]/\∃(n:Nat)(qs:List Rat),ys=lR n qs/\(n<=1000000/\qs.length<=1000000)/\K (AV.x false [Ch.s 3 (lR (n+65) qs)])else(∃(x:Nat),(((1<=x/\x<=ks.length)/\atR ks t=Xr (ks.getD (x-1) QI) (Zo x ks) t)/\OfNat.ofNat 0=0)/\2=2/\Zb QP ks=Zb QP ks/\t=t/\1=Za x/\True)/\∀(x:Nat),(1<=x/\x<=ks.length)/\atR ks t=Xr (ks.getD (x-1) QI) (Zo x ks) t->OfNat.ofNat 0=0->bif decide (Za x<Za (Zb QP ks).length)then(0<=Za x/\Za x<Za (Zb QP ks).length)/\∃(d:Int),ldE (Zb QP ks) (Za x).toNat 0 1=some [Ch.v (Value.int Zd d)]/\bif decide (d<=t)then ∃(x':Nat),(((1<=x'/\x'<=ks.length)/\atR ks t=Xr (ks.getD (x'-1) QI) (Zo x' ks) t)/\OfNat.ofNat 0=0/\ks.length-x'<ks.length-x)/\2=2/\Zb QP ks=Zb QP ks/\t=t/\Zd.wrap (Za x+1)=Za x'/\True else(0<=Zd.wrap (Za x-1)/\Zd.wrap (Za x-1)<Za (Zb QP ks).length)/\∃(d:Int)(ys:List (List Ch)),ldE (Zb QP ks) (Zd.wrap (Za x-1)).toNat 0 2=some [Ch.v (Value.int Zd d),Ch.s 3 ys]/\(0<=Za x/\Za x<Za (Zb QP ks).length)/\∃(d_1:Int)(ys_1:List (List Ch)),ldE (Zb QP ks) (Za x).toNat 0 2=some [Ch.v (Value.int Zd d_1),Ch.s 3 ys_1]/\(-9223372036854775808<=d/\d<9223372036854775808)/\(-9223372036854775808<=t/\t<9223372036854775808)/\129<=4294967296/\(-9223372036854775808<=d_1/\d_1<9223372036854775808)/\129<=4294967296/\258<=4294967296/\((↑d_1:Rat)-(↑d:Rat)≠OfNat.ofNat 0->(∃(x_1:Nat×Nat),((((1<=x_1.fst/\x_1.fst<ks.length)/\atR ks t=(Qd (ks.getD (x_1.fst-1) QI) (ks.getD x_1.fst QI) t,2*(ks.getD (x_1.fst-1) QI).n+(ks.getD x_1.fst QI).n+260))/\x_1.snd<=m)/\ks.length-x_1.fst=ks.length-x)/\0=0/\0=0/\0=0/\Zh none 0 0=Zh none 0 0/\0=0/\x_1.snd=0/\(bif false then if Za ys_1.length>Za ys.length then Za ys_1.length else Za ys.length else if Za ys_1.length<Za ys.length then Za ys_1.length else Za ys.length)=Za m/\0=Za x_1.snd/\55=55/\d=(ks.getD (x_1.fst-1) QI).tick/\3=3/\ys=lR (ks.getD (x_1.fst-1) QI).n (ks.getD (x_1.fst-1) QI).q/\55=55/\d_1=(ks.getD x_1.fst QI).tick/\3=3/\ys_1=lR (ks.getD x_1.fst QI).n (ks.getD x_1.fst QI).q/\25=25/\((↑t:Rat)-(↑d:Rat))/((↑d_1:Rat)-(↑d:Rat))=XQ (ks.getD (x_1.fst-1) QI) (ks.getD x_1.fst QI) t/\258<=258/\Zb (fun(q:Rat)=>[Zg q (2*(ks.getD (x_1.fst-1) QI).n+(ks.getD x_1.fst QI).n+260)]) (Zc x_1.snd (Qd (ks.getD (x_1.fst-1) QI) (ks.getD x_1.fst QI) t))=[]/\True)/\∀(x_1:Nat×Nat),((1<=x_1.fst/\x_1.fst<ks.length)/\atR ks t=(Qd (ks.getD (x_1.fst-1) QI) (ks.getD x_1.fst QI) t,2*(ks.getD (x_1.fst-1) QI).n+(ks.getD x_1.fst QI).n+260))/\x_1.snd<=m->ks.length-x_1.fst=ks.length-x->bif decide (Za x_1.snd<Za m)then(0<=Za x_1.snd/\Za x_1.snd<Za (lR (ks.getD (x_1.fst-1) QI).n (ks.getD (x_1.fst-1) QI).q).length)/\∃(q:Rat)(n:Nat),ldE (lR (ks.getD (x_1.fst-1) QI).n (ks.getD (x_1.fst-1) QI).q) (Za x_1.snd).toNat 0 3=some [Zg q n]/\(0<=Za x_1.snd/\Za x_1.snd<Za (lR (ks.getD x_1.fst QI).n (ks.getD x_1.fst QI).q).length)/\∃(q_1:Rat)(n_1:Nat),ldE (lR (ks.getD x_1.fst QI).n (ks.getD x_1.fst QI).q) (Za x_1.snd).toNat 0 3=some [Zg q_1 n_1]/\(0<=Za x_1.snd/\Za x_1.snd<Za (lR (ks.getD (x_1.fst-1) QI).n (ks.getD (x_1.fst-1) QI).q).length)/\∃(q_2:Rat)(n_2:Nat),ldE (lR (ks.getD (x_1.fst-1) QI).n (ks.getD (x_1.fst-1) QI).q) (Za x_1.snd).toNat 0 3=some [Zg q_2 n_2]/\n_1+n_2+1<=4294967296/\258+(n_1+n_2+1)<=4294967296/\n+(258+(n_1+n_2+1))+1<=4294967296/\((x_1.snd+1)*40<=140737488355328/\x_1.snd+1<=9223372036854775807)/\∃(x':Nat×Nat),((((1<=x'.fst/\x'.fst<ks.length)/\atR ks t=(Qd (ks.getD (x'.fst-1) QI) (ks.getD x'.fst QI) t,2*(ks.getD (x'.fst-1) QI).n+(ks.getD x'.fst QI).n+260))/\x'.snd<=m)/\ks.length-x'.fst=ks.length-x/\m-x'.snd<m-x_1.snd)/\0=0/\0=0/\0=0/\0=0/\x_1.snd+1=x'.snd/\Za m=Za m/\Zd.wrap (Za x_1.snd+1)=Za x'.snd/\55=55/\(ks.getD (x_1.fst-1) QI).tick=(ks.getD (x'.fst-1) QI).tick/\3=3/\lR (ks.getD (x_1.fst-1) QI).n (ks.getD (x_1.fst-1) QI).q=lR (ks.getD (x'.fst-1) QI).n (ks.getD (x'.fst-1) QI).q/\55=55/\(ks.getD x_1.fst QI).tick=(ks.getD x'.fst QI).tick/\3=3/\lR (ks.getD x_1.fst QI).n (ks.getD x_1.fst QI).q=lR (ks.getD x'.fst QI).n (ks.getD x'.fst QI).q/\25=25/\XQ (ks.getD (x_1.fst-1) QI) (ks.getD x_1.fst QI) t=XQ (ks.getD (x'.fst-1) QI) (ks.getD x'.fst QI) t/\258<=258/\25=25/\3=3/\(Zc x_1.snd (Zb (fun(q:Rat)=>[Zg q (2*(ks.getD (x_1.fst-1) QI).n+(ks.getD x_1.fst QI).n+260)]) (Zc x_1.snd (Qd (ks.getD (x_1.fst-1) QI) (ks.getD x_1.fst QI) t)))++[[Zg (q+XQ (ks.getD (x_1.fst-1) QI) (ks.getD x_1.fst QI) t*(q_1-q_2)) (n+(258+(n_1+n_2+1))+1)]]=Zb (fun(q:Rat)=>[Zg q (2*(ks.getD (x'.fst-1) QI).n+(ks.getD x'.fst QI).n+260)]) (Zc x'.snd (Qd (ks.getD (x'.fst-1) QI) (ks.getD x'.fst QI) t))∨QE (Zc x_1.snd (Zb (fun(q:Rat)=>[Zg q (2*(ks.getD (x_1.fst-1) QI).n+(ks.getD x_1.fst QI).n+260)]) (Zc x_1.snd (Qd (ks.getD (x_1.fst-1) QI) (ks.getD x_1.fst QI) t)))++[[Zg (q+XQ (ks.getD (x_1.fst-1) QI) (ks.getD x_1.fst QI) t*(q_1-q_2)) (n+(258+(n_1+n_2+1))+1)]]) (Zb (fun(q:Rat)=>[Zg q (2*(ks.getD (x'.fst-1) QI).n+(ks.getD x'.fst QI).n+260)]) (Zc x'.snd (Qd (ks.getD (x'.fst-1) QI) (ks.getD x'.fst QI) t))))/\True else K (AV.x false [Ch.s 3 (Zc x_1.snd (Zo 0 (Zb (fun(q:Rat)=>[Zg q (2*(ks.getD (x_1.fst-1) QI).n+(ks.getD x_1.fst QI).n+260)]) (Zc x_1.snd (Qd (ks.getD (x_1.fst-1) QI) (ks.getD x_1.fst QI) t)))))]))/\((↑d_1:Rat)-(↑d:Rat)=OfNat.ofNat 0->(∃(x_1:Nat×Nat),((((1<=x_1.fst/\x_1.fst<ks.length)/\atR ks t=(Qd (ks.getD (x_1.fst-1) QI) (ks.getD x_1.fst QI) t,2*(ks.getD (x_1.fst-1) QI).n+(ks.getD x_1.fst QI).n+260))/\x_1.snd<=m)/\ks.length-x_1.fst=ks.length-x)/\0=0/\0=0/\0=0/\Zh none 0 0=Zh none 0 0/\0=0/\x_1.snd=0/\(bif false then if Za ys_1.length>Za ys.length then Za ys_1.length else Za ys.length else if Za ys_1.length<Za ys.length then Za ys_1.length else Za ys.length)=Za m/\0=Za x_1.snd/\55=55/\d=(ks.getD (x_1.fst-1) QI).tick/\3=3/\ys=lR (ks.getD (x_1.fst-1) QI).n (ks.getD (x_1.fst-1) QI).q/\55=55/\d_1=(ks.getD x_1.fst QI).tick/\3=3/\ys_1=lR (ks.getD x_1.fst QI).n (ks.getD x_1.fst QI).q/\25=25/\False)/\∀(x_1:Nat×Nat),((1<=x_1.fst/\x_1.fst<ks.length)/\atR ks t=(Qd (ks.getD (x_1.fst-1) QI) (ks.getD x_1.fst QI) t,2*(ks.getD (x_1.fst-1) QI).n+(ks.getD x_1.fst QI).n+260))/\x_1.snd<=m->ks.length-x_1.fst=ks.length-x->bif decide (Za x_1.snd<Za m)then(0<=Za x_1.snd/\Za x_1.snd<Za (lR (ks.getD (x_1.fst-1) QI).n (ks.getD (x_1.fst-1) QI).q).length)/\∃(q:Rat)(n:Nat),ldE (lR (ks.getD (x_1.fst-1) QI).n (ks.getD (x_1.fst-1) QI).q) (Za x_1.snd).toNat 0 3=some [Zg q n]/\(0<=Za x_1.snd/\Za x_1.snd<Za (lR (ks.getD x_1.fst QI).n (ks.getD x_1.fst QI).q).length)/\∃(q_1:Rat)(n_1:Nat),ldE (lR (ks.getD x_1.fst QI).n (ks.getD x_1.fst QI).q) (Za x_1.snd).toNat 0 3=some [Zg q_1 n_1]/\(0<=Za x_1.snd/\Za x_1.snd<Za (lR (ks.getD (x_1.fst-1) QI).n (ks.getD (x_1.fst-1) QI).q).length)/\∃(q_2:Rat)(n_2:Nat),ldE (lR (ks.getD (x_1.fst-1) QI).n (ks.getD (x_1.fst-1) QI).q) (Za x_1.snd).toNat 0 3=some [Zg q_2 n_2]/\n_1+n_2+1<=4294967296/\258+(n_1+n_2+1)<=4294967296/\n+(258+(n_1+n_2+1))+1<=4294967296/\((x_1.snd+1)*40<=140737488355328/\x_1.snd+1<=9223372036854775807)/\∃(x':Nat×Nat),((((1<=x'.fst/\x'.fst<ks.length)/\atR ks t=(Qd (ks.getD (x'.fst-1) QI) (ks.getD x'.fst QI) t,2*(ks.getD (x'.fst-1) QI).n+(ks.getD x'.fst QI).n+260))/\x'.snd<=m)/\ks.length-x'.fst=ks.length-x/\m-x'.snd<m-x_1.snd)/\0=0/\0=0/\0=0/\0=0/\x_1.snd+1=x'.snd/\Za m=Za m/\Zd.wrap (Za x_1.snd+1)=Za x'.snd/\55=55/\(ks.getD (x_1.fst-1) QI).tick=(ks.getD (x'.fst-1) QI).tick/\3=3/\lR (ks.getD (x_1.fst-1) QI).n (ks.getD (x_1.fst-1) QI).q=lR (ks.getD (x'.fst-1) QI).n (ks.getD (x'.fst-1) QI).q/\55=55/\(ks.getD x_1.fst QI).tick=(ks.getD x'.fst QI).tick/\3=3/\lR (ks.getD x_1.fst QI).n (ks.getD x_1.fst QI).q=lR (ks.getD x'.fst QI).n (ks.getD x'.fst QI).q/\25=25/\XQ (ks.getD (x_1.fst-1) QI) (ks.getD x_1.fst QI) t=XQ (ks.getD (x'.fst-1) QI) (ks.getD x'.fst QI) t/\258<=258/\25=25/\3=3/\(Zc x_1.snd (Zb (fun(q:Rat)=>[Zg q (2*(ks.getD (x_1.fst-1) QI).n+(ks.getD x_1.fst QI).n+260)]) (Zc x_1.snd (Qd (ks.getD (x_1.fst-1) QI) (ks.getD x_1.fst QI) t)))++[[Zg (q+XQ (ks.getD (x_1.fst-1) QI) (ks.getD x_1.fst QI) t*(q_1-q_2)) (n+(258+(n_1+n_2+1))+1)]]=Zb (fun(q:Rat)=>[Zg q (2*(ks.getD (x'.fst-1) QI).n+(ks.getD x'.fst QI).n+260)]) (Zc x'.snd (Qd (ks.getD (x'.fst-1) QI) (ks.getD x'.fst QI) t))∨QE (Zc x_1.snd (Zb (fun(q:Rat)=>[Zg q (2*(ks.getD (x_1.fst-1) QI).n+(ks.getD x_1.fst QI).n+260)]) (Zc x_1.snd (Qd (ks.getD (x_1.fst-1) QI) (ks.getD x_1.fst QI) t)))++[[Zg (q+XQ (ks.getD (x_1.fst-1) QI) (ks.getD x_1.fst QI) t*(q_1-q_2)) (n+(258+(n_1+n_2+1))+1)]]) (Zb (fun(q:Rat)=>[Zg q (2*(ks.getD (x'.fst-1) QI).n+(ks.getD x'.fst QI).n+260)]) (Zc x'.snd (Qd (ks.getD (x'.fst-1) QI) (ks.getD x'.fst QI) t))))/\True else K (AV.x false [Ch.s 3 (Zc x_1.snd (Zo 0 (Zb (fun(q:Rat)=>[Zg q (2*(ks.getD (x_1.fst-1) QI).n+(ks.getD x_1.fst QI).n+260)]) (Zc x_1.snd (Qd (ks.getD (x_1.fst-1) QI) (ks.getD x_1.fst QI) t)))))]))else(0<=Zd.wrap (Za (Zb QP ks).length-1)/\Zd.wrap (Za (Zb QP ks).length-1)<Za (Zb QP ks).length)/\∃(ys:List (List Ch)),ldE (Zb QP ks) (Zd.wrap (Za (Zb QP ks).length-1)).toNat 1 1=some [Ch.s 3 ys]/\∃(n:Nat)(qs:List Rat),ys=lR n qs/\(n<=1000000/\qs.length<=1000000)/\K (AV.x false [Ch.s 3 (lR (n+65) qs)])):=by kernel_rfl
theorem QW9 (ks:List Qh)(m:Nat)(N:Nat)(t:Int)(hc:(Q1 ks m N)/\((N<=10000/\m<=100000/\1<=ks.length/\ks.length<=100000)/\ -4611686018427387904<=t/\t<4611686018427387904))(K:AV->Prop)(hK:K (sR (atR ks t).2 (atR ks t).1)):QK (QE9 ks m N t K):=by
 refine⟨?_⟩;rw[QFA];try simp only[Zp,R0,R1,Nat.le_refl,R4]
 obtain⟨hk,⟨hN,hm,hn,hn2⟩,ht⟩:=hc;obtain⟨a,ha⟩: ∃a,ks[0]? =some a:=⟨_,Ze (by omega)⟩
 have ma:=Zj ha;simp only[Zi];refine QC (fun h=>by simp only[beq_iff_eq]at h;omega) (fun _=>⟨by omega,_,Jx ha,QC (fun h=>⟨by omega,_,H6 ha,a.n,a.q,rfl,⟨by have:=hk.n a ma;omega,by rw[hk.len a ma];omega⟩,?_⟩) (fun h=>⟨⟨1,⟨by omega,?_⟩,rfl⟩,fun x hx=>QC (fun hp=> ?_) (fun hp=> ?_)⟩)⟩)
 ·have e:atR ks t=(a.q,a.n+65):=QAU ha (R5 h);rw[e]at hK;exact hK
 ·exact QE8 ha (R6 h)
 ·obtain⟨⟨hx1,hx2⟩,he⟩:=hx;have hp:x<ks.length:=by have:=R5 hp;omega
  obtain⟨y,hy⟩: ∃y,ks[x]? =some y:=⟨_,Ze hp⟩
  have my:=Zj hy;have hd:ks.drop x=y::ks.drop (x+1):=by
   rw[List.drop_eq_getElem_cons hp];rw[Ze hp]at hy;rw[Option.some.inj hy]
  have hyt:=hk.tick y my;have hgy:ks.getD x QI=y:=by rw[Zk,hy];rfl
  rw[hd]at he;refine⟨by omega,_,Jx (by simpa using hy),QC (fun hle=> ?_) (fun hle=> ?_)⟩
  ·have hle:=R5 hle;refine⟨x+1,⟨⟨⟨by omega,by omega⟩,?_⟩,by omega⟩,by rw[w64 (by omega)];simp⟩;rw[he,Xr,if_pos hle,show x+1-1=x by omega,hgy]
  ·have hle:=R6 hle;obtain⟨w,hw⟩: ∃w,ks[x-1]? =some w:=⟨_,Ze (by omega)⟩
   have mw:=Zj hw;have hgw:ks.getD (x-1) QI=w:=by rw[Zk,hw];rfl
   have hwt:=hk.tick w mw;have hinc:=hk.inc (x-1) w y hw (by rw[show x-1+1=x by omega];exact hy);rw[Xr,if_neg hle,hgw]at he;have e1:Zd.wrap ((x:Int)-1)=((x-1:Nat):Int):=by rw[w64 (by omega)];omega
   rw[e1,Int.toNat_natCast];refine⟨by omega,_,_,QDG hw,by omega,_,_,QDG (by simpa using hy),by omega,by omega,by omega,by omega,by omega,by omega,fun hne=> ?_,fun h0=> ?_⟩
   ·have lw:=hk.len w mw;have ly:=hk.len y my;have nw:=hk.n w mw;have ny:=hk.n y my;have li:(Qd w y t).length=m:=by unfold Qd;rw[W6 (by omega),lw]
    refine⟨⟨(x,0),?_⟩,fun z hz htie=> ?_⟩
    ·simp only[hgw,hgy,Qr,lw,ly];exact⟨⟨⟨⟨⟨hx1,hp⟩,he⟩,by omega⟩,trivial⟩,trivial,by simp,rfl,trivial,trivial,trivial,trivial,rfl,by simp⟩
    ·obtain⟨i,k⟩:=z;have hi:i=x:=by simp only at hz htie;omega
     subst hi;simp only[hgw,hgy,Qr,lw,ly]at hz⊢;refine QC (fun hkm=> ?_) (fun hkm=> ?_)
     ·have hkm:k<m:=by have:=R5 hkm;omega
      obtain⟨p,hpp⟩: ∃p,w.q[k]? =some p:=⟨_,Ze (by omega)⟩
      obtain⟨r,hr⟩: ∃r,y.q[k]? =some r:=⟨_,Ze (by omega)⟩
      refine⟨by omega,p,w.n,XD (by simpa using hpp),by omega,r,y.n,XD (by simpa using hr),by omega,p,w.n,XD (by simpa using hpp),by omega,by omega,by omega,by omega,(i,k+1),?_⟩;simp only[hgw,hgy];refine⟨⟨⟨⟨⟨hx1,hp⟩,he⟩,by omega⟩,trivial,by omega⟩,trivial,by rw[w64 (by omega)];simp,trivial,trivial,trivial,trivial,trivial,.inl ?_⟩;rw[Zf (by rw[Zi,Zl];omega),Zs,show(Qd w y t)[k]? =some _ from VI hpp hr,Zu];simp only[Option.toList,List.map_cons,List.map_nil];rw[show w.n+(258+(y.n+w.n+1))+1=2*w.n+y.n+260 by omega]
     ·have hkm:k=m:=by have:=R6 hkm;omega
      subst hkm;rw[Zv,Zf (by rw[Zi,Zl];omega),Zf (by omega)];rw[he]at hK;exact hK
   ·exfalso;have:=W7 hinc;have h0:(y.tick:Rat)-(w.tick:Rat)=0:=h0;grind
 ·obtain⟨⟨hx1,hx2⟩,he⟩:=hx;have hp:x=ks.length:=by have:=R6 hp;omega
  subst hp;obtain⟨z,hz⟩: ∃z,ks[ks.length-1]? =some z:=⟨_,Ze (by omega)⟩
  have mz:=Zj hz;rw[List.drop_length,show ks.getD (ks.length-1) QI=z by rw[Zk,hz];rfl,Xr]at he;rw[he]at hK;have e1:Zd.wrap ((ks.length:Int)-1)=((ks.length-1:Nat):Int):=by rw[w64 (by omega)];omega
  rw[e1,Int.toNat_natCast];exact⟨by omega,_,H6 hz,z.n,z.q,rfl,⟨by have:=hk.n z mz;omega,by rw[hk.len z mz];omega⟩,hK⟩
def QIa:Ctr
 | [.x false [.s 2 xs],.x false [.v (.int .i64 t)]]=>some fun K=> ∃(ks:List Qh) (m:Nat) (N:Nat),xs=ks.map QP/\((Q1 ks m N)/\((N<=10000/\m<=100000/\1<=ks.length/\ks.length<=100000)/\ -4611686018427387904<=t/\t<4611686018427387904))/\(K (sR (atR ks t).2 (atR ks t).1))
 | _=>none
theorem QND:QJ 60 QIa:=by
 refine okL Tryz.func60 fun l T hT K hK=> ?_
 unfold QIa at hT;split at hT<;>cases hT
 obtain⟨ks,m,N,rfl,hc,hK⟩:=hK;exact spL (QV QNC UF Qo) QN Tryz.func60 (QW9 _ _ _ _ hc K hK)
def QUg:LC:=(60,QIa)::QUf
noncomputable def QXA:Qa:=mkT QUg M48 X4
theorem QUh:QG QUg:= .cons QND QNC
theorem QUi:XH QXA:=QV QUh UF Qo
end Go.Proofs
namespace Go.Proofs
open Go Go.Eng
def Xt (ks:List Qh)(t:Int):List Rat:=List.zipWith (fun x y=>y-x) (atR ks t).1 (atR ks (t+1)).1
def QNE (a:ArmV)(x y:Qh):Prop:= ∀(i:Nat) (L:QZ) (p q:Rat),a.links[i]? =some L->x.q[i]? =some p->y.q[i]? =some q->Q5 (q-p)<=L.sp*((y.tick-x.tick:Int):Rat)
structure H7 (a:ArmV)(ks:List Qh):Prop where
 arm:QX a
 ne:1<=ks.length/\ks.length<=60
 keys: ∃N,N<=10000/\Q1 ks a.links.length N
 fit: ∀k∈ks,Fit a k.q
 slow: ∀(i:Nat) (x y:Qh),ks[i]? =some x->ks[i+1]? =some y->QNE a x y
def HU (ks:List Qh)(m:Nat)(_N:Nat)(t:Int)(K:AV->Prop):Prop:=QT QXA (oF Tryz.f20) (fun _=> .inv ⟨Nat,fun k=>⟨[(5,sR (atR ks t).2 (atR ks t).1),(6,sR (atR ks (t+1)).2 (atR ks (t+1)).1),(7,.x false [.w 500 0 k]),(23,iA .i64 m),(24,iA .i64 k)],[(500,Xs ((atR ks (t+1)).2+(atR ks t).2+1) ((Xt ks t).take k))]⟩,fun k=>k<=m,fun k=>m-k,fun _=>0⟩) Tryz.f20 [QE7 ks,iA .i64 t] K
theorem QAV (ks:List Qh)(m:Nat)(N:Nat)(t:Int)(K:AV->Prop):HU ks m N t K=(∃(ks_1:List Qh)(m_1:Nat)(N:Nat),Zb QP ks=Zb QP ks_1/\(Q1 ks_1 m_1 N/\(N<=10000/\m_1<=100000/\1<=ks_1.length/\ks_1.length<=100000)/\ -4611686018427387904<=t/\t<4611686018427387904)/\bif decide (t<9223372036854775807)then ∃(ks_2:List Qh)(m_2:Nat)(N:Nat),Zb QP ks=Zb QP ks_2/\(Q1 ks_2 m_2 N/\(N<=10000/\m_2<=100000/\1<=ks_2.length/\ks_2.length<=100000)/\ -4611686018427387904<=Zd.wrap (t+1)/\Zd.wrap (t+1)<4611686018427387904)/\(∃(x:Nat),(x<=m/\OfNat.ofNat 0=0)/\3=3/\lR (atR ks_1 t).snd (atR ks_1 t).fst=lR (atR ks t).snd (atR ks t).fst/\3=3/\lR (atR ks_2 (Zd.wrap (t+1))).snd (atR ks_2 (Zd.wrap (t+1))).fst=lR (atR ks (t+1)).snd (atR ks (t+1)).fst/\Zh none 0 0=Zh none 0 0/\0=0/\x=0/\(bif false then if Za (lR (atR ks_2 (Zd.wrap (t+1))).snd (atR ks_2 (Zd.wrap (t+1))).fst).length>Za (lR (atR ks_1 t).snd (atR ks_1 t).fst).length then Za (lR (atR ks_2 (Zd.wrap (t+1))).snd (atR ks_2 (Zd.wrap (t+1))).fst).length else Za (lR (atR ks_1 t).snd (atR ks_1 t).fst).length else if Za (lR (atR ks_2 (Zd.wrap (t+1))).snd (atR ks_2 (Zd.wrap (t+1))).fst).length<Za (lR (atR ks_1 t).snd (atR ks_1 t).fst).length then Za (lR (atR ks_2 (Zd.wrap (t+1))).snd (atR ks_2 (Zd.wrap (t+1))).fst).length else Za (lR (atR ks_1 t).snd (atR ks_1 t).fst).length)=Za m/\0=Za x/\Zb (fun(q:Rat)=>[Zg q ((atR ks (t+1)).snd+(atR ks t).snd+1)]) (Zc x (Xt ks t))=[]/\True)/\∀(x:Nat),x<=m->OfNat.ofNat 0=0->bif decide (Za x<Za m)then(0<=Za x/\Za x<Za (lR (atR ks (t+1)).snd (atR ks (t+1)).fst).length)/\∃(q:Rat)(n:Nat),ldE (lR (atR ks (t+1)).snd (atR ks (t+1)).fst) (Za x).toNat 0 3=some [Zg q n]/\(0<=Za x/\Za x<Za (lR (atR ks t).snd (atR ks t).fst).length)/\∃(q_1:Rat)(n_1:Nat),ldE (lR (atR ks t).snd (atR ks t).fst) (Za x).toNat 0 3=some [Zg q_1 n_1]/\n+n_1+1<=4294967296/\((x+1)*40<=140737488355328/\x+1<=9223372036854775807)/\∃(x':Nat),(x'<=m/\OfNat.ofNat 0=0/\m-x'<m-x)/\3=3/\lR (atR ks t).snd (atR ks t).fst=lR (atR ks t).snd (atR ks t).fst/\3=3/\lR (atR ks (t+1)).snd (atR ks (t+1)).fst=lR (atR ks (t+1)).snd (atR ks (t+1)).fst/\0=0/\x+1=x'/\Za m=Za m/\Zd.wrap (Za x+1)=Za x'/\25=25/\3=3/\(Zc x (Zb (fun(q:Rat)=>[Zg q ((atR ks (t+1)).snd+(atR ks t).snd+1)]) (Zc x (Xt ks t)))++[[Zg (q-q_1) (n+n_1+1)]]=Zb (fun(q:Rat)=>[Zg q ((atR ks (t+1)).snd+(atR ks t).snd+1)]) (Zc x' (Xt ks t))∨QE (Zc x (Zb (fun(q:Rat)=>[Zg q ((atR ks (t+1)).snd+(atR ks t).snd+1)]) (Zc x (Xt ks t)))++[[Zg (q-q_1) (n+n_1+1)]]) (Zb (fun(q:Rat)=>[Zg q ((atR ks (t+1)).snd+(atR ks t).snd+1)]) (Zc x' (Xt ks t))))/\True else K (AV.x false [Ch.s 3 (Zc x (Zo 0 (Zb (fun(q:Rat)=>[Zg q ((atR ks (t+1)).snd+(atR ks t).snd+1)]) (Zc x (Xt ks t)))))])else(∃(x:Nat),(x<=m/\OfNat.ofNat 0=0)/\3=3/\lR (atR ks_1 t).snd (atR ks_1 t).fst=lR (atR ks t).snd (atR ks t).fst/\3=3/\lR (atR ks_1 t).snd (atR ks_1 t).fst=lR (atR ks (t+1)).snd (atR ks (t+1)).fst/\Zh none 0 0=Zh none 0 0/\0=0/\x=0/\(bif false then if Za (lR (atR ks_1 t).snd (atR ks_1 t).fst).length>Za (lR (atR ks_1 t).snd (atR ks_1 t).fst).length then Za (lR (atR ks_1 t).snd (atR ks_1 t).fst).length else Za (lR (atR ks_1 t).snd (atR ks_1 t).fst).length else if Za (lR (atR ks_1 t).snd (atR ks_1 t).fst).length<Za (lR (atR ks_1 t).snd (atR ks_1 t).fst).length then Za (lR (atR ks_1 t).snd (atR ks_1 t).fst).length else Za (lR (atR ks_1 t).snd (atR ks_1 t).fst).length)=Za m/\0=Za x/\Zb (fun(q:Rat)=>[Zg q ((atR ks (t+1)).snd+(atR ks t).snd+1)]) (Zc x (Xt ks t))=[]/\True)/\∀(x:Nat),x<=m->OfNat.ofNat 0=0->bif decide (Za x<Za m)then(0<=Za x/\Za x<Za (lR (atR ks (t+1)).snd (atR ks (t+1)).fst).length)/\∃(q:Rat)(n:Nat),ldE (lR (atR ks (t+1)).snd (atR ks (t+1)).fst) (Za x).toNat 0 3=some [Zg q n]/\(0<=Za x/\Za x<Za (lR (atR ks t).snd (atR ks t).fst).length)/\∃(q_1:Rat)(n_1:Nat),ldE (lR (atR ks t).snd (atR ks t).fst) (Za x).toNat 0 3=some [Zg q_1 n_1]/\n+n_1+1<=4294967296/\((x+1)*40<=140737488355328/\x+1<=9223372036854775807)/\∃(x':Nat),(x'<=m/\OfNat.ofNat 0=0/\m-x'<m-x)/\3=3/\lR (atR ks t).snd (atR ks t).fst=lR (atR ks t).snd (atR ks t).fst/\3=3/\lR (atR ks (t+1)).snd (atR ks (t+1)).fst=lR (atR ks (t+1)).snd (atR ks (t+1)).fst/\0=0/\x+1=x'/\Za m=Za m/\Zd.wrap (Za x+1)=Za x'/\25=25/\3=3/\(Zc x (Zb (fun(q:Rat)=>[Zg q ((atR ks (t+1)).snd+(atR ks t).snd+1)]) (Zc x (Xt ks t)))++[[Zg (q-q_1) (n+n_1+1)]]=Zb (fun(q:Rat)=>[Zg q ((atR ks (t+1)).snd+(atR ks t).snd+1)]) (Zc x' (Xt ks t))∨QE (Zc x (Zb (fun(q:Rat)=>[Zg q ((atR ks (t+1)).snd+(atR ks t).snd+1)]) (Zc x (Xt ks t)))++[[Zg (q-q_1) (n+n_1+1)]]) (Zb (fun(q:Rat)=>[Zg q ((atR ks (t+1)).snd+(atR ks t).snd+1)]) (Zc x' (Xt ks t))))/\True else K (AV.x false [Ch.s 3 (Zc x (Zo 0 (Zb (fun(q:Rat)=>[Zg q ((atR ks (t+1)).snd+(atR ks t).snd+1)]) (Zc x (Xt ks t)))))])):=by kernel_rfl
theorem QNF (ks:List Qh)(m:Nat)(N:Nat)(t:Int)(hc:(Q1 ks m N)/\((N<=10000/\m<=100000/\1<=ks.length/\ks.length<=100000)/\ -4611686018427387904<=t/\t+1<4611686018427387904))(K:AV->Prop)(hK:K (sR ((atR ks (t+1)).2+(atR ks t).2+1) (Xt ks t))):QK (HU ks m N t K):=by
 refine⟨?_⟩;rw[QAV];try simp only[Zp,R0,R1,R4]
 obtain⟨hk,⟨hN,hm,hn,hn2⟩,ht⟩:=hc;have hne:ks≠[]:=fun e=>by rw[e]at hn;simp at hn
 obtain⟨b0,l0⟩:=Ks (t:=t) hk hne;obtain⟨b1,l1⟩:=Ks (t:=t+1) hk hne;have e1:Zd.wrap (t+1)=t+1:=w64 (by omega);simp only[e1];have lz:(Xt ks t).length=m:=by simp[Xt,l0,l1]
 refine⟨ks,m,N,rfl,⟨hk,⟨hN,hm,hn,hn2⟩,by omega,by omega⟩,QC (fun _=>⟨ks,m,N,rfl,⟨hk,⟨hN,hm,hn,hn2⟩,by omega,by omega⟩,⟨0,by omega,rfl,rfl,rfl,by simp[Qr,l0,l1],rfl,by simp⟩,fun x hx=>QC (fun hp=> ?_) (fun hp=> ?_)⟩) (fun h=> ?_)⟩
 ·have hp:x<m:=by have:=R5 hp;omega
  obtain⟨p,hpp⟩: ∃p,(atR ks t).1[x]? =some p:=⟨_,Ze (by omega)⟩
  obtain⟨r,hr⟩: ∃r,(atR ks (t+1)).1[x]? =some r:=⟨_,Ze (by omega)⟩
  refine⟨by rw[Qr];omega,_,_,XD (by simpa using hr),by rw[Qr];omega,_,_,XD (by simpa using hpp),by omega,by omega,x+1,⟨by omega,by omega⟩,rfl,by rw[w64 (by omega)];simp,.inl ?_⟩;have hg:(Xt ks t)[x]? =some (r-p):=by simp[Xt,List.getElem?_zipWith,hpp,hr]
  rw[Zf (by rw[Zi,Zl];omega),Zs,hg,Zu];rfl
 ·have hp:x=m:=by have:=R6 hp;omega
  subst hp;rw[Zv,Zf (by rw[Zi,Zl];omega),Zf (by omega)];exact hK
 ·have:=R6 h;omega
def UG:Ctr
 | [.x false [.s 2 xs],.x false [.v (.int .i64 t)]]=>some fun K=> ∃(ks:List Qh) (m:Nat) (N:Nat),xs=ks.map QP/\((Q1 ks m N)/\((N<=10000/\m<=100000/\1<=ks.length/\ks.length<=100000)/\ -4611686018427387904<=t/\t+1<4611686018427387904))/\(K (sR ((atR ks (t+1)).2+(atR ks t).2+1) (Xt ks t)))
 | _=>none
theorem QKX:QJ 20 UG:=by
 refine okL Tryz.func20 fun l T hT K hK=> ?_
 unfold UG at hT;split at hT<;>cases hT
 obtain⟨ks,m,N,rfl,hc,hK⟩:=hK;exact spL QUi QN Tryz.func20 (QNF _ _ _ _ hc K hK)
def QYS:LC:=(20,UG)::QUg
def QYT:LC:=QYS
def QXB:LC:=QYT
noncomputable def QYt:Qa:=mkT QXB M48 X4
end Go.Proofs
namespace Go.Proofs
open Go Go.Eng
structure QNG (a:ArmV)(ks:List Qh):Prop where
 n: ∀k∈ks,k.n=63
 len: ∀k∈ks,k.q.length=a.links.length
 fit: ∀k∈ks,Fit a k.q
 tick: ∀k∈ks,0<=k.tick/\k.tick<=300
 inc: ∀(i:Nat) (x y:Qh),ks[i]? =some x->ks[i+1]? =some y->x.tick+48<=y.tick
structure TkX where
 ks:List Qh
 l:List Int
 n:Nat
 tick:Int
structure TkI (a:ArmV)(l:List Int)(x:TkX):Prop where
 made:QNG a x.ks
 last: ∀k,x.ks[x.ks.length-1]? =some k->k.tick=x.tick
 hl:x.l.length<=l.length
 hn:x.ks.length<=x.n/\1<=x.n/\x.n<=4
 ht:0<=x.tick/\x.tick<=10+67*x.ks.length
theorem TkI.add {a:ArmV}{l:List Int}{x:TkX}(h:TkI a l x)(hlt:x.ks.length<x.n){t:Int}(ht:(x.ks.length=0/\t=x.tick)∨(x.tick+48<=t/\t<=x.tick+67)){qs:List Rat}(hf:Fit a qs)(hq:qs.length=a.links.length){l':List Int}(hl:l'.length<=l.length):TkI a l ⟨x.ks++[⟨t,63,qs⟩],l',x.n,t⟩:=by
 obtain⟨⟨m1,m2,m3,m4,m5⟩,last,_,hn,h2⟩:=h;have both: ∀{p:Qh->Prop},(∀k∈x.ks,p k)->p ⟨t,63,qs⟩-> ∀k∈x.ks++[⟨t,63,qs⟩],p k:=fun h1 h2 k hk=>by
  rcases List.mem_append.1 hk with hk | hk
  ·exact h1 k hk
  ·rw[List.mem_singleton.1 hk];exact h2
 refine⟨⟨both m1 rfl,both m2 hq,both m3 hf,both m4 ⟨by simp only;omega,by simp only;omega⟩,fun i u v hu hv=> ?_⟩,fun k hk=> ?_,hl,by simp only[Zm,Zn,Zq];omega,by simp only[Zm,Zn,Zq];omega⟩
 ·have hiv:=(List.getElem?_eq_some_iff.1 hv).1;simp only[Zm,Zn,Zq]at hiv;rw[List.getElem?_append_left (by omega)]at hu;by_cases e:i+1<x.ks.length
  ·rw[List.getElem?_append_left e]at hv;exact m5 i u v hu hv
  ·have e:i=x.ks.length-1:=by omega
   have:=last u (e▸hu);rw[Zr (by omega),show i+1-x.ks.length=0 by omega]at hv;cases hv
   simp only;omega
 ·simp only[Zm,Zn,Zq]at hk;rw[Zr (by omega),show x.ks.length+(0+1)-1-x.ks.length=0 by omega]at hk;cases hk;rfl
def QYU:LC:=QXB
def QXC:LC:=QYU
noncomputable def QYu:Qa:=mkT QXC M48 X4
end Go.Proofs
