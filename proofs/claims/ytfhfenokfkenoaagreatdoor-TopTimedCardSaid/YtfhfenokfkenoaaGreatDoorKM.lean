/- track: copied and At with a row of their own; Each. -/
import Derived.Test.YtfhfenokfkenoaaGreatDoorK1
open Int renaming ofNat → Za, ofNat_eq_natCast → Zl
open List renaming map → Zb, getElem?_eq_getElem → Zc, take → Zd, mem_of_getElem? → Zf, getD_eq_getElem?_getD → Zg, take_of_length_le → Zj, mem_of_mem_take → Zk, length_map → Zm
open Go.IntKind renaming i64 → Ze
open Go.Eng.Ch renaming r → Zh
open Go.Value renaming slice → Zi
namespace Go.Proofs
open Go Go.Eng
theorem QRc (n:Nat)(qs:List Rat)(hc:n<=1000000/\qs.length<=1000000):QK (X7 (X:=Unit) T49 (oF Tryz.f117) (fun _=> .inv ⟨Nat,fun k=>⟨[(3,.x false [.w 500 0 k]),(6,sR n qs),(7,iA .i64 qs.length),(8,iA .i64 k)],[(500,Xs (n+65) (qs.take k))]⟩,fun k=>k<=qs.length,fun k=>qs.length-k,fun _=>0⟩) Tryz.f117 [sR n qs] [] (fun _=>True) (fun _=>⟨[(2,.x false [.w 0 0 qs.length])],[(0,Xs (n+65) qs)]⟩)):=by
 refine HV (((∃(x:Nat),(x<=qs.length/\OfNat.ofNat 0=0)/\Zi none 0 0=Zi none 0 0/\0=0/\x=0/\3=3/\lR n qs=lR n qs/\Za (lR n qs).length=Za qs.length/\0=Za x/\Zb (fun(q:Rat)=>[Zh q (n+65)]) (Zd x qs)=[]/\True)/\∀(x:Nat),x<=qs.length->OfNat.ofNat 0=0->bif decide (Za x<Za qs.length)then(0<=Za x/\Za x<Za (lR n qs).length)/\∃(q:Rat),∃(n_1:Nat),ldE (lR n qs) (Za x).toNat 0 3=some [Zh q n_1]/\((-9223372036854775808:Int)<=0/\(0:Int)<9223372036854775808)/\n_1+64+1<=4294967296/\((x+1)*40<=140737488355328/\x+1<=9223372036854775807)/\∃(x':Nat),(x'<=qs.length/\OfNat.ofNat 0=0/\qs.length-x'<qs.length-x)/\0=0/\x+1=x'/\3=3/\lR n qs=lR n qs/\Za qs.length=Za qs.length/\Ze.wrap (Za x+1)=Za x'/\25=25/\3=3/\(Zd x (Zb (fun(q:Rat)=>[Zh q (n+65)]) (Zd x qs))++[[Zh (q+↑(0:Int)) (n_1+64+1)]]=Zb (fun(q:Rat)=>[Zh q (n+65)]) (Zd x' qs)∨QE (Zd x (Zb (fun(q:Rat)=>[Zh q (n+65)]) (Zd x qs))++[[Zh (q+↑(0:Int)) (n_1+64+1)]]) (Zb (fun(q:Rat)=>[Zh q (n+65)]) (Zd x' qs)))/\True else ∃(x_1:Unit),True/\0=0/\x=qs.length/\25=25/\3=3/\(Zb (fun(q:Rat)=>[Zh q (n+65)]) (Zd x qs)=Zb (fun(q:Rat)=>[Zh q (n+65)]) qs∨QE (Zb (fun(q:Rat)=>[Zh q (n+65)]) (Zd x qs)) (Zb (fun(q:Rat)=>[Zh q (n+65)]) qs))/\True)) ?_
 simp only[Zl,R0,R1,Nat.zero_add,Nat.le_refl,R4,R2,R3];refine⟨⟨0,by omega,rfl,by rw[Qr],rfl,by simp⟩,fun x hx=>QC (fun hp=> ?_) (fun hp=> ?_)⟩
 ·have hp:x<qs.length:=by have:=R5 hp;omega
  obtain⟨q,hq⟩: ∃q,qs[x]? =some q:=⟨_,Zc hp⟩
  refine⟨by rw[Qr];omega,_,_,XD (by simpa using hq),by omega,by omega,by omega,x+1,⟨by omega,by omega⟩,rfl,by rw[w64 (by omega)];simp,.inl ?_⟩;rw[Zj (by rw[Zm,List.length_take];omega),List.take_add_one,hq,List.map_append];simp only[Option.toList,List.map_cons,List.map_nil];rw[show q+((0:Int):Rat)=q by rw[Rat.intCast_zero,Rat.add_zero]]
 ·have hp:x=qs.length:=by have:=R6 hp;omega
  subst hp;exact⟨(),rfl,.inl (by rw[List.take_length])⟩
def QDU:XW:=fun as0 H d=>match as0 with
 | [.x false [.s 3 xs]]=>match H d with
  | none=>some fun K=> ∃n qs,xs=lR n qs/\(n<=1000000/\qs.length<=1000000)/\K (.x false [.w d 0 qs.length]) (XJ [(0,d)] (QS [(0,Xs (n+65) qs)]) H)
  | some _=>none
 | _=>none
theorem QNz:YG 117 QDU:=by
 refine⟨Qg Tryz.func117 (by kernel_rfl),fun l H d T hT K hK=> ?_⟩;unfold QDU at hT;split at hT
 ·split at hT
  ·rename_i hd;cases hT
   obtain⟨n,qs,rfl,hc,hK⟩:=hK;exact J0 QIZ QN Tryz.func117 (by kernel_rfl) (by kernel_rfl) (by rfl) (by rfl) hd (by kernel_rfl) (QRc n qs hc) hK
  ·cases hT
 ·cases hT
def QXo:List (Nat×XW):=(117,QDU)::M48
theorem QVj:Xe QXo:= .cons QNz UF
def QN0 (ks:List Qh)(m:Nat)(t:Int):LI:=fun id=>bif id.beq 6 then .inv ⟨Nat,fun i=>⟨[(0,QE7 ks),(1,iA .i64 t),(5,iA .i64 i)],[]⟩,fun i=>(1<=i/\i<=ks.length)/\atR ks t=Xr (ks.getD (i-1) QI) (ks.drop i) t,fun i=>ks.length-i,fun _=>0⟩else .inv ⟨Nat×Nat,fun x=>⟨[(6,.x false [.p 6 0]),(7,.x false [.p 7 0]),(9,.x false [.p 9 0]),(11,.x false [.w 500 0 x.2]),(71,iA .i64 m),(72,iA .i64 x.2)],[(6,.box 55 (QP (ks.getD (x.1-1) QI))),(7,.box 55 (QP (ks.getD x.1 QI))),(9,.box 25 [.r (XQ (ks.getD (x.1-1) QI) (ks.getD x.1 QI) t) 258]),(500,Xs (2*(ks.getD (x.1-1) QI).n+(ks.getD x.1 QI).n+260) ((Qd (ks.getD (x.1-1) QI) (ks.getD x.1 QI) t).take x.2))]⟩,fun x=>((1<=x.1/\x.1<ks.length)/\atR ks t=(Qd (ks.getD (x.1-1) QI) (ks.getD x.1 QI) t,2*(ks.getD (x.1-1) QI).n+(ks.getD x.1 QI).n+260))/\x.2<=m,fun x=>m-x.2,fun x=>ks.length-x.1⟩
def QB1 (ks:List Qh)(m:Nat)(t:Int):Prop:=X7 (X:=Unit) (mkT L49 QXo X4) (oF Tryz.f60) (QN0 ks m t) Tryz.f60 [QE7 ks,iA .i64 t] [] (fun _=>True) (fun _=>⟨[(4,.x false [.w 0 0 m])],[(0,Xs (atR ks t).2 (atR ks t).1)]⟩)
theorem QDV (ks:List Qh)(m:Nat)(t:Int):QB1 ks m t=(bif Za (Zb QP ks).length==0 then ∃(x:Unit),True/\Zi none 0 0=Zi none 0 0/\0=0/\m=0/\Zb (fun(q:Rat)=>[Zh q (atR ks t).snd]) (atR ks t).fst=[]/\True else((0:Int)<=0/\0<Za (Zb QP ks).length)/\∃(d:Int),ldE (Zb QP ks) 0 0 1=some [Ch.v (Value.int Ze d)]/\bif decide (t<=d)then((0:Int)<=0/\0<Za (Zb QP ks).length)/\∃(ys:List (List Ch)),ldE (Zb QP ks) 0 1 1=some [Ch.s 3 ys]/\∃(n:Nat)(qs:List Rat),ys=lR n qs/\(n<=1000000/\qs.length<=1000000)/\∃(x:Unit),True/\0=0/\qs.length=m/\25=25/\3=3/\(Zb (fun(q:Rat)=>[Zh q (n+65)]) qs=Zb (fun(q:Rat)=>[Zh q (atR ks t).snd]) (atR ks t).fst∨QE (Zb (fun(q:Rat)=>[Zh q (n+65)]) qs) (Zb (fun(q:Rat)=>[Zh q (atR ks t).snd]) (atR ks t).fst))/\True else(∃(x:Nat),(((1<=x/\x<=ks.length)/\atR ks t=Xr (ks.getD (x-1) QI) (List.drop x ks) t)/\OfNat.ofNat 0=0)/\2=2/\Zb QP ks=Zb QP ks/\t=t/\1=Za x/\True)/\∀(x:Nat),(1<=x/\x<=ks.length)/\atR ks t=Xr (ks.getD (x-1) QI) (List.drop x ks) t->OfNat.ofNat 0=0->bif decide (Za x<Za (Zb QP ks).length)then(0<=Za x/\Za x<Za (Zb QP ks).length)/\∃(d:Int),ldE (Zb QP ks) (Za x).toNat 0 1=some [Ch.v (Value.int Ze d)]/\bif decide (d<=t)then ∃(x':Nat),(((1<=x'/\x'<=ks.length)/\atR ks t=Xr (ks.getD (x'-1) QI) (List.drop x' ks) t)/\OfNat.ofNat 0=0/\ks.length-x'<ks.length-x)/\2=2/\Zb QP ks=Zb QP ks/\t=t/\Ze.wrap (Za x+1)=Za x'/\True else(0<=Ze.wrap (Za x-1)/\Ze.wrap (Za x-1)<Za (Zb QP ks).length)/\∃(d:Int)(ys:List (List Ch)),ldE (Zb QP ks) (Ze.wrap (Za x-1)).toNat 0 2=some [Ch.v (Value.int Ze d),Ch.s 3 ys]/\(0<=Za x/\Za x<Za (Zb QP ks).length)/\∃(d_1:Int)(ys_1:List (List Ch)),ldE (Zb QP ks) (Za x).toNat 0 2=some [Ch.v (Value.int Ze d_1),Ch.s 3 ys_1]/\(-9223372036854775808<=d/\d<9223372036854775808)/\(-9223372036854775808<=t/\t<9223372036854775808)/\129<=4294967296/\(-9223372036854775808<=d_1/\d_1<9223372036854775808)/\129<=4294967296/\258<=4294967296/\((↑d_1:Rat)-(↑d:Rat)≠OfNat.ofNat 0->(∃(x_1:Nat×Nat),((((1<=x_1.fst/\x_1.fst<ks.length)/\atR ks t=(Qd (ks.getD (x_1.fst-1) QI) (ks.getD x_1.fst QI) t,2*(ks.getD (x_1.fst-1) QI).n+(ks.getD x_1.fst QI).n+260))/\x_1.snd<=m)/\ks.length-x_1.fst=ks.length-x)/\0=0/\0=0/\0=0/\Zi none 0 0=Zi none 0 0/\0=0/\x_1.snd=0/\(bif false then if Za ys_1.length>Za ys.length then Za ys_1.length else Za ys.length else if Za ys_1.length<Za ys.length then Za ys_1.length else Za ys.length)=Za m/\0=Za x_1.snd/\55=55/\d=(ks.getD (x_1.fst-1) QI).tick/\3=3/\ys=lR (ks.getD (x_1.fst-1) QI).n (ks.getD (x_1.fst-1) QI).q/\55=55/\d_1=(ks.getD x_1.fst QI).tick/\3=3/\ys_1=lR (ks.getD x_1.fst QI).n (ks.getD x_1.fst QI).q/\25=25/\((↑t:Rat)-(↑d:Rat))/((↑d_1:Rat)-(↑d:Rat))=XQ (ks.getD (x_1.fst-1) QI) (ks.getD x_1.fst QI) t/\258<=258/\Zb (fun(q:Rat)=>[Zh q (2*(ks.getD (x_1.fst-1) QI).n+(ks.getD x_1.fst QI).n+260)]) (Zd x_1.snd (Qd (ks.getD (x_1.fst-1) QI) (ks.getD x_1.fst QI) t))=[]/\True)/\∀(x_1:Nat×Nat),((1<=x_1.fst/\x_1.fst<ks.length)/\atR ks t=(Qd (ks.getD (x_1.fst-1) QI) (ks.getD x_1.fst QI) t,2*(ks.getD (x_1.fst-1) QI).n+(ks.getD x_1.fst QI).n+260))/\x_1.snd<=m->ks.length-x_1.fst=ks.length-x->bif decide (Za x_1.snd<Za m)then(0<=Za x_1.snd/\Za x_1.snd<Za (lR (ks.getD (x_1.fst-1) QI).n (ks.getD (x_1.fst-1) QI).q).length)/\∃(q:Rat)(n:Nat),ldE (lR (ks.getD (x_1.fst-1) QI).n (ks.getD (x_1.fst-1) QI).q) (Za x_1.snd).toNat 0 3=some [Zh q n]/\(0<=Za x_1.snd/\Za x_1.snd<Za (lR (ks.getD x_1.fst QI).n (ks.getD x_1.fst QI).q).length)/\∃(q_1:Rat)(n_1:Nat),ldE (lR (ks.getD x_1.fst QI).n (ks.getD x_1.fst QI).q) (Za x_1.snd).toNat 0 3=some [Zh q_1 n_1]/\(0<=Za x_1.snd/\Za x_1.snd<Za (lR (ks.getD (x_1.fst-1) QI).n (ks.getD (x_1.fst-1) QI).q).length)/\∃(q_2:Rat)(n_2:Nat),ldE (lR (ks.getD (x_1.fst-1) QI).n (ks.getD (x_1.fst-1) QI).q) (Za x_1.snd).toNat 0 3=some [Zh q_2 n_2]/\n_1+n_2+1<=4294967296/\258+(n_1+n_2+1)<=4294967296/\n+(258+(n_1+n_2+1))+1<=4294967296/\((x_1.snd+1)*40<=140737488355328/\x_1.snd+1<=9223372036854775807)/\∃(x':Nat×Nat),((((1<=x'.fst/\x'.fst<ks.length)/\atR ks t=(Qd (ks.getD (x'.fst-1) QI) (ks.getD x'.fst QI) t,2*(ks.getD (x'.fst-1) QI).n+(ks.getD x'.fst QI).n+260))/\x'.snd<=m)/\ks.length-x'.fst=ks.length-x/\m-x'.snd<m-x_1.snd)/\0=0/\0=0/\0=0/\0=0/\x_1.snd+1=x'.snd/\Za m=Za m/\Ze.wrap (Za x_1.snd+1)=Za x'.snd/\55=55/\(ks.getD (x_1.fst-1) QI).tick=(ks.getD (x'.fst-1) QI).tick/\3=3/\lR (ks.getD (x_1.fst-1) QI).n (ks.getD (x_1.fst-1) QI).q=lR (ks.getD (x'.fst-1) QI).n (ks.getD (x'.fst-1) QI).q/\55=55/\(ks.getD x_1.fst QI).tick=(ks.getD x'.fst QI).tick/\3=3/\lR (ks.getD x_1.fst QI).n (ks.getD x_1.fst QI).q=lR (ks.getD x'.fst QI).n (ks.getD x'.fst QI).q/\25=25/\XQ (ks.getD (x_1.fst-1) QI) (ks.getD x_1.fst QI) t=XQ (ks.getD (x'.fst-1) QI) (ks.getD x'.fst QI) t/\258<=258/\25=25/\3=3/\(Zd x_1.snd (Zb (fun(q:Rat)=>[Zh q (2*(ks.getD (x_1.fst-1) QI).n+(ks.getD x_1.fst QI).n+260)]) (Zd x_1.snd (Qd (ks.getD (x_1.fst-1) QI) (ks.getD x_1.fst QI) t)))++[[Zh (q+XQ (ks.getD (x_1.fst-1) QI) (ks.getD x_1.fst QI) t*(q_1-q_2)) (n+(258+(n_1+n_2+1))+1)]]=Zb (fun(q:Rat)=>[Zh q (2*(ks.getD (x'.fst-1) QI).n+(ks.getD x'.fst QI).n+260)]) (Zd x'.snd (Qd (ks.getD (x'.fst-1) QI) (ks.getD x'.fst QI) t))∨QE (Zd x_1.snd (Zb (fun(q:Rat)=>[Zh q (2*(ks.getD (x_1.fst-1) QI).n+(ks.getD x_1.fst QI).n+260)]) (Zd x_1.snd (Qd (ks.getD (x_1.fst-1) QI) (ks.getD x_1.fst QI) t)))++[[Zh (q+XQ (ks.getD (x_1.fst-1) QI) (ks.getD x_1.fst QI) t*(q_1-q_2)) (n+(258+(n_1+n_2+1))+1)]]) (Zb (fun(q:Rat)=>[Zh q (2*(ks.getD (x'.fst-1) QI).n+(ks.getD x'.fst QI).n+260)]) (Zd x'.snd (Qd (ks.getD (x'.fst-1) QI) (ks.getD x'.fst QI) t))))/\True else ∃(x:Unit),True/\0=0/\x_1.snd=m/\25=25/\3=3/\(Zb (fun(q:Rat)=>[Zh q (2*(ks.getD (x_1.fst-1) QI).n+(ks.getD x_1.fst QI).n+260)]) (Zd x_1.snd (Qd (ks.getD (x_1.fst-1) QI) (ks.getD x_1.fst QI) t))=Zb (fun(q:Rat)=>[Zh q (atR ks t).snd]) (atR ks t).fst∨QE (Zb (fun(q:Rat)=>[Zh q (2*(ks.getD (x_1.fst-1) QI).n+(ks.getD x_1.fst QI).n+260)]) (Zd x_1.snd (Qd (ks.getD (x_1.fst-1) QI) (ks.getD x_1.fst QI) t))) (Zb (fun(q:Rat)=>[Zh q (atR ks t).snd]) (atR ks t).fst))/\True)/\((↑d_1:Rat)-(↑d:Rat)=OfNat.ofNat 0->(∃(x_1:Nat×Nat),((((1<=x_1.fst/\x_1.fst<ks.length)/\atR ks t=(Qd (ks.getD (x_1.fst-1) QI) (ks.getD x_1.fst QI) t,2*(ks.getD (x_1.fst-1) QI).n+(ks.getD x_1.fst QI).n+260))/\x_1.snd<=m)/\ks.length-x_1.fst=ks.length-x)/\0=0/\0=0/\0=0/\Zi none 0 0=Zi none 0 0/\0=0/\x_1.snd=0/\(bif false then if Za ys_1.length>Za ys.length then Za ys_1.length else Za ys.length else if Za ys_1.length<Za ys.length then Za ys_1.length else Za ys.length)=Za m/\0=Za x_1.snd/\55=55/\d=(ks.getD (x_1.fst-1) QI).tick/\3=3/\ys=lR (ks.getD (x_1.fst-1) QI).n (ks.getD (x_1.fst-1) QI).q/\55=55/\d_1=(ks.getD x_1.fst QI).tick/\3=3/\ys_1=lR (ks.getD x_1.fst QI).n (ks.getD x_1.fst QI).q/\25=25/\False)/\∀(x_1:Nat×Nat),((1<=x_1.fst/\x_1.fst<ks.length)/\atR ks t=(Qd (ks.getD (x_1.fst-1) QI) (ks.getD x_1.fst QI) t,2*(ks.getD (x_1.fst-1) QI).n+(ks.getD x_1.fst QI).n+260))/\x_1.snd<=m->ks.length-x_1.fst=ks.length-x->bif decide (Za x_1.snd<Za m)then(0<=Za x_1.snd/\Za x_1.snd<Za (lR (ks.getD (x_1.fst-1) QI).n (ks.getD (x_1.fst-1) QI).q).length)/\∃(q:Rat)(n:Nat),ldE (lR (ks.getD (x_1.fst-1) QI).n (ks.getD (x_1.fst-1) QI).q) (Za x_1.snd).toNat 0 3=some [Zh q n]/\(0<=Za x_1.snd/\Za x_1.snd<Za (lR (ks.getD x_1.fst QI).n (ks.getD x_1.fst QI).q).length)/\∃(q_1:Rat)(n_1:Nat),ldE (lR (ks.getD x_1.fst QI).n (ks.getD x_1.fst QI).q) (Za x_1.snd).toNat 0 3=some [Zh q_1 n_1]/\(0<=Za x_1.snd/\Za x_1.snd<Za (lR (ks.getD (x_1.fst-1) QI).n (ks.getD (x_1.fst-1) QI).q).length)/\∃(q_2:Rat)(n_2:Nat),ldE (lR (ks.getD (x_1.fst-1) QI).n (ks.getD (x_1.fst-1) QI).q) (Za x_1.snd).toNat 0 3=some [Zh q_2 n_2]/\n_1+n_2+1<=4294967296/\258+(n_1+n_2+1)<=4294967296/\n+(258+(n_1+n_2+1))+1<=4294967296/\((x_1.snd+1)*40<=140737488355328/\x_1.snd+1<=9223372036854775807)/\∃(x':Nat×Nat),((((1<=x'.fst/\x'.fst<ks.length)/\atR ks t=(Qd (ks.getD (x'.fst-1) QI) (ks.getD x'.fst QI) t,2*(ks.getD (x'.fst-1) QI).n+(ks.getD x'.fst QI).n+260))/\x'.snd<=m)/\ks.length-x'.fst=ks.length-x/\m-x'.snd<m-x_1.snd)/\0=0/\0=0/\0=0/\0=0/\x_1.snd+1=x'.snd/\Za m=Za m/\Ze.wrap (Za x_1.snd+1)=Za x'.snd/\55=55/\(ks.getD (x_1.fst-1) QI).tick=(ks.getD (x'.fst-1) QI).tick/\3=3/\lR (ks.getD (x_1.fst-1) QI).n (ks.getD (x_1.fst-1) QI).q=lR (ks.getD (x'.fst-1) QI).n (ks.getD (x'.fst-1) QI).q/\55=55/\(ks.getD x_1.fst QI).tick=(ks.getD x'.fst QI).tick/\3=3/\lR (ks.getD x_1.fst QI).n (ks.getD x_1.fst QI).q=lR (ks.getD x'.fst QI).n (ks.getD x'.fst QI).q/\25=25/\XQ (ks.getD (x_1.fst-1) QI) (ks.getD x_1.fst QI) t=XQ (ks.getD (x'.fst-1) QI) (ks.getD x'.fst QI) t/\258<=258/\25=25/\3=3/\(Zd x_1.snd (Zb (fun(q:Rat)=>[Zh q (2*(ks.getD (x_1.fst-1) QI).n+(ks.getD x_1.fst QI).n+260)]) (Zd x_1.snd (Qd (ks.getD (x_1.fst-1) QI) (ks.getD x_1.fst QI) t)))++[[Zh (q+XQ (ks.getD (x_1.fst-1) QI) (ks.getD x_1.fst QI) t*(q_1-q_2)) (n+(258+(n_1+n_2+1))+1)]]=Zb (fun(q:Rat)=>[Zh q (2*(ks.getD (x'.fst-1) QI).n+(ks.getD x'.fst QI).n+260)]) (Zd x'.snd (Qd (ks.getD (x'.fst-1) QI) (ks.getD x'.fst QI) t))∨QE (Zd x_1.snd (Zb (fun(q:Rat)=>[Zh q (2*(ks.getD (x_1.fst-1) QI).n+(ks.getD x_1.fst QI).n+260)]) (Zd x_1.snd (Qd (ks.getD (x_1.fst-1) QI) (ks.getD x_1.fst QI) t)))++[[Zh (q+XQ (ks.getD (x_1.fst-1) QI) (ks.getD x_1.fst QI) t*(q_1-q_2)) (n+(258+(n_1+n_2+1))+1)]]) (Zb (fun(q:Rat)=>[Zh q (2*(ks.getD (x'.fst-1) QI).n+(ks.getD x'.fst QI).n+260)]) (Zd x'.snd (Qd (ks.getD (x'.fst-1) QI) (ks.getD x'.fst QI) t))))/\True else ∃(x:Unit),True/\0=0/\x_1.snd=m/\25=25/\3=3/\(Zb (fun(q:Rat)=>[Zh q (2*(ks.getD (x_1.fst-1) QI).n+(ks.getD x_1.fst QI).n+260)]) (Zd x_1.snd (Qd (ks.getD (x_1.fst-1) QI) (ks.getD x_1.fst QI) t))=Zb (fun(q:Rat)=>[Zh q (atR ks t).snd]) (atR ks t).fst∨QE (Zb (fun(q:Rat)=>[Zh q (2*(ks.getD (x_1.fst-1) QI).n+(ks.getD x_1.fst QI).n+260)]) (Zd x_1.snd (Qd (ks.getD (x_1.fst-1) QI) (ks.getD x_1.fst QI) t))) (Zb (fun(q:Rat)=>[Zh q (atR ks t).snd]) (atR ks t).fst))/\True)else(0<=Ze.wrap (Za (Zb QP ks).length-1)/\Ze.wrap (Za (Zb QP ks).length-1)<Za (Zb QP ks).length)/\∃(ys:List (List Ch)),ldE (Zb QP ks) (Ze.wrap (Za (Zb QP ks).length-1)).toNat 1 1=some [Ch.s 3 ys]/\∃(n:Nat)(qs:List Rat),ys=lR n qs/\(n<=1000000/\qs.length<=1000000)/\∃(x:Unit),True/\0=0/\qs.length=m/\25=25/\3=3/\(Zb (fun(q:Rat)=>[Zh q (n+65)]) qs=Zb (fun(q:Rat)=>[Zh q (atR ks t).snd]) (atR ks t).fst∨QE (Zb (fun(q:Rat)=>[Zh q (n+65)]) qs) (Zb (fun(q:Rat)=>[Zh q (atR ks t).snd]) (atR ks t).fst))/\True):=by kernel_rfl
theorem QVk (ks:List Qh)(m N:Nat)(t:Int)(hk:Q1 ks m N)(h1:N<=10000/\m<=100000/\1<=ks.length/\ks.length<=100000)(ht: -4611686018427387904<=t/\t<4611686018427387904):QK (QB1 ks m t):=by
 obtain⟨hN,hm,hn,hn2⟩:=h1;refine⟨?_⟩;rw[QDV];simp only[Zl,R0,R1,Nat.zero_add,Nat.le_refl,R4,R2,R3];obtain⟨a,ha⟩: ∃a,ks[0]? =some a:=⟨_,Zc (by omega)⟩
 have ma:=Zf ha;simp only[Zm];refine QC (fun h=>by simp only[beq_iff_eq]at h;omega) (fun _=>⟨by omega,_,Jx ha,QC (fun h=>⟨by omega,_,H6 ha,a.n,a.q,rfl,⟨by have:=hk.n a ma;omega,by rw[hk.len a ma];omega⟩,?_⟩) (fun h=>⟨⟨1,⟨by omega,?_⟩,rfl⟩,fun x hx=>QC (fun hp=> ?_) (fun hp=> ?_)⟩)⟩)
 ·have e:atR ks t=(a.q,a.n+65):=QAU ha (R5 h);simp only[e];exact⟨(),hk.len a ma,.inl trivial⟩
 ·exact QE8 ha (R6 h)
 ·obtain⟨⟨hx1,hx2⟩,he⟩:=hx;have hp:x<ks.length:=by have:=R5 hp;omega
  obtain⟨y,hy⟩: ∃y,ks[x]? =some y:=⟨_,Zc hp⟩
  have my:=Zf hy;have hd:ks.drop x=y::ks.drop (x+1):=by
   rw[List.drop_eq_getElem_cons hp];rw[Zc hp]at hy;rw[Option.some.inj hy]
  have hyt:=hk.tick y my;have hgy:ks.getD x QI=y:=by rw[Zg,hy];rfl
  rw[hd]at he;refine⟨by omega,_,Jx (by simpa using hy),QC (fun hle=> ?_) (fun hle=> ?_)⟩
  ·have hle:=R5 hle;refine⟨x+1,⟨⟨⟨by omega,by omega⟩,?_⟩,by omega⟩,by rw[w64 (by omega)];simp⟩;rw[he,Xr,if_pos hle,show x+1-1=x by omega,hgy]
  ·have hle:=R6 hle;obtain⟨w,hw⟩: ∃w,ks[x-1]? =some w:=⟨_,Zc (by omega)⟩
   have mw:=Zf hw;have hgw:ks.getD (x-1) QI=w:=by rw[Zg,hw];rfl
   have hwt:=hk.tick w mw;have hinc:=hk.inc (x-1) w y hw (by rw[show x-1+1=x by omega];exact hy);rw[Xr,if_neg hle,hgw]at he;have e1:Ze.wrap ((x:Int)-1)=((x-1:Nat):Int):=by rw[w64 (by omega)];omega
   rw[e1,Int.toNat_natCast];refine⟨by omega,_,_,QDG hw,by omega,_,_,QDG (by simpa using hy),by omega,by omega,by omega,by omega,by omega,by omega,fun hne=> ?_,fun h0=> ?_⟩
   ·have lw:=hk.len w mw;have ly:=hk.len y my;have nw:=hk.n w mw;have ny:=hk.n y my;have li:(Qd w y t).length=m:=by unfold Qd;rw[W6 (by omega),lw]
    refine⟨⟨(x,0),?_⟩,fun z hz htie=> ?_⟩
    ·simp only[hgw,hgy,Qr,lw,ly];exact⟨⟨⟨⟨⟨hx1,hp⟩,he⟩,by omega⟩,trivial⟩,trivial,by simp,rfl,trivial,trivial,trivial,trivial,rfl,by simp⟩
    ·obtain⟨i,k⟩:=z;have hi:i=x:=by simp only at hz htie;omega
     subst hi;simp only[hgw,hgy,Qr,lw,ly]at hz⊢;refine QC (fun hkm=> ?_) (fun hkm=> ?_)
     ·have hkm:k<m:=by have:=R5 hkm;omega
      obtain⟨p,hpp⟩: ∃p,w.q[k]? =some p:=⟨_,Zc (by omega)⟩
      obtain⟨r,hr⟩: ∃r,y.q[k]? =some r:=⟨_,Zc (by omega)⟩
      refine⟨by omega,p,w.n,XD (by simpa using hpp),by omega,r,y.n,XD (by simpa using hr),by omega,p,w.n,XD (by simpa using hpp),by omega,by omega,by omega,by omega,(i,k+1),?_⟩;simp only[hgw,hgy];refine⟨⟨⟨⟨⟨hx1,hp⟩,he⟩,by omega⟩,trivial,by omega⟩,trivial,by rw[w64 (by omega)];simp,trivial,trivial,trivial,trivial,trivial,.inl ?_⟩;rw[Zj (by rw[Zm,List.length_take];omega),List.take_add_one,show(Qd w y t)[k]? =some _ from VI hpp hr,List.map_append];simp only[Option.toList,List.map_cons,List.map_nil];rw[show w.n+(258+(y.n+w.n+1))+1=2*w.n+y.n+260 by omega]
     ·have hkm:k=m:=by have:=R6 hkm;omega
      subst hkm;simp only[he];exact⟨(),trivial,.inl (by rw[Zj (by omega)])⟩
   ·exfalso;have:=W7 hinc;have h0:(y.tick:Rat)-(w.tick:Rat)=0:=h0;grind
 ·obtain⟨⟨hx1,hx2⟩,he⟩:=hx;have hp:x=ks.length:=by have:=R6 hp;omega
  subst hp;obtain⟨z,hz⟩: ∃z,ks[ks.length-1]? =some z:=⟨_,Zc (by omega)⟩
  have mz:=Zf hz;rw[List.drop_length,show ks.getD (ks.length-1) QI=z by rw[Zg,hz];rfl,Xr]at he;simp only[he];have e1:Ze.wrap ((ks.length:Int)-1)=((ks.length-1:Nat):Int):=by rw[w64 (by omega)];omega
  rw[e1,Int.toNat_natCast];exact⟨by omega,_,H6 hz,z.n,z.q,rfl,⟨by have:=hk.n z mz;omega,by rw[hk.len z mz];omega⟩,(),hk.len z mz,.inl rfl⟩
def QDW:XW:=fun as0 H d=>match as0 with
 | [.x false [.s 2 xs],.x false [.v (.int .i64 t)]]=>match H d with
  | none=>some fun K=> ∃ks m N,xs=ks.map QP/\Q1 ks m N/\((N<=10000/\m<=100000/\1<=ks.length/\ks.length<=100000)/\ -4611686018427387904<=t/\t<4611686018427387904)/\K (.x false [.w d 0 m]) (XJ [(0,d)] (QS [(0,Xs (atR ks t).2 (atR ks t).1)]) H)
  | some _=>none
 | _=>none
theorem QRd:YG 60 QDW:=by
 refine⟨Qg Tryz.func60 (by kernel_rfl),fun l H d T hT K hK=> ?_⟩;unfold QDW at hT;split at hT
 ·split at hT
  ·rename_i hd;cases hT
   obtain⟨ks,m,N,rfl,hk,⟨h1,h2⟩,hK⟩:=hK;exact J0 (QV QE6 QVj Qo) QN Tryz.func60 (by kernel_rfl) (by kernel_rfl) (by rfl) (by rfl) hd (by kernel_rfl) (QVk ks m N _ hk h1 h2) hK
  ·cases hT
 ·cases hT
theorem QRe (ks:List Qh):QK (X7 (X:=Unit) T49 (oF Tryz.f17) noL Tryz.f17 [QE7 ks] [] (fun _=>True) (fun _=>⟨[(2,.x false [.f 71 [1]])],[(1,.box 44 [.s 2 (ks.map QP)])]⟩)):=by
 refine HV ((∃(x:Unit),True/\71=71/\44=44/\2=2/\Zb QP ks=Zb QP ks/\True)) ?_
 simp only[Zl,R0,R1,Nat.zero_add,Nat.le_refl,R4,R2,R3];exact⟨(),trivial⟩
def UN:XW:=fun as0 H d=>match as0 with
 | [.x false [.s 2 xs]]=>match H d with
  | none=>some fun K=> ∃ks:List Qh,xs=ks.map QP/\K (.x false [.f 71 [d]]) (XJ [(1,d)] (QS [(1,.box 44 [.s 2 (ks.map QP)])]) H)
  | some _=>none
 | _=>none
theorem QKl:YG 17 UN:=by
 refine⟨Qg Tryz.func17 (by kernel_rfl),fun l H d T hT K hK=> ?_⟩;unfold UN at hT;split at hT
 ·split at hT
  ·rename_i hd;cases hT
   obtain⟨ks,rfl,hK⟩:=hK;refine XT (R:=[]) (N:=[(1,d)]) (Hl:=[]) QIZ QN Tryz.func17 (by kernel_rfl) (by kernel_rfl) (by rfl)
    (as0:=[QE7 ks]) ?_ .nil rfl (by simp) (by simp) (fun p hp=>by simp at hp;subst hp;exact hd) (fun x=>⟨(fun _ h=>by cases h),fun p hp b hb=> ?_⟩) (QRe ks) (fun x hx=> ?_)
   ·simp[JB,JA,Y0,QE7]
   ·simp at hp;subst hp;have h':some (Blk.box _ _)=some b:=hb;cases h';rfl
   ·exact⟨_,rfl,hK⟩
  ·cases hT
 ·cases hT
end Go.Proofs
namespace Go.Proofs
open Go Go.Eng
structure TsX where
 ks:List Qh
 m:Nat
 k:Nat
 i:Nat
def tsF (x:TsX):Int:=(x.ks.getD 0 QI).tick
def tsE (x:TsX):Int:=(x.ks.getD (x.ks.length-1) QI).tick
def tsN (x:TsX):Nat:=(tsE x+1-tsF x).toNat
def tsQ (x:TsX)(k:Nat):List Rat:=(atR x.ks (tsF x+k)).1
structure TsI (x:TsX):Prop where
 keys:Q1 x.ks x.m 63
 ne:1<=x.ks.length/\x.ks.length<=2
 m:x.m<=100
 k:x.k<=tsN x
 i:x.i<=x.m
def QYY:List (Nat×XW):=(17,UN)::(60,QDW)::M48
def QYZ:LC:=(18,UD)::QXC
theorem Q1.take {ks:List Qh}{m N:Nat}(h:Q1 ks m N)(n:Nat):Q1 (ks.take n) m N:=
 ⟨fun k hk=>h.len k (Zk hk),fun k hk=>h.n k (Zk hk),fun k hk=>h.tick k (Zk hk),fun i x y hx hy=>by
  have g: ∀{j:Nat} {z:Qh},(ks.take n)[j]? =some z->ks[j]? =some z:=fun {j z} hz=>by
   rw[List.getElem?_take]at hz;split at hz
   ·exact hz
   ·cases hz
  exact h.inc i x y (g hx) (g hy)⟩
theorem QVl {m N:Nat}{ks:List Qh}{t:Int}{z:Qh}(h:Q1 ks m N)(hne:ks≠[])(hz:ks[ks.length-1]? =some z)(ht:z.tick<=t):(atR ks t).1=z.q:=by
 have hl:0<ks.length:=by cases ks with | nil=>exact absurd rfl hne | cons=>simp
 rcases V7 h hne t with⟨a,ha,h1,_⟩ | ⟨i,x,y,hx,hy,h1,h2,_⟩ | ⟨w,hw,_,h2,_⟩
 ·have:=h.mono (Nat.zero_le _) ha hz;omega
 ·have:=h.mono (i:=i+1) (j:=ks.length-1) (by have:=(List.getElem?_eq_some_iff.1 hy).1;omega) hy hz;omega
 ·rw[hz]at hw;cases hw;exact h2
theorem QFH {ks:List Qh}{a:Qh}{t:Int}(ha:ks[0]? =some a)(h:t<=a.tick):(atR ks t).1=a.q:=by
 rw[QAU ha h]
structure TsG (x:TsX):Prop where
 fe:0<=tsF x/\tsF x<=tsE x/\tsE x<=2000
 len: ∀k,(tsQ x k).length=x.m
 bit: ∀t,(atR x.ks t).2<=449
 end_: ∃z,x.ks[x.ks.length-1]? =some z/\z.tick=tsE x/\z.n<=63/\tsQ x (tsN x)=z.q
 first: ∃z,x.ks[0]? =some z/\z.tick=tsF x/\tsQ x 0=(atR x.ks 0).1
theorem TsI.g {x:TsX}(h:TsI x):TsG x:=by
 have hl:=h.ne;have hne:x.ks≠[]:=fun e=>by rw[e]at hl;simp at hl
 obtain⟨a,ha⟩: ∃a,x.ks[0]? =some a:=⟨_,Zc (by omega)⟩
 obtain⟨z,hz⟩: ∃z,x.ks[x.ks.length-1]? =some z:=⟨_,Zc (by omega)⟩
 have ta:=h.keys.tick a (Zf ha);have tz:=h.keys.tick z (Zf hz);have nz:=h.keys.n z (Zf hz);have az:=h.keys.mono (Nat.zero_le _) ha hz;have ef:tsF x=a.tick:=by unfold tsF;rw[Zg,ha];rfl
 have ee:tsE x=z.tick:=by unfold tsE;rw[Zg,hz];rfl
 refine⟨by omega,fun k=>(Ks h.keys hne).2,fun t=>by have:=(Ks (t:=t) h.keys hne).1;omega,⟨z,hz,ee.symm,nz,?_⟩,⟨a,ha,ef.symm,?_⟩⟩
 ·exact QVl h.keys hne hz (by unfold tsN;omega)
 ·unfold tsQ;rw[ef,QFH (t:=0) ha (by omega),QFH ha (by omega)]
def QYa:LC:=QYZ
noncomputable def QY0:Qa:=mkT QYa QYY X4
end Go.Proofs
