/- path: PathFree. -/
import Derived.Test.YtfhfenokfkenoaaGreatDoorPH5
open Go.Value renaming bool → Za, string → Zc
open List renaming map → Zb, getElem?_eq_getElem → Zf, getElem?_cons_succ → Zk, cons_append → Zl, getElem?_append_right → Zm, getD_eq_getElem?_getD → Zn
open Go.IntKind renaming i64 → Zd
open Int renaming ofNat → Ze
open Go.Eng.Ch renaming r → Zg, v → Zi, s → Zq
open Nat renaming eq_of_beq_eq_true → Zh, le_refl → Zr
open Go.Proofs.ArmV renaming links → Zj, name → Zo, half → Zp
namespace Go.Proofs
open Go Go.Eng
def YX (a:ArmV):Blk:= .box 34 (XM a)
def QbN (a:ArmV)(n:Nat)(qs:List Rat):Prop:=QJ a/\n<=1000000/\qs.length=a.links.length/\Fit a qs
def QE7:XJ:=fun as0 H _=>match as0 with
 | [.x false [.s 3 ys],.x false [.p m o]]=>match o with
  | 0=>match H m with
   | some (.box t cs)=>bif t.beq 34 then some fun K=> ∃(a:ArmV) (n:Nat) (qs:List Rat),cs=XM a/\ys=lR n qs/\QbN a n qs/\K (.x false [.v (.bool false)]) H else none
   | _=>none
  | _+1=>none
 | _=>none
def QKv (a:ArmV)(n:Nat)(w:List (List Rat)):Prop:=(QJ a/\n<=1000000/\w.length<=1000000)/\ ∀q∈w,q.length=a.links.length/\Fit a q
def QE8:XJ:=fun as0 H _=>match as0 with
 | [.x false [.s 1 ys],.x false [.f fid [m]]]=>match H m with
  | some (.box t cs)=>bif t.beq 34&&fid.beq 52 then some fun K=> ∃(a:ArmV) (n:Nat) (w:List (List Rat)),cs=XM a/\ys=wN n w/\QKv a n w/\K (iA .i64 (-1)) H else none
  | _=>none
 | _=>none
def QE9:XJ:=fun as0 H _=>match as0 with
 | [.x false [.s 1 ys],.x false [.f fid [m]]]=>match H m with
  | some (.box t cs)=>bif t.beq 34&&fid.beq 52 then some fun K=> ∃(a:ArmV) (n:Nat) (w:List (List Rat)),cs=XM a/\ys=wN n w/\QKv a n w/\K (.x false [.v (.bool false)]) H else none
  | _=>none
 | _=>none
def QZQ:List (Nat×XJ):=(52,QE7)::QRj
def QZR:List (Nat×XJ):=(109,QE8)::QZQ
def QbO:List (Nat×XJ):=(51,QE9)::QZR
def QRv (a:ArmV)(n:Nat)(w:List (List Rat)):LI:=fun _=> .inv ⟨Nat,fun i=>⟨[(0,sW n w),(1,.x false [.f 52 [1000]]),(7,iA .i64 w.length),(8,iA .i64 i)],[(1000,YX a)]⟩,fun i=>i<=w.length,fun i=>w.length-i,fun _=>0⟩
theorem QZS (a:ArmV)(n:Nat)(qs:List Rat)(hc:QbN a n qs):QM (Xc (X:=Unit) (mkTP QRo QRj X4) (oF Tryz.f52) noL Tryz.f52 [sR n qs,.x false [.p 1000 0]] [(1000,YX a)] (fun _=>True) (fun _=>⟨[(3,.x false [.v (.bool false)])],[(1000,YX a)]⟩)):=by
 refine HV ((∃(a_1:ArmV),∃(n_1:Nat),∃(qs_1:List Rat),[Zi (Zc (Zo a)),Zg (ArmV.x a) (63:Nat),Zg (ArmV.y a) (63:Nat),Zi (Za (Zp a)),Zg (ArmV.t a) (63:Nat),Zq (16:Nat) (Zb QB (Zj a))]=[Zi (Zc (Zo a_1)),Zg (ArmV.x a_1) (63:Nat),Zg (ArmV.y a_1) (63:Nat),Zi (Za (Zp a_1)),Zg (ArmV.t a_1) (63:Nat),Zq (16:Nat) (Zb QB (Zj a_1))]/\lR n qs=lR n_1 qs_1/\(QJ a_1/\n_1<=(1000000:Nat)/\List.length qs_1=List.length (Zj a_1))/\((∀(i:Nat) (L:Qf) (q:Rat),(Zj a_1)[i]?=some L->qs_1[i]?=some q->Qf.lo L<=q/\q<=Qf.hi L)->∃(_x:Unit),True/\((0:Int) !=(0:Int))=false/\(34:Nat)=(34:Nat)/\Zo a=Zo a/\ArmV.x a=ArmV.x a/\(63:Nat)<=(63:Nat)/\ArmV.y a=ArmV.y a/\(63:Nat)<=(63:Nat)/\Zp a=Zp a/\ArmV.t a=ArmV.t a/\(63:Nat)<=(63:Nat)/\(16:Nat)=(16:Nat)/\Zb QB (Zj a)=Zb QB (Zj a)/\True)/\(¬Fit a_1 qs_1->∃(_x:Unit),True/\((17:Int) !=(0:Int))=false/\(34:Nat)=(34:Nat)/\Zo a=Zo a/\ArmV.x a=ArmV.x a/\(63:Nat)<=(63:Nat)/\ArmV.y a=ArmV.y a/\(63:Nat)<=(63:Nat)/\Zp a=Zp a/\ArmV.t a=ArmV.t a/\(63:Nat)<=(63:Nat)/\(16:Nat)=(16:Nat)/\Zb QB (Zj a)=Zb QB (Zj a)/\True))) ?_
 simp only[R0,R1,Zr];exact⟨a,n,qs,rfl,rfl,⟨hc.1,hc.2.1,hc.2.2.1⟩,fun _=>⟨(),rfl⟩,fun h=>absurd hc.2.2.2 h⟩
theorem QZT (a:ArmV)(n:Nat)(w:List (List Rat))(hc:QKv a n w):QM (Xc (X:=Unit) (mkTP QRo QZQ X4) (oF Tryz.f109) (QRv a n w) Tryz.f109 [sW n w,.x false [.f 52 [1000]]] [(1000,YX a)] (fun _=>True) (fun _=>⟨[(4,iA .i64 (-1))],[(1000,YX a)]⟩)):=by
 refine HV (((∃(x:Nat),(x<=w.length/\OfNat.ofNat 0=0)/\1=1/\wN n w=wN n w/\52=52/\Ze (wN n w).length=Ze w.length/\0=Ze x/\34=34/\a.name=a.name/\a.x=a.x/\63<=63/\a.y=a.y/\63<=63/\a.half=a.half/\a.t=a.t/\63<=63/\16=16/\Zb QB a.links=Zb QB a.links/\True)/\∀(x:Nat),x<=w.length->OfNat.ofNat 0=0->bif decide (Ze x<Ze w.length)then(0<=Ze x/\Ze x<Ze (wN n w).length)/\∃(ys:List (List Ch)),ldE (wN n w) (Ze x).toNat 0 1=some [Zq 3 ys]/\∃(a_3:ArmV),∃(n_1:Nat),∃(qs:List Rat),[Zi (Zc a.name),Zg a.x 63,Zg a.y 63,Zi (Za a.half),Zg a.t 63,Zq 16 (Zb QB a.links)]=[Zi (Zc a_3.name),Zg a_3.x 63,Zg a_3.y 63,Zi (Za a_3.half),Zg a_3.t 63,Zq 16 (Zb QB a_3.links)]/\ys=lR n_1 qs/\(QJ a_3/\n_1<=1000000/\qs.length=a_3.links.length/\∀(i:Nat) (L:Qf) (q:Rat),a_3.links[i]?=some L->qs[i]?=some q->L.lo<=q/\q<=L.hi)/\∃(x':Nat),(x'<=w.length/\OfNat.ofNat 0=0/\w.length-x'<w.length-x)/\1=1/\wN n w=wN n w/\52=52/\Ze w.length=Ze w.length/\Zd.wrap (Ze x+1)=Ze x'/\34=34/\a.name=a.name/\a.x=a.x/\63<=63/\a.y=a.y/\63<=63/\a.half=a.half/\a.t=a.t/\63<=63/\16=16/\Zb QB a.links=Zb QB a.links/\True else ∃(_x:Unit),True/\(-1:Int)= -1/\34=34/\a.name=a.name/\a.x=a.x/\63<=63/\a.y=a.y/\63<=63/\a.half=a.half/\a.t=a.t/\63<=63/\16=16/\Zb QB a.links=Zb QB a.links/\True)) ?_
 simp only[Int.ofNat_eq_natCast,R0,R1,Zr,R4];obtain⟨⟨hg,hn,hl⟩,hq⟩:=hc;refine⟨⟨0,by omega,by rw[QJh],rfl⟩,fun x hx=>QF (fun hp=> ?_) (fun _=>⟨(),trivial⟩)⟩;have hp:x<w.length:=by have:=R5 hp;omega
 obtain⟨q,hqx⟩: ∃q,w[x]? =some q:=⟨_,Zf hp⟩
 have h1:=hq q (List.mem_of_getElem? hqx);exact⟨⟨by omega,by rw[QJh];omega⟩,lR n q,by rw[Int.toNat_natCast];exact QBR hqx,a,n,q,rfl,rfl,⟨hg,hn,h1⟩,x+1,⟨by omega,by omega⟩,by rw[w64 (by omega)];simp⟩
theorem QZU (a:ArmV)(n:Nat)(w:List (List Rat))(hc:QKv a n w):QM (Xc (X:=Unit) (mkTP QRo QZR X4) (oF Tryz.f51) noL Tryz.f51 [sW n w,.x false [.f 52 [1000]]] [(1000,YX a)] (fun _=>True) (fun _=>⟨[(4,.x false [.v (.bool false)])],[(1000,YX a)]⟩)):=by
 refine HV ((∃(a_1:ArmV),∃(n_1:Nat),∃(w_1:List (List Rat)),[Zi (Zc a.name),Zg a.x 63,Zg a.y 63,Zi (Za a.half),Zg a.t 63,Zq 16 (Zb QB a.links)]=[Zi (Zc a_1.name),Zg a_1.x 63,Zg a_1.y 63,Zi (Za a_1.half),Zg a_1.t 63,Zq 16 (Zb QB a_1.links)]/\wN n w=wN n_1 w_1/\((QJ a_1/\n_1<=1000000/\w_1.length<=1000000)/\∀(q:List Rat),q∈w_1->q.length=a_1.links.length/\∀(i:Nat) (L:Qf) (q_1:Rat),a_1.links[i]?=some L->q[i]?=some q_1->L.lo<=q_1/\q_1<=L.hi)/\∃(_x:Unit),True/\decide ((-1:Int)≥0)=false/\34=34/\a.name=a.name/\a.x=a.x/\63<=63/\a.y=a.y/\63<=63/\a.half=a.half/\a.t=a.t/\63<=63/\16=16/\Zb QB a.links=Zb QB a.links/\True)) ?_
 simp only[R0,R1,Zr];exact⟨a,n,w,rfl,rfl,hc,(),by decide⟩
theorem QRw (s:Rat)(p:List Rat):Wj s p p=p:=by
 unfold Wj;rw[List.zipWith_self];have:(fun a:Rat=>a+s*(a-a))=id:=by
  funext a;show a+s*(a-a)=a
  grind
 rw[this,List.map_id]
theorem QRx {p q:List Rat}(h:p.length=q.length):Wj 0 p q=p:=by
 apply List.ext_getElem?
 intro i;by_cases hi:i<p.length
 ·have h1:p[i]? =some p[i]:=Zf hi
  have h2:q[i]? =some (q[i]'(by omega)):=Zf (by omega)
  rw[G4 h1 h2,h1];congr 1;grind
 ·rw[List.getElem?_eq_none (by rw[G0 h];omega),List.getElem?_eq_none (by omega)]
theorem QVR {a:ArmV}(hg:QJ a){p x:List Rat}(hp:p.length=a.links.length)(hx:x.length=a.links.length){ws:List (List (Rat×Rat))}(hw: ∀w∈ws,QX w)(h:goV a ws 2 p x=true):goV a ws 2 p p=true:=by
  have hpx:p.length=x.length:=by omega
  have e0:Xy p x 2 0=p:=by
    unfold Xy;rw[show QQH 0 2=0 by decide+kernel];exact QRx hpx
  have es: ∀k,Xy p p 2 k=p:=fun k=>QRw _ _;have c1:HasQ (Xe p x 2 0) p:=by
    have:=QEb hpx (n:=2) (k:=0) (m:=2) (x:=0) (by omega) (by omega) (by omega) (by omega);rw[e0]at this;exact this
  unfold goV;refine QEZ.2 fun k hk=> ?_
  have c3:HasQ (Xe p p 2 k) p:=by
    have:=QEb (p:=p) (q:=p) rfl (n:=2) (k:=k) (m:=2) (x:=k) (by omega) (by omega) (Zr _) (Nat.mul_le_mul_right _ (by omega));rw[es]at this;exact this
  refine QJD hg (row:=Xe p x 2 0) c3 hp (by rw[c1.1,c3.1]) (fun i t t' ht ht'=>QMW c1 c1 i t t' ?_ ht') (fun w hwm=> ?_) (QEZ.1 h 0 (by omega))
  · have ht:(KA (Xy p p 2 k) (Xy p p 2 (k+1)))[i]? =some t:=ht
    rw[es,es]at ht;exact ht
  · intro e;have:=(hw w hwm).lo;rw[e]at this;simp at this
theorem QJi {a:ArmV}{s:Int}{p q:List Rat}{out:List (List Int)}{j:Nat}{l:List Int}(h:out[j]? =some l):atW (p::out.map (XD a s)++[q]) (j+1)=XD a s l:=by
 have hj:=(List.getElem?_eq_some_iff.1 h).1;unfold atW;rw[Zl,Zn,Zk,List.getElem?_append_left (by simpa using hj),List.getElem?_map,h];rfl
theorem QZV {a:ArmV}{s:Int}{p q:List Rat}{out:List (List Int)}:atW (p::out.map (XD a s)++[q]) (out.length+1)=q:=by
 unfold atW;rw[Zl,Zn,Zk,Zm (by simp)];simp
theorem QRy {a:ArmV}(hg:QJ a){ws:List (List (Rat×Rat))}(hw: ∀w∈ws,QX w){s:Int}{p q:List Rat}(hp:p.length=a.links.length){out:List (List Int)}(h:FdY a ws s p q out):QGr (goV a ws 2) (p::out.map (XD a s)++[q])=true:=by
  have hl:=h.len;have vl: ∀l∈out,(XD a s l).length=a.links.length:=fun l hm=>by simp[XD,(h.way.ok l hm).1]
  have first:=h.way.first
  have last:=h.way.last;have hb:goV a ws 2 p (XD a s (Qs a s p))=true:=h.b;unfold QGr;rw[List.all_eq_true];intro i hi;rw[List.mem_range]at hi;have hi:i<out.length+2:=by simpa using hi
  match i with
  | 0=>exact QVR hg hp (vl _ (List.mem_of_getElem? first)) hw hb
  | 1=>rw[QJi first];exact hb
  | j+2=>
    rw[Nat.add_sub_cancel (n:=j+1) (m:=1)];obtain⟨x,hx⟩: ∃x,out[j]? =some x:=⟨_,Zf (by omega)⟩
    rw[QJi hx];by_cases e:j+1<out.length
    · obtain⟨y,hy⟩: ∃y,out[j+1]? =some y:=⟨_,Zf e⟩
      rw[QJi hy];exact(h.way.ch j x y hx hy).2.2
    · have e:out.length=j+1:=by omega
      rw[show j+2=out.length+1 by omega,QZV];rw[e,Nat.add_sub_cancel,hx]at last;cases last
      exact h.e
theorem QRz {a:ArmV}{s:Int}(h:1<=a.links.length/\a.links.length<=2)(hs:1<=s/\s<=3):NS a s<=16:=by
 unfold NS;have h1:a.links.length=1∨a.links.length=2:=by omega
 have h2:s=1∨s=2∨s=3:=by omega
 rcases h1 with e | e<;>rw[e]<;>rcases h2 with rfl | rfl | rfl<;>decide
set_option maxHeartbeats 1000000 in
theorem QVS (l m k w:List Int)(n:Int)(hl:l.length<=9223372036854775807)(hm:m.length<=9223372036854775807)(hk:k.length<=9223372036854775807)(hw:w.length<=9223372036854775807)(K:AV->Prop)(hK:K (.x false [.v (.bool true)])):QM (QR (mkTP QRo QbO X4) (oF Tryz.f7) noL Tryz.f7 [.x false [.s 1 (ints l)],.x false [.s 1 (ints m)],.x false [.s 1 (ints k)],.x false [.s 1 (ints w)],iA .i64 n] K):=by
 refine HV ((∃(l_1:List Int),ints l=ints l_1/\l_1.length<=9223372036854775807/\∀(a:ArmV),QJ a->a.links.length<=2->∃(a_3:ArmV),∃(l:List Int),[Zi (Zc a.name),Zg a.x 63,Zg a.y 63,Zi (Za a.half),Zg a.t 63,Zq 16 (Zb QB a.links)]=[Zi (Zc a_3.name),Zg a_3.x 63,Zg a_3.y 63,Zi (Za a_3.half),Zg a_3.t 63,Zq 16 (Zb QB a_3.links)]/\ints m=ints l/\(QJ a_3/\l.length<=9223372036854775807)/\∀(qs:List Rat),(∀(i:Nat) (L:Qf) (q:Rat),a_3.links[i]?=some L->qs[i]?=some q->L.lo<=q/\q<=L.hi)->qs.length=a_3.links.length->∃(a_6:ArmV),∃(l:List Int),[Zi (Zc a.name),Zg a.x 63,Zg a.y 63,Zi (Za a.half),Zg a.t 63,Zq 16 (Zb QB a.links)]=[Zi (Zc a_6.name),Zg a_6.x 63,Zg a_6.y 63,Zi (Za a_6.half),Zg a_6.t 63,Zq 16 (Zb QB a_6.links)]/\ints k=ints l/\(QJ a_6/\l.length<=9223372036854775807)/\∀(qs_1:List Rat),(∀(i:Nat) (L:Qf) (q:Rat),a_6.links[i]?=some L->qs_1[i]?=some q->L.lo<=q/\q<=L.hi)->qs_1.length=a_6.links.length->∃(l:List Int),ints w=ints l/\l.length<=9223372036854775807/\((0:Int)<3/\(3:Int)<9223372036854775808)/\∃(a_9:ArmV),∃(p:List Rat),∃(q:List Rat),∃(m:Nat),∃(ws:List (List (Rat×Rat))),[Zi (Zc a.name),Zg a.x 63,Zg a.y 63,Zi (Za a.half),Zg a.t 63,Zq 16 (Zb QB a.links)]=[Zi (Zc a_9.name),Zg a_9.x 63,Zg a_9.y 63,Zi (Za a_9.half),Zg a_9.t 63,Zq 16 (Zb QB a_9.links)]/\lR 63 qs=lR 63 p/\lR 63 qs_1=lR 63 q/\shN 127 (Jh l)=shN m ws/\(QJ a_9/\(1<=Zd.wrap (1+n%3)/\Zd.wrap (1+n%3)<=12)/\((∀(i:Nat) (L:Qf) (q:Rat),a_9.links[i]?=some L->p[i]?=some q->L.lo<=q/\q<=L.hi)/\p.length=a_9.links.length)/\((∀(i:Nat) (L:Qf) (q_1:Rat),a_9.links[i]?=some L->q[i]?=some q_1->L.lo<=q_1/\q_1<=L.hi)/\q.length=a_9.links.length)/\m<=400000000/\(∀(w:List (Rat×Rat)),w∈ws->QX w)/\ws.length<=20)/\(∀(out:List (List Int)) (w_1:List (List Rat)),FdY a_9 ws (Zd.wrap (1+n%3)) p q out->FdW a_9 (Zd.wrap (1+n%3)) p q out w_1->bif decide (Ze (wN 63 w_1).length<3)then K (AV.x false [Zi (Za false)])else((0:Int)<=0/\0<Ze (wN 63 w_1).length)/\∃(ys:List (List Ch)),ldE (wN 63 w_1) 0 0 1=some [Zq 3 ys]/\∃(a_12:Nat),∃(ps:List Rat),∃(b:Nat),∃(qs_2:List Rat),ys=lR a_12 ps/\lR 63 qs=lR b qs_2/\(ps.length<=1000000000/\qs_2.length<=1000000000)/\bif !decide (ps=qs_2)then K (AV.x false [Zi (Za false)])else(0<=Zd.wrap (Ze (wN 63 w_1).length-1)/\Zd.wrap (Ze (wN 63 w_1).length-1)<Ze (wN 63 w_1).length)/\∃(ys:List (List Ch)),ldE (wN 63 w_1) (Zd.wrap (Ze (wN 63 w_1).length-1)).toNat 0 1=some [Zq 3 ys]/\∃(a_13:Nat),∃(ps:List Rat),∃(b:Nat),∃(qs:List Rat),ys=lR a_13 ps/\lR 63 qs_1=lR b qs/\(ps.length<=1000000000/\qs.length<=1000000000)/\bif !decide (ps=qs)then K (AV.x false [Zi (Za false)])else ∃(l:List Int),ints w=ints l/\l.length<=9223372036854775807/\∃(a_14:ArmV),∃(n:Nat),∃(w:List (List Rat)),∃(m:Nat),∃(ws:List (List (Rat×Rat))),∃(k:Nat),[Zi (Zc a.name),Zg a.x 63,Zg a.y 63,Zi (Za a.half),Zg a.t 63,Zq 16 (Zb QB a.links)]=[Zi (Zc a_14.name),Zg a_14.x 63,Zg a_14.y 63,Zi (Za a_14.half),Zg a_14.t 63,Zq 16 (Zb QB a_14.links)]/\wN 63 w_1=wN n w/\shN 127 (Jh l)=shN m ws/\2=Ze k/\(QJ a_14/\(QWD w a_14.links.length/\3*n+130<=400)/\m<=400000000/\((∀(w:List (Rat×Rat)),w∈ws->QX w)/\ws.length<=20)/\1<=k/\k<=50)/\bif QGr (goV a_14 ws k) w then ∃(a_15:ArmV),∃(n:Nat),∃(w:List (List Rat)),[Zi (Zc a.name),Zg a.x 63,Zg a.y 63,Zi (Za a.half),Zg a.t 63,Zq 16 (Zb QB a.links)]=[Zi (Zc a_15.name),Zg a_15.x 63,Zg a_15.y 63,Zi (Za a_15.half),Zg a_15.t 63,Zq 16 (Zb QB a_15.links)]/\wN 63 w_1=wN n w/\((QJ a_15/\n<=1000000/\w.length<=1000000)/\∀(q:List Rat),q∈w->q.length=a_15.links.length/\∀(i:Nat) (L:Qf) (q_1:Rat),a_15.links[i]?=some L->q[i]?=some q_1->L.lo<=q_1/\q_1<=L.hi)/\K (AV.x false [Zi (Za true)])else K (AV.x false [Zi (Za false)]))/\((QEz a_9 ws (Zd.wrap (1+n%3)) p=true->QVH a_9 ws (Zd.wrap (1+n%3)) q=true->∀(D:Nat),¬Dst (EdS a_9 ws (Zd.wrap (1+n%3))) (Qs a_9 (Zd.wrap (1+n%3)) q) D (Qs a_9 (Zd.wrap (1+n%3)) p))->K (AV.x false [Zi (Za true)])))) ?_
 simp only[Int.ofNat_eq_natCast];have hs3:1<=Zd.wrap (1+n % 3)/\Zd.wrap (1+n % 3)<=3:=by rw[w64 (by omega)];omega
 generalize Zd.wrap (1+n % 3)=s at hs3⊢;have hs:1<=s/\s<=12:=by omega
 obtain⟨wl,wo⟩:=QMp w;refine⟨l,rfl,hl,fun a ha han=>⟨a,m,rfl,rfl,⟨ha,hm⟩,fun p hp hpl=>⟨a,k,rfl,rfl,⟨ha,hk⟩,fun q hq hql=>⟨w,rfl,hw,⟨by omega,by omega⟩,a,p,q,127,Jh w,rfl,rfl,rfl,rfl,⟨ha,hs,⟨hp,hpl⟩,⟨hq,hql⟩,by omega,wo,by omega⟩,fun out w1 h1 h2=> ?_,fun _=>hK⟩⟩⟩⟩;have hn:=ha.n;have okq:=QE0 ha hs.1 hq hql;have hol:=h1.len;have hd:=KU hs.1 okq h1.dst;have hns:=QRz ⟨hn.1,han⟩ hs3;have el:=QVP h2;have ew:=h2.e;have w0:w1[0]? =some p:=by rw[ew];rfl
 have wL:w1[out.length+1]? =some q:=by
  rw[ew,Zl,Zk,Zm (by simp)];simp
 have hwl:w1.length=out.length+2:=by rw[ew];simp
 have e1:Zd.wrap (((wN 63 w1).length:Int)-1)=((out.length+1:Nat):Int):=by rw[el,w64 (by omega)];omega
 have all: ∀x∈w1,x.length=a.links.length/\Fit a x:=fun x hx=>by
  rw[ew,Zl,List.mem_cons,List.mem_append,List.mem_map]at hx;rcases hx with rfl | ⟨y,hy,rfl⟩ | hx
  ·exact⟨hpl,hp⟩
  ·exact⟨by simp[XD,(h1.way.ok y hy).1],QU1 ha hs.1 (h1.way.ok y hy).2⟩
  ·have:x=q:=by simpa using hx
   subst this;exact⟨hql,hq⟩
 have hf:QGr (goV a (Jh w) 2) w1=true:=by rw[ew];exact QRy ha wo hpl h1
 refine QF (fun h=>by have:=R5 h;omega) (fun _=>⟨⟨by omega,by omega⟩,lR 63 p,QBR w0,63,p,63,p,rfl,rfl,⟨by omega,by omega⟩,QF (fun h=>by simp at h) (fun _=> ?_)⟩);rw[e1,Int.toNat_natCast];refine⟨⟨by omega,by omega⟩,lR 63 q,QBR wL,63,q,63,q,rfl,rfl,⟨by omega,by omega⟩,QF (fun h=>by simp at h) (fun _=> ?_)⟩;refine⟨w,rfl,hw,a,63,w1,127,Jh w,2,rfl,rfl,rfl,rfl,⟨ha,⟨⟨⟨by omega,by omega⟩,fun x hx=>(all x hx).1,⟨hn.1,hn.2⟩⟩,by omega⟩,by omega,⟨wo,by omega⟩,by omega,by omega⟩,?_⟩;rw[hf];exact⟨a,63,w1,rfl,rfl,⟨⟨ha,by omega,by omega⟩,all⟩,hK⟩
end Go.Proofs
namespace Go.Proofs
open Go Go.Eng
theorem Kq {f:Nat->Option Nat}{a:ArmV}:JD f (YX a)=some (YX a):=by
 simp only[JD,YX,XM,XI]
theorem QJj {k:Nat}{a:ArmV}:(∀p∈[((1000:Nat),k)],QN [(1000,YX a)] p.1≠none)/\ ∀p∈[((1000:Nat),k)]++[],∀b,QN [(1000,YX a)] p.1=some b-> ∃b0,JD (lkA ([((1000:Nat),k)]++[])) b=some b0:=by
 refine⟨fun p hp=> ?_,fun p hp b hb=> ?_⟩
 ·simp at hp;subst hp;exact fun h=>by have h':some (YX a)=none:=h;cases h'
 ·simp at hp;subst hp;have h':some (YX a)=some b:=hb;cases h';exact⟨_,Kq⟩
theorem QR0:XP 52 QE7:=by
 refine⟨Qb Tryz.func52 (by kernel_rfl),fun l H d T hT K hK=> ?_⟩;unfold QE7 at hT;split at hT
 ·rename_i ys m o;split at hT
  ·split at hT
   ·rename_i t cs e1;cases hb:t.beq 34 with
    | false=>rw[hb]at hT;cases hT
    | true=>
     rw[hb]at hT;have ht:=Zh hb;subst ht;cases hT
     obtain⟨a,n,qs,rfl,rfl,hc,hK⟩:=hK;refine Y3 (R:=[(1000,m)]) (N:=[]) (Hl:=[(1000,YX a)]) (Wm QE6 QE5 Qg) QK Tryz.func52 (by kernel_rfl) (by kernel_rfl) (by rfl)
      (as0:=[sR n qs,.x false [.p 1000 0]]) ?_ (Vj e1 rfl fun _=>Kq) rfl (by simp) (by simp) (fun _ h=>by cases h) (fun _=>QJj) (QZS a n qs hc) (fun _ _=>⟨_,rfl,?_⟩)
     ·simp[Xj,Xg,XI,lkB];rfl
     ·show K _ (XN [(1000,m)] (QN [(1000,YX a)]) H)
      rw[HB (b:=YX a) e1 fun _=>Kq];exact hK
   ·cases hT
  ·cases hT
 ·cases hT
theorem QR1:XB QZQ:= .cons QR0 QE5
theorem QR2:XP 109 QE8:=by
 refine⟨Qb Tryz.func109 (by kernel_rfl),fun l H d T hT K hK=> ?_⟩;unfold QE8 at hT;split at hT
 ·rename_i ys fid m;split at hT
  ·rename_i t cs e1;cases hb:t.beq 34&&fid.beq 52 with
   | false=>rw[hb]at hT;cases hT
   | true=>
    rw[hb]at hT;cases hT
    simp only[Bool.and_eq_true]at hb;have ht:=Zh hb.1;have hf:=Zh hb.2;subst ht;subst hf;obtain⟨a,n,w,rfl,rfl,hc,hK⟩:=hK;refine Y3 (R:=[(1000,m)]) (N:=[]) (Hl:=[(1000,YX a)]) (Wm QE6 QR1 Qg) QK Tryz.func109 (by kernel_rfl) (by kernel_rfl) (by rfl)
     (as0:=[sW n w,.x false [.f 52 [1000]]]) ?_ (Vj e1 rfl fun _=>Kq) rfl (by simp) (by simp) (fun _ h=>by cases h) (fun _=>QJj) (QZT a n w hc) (fun _ _=>⟨_,rfl,?_⟩)
    ·simp[Xj,Xg,XI,QAn,lkB];rfl
    ·show K _ (XN [(1000,m)] (QN [(1000,YX a)]) H)
     rw[HB (b:=YX a) e1 fun _=>Kq];exact hK
  ·cases hT
 ·cases hT
theorem QR3:XB QZR:= .cons QR2 QR1
theorem QR4:XP 51 QE9:=by
 refine⟨Qb Tryz.func51 (by kernel_rfl),fun l H d T hT K hK=> ?_⟩;unfold QE9 at hT;split at hT
 ·rename_i ys fid m;split at hT
  ·rename_i t cs e1;cases hb:t.beq 34&&fid.beq 52 with
   | false=>rw[hb]at hT;cases hT
   | true=>
    rw[hb]at hT;cases hT
    simp only[Bool.and_eq_true]at hb;have ht:=Zh hb.1;have hf:=Zh hb.2;subst ht;subst hf;obtain⟨a,n,w,rfl,rfl,hc,hK⟩:=hK;refine Y3 (R:=[(1000,m)]) (N:=[]) (Hl:=[(1000,YX a)]) (Wm QE6 QR3 Qg) QK Tryz.func51 (by kernel_rfl) (by kernel_rfl) (by rfl)
     (as0:=[sW n w,.x false [.f 52 [1000]]]) ?_ (Vj e1 rfl fun _=>Kq) rfl (by simp) (by simp) (fun _ h=>by cases h) (fun _=>QJj) (QZU a n w hc) (fun _ _=>⟨_,rfl,?_⟩)
    ·simp[Xj,Xg,XI,QAn,lkB];rfl
    ·show K _ (XN [(1000,m)] (QN [(1000,YX a)]) H)
     rw[HB (b:=YX a) e1 fun _=>Kq];exact hK
  ·cases hT
 ·cases hT
theorem QZW:XB QbO:= .cons QR4 QR3
theorem QJk (l m k w:List Int)(n:Int)(hl:l.length<=9223372036854775807)(hm:m.length<=9223372036854775807)(hk:k.length<=9223372036854775807)(hw:w.length<=9223372036854775807):Eng.Spec Tryz.prog QF6 QCH 7 [.x false [.s 1 (ints l)],.x false [.s 1 (ints m)],.x false [.s 1 (ints k)],.x false [.s 1 (ints w)],iA .i64 n] (fun av=>av= .x false [.v (.bool true)]):=
 Qk (Wm QE6 QZW Qg) QK Tryz.func7 (by kernel_rfl) (by kernel_rfl) (by rfl) (QVS l m k w n hl hm hk hw _ rfl)
end Go.Proofs
