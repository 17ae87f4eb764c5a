/- path: what Find answers, told plainly. -/
import Derived.Test.YtfhfenokfkenoaaGreatDoorPH2
open List renaming map → Za, take → Zj, take_of_length_le → Zk, length_map → Zo, length_take → Zp, drop_zero → Zq
open Go.Value renaming string → Zb, bool → Zd, int → Zh, map → Zl, slice → Zm
open Int renaming ofNat → Zc, ofNat_eq_natCast → Zn
open Go.Eng.Ch renaming r → Ze, v → Zg, s → Zi
open Go.IntKind renaming i64 → Zf
namespace Go.Proofs
open Go Go.Eng
structure QJd (a:ArmV)(ws:List (List (Rat×Rat)))(s:Int)(fr u:List Int)(out:List (List Int)):Prop where
  first:out[0]? =some fr
  last:out[out.length-1]? =some u
  ok: ∀l∈out,OkS s a.links.length l
  ch: ∀(k:Nat) x y,out[k]? =some x->out[k+1]? =some y->EdS a ws s y x
def QEz (a:ArmV)(ws:List (List (Rat×Rat)))(s:Int)(p:List Rat):Bool:=goV a ws 2 p (XD a s (Qs a s p))
def QVH (a:ArmV)(ws:List (List (Rat×Rat)))(s:Int)(q:List Rat):Bool:=goV a ws 2 (XD a s (Qs a s q)) q
structure FdY (a:ArmV)(ws:List (List (Rat×Rat)))(s:Int)(p q:List Rat)(out:List (List Int)):Prop where
  b:QEz a ws s p=true
  e:QVH a ws s q=true
  way:QJd a ws s (Qs a s p) (Qs a s q) out
  len:1<=out.length
  dst:Dst (EdS a ws s) (Qs a s q) (out.length-1) (Qs a s p)
def FdN (a:ArmV)(ws:List (List (Rat×Rat)))(s:Int)(p q:List Rat):Prop:=QEz a ws s p=true->QVH a ws s q=true-> ∀D,¬Dst (EdS a ws s) (Qs a s q) D (Qs a s p)
theorem QJe {a:ArmV}{k:Nat}{p q:List Rat}:goV a [] k p q=true:=by simp[goV,QBg,freeB]
theorem QE0 {a:ArmV}(hg:QJ a){s:Int}(hs:1<=s){q:List Rat}(hf:Fit a q)(hl:q.length=a.links.length):OkS s a.links.length (Qs a s q):=⟨by simp[Qs,hl],QRI hg hs hf⟩
theorem KU {a:ArmV}{ws:List (List (Rat×Rat))}{s:Int}(hs:1<=s){g u:List Int}{D:Nat}(hg:OkS s a.links.length g)(hd:Dst (EdS a ws s) g D u):D+1<=NS a s:=by
 have key: ∀n,n<=D-> ∃f:Int->Option Int,(∀k v,f k=some v->v<=n/\0<=v)/\(∀w v,OkS s a.links.length w->f (numV s w)=some v->Dst (EdS a ws s) g v.toNat w)/\n+1+KC f (NS a s)<=NS a s:=by
  intro n;induction n with
  | zero=>
   intro _;have hr:=JO hs hg;refine⟨YR (fun _=>none) (numV s g) 0,fun k v h=> ?_,fun w v hw h=> ?_,?_⟩
   ·unfold YR at h;cases hb:(numV s g==k)with
    | true=>rw[hb]at h;cases h;omega
    | false=>rw[hb]at h;cases h
   ·unfold YR at h;cases hb:(numV s g==numV s w)with
    | true=>
     rw[hb]at h;cases h
     have e:g=w:=Vi (by omega) (hg.1.trans hw.1.symm) hg.2 hw.2 (eq_of_beq hb);subst e;exact Dst.zero_iff.2 rfl
    | false=>rw[hb]at h;cases h
   ·have h1:=QEw (f:=fun _=>none) (v:=0) rfl hr.1 hr.2;have h2:=QRg (fun _=>none) (NS a s);omega
  | succ n ih=>
   intro hn;obtain⟨f,f1,f2,f3⟩:=ih (by omega);obtain⟨w,hw⟩:=hd.below (n+1) hn;have how:OkS s a.links.length w:=hw.1.ok hg QG1;have hr:=JO hs how;have hnone:f (numV s w)=none:=by
    cases h:f (numV s w)with
    | none=>rfl
    | some v=>
     have h1:=f1 _ _ h;have h2:=(f2 w v how h).uniq hw;omega
   refine⟨YR f (numV s w) (n+1),fun k v h=> ?_,fun w' v hw' h=> ?_,?_⟩
   ·unfold YR at h;cases hb:(numV s w==k)with
    | true=>rw[hb]at h;cases h;omega
    | false=>rw[hb]at h;have:=f1 _ _ h;omega
   ·unfold YR at h;cases hb:(numV s w==numV s w')with
    | true=>
     rw[hb]at h;cases h
     have e:w=w':=Vi (by omega) (how.1.trans hw'.1.symm) how.2 hw'.2 (eq_of_beq hb);subst e;have:((n:Int)+1).toNat=n+1:=by omega
     rw[this];exact hw
    | false=>rw[hb]at h;exact f2 _ _ hw' h
   ·have h1:=QEw (v:=(n:Int)+1) hnone hr.1 hr.2;omega
 obtain⟨f,_,_,h⟩:=key D (Nat.le_refl _);omega
end Go.Proofs
namespace Go.Proofs
open Go Go.Eng
theorem QM4 (n:Nat)(qs:List Rat)(hc:(n<=1000000/\qs.length<=1000000))(K:AV->Prop)(hK:K (sR (n+65) qs)):QM (QR QVA (oF Tryz.f105) (fun _=> .inv ⟨Nat,fun k=>⟨[(3,.x false [.w 500 0 k]),(6,sR n qs),(7,iA .i64 qs.length),(8,iA .i64 k)],[(500,QBH (n+65) (qs.take k))]⟩,fun k=>k<=qs.length,fun k=>qs.length-k,fun _=>0⟩) Tryz.f105 [sR n qs] K):=by
 refine HV (((∃(x:Nat),(x<=qs.length/\OfNat.ofNat 0=0)/\Zm none 0 0=Zm none 0 0/\0=0/\x=0/\3=3/\lR n qs=lR n qs/\Zc (lR n qs).length=Zc qs.length/\0=Zc x/\Za (fun(q:Rat)=>[Ze q (n+65)]) (Zj x qs)=[]/\True)/\∀(x:Nat),x<=qs.length->OfNat.ofNat 0=0->bif decide (Zc x<Zc qs.length)then(0<=Zc x/\Zc x<Zc (lR n qs).length)/\∃(q:Rat),∃(n_1:Nat),ldE (lR n qs) (Zc x).toNat 0 3=some [Ze q n_1]/\((-9223372036854775808:Int)<=0/\(0:Int)<9223372036854775808)/\n_1+64+1<=4294967296/\((x+1)*40<=140737488355328/\x+1<=9223372036854775807)/\∃(x':Nat),(x'<=qs.length/\OfNat.ofNat 0=0/\qs.length-x'<qs.length-x)/\0=0/\x+1=x'/\3=3/\lR n qs=lR n qs/\Zc qs.length=Zc qs.length/\Zf.wrap (Zc x+1)=Zc x'/\25=25/\3=3/\(Zj x (Za (fun(q:Rat)=>[Ze q (n+65)]) (Zj x qs))++[[Ze (q+↑(0:Int)) (n_1+64+1)]]=Za (fun(q:Rat)=>[Ze q (n+65)]) (Zj x' qs)∨QC (Zj x (Za (fun(q:Rat)=>[Ze q (n+65)]) (Zj x qs))++[[Ze (q+↑(0:Int)) (n_1+64+1)]]) (Za (fun(q:Rat)=>[Ze q (n+65)]) (Zj x' qs)))/\True else K (AV.x false [Zi 3 (Zj x (List.drop 0 (Za (fun(q:Rat)=>[Ze q (n+65)]) (Zj x qs))))]))) ?_
 try simp only[Zn,R0,R1,R4]
 refine⟨⟨0,by omega,rfl,by rw[WD],rfl,by simp⟩,fun x hx=>QF (fun hp=> ?_) (fun hp=> ?_)⟩
 ·have hp:x<qs.length:=by have:=R5 hp;omega
  obtain⟨q,hq⟩: ∃q,qs[x]? =some q:=⟨_,List.getElem?_eq_getElem hp⟩
  refine⟨by rw[WD];omega,_,_,KO (by simpa using hq),by omega,by omega,by omega,x+1,⟨by omega,by omega⟩,rfl,by rw[w64 (by omega)];simp,.inl ?_⟩;rw[Zk (by rw[Zo,Zp];omega),List.take_add_one,hq,List.map_append];simp only[Option.toList,List.map_cons,List.map_nil];rw[show q+((0:Int):Rat)=q by rw[Rat.intCast_zero,Rat.add_zero]]
 ·have hp:x=qs.length:=by have:=R6 hp;omega
  subst hp;rw[Zq,List.take_length,Zk (by rw[Zo];exact Nat.le_refl _)];exact hK
def GG:Ctr
 | [.x false [.s 3 xs]]=>some fun K=> ∃(n:Nat) (qs:List Rat),xs=lR n qs/\((n<=1000000/\qs.length<=1000000))/\(K (sR (n+65) qs))
 | _=>none
theorem ok_pCopied:QI 105 GG:=by
 refine okL Tryz.func105 fun l T hT K hK=> ?_
 unfold GG at hT;split at hT<;>cases hT
 obtain⟨n,qs,rfl,hc,hK⟩:=hK;exact spL QJa QK Tryz.func105 (QM4 _ _ hc K hK)
def QRi:LC:=(105,GG)::QM2
theorem QVI:QG QRi:= .cons ok_pCopied QBv
theorem QZJ (l:List Int)(hc:(l.length<=9223372036854775807))(K:AV->Prop)(hK: ∀a:ArmV,QJ a->a.links.length<=2->K (J5 a)):QM (QR (mkTP QRi QGw X4) (oF Tryz.f46) noL Tryz.f46 [.x false [.s 1 (ints l)]] K):=by
 refine HV ((∃(l_1:List Int),ints l=ints l_1/\l_1.length<=9223372036854775807/\∀(a:ArmV),Made a/\1<=a.links.length->((0:Int)<=0/\(0<=bif false then if 2>Zc (Za QB a.links).length then 2 else Zc (Za QB a.links).length else if 2<Zc (Za QB a.links).length then 2 else Zc (Za QB a.links).length)/\(bif false then if 2>Zc (Za QB a.links).length then 2 else Zc (Za QB a.links).length else if 2<Zc (Za QB a.links).length then 2 else Zc (Za QB a.links).length)<=Zc (Za QB a.links).length)/\K (AV.x true [Zg (Zb a.name),Ze a.x 63,Ze a.y 63,Zg (Zd a.half),Ze a.t 63,Zi 16 (Zj ((bif false then if 2>Zc (Za QB a.links).length then 2 else Zc (Za QB a.links).length else if 2<Zc (Za QB a.links).length then 2 else Zc (Za QB a.links).length).toNat-0) (List.drop 0 (Za QB a.links)))]))) ?_
 try simp only[Zn]
 refine⟨l,rfl,hc,fun a ha=> ?_⟩;have g1:=MadeA.good ha;have n1:=g1.n;have e:(bif false then if 2>((a.links.map QB).length:Int)then 2 else((a.links.map QB).length:Int)else if 2<((a.links.map QB).length:Int)then 2 else((a.links.map QB).length:Int))=((min a.links.length 2:Nat):Int):=by
  simp only[R8,Zo];split<;>omega
 rw[e,Int.toNat_natCast,Nat.sub_zero,Zq,<-List.map_take,Zo];refine⟨⟨by omega,by omega,by omega⟩,hK ⟨a.name,a.x,a.y,a.half,a.t,a.links.take (min a.links.length 2)⟩ ⟨g1.name,by simp only[Zp];omega,g1.small,g1.half,fun L hL=>g1.links L (List.mem_of_mem_take hL)⟩ (by simp only[Zp];omega)⟩
def QE1:Ctr
 | [.x false [.s 1 xs]]=>some fun K=> ∃(l:List Int),xs=ints l/\((l.length<=9223372036854775807))/\(∀a:ArmV,QJ a->a.links.length<=2->K (J5 a))
 | _=>none
theorem QVJ:QI 46 QE1:=by
 refine okL Tryz.func46 fun l T hT K hK=> ?_
 unfold QE1 at hT;split at hT<;>cases hT
 obtain⟨l,rfl,hc,hK⟩:=hK;exact spL (Wm QVI GD Qg) QK Tryz.func46 (QZJ _ hc K hK)
def QbG:LC:=(46,QE1)::QRi
noncomputable def Qb0:QZ:=mkTP QbG QGw X4
def GH:Ctr
 | [.x false [.s 3 xs]]=>some fun K=> ∃(n:Nat) (qs:List Rat),xs=lR n qs/\(n<=1000000/\qs.length<=1000000)/\K (sR n qs)
 | _=>none
theorem QJf:QI 105 GH:=by
 refine⟨ok_pCopied.enter,fun l T hT K hK=> ?_⟩;unfold GH at hT;split at hT
 ·cases hT
  obtain⟨n,qs,rfl,hc,hK⟩:=hK;refine JF fun w O ρ vals hv=> ?_
  cases hv with
  | cons h0 _=>
   have hb:=QQ1 h0;exact Spec.res (ok_pCopied.sound _ _ rfl (fun av=>av=sR (n+65) qs) ⟨n,qs,rfl,hc,rfl⟩) fun w O av v e hcv=>⟨_,hK,by subst e;exact QQ0 hb hcv⟩
 ·cases hT
end Go.Proofs
namespace Go.Proofs
open Go Go.Eng
def QB0:XJ:=fun as0 H d=>match as0 with
  | [.x false [.p k o],.x false [.s 1 xs]]=>match o with
    | 0=>match H k,H (k+5000),H d with
      | some (.box t cs),some (.mp f),none=>bif t.beq 165 then(match QBw cs with
        | some (.m j)=>bif j.beq (k+5000)then some fun K=> ∃(a:ArmV) (m:Nat) (ws:List (List (Rat×Rat))) (s:Int) (g fr:List Int) (D:Nat),cs=Ub a m ws s (.m (k+5000))/\xs=ints fr/\(QJ a/\(1<=s/\s<=12)/\OkS s a.links.length g/\OkS s a.links.length fr/\m<=400000000/\((∀w∈ws,QX w)/\ws.length<=20)/\FdS a ws s g fr f/\Dst (EdS a ws s) g D fr)/\
            ∀out,QJd a ws s fr g out->out.length=D+1->K (.x false [.w d 0 out.length]) (upd H d (some (W0 out)))else none
        | _=>none)else none
      | _,_,_=>none
    | _+1=>none
  | _=>none
def QRj:List (Nat×XJ):=(103,QBz)::(106,QB0)::QGw
def QZK:LC:=(105,GH)::QM2
noncomputable def QbH:QZ:=mkTP QZK QRj X4
structure FiX where
 out:List (List Int)
 i:Nat
 w:List (List Rat)
structure FiI (a:ArmV)(ws:List (List (Rat×Rat)))(s:Int)(p q:List Rat)(x:FiX):Prop where
 way:QJd a ws s (Qs a s p) (Qs a s q) x.out
 len:1<=x.out.length
 dst:Dst (EdS a ws s) (Qs a s q) (x.out.length-1) (Qs a s p)
 i:x.i<=x.out.length
 w:x.w=p::(x.out.take x.i).map (XD a s)
def QRk (a:ArmV)(_m:Nat)(ws:List (List (Rat×Rat)))(s:Int)(p q:List Rat):LI:=fun id=>
 bif id.beq 2 then .unroll 3
 else bif id.beq 26 then .inv ⟨FiX,fun x=>⟨[(2,sR 63 q),(4,iA .i64 s),(5,.x false [.p 5 0]),(29,.x false [.w 500 0 x.w.length]),(130,.x false [.w 501 0 x.out.length]),(131,iA .i64 x.out.length),(132,iA .i64 x.i)],[(5,.box 34 (XM a)),(500,.row 41 1 (wN 63 x.w)),(501,W0 x.out)]⟩,FiI a ws s p q,fun x=>x.out.length-x.i,fun _=>0⟩
 else .no
end Go.Proofs
namespace Go.Proofs
open Go Go.Eng
set_option maxRecDepth 100000 in
set_option maxHeartbeats 2000000 in
theorem QRl (a:ArmV)(m:Nat)(ws:List (List (Rat×Rat)))(s:Int)(p q:List Rat)(hg:QJ a)(hs:1<=s/\s<=12)(hp:Fit a p/\p.length=a.links.length)(hq:Fit a q/\q.length=a.links.length)(hm:m<=400000000)(hw:(∀w∈ws,QX w)/\ws.length<=20)(K:AV->Prop)(hY: ∀out,FdY a ws s p q out->K (.t [(false,[.s 1 (wN 63 (p::out.map (XD a s)++[q]))]),(false,[.v (.int .i64 0)])]))(hN:FdN a ws s p q->K (.t [(false,[.v (.slice none 0 0)]),(false,[.v (.int .i64 4)])])):QM (QR QbH (oF Tryz.f47) (QRk a m ws s p q) Tryz.f47 [J5 a,sR 63 p,sR 63 q,slA m ws,iA .i64 s] K):=by
 refine HV ((((0:Int)<=0/\(0:Int)<2)/\∃(ys:List (List Ch)),some [Zi 3 (lR 63 p)]=some [Zi 3 ys]/\∃(a_1:ArmV),∃(n:Nat),∃(qs:List Rat),[Zg (Zb a.name),Ze a.x 63,Ze a.y 63,Zg (Zd a.half),Ze a.t 63,Zi 16 (Za QB a.links)]=[Zg (Zb a_1.name),Ze a_1.x 63,Ze a_1.y 63,Zg (Zd a_1.half),Ze a_1.t 63,Zi 16 (Za QB a_1.links)]/\ys=lR n qs/\(QJ a_1/\n<=1000000/\qs.length=a_1.links.length)/\((∀(i:Nat) (L:Qf) (q:Rat),a_1.links[i]?=some L->qs[i]?=some q->L.lo<=q/\q<=L.hi)->((0:Int)<=1/\(1:Int)<2)/\∃(ys:List (List Ch)),some [Zi 3 (lR 63 q)]=some [Zi 3 ys]/\∃(a_3:ArmV),∃(n:Nat),∃(qs:List Rat),[Zg (Zb a.name),Ze a.x 63,Ze a.y 63,Zg (Zd a.half),Ze a.t 63,Zi 16 (Za QB a.links)]=[Zg (Zb a_3.name),Ze a_3.x 63,Ze a_3.y 63,Zg (Zd a_3.half),Ze a_3.t 63,Zi 16 (Za QB a_3.links)]/\ys=lR n qs/\(QJ a_3/\n<=1000000/\qs.length=a_3.links.length)/\((∀(i:Nat) (L:Qf) (q:Rat),a_3.links[i]?=some L->qs[i]?=some q->L.lo<=q/\q<=L.hi)->∃(a_5:ArmV),∃(n:Nat),∃(qs:List Rat),[Zg (Zb a.name),Ze a.x 63,Ze a.y 63,Zg (Zd a.half),Ze a.t 63,Zi 16 (Za QB a.links)]=[Zg (Zb a_5.name),Ze a_5.x 63,Ze a_5.y 63,Zg (Zd a_5.half),Ze a_5.t 63,Zi 16 (Za QB a_5.links)]/\lR 63 p=lR n qs/\(QJ a_5/\(1<=s/\s<=12)/\qs.length=a_5.links.length/\(∀(i:Nat) (L:Qf) (q:Rat),a_5.links[i]?=some L->qs[i]?=some q->L.lo<=q/\q<=L.hi)/\n<=100000)/\∃(a_6:ArmV),∃(n:Nat),∃(qs_1:List Rat),[Zg (Zb a.name),Ze a.x 63,Ze a.y 63,Zg (Zd a.half),Ze a.t 63,Zi 16 (Za QB a.links)]=[Zg (Zb a_6.name),Ze a_6.x 63,Ze a_6.y 63,Zg (Zd a_6.half),Ze a_6.t 63,Zi 16 (Za QB a_6.links)]/\lR 63 q=lR n qs_1/\(QJ a_6/\(1<=s/\s<=12)/\qs_1.length=a_6.links.length/\(∀(i:Nat) (L:Qf) (q:Rat),a_6.links[i]?=some L->qs_1[i]?=some q->L.lo<=q/\q<=L.hi)/\n<=100000)/\∃(a_7:ArmV),∃(ks:List Int),[Zg (Zb a.name),Ze a.x 63,Ze a.y 63,Zg (Zd a.half),Ze a.t 63,Zi 16 (Za QB a.links)]=[Zg (Zb a_7.name),Ze a_7.x 63,Ze a_7.y 63,Zg (Zd a_7.half),Ze a_7.t 63,Zi 16 (Za QB a_7.links)]/\ints (Qs a_5 s qs)=ints ks/\(QJ a_7/\(1<=s/\s<=12)/\ks.length=a_7.links.length/\∀(k:Int),k∈ks->0<=k/\k<=s)/\∃(a_8:ArmV),∃(ks_1:List Int),[Zg (Zb a.name),Ze a.x 63,Ze a.y 63,Zg (Zd a.half),Ze a.t 63,Zi 16 (Za QB a.links)]=[Zg (Zb a_8.name),Ze a_8.x 63,Ze a_8.y 63,Zg (Zd a_8.half),Ze a_8.t 63,Zi 16 (Za QB a_8.links)]/\ints (Qs a_6 s qs_1)=ints ks_1/\(QJ a_8/\(1<=s/\s<=12)/\ks_1.length=a_8.links.length/\∀(k:Int),k∈ks_1->0<=k/\k<=s)/\∃(a_9:ArmV),∃(d:Nat),∃(p_1:List Rat),∃(e:Nat),∃(q_1:List Rat),∃(m_1:Nat),∃(ws_1:List (List (Rat×Rat))),∃(n:Nat),[Zg (Zb a.name),Ze a.x 63,Ze a.y 63,Zg (Zd a.half),Ze a.t 63,Zi 16 (Za QB a.links)]=[Zg (Zb a_9.name),Ze a_9.x 63,Ze a_9.y 63,Zg (Zd a_9.half),Ze a_9.t 63,Zi 16 (Za QB a_9.links)]/\lR 63 p=lR d p_1/\lR 63 (XD a_7 s ks)=lR e q_1/\shN m ws=shN m_1 ws_1/\2=Zc n/\(QJ a_9/\2*d+e+130<=400/\(p_1.length=a_9.links.length/\q_1.length=a_9.links.length)/\m_1<=400000000/\((∀(w:List (Rat×Rat)),w∈ws_1->QX w)/\ws_1.length<=20)/\1<=n/\n<=50)/\∃(a_10:ArmV),∃(d:Nat),∃(p_2:List Rat),∃(e:Nat),∃(q_2:List Rat),∃(m_2:Nat),∃(ws_2:List (List (Rat×Rat))),∃(n_1:Nat),[Zg (Zb a.name),Ze a.x 63,Ze a.y 63,Zg (Zd a.half),Ze a.t 63,Zi 16 (Za QB a.links)]=[Zg (Zb a_10.name),Ze a_10.x 63,Ze a_10.y 63,Zg (Zd a_10.half),Ze a_10.t 63,Zi 16 (Za QB a_10.links)]/\lR 63 (XD a_8 s ks_1)=lR d p_2/\lR 63 q=lR e q_2/\shN m ws=shN m_2 ws_2/\2=Zc n_1/\(QJ a_10/\2*d+e+130<=400/\(p_2.length=a_10.links.length/\q_2.length=a_10.links.length)/\m_2<=400000000/\((∀(w:List (Rat×Rat)),w∈ws_2->QX w)/\ws_2.length<=20)/\1<=n_1/\n_1<=50)/\bif QBg a_9 (Xr p_1 q_1 n) ws_1 then bif QBg a_10 (Xr p_2 q_2 n_1) ws_2 then ∃(a_11:ArmV),∃(m_3:Nat),∃(ws_3:List (List (Rat×Rat))),∃(s_1:Int),∃(g:List Int),∃(fr:List Int),[Zg (Zb a.name),Ze a.x 63,Ze a.y 63,Zg (Zd a.half),Ze a.t 63,Zi 16 (Za QB a.links),Zi 1 (shN m ws),Zg (Zh Zf s),Zg (Zl none)]=[Zg (Zb a_11.name),Ze a_11.x 63,Ze a_11.y 63,Zg (Zd a_11.half),Ze a_11.t 63,Zi 16 (Za QB a_11.links),Zi 1 (shN m_3 ws_3),Zg (Zh Zf s_1),Zg (Zl none)]/\ints (Qs a_6 s qs_1)=ints g/\ints (Qs a_5 s qs)=ints fr/\(QJ a_11/\(1<=s_1/\s_1<=12)/\(g.length=a_11.links.length/\∀(k:Int),k∈g->0<=k/\k<=s_1)/\(fr.length=a_11.links.length/\∀(k:Int),k∈fr->0<=k/\k<=s_1)/\m_3<=400000000/\(∀(w:List (Rat×Rat)),w∈ws_3->QX w)/\ws_3.length<=20)/\∀(f:Int->Option Int),FdS a_11 ws_3 s_1 g fr f->∃(a_13:ArmV),∃(m:Nat),∃(ws_4:List (List (Rat×Rat))),∃(s_2:Int),∃(l:List Int),[Zg (Zb a_11.name),Ze a_11.x 63,Ze a_11.y 63,Zg (Zd a_11.half),Ze a_11.t 63,Zi 16 (Za QB a_11.links),Zi 1 (shN m_3 ws_3),Zg (Zh Zf s_1),Ch.m 5103]=[Zg (Zb a_13.name),Ze a_13.x 63,Ze a_13.y 63,Zg (Zd a_13.half),Ze a_13.t 63,Zi 16 (Za QB a_13.links),Zi 1 (shN m ws_4),Zg (Zh Zf s_2),Ch.m 5103]/\ints (Qs a_5 s qs)=ints l/\QJ a_13/\(1<=s_2/\s_2<=12)/\(l.length=a_13.links.length/\∀(k:Int),k∈l->0<=k/\k<=s_2)/\Blk.box 165 [Zg (Zb a_11.name),Ze a_11.x 63,Ze a_11.y 63,Zg (Zd a_11.half),Ze a_11.t 63,Zi 16 (Za QB a_11.links),Zi 1 (shN m_3 ws_3),Zg (Zh Zf s_1),Ch.m 5103]=Blk.box 165 [Zg (Zb a_11.name),Ze a_11.x 63,Ze a_11.y 63,Zg (Zd a_11.half),Ze a_11.t 63,Zi 16 (Za QB a_11.links),Zi 1 (shN m_3 ws_3),Zg (Zh Zf s_1),Ch.m 5103]/\Blk.mp f=Blk.mp f/\bif !(f (numV s_2 l)).isSome then K (AV.t [(false,[Zg (Zm none 0 0)]),(false,[Zg (Zh Zf 4)])])else ∃(n:Nat),∃(qs_2:List Rat),lR 63 p=lR n qs_2/\(n<=1000000/\qs_2.length<=1000000)/\∃(a_14:ArmV),∃(m:Nat),∃(ws_5:List (List (Rat×Rat))),∃(s_3:Int),∃(g:List Int),∃(fr:List Int),∃(D:Nat),[Zg (Zb a_11.name),Ze a_11.x 63,Ze a_11.y 63,Zg (Zd a_11.half),Ze a_11.t 63,Zi 16 (Za QB a_11.links),Zi 1 (shN m_3 ws_3),Zg (Zh Zf s_1),Ch.m 5103]=[Zg (Zb a_14.name),Ze a_14.x 63,Ze a_14.y 63,Zg (Zd a_14.half),Ze a_14.t 63,Zi 16 (Za QB a_14.links),Zi 1 (shN m ws_5),Zg (Zh Zf s_3),Ch.m 5103]/\ints (Qs a_5 s qs)=ints fr/\(QJ a_14/\(1<=s_3/\s_3<=12)/\(g.length=a_14.links.length/\∀(k:Int),k∈g->0<=k/\k<=s_3)/\(fr.length=a_14.links.length/\∀(k:Int),k∈fr->0<=k/\k<=s_3)/\m<=400000000/\((∀(w:List (Rat×Rat)),w∈ws_5->QX w)/\ws_5.length<=20)/\FdS a_14 ws_5 s_3 g fr f/\Rch (EdS a_14 ws_5 s_3) g D fr/\∀(k:Nat),k<D->¬Rch (EdS a_14 ws_5 s_3) g k fr)/\∀(out:List (List Int)),QJd a_14 ws_5 s_3 fr g out->out.length=D+1->(∃(x:FiX),(FiI a ws s p q x/\OfNat.ofNat 0=0)/\3=3/\lR 63 q=lR 63 q/\s=s/\0=0/\0=0/\1=x.w.length/\0=0/\out.length=x.out.length/\Zc out.length=Zc x.out.length/\0=Zc x.i/\34=34/\a.name=a.name/\a.x=a.x/\63<=63/\a.y=a.y/\63<=63/\a.half=a.half/\a.t=a.t/\63<=63/\16=16/\Za QB a.links=Za QB a.links/\41=41/\1=1/\([[Zi 3 (lR n qs_2)]]=wN 63 x.w∨QC [[Zi 3 (lR n qs_2)]] (wN 63 x.w))/\22=22/\1=1/\(Za spE out=Za spE x.out∨QC (Za spE out) (Za spE x.out))/\True)/\∀(x:FiX),FiI a ws s p q x->OfNat.ofNat 0=0->bif decide (Zc x.i<Zc x.out.length)then(0<=Zc x.i/\Zc x.i<Zc x.out.length)/\∃(ys:List (List Ch)),ldE (Za spE x.out) (0+(Zc x.i).toNat) 0 1=some [Zi 1 ys]/\∃(a_19:ArmV),∃(ks:List Int),[Zg (Zb a.name),Ze a.x 63,Ze a.y 63,Zg (Zd a.half),Ze a.t 63,Zi 16 (Za QB a.links)]=[Zg (Zb a_19.name),Ze a_19.x 63,Ze a_19.y 63,Zg (Zd a_19.half),Ze a_19.t 63,Zi 16 (Za QB a_19.links)]/\ys=ints ks/\(QJ a_19/\(1<=s/\s<=12)/\ks.length=a_19.links.length/\∀(k:Int),k∈ks->0<=k/\k<=s)/\((x.w.length+1)*24<=140737488355328/\x.w.length+1<=9223372036854775807)/\∃(x':FiX),(FiI a ws s p q x'/\OfNat.ofNat 0=0/\x'.out.length-x'.i<x.out.length-x.i)/\3=3/\lR 63 q=lR 63 q/\s=s/\0=0/\0=0/\x.w.length+1=x'.w.length/\0=0/\x.out.length=x'.out.length/\Zc x.out.length=Zc x'.out.length/\Zf.wrap (Zc x.i+1)=Zc x'.i/\34=34/\a.name=a.name/\a.x=a.x/\63<=63/\a.y=a.y/\63<=63/\a.half=a.half/\a.t=a.t/\63<=63/\16=16/\Za QB a.links=Za QB a.links/\41=41/\1=1/\(Zj x.w.length (wN 63 x.w)++[[Zi 3 (lR 63 (XD a_19 s ks))]]=wN 63 x'.w∨QC (Zj x.w.length (wN 63 x.w)++[[Zi 3 (lR 63 (XD a_19 s ks))]]) (wN 63 x'.w))/\22=22/\1=1/\(Za spE x.out=Za spE x'.out∨QC (Za spE x.out) (Za spE x'.out))/\True else ∃(n:Nat),∃(qs:List Rat),lR 63 q=lR n qs/\(n<=1000000/\qs.length<=1000000)/\((x.w.length+1)*24<=140737488355328/\x.w.length+1<=9223372036854775807)/\K (AV.t [(false,[Zi 1 (Zj (x.w.length+1) (List.drop 0 (Zj x.w.length (wN 63 x.w)++[[Zi 3 (lR n qs)]])))]),(false,[Zg (Zh Zf 0)])])else ∃(a_11:ArmV),∃(m_3:Nat),∃(ws_3:List (List (Rat×Rat))),∃(s_1:Int),∃(l:List Int),[Zg (Zb a.name),Ze a.x 63,Ze a.y 63,Zg (Zd a.half),Ze a.t 63,Zi 16 (Za QB a.links),Zi 1 (shN m ws),Zg (Zh Zf s),Zg (Zl none)]=[Zg (Zb a_11.name),Ze a_11.x 63,Ze a_11.y 63,Zg (Zd a_11.half),Ze a_11.t 63,Zi 16 (Za QB a_11.links),Zi 1 (shN m_3 ws_3),Zg (Zh Zf s_1),Zg (Zl none)]/\ints (Qs a_5 s qs)=ints l/\QJ a_11/\(1<=s_1/\s_1<=12)/\(l.length=a_11.links.length/\∀(k:Int),k∈l->0<=k/\k<=s_1)/\Blk.box 165 [Zg (Zb a.name),Ze a.x 63,Ze a.y 63,Zg (Zd a.half),Ze a.t 63,Zi 16 (Za QB a.links),Zi 1 (shN m ws),Zg (Zh Zf s),Zg (Zl none)]=Blk.box 165 [Zg (Zb a.name),Ze a.x 63,Ze a.y 63,Zg (Zd a.half),Ze a.t 63,Zi 16 (Za QB a.links),Zi 1 (shN m ws),Zg (Zh Zf s),Zg (Zl none)]/\K (AV.t [(false,[Zg (Zm none 0 0)]),(false,[Zg (Zh Zf 4)])])else ∃(a_11:ArmV),∃(m_3:Nat),∃(ws_3:List (List (Rat×Rat))),∃(s_1:Int),∃(l:List Int),[Zg (Zb a.name),Ze a.x 63,Ze a.y 63,Zg (Zd a.half),Ze a.t 63,Zi 16 (Za QB a.links),Zi 1 (shN m ws),Zg (Zh Zf s),Zg (Zl none)]=[Zg (Zb a_11.name),Ze a_11.x 63,Ze a_11.y 63,Zg (Zd a_11.half),Ze a_11.t 63,Zi 16 (Za QB a_11.links),Zi 1 (shN m_3 ws_3),Zg (Zh Zf s_1),Zg (Zl none)]/\ints (Qs a_5 s qs)=ints l/\QJ a_11/\(1<=s_1/\s_1<=12)/\(l.length=a_11.links.length/\∀(k:Int),k∈l->0<=k/\k<=s_1)/\Blk.box 165 [Zg (Zb a.name),Ze a.x 63,Ze a.y 63,Zg (Zd a.half),Ze a.t 63,Zi 16 (Za QB a.links),Zi 1 (shN m ws),Zg (Zh Zf s),Zg (Zl none)]=Blk.box 165 [Zg (Zb a.name),Ze a.x 63,Ze a.y 63,Zg (Zd a.half),Ze a.t 63,Zi 16 (Za QB a.links),Zi 1 (shN m ws),Zg (Zh Zf s),Zg (Zl none)]/\K (AV.t [(false,[Zg (Zm none 0 0)]),(false,[Zg (Zh Zf 4)])]))/\(¬Fit a_3 qs->K (AV.t [(false,[Zg (Zm none 0 0)]),(false,[Zg (Zh Zf 17)])])))/\(¬Fit a_1 qs->K (AV.t [(false,[Zg (Zm none 0 0)]),(false,[Zg (Zh Zf 17)])])))) ?_
 simp only[Zn,R0,R1,Nat.zero_add,Nat.le_refl,R4];have hn:=hg.n;obtain⟨nb1,nb2⟩:=QBy hg hs;have okp:=QE0 hg hs.1 hp.1 hp.2;have okq:=QE0 hg hs.1 hq.1 hq.2;have vl: ∀ks:List Int,ks.length=a.links.length->(XD a s ks).length=a.links.length:=fun ks h=>by simp[XD,h]
 have wl: ∀n (w:List (List Rat)),(wN n w).length=w.length:=fun n w=>by simp[wN]
 have hpl:=hp.2;have hql:=hq.2;refine⟨⟨by omega,by omega⟩,_,rfl,a,63,p,rfl,rfl,⟨hg,by omega,hp.2⟩,fun _=>⟨⟨by omega,by omega⟩,_,rfl,a,63,q,rfl,rfl,⟨hg,by omega,hq.2⟩,fun _=> ?_,fun h=>absurd hq.1 h⟩,fun h=>absurd hp.1 h⟩;refine⟨a,63,p,rfl,rfl,⟨hg,hs,hp.2,hp.1,by omega⟩,a,63,q,rfl,rfl,⟨hg,hs,hq.2,hq.1,by omega⟩,a,Qs a s p,rfl,rfl,⟨hg,hs,okp⟩,a,Qs a s q,rfl,rfl,⟨hg,hs,okq⟩,a,63,p,63,XD a s (Qs a s p),m,ws,2,rfl,rfl,rfl,rfl,rfl,⟨hg,by omega,⟨hp.2,vl _ okp.1⟩,hm,hw,by omega,by omega⟩,a,63,XD a s (Qs a s q),63,q,m,ws,2,rfl,rfl,rfl,rfl,rfl,⟨hg,by omega,⟨vl _ okq.1,hq.2⟩,hm,hw,by omega,by omega⟩,QF (fun hb=>QF (fun he=> ?_) (fun he=>⟨a,m,ws,s,Qs a s p,rfl,rfl,hg,hs,okp,hN fun _ h2=>absurd (he.symm.trans h2) (by simp)⟩)) (fun hb=>⟨a,m,ws,s,Qs a s p,rfl,rfl,hg,hs,okp,hN fun h1 _=>absurd (hb.symm.trans h1) (by simp)⟩)⟩
 refine⟨a,m,ws,s,Qs a s q,Qs a s p,rfl,rfl,rfl,⟨hg,hs,okq,okp,hm,hw⟩,fun f hF=>⟨a,m,ws,s,Qs a s p,rfl,rfl,hg,hs,okp,QF (fun h=>hN fun _ _ D hD=> ?_) (fun h=> ?_)⟩⟩
 ·have h1:=(HD hF.nn).1 (hF.found.2 D hD).1;rw[h1]at h;simp at h
 ·obtain⟨v,hv⟩: ∃v,f (numV s (Qs a s p))=some v:=by
   cases h':f (numV s (Qs a s p))with
   | none=>rw[h']at h;simp at h
   | some v=>exact⟨v,rfl⟩
  have hv0:=hF.nn _ _ hv;have hD:Dst (EdS a ws s) (Qs a s q) v.toNat (Qs a s p):=hF.found.1 _ _ okp ((HD hF.nn).2 (by rw[hv];congr 1;omega));have hDb:=KU hs.1 okq hD;refine⟨63,p,rfl,⟨by omega,by omega⟩,a,m,ws,s,Qs a s q,Qs a s p,v.toNat,rfl,rfl,⟨hg,hs,okq,okp,hm,hw,hF,hD⟩,fun out hway hlen=>⟨⟨⟨out,0,[p]⟩,⟨hway,by simp only;omega,by simp only;rw[hlen];exact hD,Nat.zero_le _,rfl⟩,rfl,rfl,rfl,rfl,.inl rfl,.inl rfl⟩,fun x hx=>QF (fun hi=> ?_) (fun hi=> ?_)⟩⟩
  ·have hi:x.i<x.out.length:=by have:=R5 hi;omega
   obtain⟨l,hl⟩: ∃l,x.out[x.i]? =some l:=⟨_,List.getElem?_eq_getElem hi⟩
   have hlo:=hx.way.ok l (List.mem_of_getElem? hl);have hb':=KU hs.1 okq hx.dst;have hwl:x.w.length=x.i+1:=by rw[hx.w];simp;omega
   have hln:=hx.len;refine⟨⟨by omega,by omega⟩,ints l,QEy (by simpa using hl),a,l,rfl,rfl,⟨hg,hs,hlo⟩,⟨by omega,by omega⟩,⟨x.out,x.i+1,x.w++[XD a s l]⟩,⟨⟨hx.way,hx.len,hx.dst,by simp only;omega,?_⟩,by simp only;omega⟩,by simp,rfl,rfl,by rw[w64 (by omega)];simp,.inl ?_,.inl rfl⟩
   ·simp only;rw[hx.w,List.take_add_one,hl];simp
   ·rw[Zk (by rw[wl];exact Nat.le_refl _)];simp[wN,wEl]
  ·have hi:x.i=x.out.length:=by have:=R6 hi;have:=hx.i;omega
   have hb':=KU hs.1 okq hx.dst;have hwe:x.w=p::x.out.map (XD a s):=by rw[hx.w,hi,List.take_length]
   have hwl:x.w.length=x.out.length+1:=by rw[hwe];simp
   have hln:=hx.len;refine⟨63,q,rfl,⟨by omega,by omega⟩,⟨by omega,by omega⟩,?_⟩;have e:Zj (x.w.length+1) (List.drop 0 (Zj x.w.length (wN 63 x.w)++[[Zi 3 (lR 63 q)]]))=wN 63 (p::x.out.map (XD a s)++[q]):=by
    rw[Zq,Zk (l:=wN 63 x.w) (by rw[wl];exact Nat.le_refl _),Zk (by simp[wl]),hwe];simp[wN,wEl]
   rw[e];exact hY x.out ⟨hb,he,hx.way,hx.len,hx.dst⟩
end Go.Proofs
