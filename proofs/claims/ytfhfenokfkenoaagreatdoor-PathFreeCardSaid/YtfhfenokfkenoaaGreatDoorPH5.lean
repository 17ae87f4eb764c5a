/- path: Find's contract; the fact; PathBack, PathFewer. -/
import Derived.Test.YtfhfenokfkenoaaGreatDoorPH4
open Nat renaming eq_of_beq_eq_true → Za
namespace Go.Proofs
open Go Go.Eng
structure FdW (a:ArmV)(s:Int)(p q:List Rat)(out:List (List Int))(w:List (List Rat)):Prop where
 e:w=p::out.map (XD a s)++[q]
def QWT (a:ArmV)(ws:List (List (Rat×Rat)))(s:Int)(p q:List Rat)(m:Nat):Prop:=QJ a/\(1<=s/\s<=12)/\(Fit a p/\p.length=a.links.length)/\(Fit a q/\q.length=a.links.length)/\m<=400000000/\(∀w∈ws,QX w)/\ws.length<=20
def QE4:Ctr
 | [.x true xs,.x false [.s 3 ys],.x false [.s 3 zs],.x false [c],.x false [.v (.int .i64 s)]]=>match c with
  | .s 1 us=>some fun K=> ∃(a:ArmV) (p q:List Rat) (m:Nat) (ws:List (List (Rat×Rat))),xs=XM a/\ys=lR 63 p/\zs=lR 63 q/\us=shN m ws/\QWT a ws s p q m/\(∀out w,FdY a ws s p q out->FdW a s p q out w->K (.t [(false,[.s 1 (wN 63 w)]),(false,[.v (.int .i64 0)])]))/\(FdN a ws s p q->K (.t [(false,[.v (.slice none 0 0)]),(false,[.v (.int .i64 4)])]))
  | .v (.slice none 0 0)=>some fun K=> ∃(a:ArmV) (p q:List Rat),xs=XM a/\ys=lR 63 p/\zs=lR 63 q/\QWT a [] s p q 0/\(∀out w,FdY a [] s p q out->FdW a s p q out w->K (.t [(false,[.s 1 (wN 63 w)]),(false,[.v (.int .i64 0)])]))/\(FdN a [] s p q->K (.t [(false,[.v (.slice none 0 0)]),(false,[.v (.int .i64 4)])]))
  | _=>none
 | _=>none
def QJg:Ctr
 | []=>some fun K=>K (.x false [.v (.bool true)])
 | _=>none
def QZO:LC:=(47,QE4)::(46,QE1)::QZK
def QRo:LC:=(45,QJg)::QZO
theorem QRp:Dst (EdS (Xi [3,2]) [] 1) [1,1] 2 [0,0]:=by
 have go: ∀p q,goV (Xi [3,2]) [] 2 p q=true:=fun _ _=>QJe;have fr: ∀u v,frV (Xi [3,2]) [] 1 u v=true:=fun _ _=>go _ _;refine⟨.step (.step .zero (v:=[0,1]) ⟨⟨rfl,by decide⟩,⟨0,1,0,rfl,.inl rfl,by decide,rfl⟩,fr _ _⟩) ⟨⟨rfl,by decide⟩,⟨1,1,0,rfl,.inl rfl,by decide,rfl⟩,fr _ _⟩,fun k hk hr=> ?_⟩;match k,hk with
 | 0,_=>cases hr
 | 1,_=>
  cases hr with
  | step h e=>
   cases h
   obtain⟨i,v,w,hv,_,_,he⟩:=e.2.1;match i with
   | 0=>simp at he
   | 1=>simp at he
   | i+2=>simp at hv
theorem QDD:Qs (Xi [3,2]) 1 [mkRat (-2) 1,mkRat (-2) 1]=[0,0]/\Qs (Xi [3,2]) 1 [mkRat 2 1,mkRat 2 1]=[1,1]:=by decide+kernel
theorem QG2:(∀L∈(Xi [3,2]).links,L.lo<=mkRat (-2) 1/\mkRat (-2) 1<=L.hi)/\(∀L∈(Xi [3,2]).links,L.lo<=mkRat 2 1/\mkRat 2 1<=L.hi):=by
 simp only[Xi,List.map_cons,List.map_nil,List.mem_cons,List.not_mem_nil,or_false,forall_eq_or_imp,forall_eq,UB];decide+kernel
theorem QKu {a:ArmV}{x:Rat}(h: ∀L∈a.links,L.lo<=x/\x<=L.hi):Fit a [x,x]:=fun i L q hL hq=>by
 have:q=x:=by simpa using List.mem_of_getElem? hq
 subst this;exact h L (List.mem_of_getElem? hL)
theorem QZP (K:AV->Prop)(hK:K (.x false [.v (.bool true)])):QM (QR (mkTP QZO QRj X4) (oF Tryz.f45) noL Tryz.f45 [] K):=by
 refine HV (((((-9223372036854775808:Int)<2/\(2:Int)<9223372036854775808)/\(0:Int)<1/\(1:Int)<9223372036854775808)/\(((-9223372036854775808:Int)< -2/\(-2:Int)<9223372036854775808)/\(0:Int)<1/\(1:Int)<9223372036854775808)/\∃(ns:List Int),[[Ch.v (Value.int IntKind.i64 3)],[Ch.v (Value.int IntKind.i64 2)]]=ints ns/\(ns.length<=3/\∀(n:Int),n∈ns->1<=n/\n<=1000)/\∃(a:ArmV),∃(p:List Rat),∃(q:List Rat),[Ch.v (Value.string (Xi ns).name),Ch.r (Xi ns).x 63,Ch.r (Xi ns).y 63,Ch.v (Value.bool false),Ch.r (Xi ns).t 63,Ch.s 16 (List.map QB (Xi ns).links)]=[Ch.v (Value.string a.name),Ch.r a.x 63,Ch.r a.y 63,Ch.v (Value.bool a.half),Ch.r a.t 63,Ch.s 16 (List.map QB a.links)]/\[[Ch.r (mkRat (-2) 1) 63],[Ch.r (mkRat (-2) 1) 63]]=lR 63 p/\[[Ch.r (mkRat 2 1) 63],[Ch.r (mkRat 2 1) 63]]=lR 63 q/\(QJ a/\((1:Int)<=1/\(1:Int)<=12)/\((∀(i:Nat) (L:Qf) (q:Rat),a.links[i]?=some L->p[i]?=some q->L.lo<=q/\q<=L.hi)/\p.length=a.links.length)/\((∀(i:Nat) (L:Qf) (q_1:Rat),a.links[i]?=some L->q[i]?=some q_1->L.lo<=q_1/\q_1<=L.hi)/\q.length=a.links.length)/\0<=400000000/\(∀(w:List (Rat×Rat)),w∈[]->QX w)/\0<=20)/\(∀(out:List (List Int)) (w:List (List Rat)),FdY a [] 1 p q out->FdW a 1 p q out w->K (AV.x false [Ch.v (Value.bool (Int.ofNat (wN 63 w).length==5))]))/\((QEz a [] 1 p=true->QVH a [] 1 q=true->∀(D:Nat),¬Dst (EdS a [] 1) (Qs a 1 q) D (Qs a 1 p))->K (AV.x false [Ch.v (Value.bool false)])))) ?_
 simp only[Int.ofNat_eq_natCast];have hg:QJ (Xi [3,2]):=QGS ⟨by decide,by decide⟩ (by decide);have hd:=QRp;rw[<-QDD.1,<-QDD.2]at hd;refine⟨⟨⟨by omega,by omega⟩,by omega,by omega⟩,⟨⟨by omega,by omega⟩,by omega,by omega⟩,[3,2],rfl,⟨by decide,by decide⟩,Xi [3,2],[mkRat (-2) 1,mkRat (-2) 1],[mkRat 2 1,mkRat 2 1],rfl,rfl,rfl,⟨hg,by omega,⟨QKu QG2.1,rfl⟩,⟨QKu QG2.2,rfl⟩,by omega,fun w hw=>(List.not_mem_nil hw).elim,by omega⟩,fun out w h1 h2=> ?_,fun hN=>(hN QJe QJe _ hd).elim⟩;have e:=h1.dst.uniq hd;have hl:=h1.len;have e2:((wN 63 w).length:Int)=5:=by
  rw[show(wN 63 w).length=w.length by simp[wN],h2.e];simp;omega
 rw[e2];exact hK
theorem QJh (n:Nat)(w:List (List Rat)):(wN n w).length=w.length:=by simp[wN]
theorem QVP {a:ArmV}{s:Int}{p q:List Rat}{out:List (List Int)}{w:List (List Rat)}(h:FdW a s p q out w):(wN 63 w).length=out.length+2:=by
 rw[QJh,h.e];simp
end Go.Proofs
namespace Go.Proofs
open Go Go.Eng
theorem QRq {H:HP}{a:ArmV}{m:Nat}{ws:List (List (Rat×Rat))}{s:Int}{k d:Nat}{f:Int->Option Int}{out:List (List Int)}(hk:H k=some (seB a m ws s (.m (k+5000))))(hm:H (k+5000)=some (.mp f))(hd:H d=none):
  XN [(1000,k),(6000,k+5000),(500,d)] (QN [(500,W0 out),(1000,seB a m ws s (.m 6000)),(6000,.mp f)]) H=upd H d (some (W0 out)):=by
 have e:lkA [(1000,k),(6000,k+5000),(500,d)] 6000=some (k+5000):=rfl;have r:JD (lkA [(1000,k),(6000,k+5000),(500,d)]) (seB a m ws s (.m 6000))=some (seB a m ws s (.m (k+5000))):=by
  simp only[JD,seB,Ub,XM,List.cons_append,List.nil_append,XI,e]
 have dk:d≠k:=fun h=>by subst h;rw[hk]at hd;cases hd
 have dm:d≠k+5000:=fun h=>by subst h;rw[hm]at hd;cases hd
 funext i;unfold XN;simp only[lkB];cases h:i.beq k with
 | true=>
  have:=Za h;subst this;rw[QY _ _ (fun h=>dk h.symm),hk];show some (rdB _ (seB a m ws s (.m 6000)))=_
  simp only[rdB,r,Option.getD_some]
 | false=>
  simp only[R8];cases h2:i.beq (k+5000)with
  | true=>
   have:=Za h2;subst this;rw[QY _ _ (fun h=>dm h.symm),hm];rfl
  | false=>
   simp only[R8];cases h3:i.beq d with
   | true=>
    have:=Za h3;subst this;rw[QS];show some (rdB _ (W0 out))=_
    have rr:JD (lkA [(1000,k),(6000,k+5000),(500,i)]) (W0 out)=some (W0 out):=rfl;simp only[rdB,rr,Option.getD_some]
   | false=>
    have:i≠d:=fun e=>by subst e;simp at h3
    rw[QY _ _ this];rfl
theorem QM6:XP 106 QB0:=by
 refine⟨Qb Tryz.func106 (by kernel_rfl),fun l H d T hT K hK=> ?_⟩;unfold QB0 at hT;split at hT
 ·rename_i k o xs;split at hT
  ·split at hT
   ·rename_i t cs f e1 e2 e3;cases hb:t.beq 165 with
    | false=>rw[hb]at hT;cases hT
    | true=>
     rw[hb]at hT;have ht:=Za hb;subst ht;simp only[R7]at hT;split at hT
     ·rename_i j _;cases hj:j.beq (k+5000)with
      | false=>rw[hj]at hT;cases hT
      | true=>
       rw[hj]at hT;simp only[R7]at hT;cases hT
       obtain⟨a,m,ws,s,g,fr,D,rfl,rfl,⟨hg,hs,hgo,hfo,hm,hw,hF,hD⟩,hK⟩:=hK;refine Y3 (R:=[(1000,k),(6000,k+5000)]) (N:=[(500,d)]) (Hl:=[(1000,seB a m ws s (.m 6000)),(6000,.mp f)]) QVG QK Tryz.func106 (by kernel_rfl) (by kernel_rfl) (by rfl)
        (as0:=[.x false [.p 1000 0],.x false [.s 1 (ints fr)]]) ?_ (QBx e1 e2) rfl (by simp) (by simp) (fun p hp=>by simp at hp;subst hp;exact e3) (fun x=>⟨fun p hp=> ?_,fun p hp b hb=> ?_⟩) (QZN ⟨hg,hs,hgo,hfo,hm,hw,hF,hD⟩) (fun out ho=>⟨_,rfl,?_⟩)
       ·simp[Xj,Xg,XI,lkB]
       ·simp at hp;rcases hp with rfl | rfl
        ·exact fun h=>by have h':some (seB a m ws s (.m 6000))=none:=h;cases h'
        ·exact fun h=>by have h':some (Blk.mp f)=none:=h;cases h'
       ·simp at hp;rcases hp with rfl | rfl | rfl
        ·have h':some (seB a m ws s (.m 6000))=some b:=hb;cases h'
         have e:lkA [(1000,k),(6000,k+5000),(500,d)] 6000=some (k+5000):=rfl;exact⟨seB a m ws s (.m (k+5000)),by show JD (lkA [(1000,k),(6000,k+5000),(500,d)]) _=_;simp only[JD,seB,Ub,XM,List.cons_append,List.nil_append,XI,e]⟩
        ·have h':some (Blk.mp f)=some b:=hb;cases h';exact⟨_,rfl⟩
        ·have h':some (W0 x)=some b:=hb;cases h';exact⟨_,rfl⟩
       ·show K _ (XN [(1000,k),(6000,k+5000),(500,d)] (QN [(500,W0 out),(1000,seB a m ws s (.m 6000)),(6000,.mp f)]) H)
        rw[QRq e1 e2 e3];exact hK out ho.1 ho.2
     ·cases hT
   ·cases hT
  ·cases hT
 ·cases hT
theorem QE5:XB QRj:= .cons QM3 (.cons QM6 GD)
theorem QRr:QG QZK:= .cons QJf QBv
theorem QRs:Q7 QbH:=Wm QRr QE5 Qg
theorem QbM {w:World}{O:Nat->Prop}{ρ:Env}{n:Nat}{v:Value}(h:ConcV w O ρ (.x false [.v (.slice none 0 0)]) v):ConcV w O ρ (.x false [.s n []]) v:=by
 obtain⟨vals,h1,h2⟩:=h;cases h1 with | v _ h1=>exact⟨_,.s0 h1,h2⟩
theorem QRt:QI 47 QE4:=by
 refine⟨Qb Tryz.func47 (by kernel_rfl),fun l T hT K hK=> ?_⟩;unfold QE4 at hT;split at hT
 ·split at hT
  ·cases hT
   obtain⟨a,p,q,m,ws,rfl,rfl,rfl,rfl,⟨hg,hs,hp,hq,hm,hw⟩,hY,hN⟩:=hK;exact Qk QRs QK Tryz.func47 (by kernel_rfl) (by kernel_rfl) (by rfl) (QRl a m ws _ p q hg hs hp hq hm hw K (fun out h=>hY out _ h ⟨rfl⟩) hN)
  ·cases hT
   obtain⟨a,p,q,rfl,rfl,rfl,⟨hg,hs,hp,hq,hm,hw⟩,hY,hN⟩:=hK;refine Eng.Spec.args (Qk QRs QK Tryz.func47 (by kernel_rfl) (by kernel_rfl) (by rfl) (QRl a 0 [] _ p q hg hs hp hq hm hw K (fun out h=>hY out _ h ⟨rfl⟩) hN)) fun w O vals hv=> ?_
   cases hv with | cons h1 hv=>cases hv with | cons h2 hv=>cases hv with | cons h3 hv=>cases hv with | cons h4 hv=>exact .cons h1 (.cons h2 (.cons h3 (.cons (QbM h4) hv)))
  ·cases hT
 ·cases hT
theorem QRu:QG QZO:= .cons QRt (.cons QVJ QRr)
theorem QVQ:QI 45 QJg:=by
 refine okL Tryz.func45 fun l T hT K hK=> ?_
 unfold QJg at hT;split at hT<;>cases hT
 exact spL (Wm QRu QE5 Qg) QK Tryz.func45 (QZP K hK)
theorem QE6:QG QRo:= .cons QVQ QRu
end Go.Proofs
