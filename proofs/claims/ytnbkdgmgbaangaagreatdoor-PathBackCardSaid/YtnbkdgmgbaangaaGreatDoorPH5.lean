/- path: Find's contract; the fact; PathBack, PathFewer. -/
import Derived.Test.YtnbkdgmgbaangaaGreatDoorPH4
open Go.IntKind renaming i64 → Za
open Go.Value renaming bool → Zb, string → Zc
open Go.Eng.Ch renaming r → Zd, v → Zg
open Nat renaming eq_of_beq_eq_true → Ze
open List renaming map → Zf
namespace Go.Proofs
open Go Go.Eng
structure FdW (a:QN)(s:Int)(p q:List Rat)(out:List (List Int))(w:List (List Rat)):Prop where
 e:w=p::out.map (XM a s)++[q]
def QbA (a:QN)(ws:List (List (Rat×Rat)))(s:Int)(p q:List Rat)(m:Nat):Prop:=QO a/\(1<=s/\s<=12)/\(Fit a p/\p.length=a.links.length)/\(Fit a q/\q.length=a.links.length)/\m<=400000000/\(∀w∈ws,Qb w)/\ws.length<=20
def QH2:Ctr:=fun as0=>match as0 with
 | [.x true xs,.x false [.s 3 ys],.x false [.s 3 zs],.x false [c],.x false [.v (.int .i64 s)]]=>match c with
  | .s 1 us=>some fun K=> ∃(a:QN) (p q:List Rat) (m:Nat) (ws:List (List (Rat×Rat))),xs=XW a/\ys=lR 63 p/\zs=lR 63 q/\us=shN m ws/\QbA a ws s p q m/\(∀out w,FdY a ws s p q out->FdW a s p q out w->K (.t [(false,[.s 1 (wN 63 w)]),(false,[.v (.int .i64 0)])]))/\(FdN a ws s p q->K (.t [(false,[.v (.slice none 0 0)]),(false,[.v (.int .i64 4)])]))
  | .v (.slice none 0 0)=>some fun K=> ∃(a:QN) (p q:List Rat),xs=XW a/\ys=lR 63 p/\zs=lR 63 q/\QbA a [] s p q 0/\(∀out w,FdY a [] s p q out->FdW a s p q out w->K (.t [(false,[.s 1 (wN 63 w)]),(false,[.v (.int .i64 0)])]))/\(FdN a [] s p q->K (.t [(false,[.v (.slice none 0 0)]),(false,[.v (.int .i64 4)])]))
  | _=>none
 | _=>none
def QM6:Ctr:=fun as0=>match as0 with
 | []=>some fun K=>K (.x false [.v (.bool true)])
 | _=>none
def Qep:List (Nat×Ctr):=(52,QH2)::(50,QHx)::Qel
noncomputable def Qhn:QU:=mkTP Qep QZm X4
def Qho:List (Nat×Ctr):=(49,QM6)::Qep
noncomputable def Qhp:QU:=mkTP Qho QZm X4
def QZt:OT:=fun id=>bif id.beq 2 then([0,2,3,4,5,6,7,1,8,9,10,11,12,13],[[],[0],[],[],[2,3],[],[],[5,6],[1,0,4,2,3,7,5,6],[8,1,0,4,2,3,7,5,6],[9,8,1,0,4,2,3,7,5,6],[9,8,1,0,4,2,3,7,5,6],[10,9,8,1,0,4,2,3,7,5,6],[11,9,8,1,0,4,2,3,7,5,6,12,10]])else([],[])
def QFd (K:AV->Prop):Prop:=QX Qhn QZt noL Tryz.f49 [] K
theorem QH3 (K:AV->Prop):QFd K=((((-9223372036854775808:Int)<2/\(2:Int)<9223372036854775808)/\(0:Int)<1/\(1:Int)<9223372036854775808)/\(((-9223372036854775808:Int)< -2/\(-2:Int)<9223372036854775808)/\(0:Int)<1/\(1:Int)<9223372036854775808)/\∃(ns:List Int),[[Zg (Value.int Za 3)],[Zg (Value.int Za 2)]]=ints ns/\(ns.length<=3/\∀(n:Int),n∈ns->1<=n/\n<=1000)/\∃(a:QN)(p:List Rat)(q:List Rat),[Zg (Zc (Xc ns).name),Zd (Xc ns).x 63,Zd (Xc ns).y 63,Zg (Zb false),Zd (Xc ns).t 63,Ch.s 16 (Zf QB (Xc ns).links)]=[Zg (Zc a.name),Zd a.x 63,Zd a.y 63,Zg (Zb a.half),Zd a.t 63,Ch.s 16 (Zf QB a.links)]/\[[Zd (mkRat (-2) 1) 63],[Zd (mkRat (-2) 1) 63]]=lR 63 p/\[[Zd (mkRat 2 1) 63],[Zd (mkRat 2 1) 63]]=lR 63 q/\(QO a/\((1:Int)<=1/\(1:Int)<=12)/\((∀(i:Nat) (L:Qi) (q:Rat),a.links[i]?=some L->p[i]?=some q->L.lo<=q/\q<=L.hi)/\p.length=a.links.length)/\((∀(i:Nat) (L:Qi) (q_1:Rat),a.links[i]?=some L->q[i]?=some q_1->L.lo<=q_1/\q_1<=L.hi)/\q.length=a.links.length)/\0<=400000000/\(∀(w:List (Rat×Rat)),w∈[]->Qb w)/\0<=20)/\(∀(out:List (List Int)) (w:List (List Rat)),FdY a [] 1 p q out->FdW a 1 p q out w->K (AV.x false [Zg (Zb (Int.ofNat (wN 63 w).length==5))]))/\((UK a [] 1 p=true->QM2 a [] 1 q=true->∀(D:Nat),¬Dst (EdS a [] 1) (Qp a 1 q) D (Qp a 1 p))->K (AV.x false [Zg (Zb false)]))):=by kernel_rfl
def QVf:OT:=fun id=>bif id.beq 4 then([0,1,3,4,2,5,6,7],[[],[],[0,1],[],[],[3,4,2,0,1],[2,0,1,5,3,4],[5,3,4,2,0,1,6]])else bif id.beq 6 then([0,1,2,3,5,4,6,7,8,9,10,11],[[],[],[],[],[3],[],[0,1,2,4,3,5],[6,0,1,2,4,3,5],[7,6,0,1,2,4,3,5],[7,6,0,1,2,4,3,5],[8,7,6,0,1,2,4,3,5],[9,7,6,0,1,2,4,3,5,10,8]])else bif id.beq 7 then([0,1,2,3,5,4,6,7,8,9,10,11],[[],[],[],[],[3],[],[0,1,2,4,3,5],[6,0,1,2,4,3,5],[7,6,0,1,2,4,3,5],[7,6,0,1,2,4,3,5],[8,7,6,0,1,2,4,3,5],[9,7,6,0,1,2,4,3,5,10,8]])else([],[])
def QDQ (l m k w:List Int)(n:Int)(K:AV->Prop):Prop:=QX Qhp QVf noL Tryz.f8 [.x false [.s 1 (ints l)],.x false [.s 1 (ints m)],.x false [.s 1 (ints k)],.x false [.s 1 (ints w)],iA .i64 n] K
theorem QEH (l:List Int)(m:List Int)(k:List Int)(w:List Int)(n:Int)(K:AV->Prop):QDQ l m k w n K=(∃(l_1:List Int),ints l=ints l_1/\l_1.length<=9223372036854775807/\∀(a:QN),QO a->a.links.length<=2->∃(a_3:QN)(l:List Int),[Zg (Zc a.name),Zd a.x 63,Zd a.y 63,Zg (Zb a.half),Zd a.t 63,Ch.s 16 (Zf QB a.links)]=[Zg (Zc a_3.name),Zd a_3.x 63,Zd a_3.y 63,Zg (Zb a_3.half),Zd a_3.t 63,Ch.s 16 (Zf QB a_3.links)]/\ints m=ints l/\(QO a_3/\l.length<=9223372036854775807)/\∀(qs:List Rat),(∀(i:Nat) (L:Qi) (q:Rat),a_3.links[i]?=some L->qs[i]?=some q->L.lo<=q/\q<=L.hi)->qs.length=a_3.links.length->∃(a_6:QN)(l:List Int),[Zg (Zc a.name),Zd a.x 63,Zd a.y 63,Zg (Zb a.half),Zd a.t 63,Ch.s 16 (Zf QB a.links)]=[Zg (Zc a_6.name),Zd a_6.x 63,Zd a_6.y 63,Zg (Zb a_6.half),Zd a_6.t 63,Ch.s 16 (Zf QB a_6.links)]/\ints k=ints l/\(QO a_6/\l.length<=9223372036854775807)/\∀(qs_1:List Rat),(∀(i:Nat) (L:Qi) (q:Rat),a_6.links[i]?=some L->qs_1[i]?=some q->L.lo<=q/\q<=L.hi)->qs_1.length=a_6.links.length->((0:Int)<3/\(3:Int)<9223372036854775808)/\∃(l:List Int),ints w=ints l/\l.length<=9223372036854775807/\∃(a_9:QN)(p:List Rat)(q:List Rat)(m:Nat)(ws:List (List (Rat×Rat))),[Zg (Zc a.name),Zd a.x 63,Zd a.y 63,Zg (Zb a.half),Zd a.t 63,Ch.s 16 (Zf QB a.links)]=[Zg (Zc a_9.name),Zd a_9.x 63,Zd a_9.y 63,Zg (Zb a_9.half),Zd a_9.t 63,Ch.s 16 (Zf QB a_9.links)]/\lR 63 qs=lR 63 p/\lR 63 qs_1=lR 63 q/\shN 127 (Y6 l)=shN m ws/\(QO a_9/\(1<=Za.wrap (1+n%3)/\Za.wrap (1+n%3)<=12)/\((∀(i:Nat) (L:Qi) (q:Rat),a_9.links[i]?=some L->p[i]?=some q->L.lo<=q/\q<=L.hi)/\p.length=a_9.links.length)/\((∀(i:Nat) (L:Qi) (q_1:Rat),a_9.links[i]?=some L->q[i]?=some q_1->L.lo<=q_1/\q_1<=L.hi)/\q.length=a_9.links.length)/\m<=400000000/\(∀(w:List (Rat×Rat)),w∈ws->Qb w)/\ws.length<=20)/\(∀(out:List (List Int)) (w_1:List (List Rat)),FdY a_9 ws (Za.wrap (1+n%3)) p q out->FdW a_9 (Za.wrap (1+n%3)) p q out w_1->∃(l:List Int),ints w=ints l/\l.length<=9223372036854775807/\∃(a_12:QN)(p:List Rat)(q:List Rat)(m:Nat)(ws:List (List (Rat×Rat))),[Zg (Zc a.name),Zd a.x 63,Zd a.y 63,Zg (Zb a.half),Zd a.t 63,Ch.s 16 (Zf QB a.links)]=[Zg (Zc a_12.name),Zd a_12.x 63,Zd a_12.y 63,Zg (Zb a_12.half),Zd a_12.t 63,Ch.s 16 (Zf QB a_12.links)]/\lR 63 qs_1=lR 63 p/\lR 63 qs=lR 63 q/\shN 127 (Y6 l)=shN m ws/\(QO a_12/\(1<=Za.wrap (1+n%3)/\Za.wrap (1+n%3)<=12)/\((∀(i:Nat) (L:Qi) (q:Rat),a_12.links[i]?=some L->p[i]?=some q->L.lo<=q/\q<=L.hi)/\p.length=a_12.links.length)/\((∀(i:Nat) (L:Qi) (q_1:Rat),a_12.links[i]?=some L->q[i]?=some q_1->L.lo<=q_1/\q_1<=L.hi)/\q.length=a_12.links.length)/\m<=400000000/\(∀(w:List (Rat×Rat)),w∈ws->Qb w)/\ws.length<=20)/\(∀(out:List (List Int)) (w:List (List Rat)),FdY a_12 ws (Za.wrap (1+n%3)) p q out->FdW a_12 (Za.wrap (1+n%3)) p q out w->bif Int.ofNat (wN 63 w_1).length==Int.ofNat (wN 63 w).length then K (AV.x false [Zg (Zb true)])else K (AV.x false [Zg (Zb false)]))/\((UK a_12 ws (Za.wrap (1+n%3)) p=true->QM2 a_12 ws (Za.wrap (1+n%3)) q=true->∀(D:Nat),¬Dst (EdS a_12 ws (Za.wrap (1+n%3))) (Qp a_12 (Za.wrap (1+n%3)) q) D (Qp a_12 (Za.wrap (1+n%3)) p))->K (AV.x false [Zg (Zb false)])))/\((UK a_9 ws (Za.wrap (1+n%3)) p=true->QM2 a_9 ws (Za.wrap (1+n%3)) q=true->∀(D:Nat),¬Dst (EdS a_9 ws (Za.wrap (1+n%3))) (Qp a_9 (Za.wrap (1+n%3)) q) D (Qp a_9 (Za.wrap (1+n%3)) p))->∃(l:List Int),ints w=ints l/\l.length<=9223372036854775807/\∃(a_11:QN)(p:List Rat)(q:List Rat)(m:Nat)(ws:List (List (Rat×Rat))),[Zg (Zc a.name),Zd a.x 63,Zd a.y 63,Zg (Zb a.half),Zd a.t 63,Ch.s 16 (Zf QB a.links)]=[Zg (Zc a_11.name),Zd a_11.x 63,Zd a_11.y 63,Zg (Zb a_11.half),Zd a_11.t 63,Ch.s 16 (Zf QB a_11.links)]/\lR 63 qs_1=lR 63 p/\lR 63 qs=lR 63 q/\shN 127 (Y6 l)=shN m ws/\(QO a_11/\(1<=Za.wrap (1+n%3)/\Za.wrap (1+n%3)<=12)/\((∀(i:Nat) (L:Qi) (q:Rat),a_11.links[i]?=some L->p[i]?=some q->L.lo<=q/\q<=L.hi)/\p.length=a_11.links.length)/\((∀(i:Nat) (L:Qi) (q_1:Rat),a_11.links[i]?=some L->q[i]?=some q_1->L.lo<=q_1/\q_1<=L.hi)/\q.length=a_11.links.length)/\m<=400000000/\(∀(w:List (Rat×Rat)),w∈ws->Qb w)/\ws.length<=20)/\(∀(out:List (List Int)) (w:List (List Rat)),FdY a_11 ws (Za.wrap (1+n%3)) p q out->FdW a_11 (Za.wrap (1+n%3)) p q out w->K (AV.x false [Zg (Zb false)]))/\((UK a_11 ws (Za.wrap (1+n%3)) p=true->QM2 a_11 ws (Za.wrap (1+n%3)) q=true->∀(D:Nat),¬Dst (EdS a_11 ws (Za.wrap (1+n%3))) (Qp a_11 (Za.wrap (1+n%3)) q) D (Qp a_11 (Za.wrap (1+n%3)) p))->K (AV.x false [Zg (Zb true)])))):=by kernel_rfl
theorem QVg:Dst (EdS (Xc [3,2]) [] 1) [1,1] 2 [0,0]:=by
 have go: ∀p q,goV (Xc [3,2]) [] 2 p q=true:=fun _ _=>QM3;have fr: ∀u v,frV (Xc [3,2]) [] 1 u v=true:=fun _ _=>go _ _;refine⟨.step (.step .zero (v:=[0,1]) ⟨⟨rfl,by decide⟩,⟨0,1,0,rfl,.inl rfl,by decide,rfl⟩,fr _ _⟩) ⟨⟨rfl,by decide⟩,⟨1,1,0,rfl,.inl rfl,by decide,rfl⟩,fr _ _⟩,fun k hk hr=> ?_⟩;match k,hk with
 | 0,_=>cases hr
 | 1,_=>
  cases hr with
  | step h e=>
   cases h
   obtain⟨i,v,w,hv,_,_,he⟩:=e.2.1;match i with
   | 0=>simp at he
   | 1=>simp at he
   | i+2=>simp at hv
theorem QFe:Qp (Xc [3,2]) 1 [mkRat (-2) 1,mkRat (-2) 1]=[0,0]/\Qp (Xc [3,2]) 1 [mkRat 2 1,mkRat 2 1]=[1,1]:=by decide+kernel
theorem QKH:(∀L∈(Xc [3,2]).links,L.lo<=mkRat (-2) 1/\mkRat (-2) 1<=L.hi)/\(∀L∈(Xc [3,2]).links,L.lo<=mkRat 2 1/\mkRat 2 1<=L.hi):=by
 simp only[Xc,List.map_cons,List.map_nil,List.mem_cons,List.not_mem_nil,or_false,forall_eq_or_imp,forall_eq,Vp];decide+kernel
theorem QOC {a:QN}{x:Rat}(h: ∀L∈a.links,L.lo<=x/\x<=L.hi):Fit a [x,x]:=fun i L q hL hq=>by
 have:q=x:=by simpa using List.mem_of_getElem? hq
 subst this;exact h L (List.mem_of_getElem? hL)
theorem Qeq (K:AV->Prop)(hK:K (.x false [.v (.bool true)])):QR (QFd K):=by
 refine⟨?_⟩;rw[QH3];simp only[Int.ofNat_eq_natCast,R0,R1,Nat.zero_add,Nat.le_refl,R4,R2,R3];have hg:QO (Xc [3,2]):=QJW ⟨by decide,by decide⟩ (by decide);have hd:=QVg;rw[<-QFe.1,<-QFe.2]at hd;refine⟨⟨⟨by omega,by omega⟩,by omega,by omega⟩,⟨⟨by omega,by omega⟩,by omega,by omega⟩,[3,2],rfl,⟨by decide,by decide⟩,Xc [3,2],[mkRat (-2) 1,mkRat (-2) 1],[mkRat 2 1,mkRat 2 1],rfl,rfl,rfl,⟨hg,by omega,⟨QOC QKH.1,rfl⟩,⟨QOC QKH.2,rfl⟩,by omega,fun w hw=>(List.not_mem_nil hw).elim,by omega⟩,fun out w h1 h2=> ?_,fun hN=>(hN QM3 QM3 _ hd).elim⟩
 have e:=h1.dst.uniq hd;have hl:=h1.len;have e2:((wN 63 w).length:Int)=5:=by
  rw[show(wN 63 w).length=w.length by simp[wN],h2.e];simp;omega
 rw[e2];exact hK
theorem Qer (n:Nat)(w:List (List Rat)):(wN n w).length=w.length:=by simp[wN]
theorem QOD {a:QN}{s:Int}{p q:List Rat}{out:List (List Int)}{w:List (List Rat)}(h:FdW a s p q out w):(wN 63 w).length=out.length+2:=by
 rw[Qer,h.e];simp
theorem QZu (l m k w:List Int)(n:Int)(hl:l.length<=9223372036854775807)(hm:m.length<=9223372036854775807)(hk:k.length<=9223372036854775807)(hw:w.length<=9223372036854775807)(K:AV->Prop)(hK:K (.x false [.v (.bool true)])):QR (QDQ l m k w n K):=by
 refine⟨?_⟩;rw[QEH];simp only[Int.ofNat_eq_natCast,R0,R1,Nat.zero_add,Nat.le_refl,R4,R2,R3];have hs:1<=Za.wrap (1+n % 3)/\Za.wrap (1+n % 3)<=12:=by rw[w64 (by omega)];omega
 obtain⟨wl,wo⟩:=QQK w;refine⟨l,rfl,hl,fun a ha han=>⟨a,m,rfl,rfl,⟨ha,hm⟩,fun p hp hpl=>⟨a,k,rfl,rfl,⟨ha,hk⟩,fun q hq hql=>⟨⟨by omega,by omega⟩,w,rfl,hw,a,p,q,127,Y6 w,rfl,rfl,rfl,rfl,⟨ha,hs,⟨hp,hpl⟩,⟨hq,hql⟩,by omega,wo,by omega⟩,fun out w1 h1 h2=>⟨w,rfl,hw,a,q,p,127,Y6 w,rfl,rfl,rfl,rfl,⟨ha,hs,⟨hq,hql⟩,⟨hp,hpl⟩,by omega,wo,by omega⟩,fun out' w2 h1' h2'=> ?_,fun hN=>(QFZ h1 hN).elim⟩,fun hN=>⟨w,rfl,hw,a,q,p,127,Y6 w,rfl,rfl,rfl,rfl,⟨ha,hs,⟨hq,hql⟩,⟨hp,hpl⟩,by omega,wo,by omega⟩,fun out w1 h1 h2=>(QFZ h1 hN).elim,fun _=>hK⟩⟩⟩⟩⟩;have e:=QQd h1 h1';refine QF (fun _=>hK) (fun h=> ?_)
 rw[QOD h2,QOD h2',e]at h;simp at h
end Go.Proofs
namespace Go.Proofs
open Go Go.Eng
theorem QVh {H:HP}{a:QN}{m:Nat}{ws:List (List (Rat×Rat))}{s:Int}{k d:Nat}{f:Int->Option Int}{out:List (List Int)}(hk:H k=some (seB a m ws s (.m (k+5000))))(hm:H (k+5000)=some (.mp f))(hd:H d=none):
  XN [(1000,k),(6000,k+5000),(500,d)] (QT [(500,Wk out),(1000,seB a m ws s (.m 6000)),(6000,.mp f)]) H=upd H d (some (Wk out)):=by
 have e:lkA [(1000,k),(6000,k+5000),(500,d)] 6000=some (k+5000):=rfl;have r:JK (lkA [(1000,k),(6000,k+5000),(500,d)]) (seB a m ws s (.m 6000))=some (seB a m ws s (.m (k+5000))):=by
  simp only[JK,seB,UJ,XW,List.cons_append,List.nil_append,XK,e]
 have dk:d≠k:=fun h=>by subst h;rw[hk]at hd;cases hd
 have dm:d≠k+5000:=fun h=>by subst h;rw[hm]at hd;cases hd
 funext i;unfold XN;simp only[lkB];cases h:i.beq k with
 | true=>
  have:=Ze h;subst this;rw[Qd _ _ (fun h=>dk h.symm),hk];show some (rdB _ (seB a m ws s (.m 6000)))=_
  simp only[rdB,r,Option.getD_some]
 | false=>
  simp only[R8];cases h2:i.beq (k+5000)with
  | true=>
   have:=Ze h2;subst this;rw[Qd _ _ (fun h=>dm h.symm),hm];rfl
  | false=>
   simp only[R8];cases h3:i.beq d with
   | true=>
    have:=Ze h3;subst this;rw[QW];show some (rdB _ (Wk out))=_
    have rr:JK (lkA [(1000,k),(6000,k+5000),(500,i)]) (Wk out)=some (Wk out):=rfl;simp only[rdB,rr,Option.getD_some]
   | false=>
    have:i≠d:=fun e=>by subst e;simp at h3
    rw[Qd _ _ this];rfl
theorem QQg:XP Tryz.prog QH QG 110 QDN:=by
 refine⟨QK Tryz.func110 (by kernel_rfl),fun l H d T hT K hK=> ?_⟩;unfold QDN at hT;split at hT
 ·rename_i k o xs;split at hT
  ·split at hT
   ·rename_i t cs f e1 e2 e3;cases hb:t.beq 166 with
    | false=>rw[hb]at hT;cases hT
    | true=>
     rw[hb]at hT;have ht:=Ze hb;subst ht;simp only[R7]at hT;split at hT
     ·rename_i j _;cases hj:j.beq (k+5000)with
      | false=>rw[hj]at hT;cases hT
      | true=>
       rw[hj]at hT;simp only[R7]at hT;cases hT
       obtain⟨a,m,ws,s,g,fr,D,rfl,rfl,⟨hg,hs,hgo,hfo,hm,hw,hF,hD⟩,hK⟩:=hK;refine WB (R:=[(1000,k),(6000,k+5000)]) (N:=[(500,d)]) (Hl:=[(1000,seB a m ws s (.m 6000)),(6000,.mp f)]) QZh QP Tryz.func110 (by kernel_rfl) (by kernel_rfl) (by rfl)
        (as0:=[.x false [.p 1000 0],.x false [.s 1 (ints fr)]]) ?_ (QDJ e1 e2) rfl (by simp) (by simp) (fun p hp=>by simp at hp;subst hp;exact e3) (fun x=>⟨fun p hp=> ?_,fun p hp b hb=> ?_⟩) (Qeo ⟨hg,hs,hgo,hfo,hm,hw,hF,hD⟩) (fun out ho=>⟨_,rfl,?_⟩)
       ·simp[Xl,Xk,XK,lkB]
       ·simp at hp;rcases hp with rfl | rfl
        ·exact fun h=>by have h':some (seB a m ws s (.m 6000))=none:=h;cases h'
        ·exact fun h=>by have h':some (Blk.mp f)=none:=h;cases h'
       ·simp at hp;rcases hp with rfl | rfl | rfl
        ·have h':some (seB a m ws s (.m 6000))=some b:=hb;cases h'
         have e:lkA [(1000,k),(6000,k+5000),(500,d)] 6000=some (k+5000):=rfl;exact⟨seB a m ws s (.m (k+5000)),by show JK (lkA [(1000,k),(6000,k+5000),(500,d)]) _=_;simp only[JK,seB,UJ,XW,List.cons_append,List.nil_append,XK,e]⟩
        ·have h':some (Blk.mp f)=some b:=hb;cases h';exact⟨_,rfl⟩
        ·have h':some (Wk x)=some b:=hb;cases h';exact⟨_,rfl⟩
       ·show K _ (XN [(1000,k),(6000,k+5000),(500,d)] (QT [(500,Wk out),(1000,seB a m ws s (.m 6000)),(6000,.mp f)]) H)
        rw[QVh e1 e2 e3];exact hK out ho.1 ho.2
     ·cases hT
   ·cases hT
  ·cases hT
 ·cases hT
theorem QM7:CtrMsOK Tryz.prog QH QG QZm:= .cons QQc (.cons QQg GH)
theorem QVi:CtrsOK Tryz.prog QH QG Qel:= .cons QM5 QDD
theorem QVj:QM Tryz.prog QH QG Qhi:=VN QVi QM7 Qk
theorem Qhq {w:World}{O:Nat->Prop}{ρ:Env}{n:Nat}{v:Value}(h:ConcV w O ρ (.x false [.v (.slice none 0 0)]) v):ConcV w O ρ (.x false [.s n []]) v:=by
 obtain⟨vals,h1,h2⟩:=h;cases h1 with | v _ h1=>exact⟨_,.s0 h1,h2⟩
theorem QVk:CtrOK Tryz.prog QH QG 52 QH2:=by
 refine⟨QK Tryz.func52 (by kernel_rfl),fun l T hT K hK=> ?_⟩;unfold QH2 at hT;split at hT
 ·split at hT
  ·cases hT
   obtain⟨a,p,q,m,ws,rfl,rfl,rfl,rfl,⟨hg,hs,hp,hq,hm,hw⟩,hY,hN⟩:=hK;exact QJ QVj QP Tryz.func52 (by kernel_rfl) (by kernel_rfl) (by rfl) (QVc a m ws _ p q hg hs hp hq hm hw K (fun out h=>hY out _ h ⟨rfl⟩) hN)
  ·cases hT
   obtain⟨a,p,q,rfl,rfl,rfl,⟨hg,hs,hp,hq,hm,hw⟩,hY,hN⟩:=hK;refine Eng.Spec.args (QJ QVj QP Tryz.func52 (by kernel_rfl) (by kernel_rfl) (by rfl) (QVc a 0 [] _ p q hg hs hp hq hm hw K (fun out h=>hY out _ h ⟨rfl⟩) hN)) fun w O vals hv=> ?_
   cases hv with | cons h1 hv=>cases hv with | cons h2 hv=>cases hv with | cons h3 hv=>cases hv with | cons h4 hv=>exact .cons h1 (.cons h2 (.cons h3 (.cons (Qhq h4) hv)))
  ·cases hT
 ·cases hT
theorem QVl:CtrsOK Tryz.prog QH QG Qep:= .cons QVk (.cons QZl QVi)
theorem Qes:QM Tryz.prog QH QG Qhn:=VN QVl QM7 Qk
theorem QZv:CtrOK Tryz.prog QH QG 49 QM6:=by
 refine⟨QK Tryz.func49 (by kernel_rfl),fun l T hT K hK=> ?_⟩;unfold QM6 at hT;split at hT
 ·cases hT
  exact QJ Qes QP Tryz.func49 (by kernel_rfl) (by kernel_rfl) (by rfl) (Qeq K hK)
 ·cases hT
theorem Qet:CtrsOK Tryz.prog QH QG Qho:= .cons QZv QVl
theorem Qeu:QM Tryz.prog QH QG Qhp:=VN Qet QM7 Qk
theorem QM8 (l m k w:List Int)(n:Int)(hl:l.length<=9223372036854775807)(hm:m.length<=9223372036854775807)(hk:k.length<=9223372036854775807)(hw:w.length<=9223372036854775807):Eng.Spec Tryz.prog QH QG 8 [.x false [.s 1 (ints l)],.x false [.s 1 (ints m)],.x false [.s 1 (ints k)],.x false [.s 1 (ints w)],iA .i64 n] (fun av=>av= .x false [.v (.bool true)]):=
 QJ Qeu QP Tryz.func8 (by kernel_rfl) (by kernel_rfl) (by rfl) (QZu l m k w n hl hm hk hw _ rfl)
end Go.Proofs
