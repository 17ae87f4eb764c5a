/- path: Find's contract; the fact; PathBack, PathFewer. -/
import Derived.Test.YtnbkdgmgbaangaaGreatDoorPH4
open Go.IntKind renaming i64 → Za
open Go.Value renaming bool → Zb, string → Zc
open Int renaming ofNat → Zd
open Go.Eng.Ch renaming r → Ze, v → Zg, s → Zj
open List renaming map → Zf, not_mem_nil → Zi
open Nat renaming eq_of_beq_eq_true → Zh
namespace Go.Proofs
open Go Go.Eng
structure FdW (a:QN)(s:Int)(p q:List Rat)(out:List (List Int))(w:List (List Rat)):Prop where
 e:w=p::out.map (XN a s)++[q]
def Qa9 (a:QN)(ws:List (List (Rat×Rat)))(s:Int)(p q:List Rat)(m:Nat):Prop:=QO a/\(1<=s/\s<=12)/\(Fit a p/\p.length=a.links.length)/\(Fit a q/\q.length=a.links.length)/\m<=400000000/\(∀w∈ws,QZ w)/\ws.length<=20
def QH6:Ctr:=fun as0=>match as0 with
 | [.x true xs,.x false [.s 3 ys],.x false [.s 3 zs],.x false [c],.x false [.v (.int .i64 s)]]=>match c with
  | .s 1 us=>some fun K=> ∃(a:QN) (p q:List Rat) (m:Nat) (ws:List (List (Rat×Rat))),xs=XX a/\ys=lR 63 p/\zs=lR 63 q/\us=shN m ws/\Qa9 a ws s p q m/\(∀out w,FdY a ws s p q out->FdW a s p q out w->K (.t [(false,[.s 1 (wN 63 w)]),(false,[.v (.int .i64 0)])]))/\(FdN a ws s p q->K (.t [(false,[.v (.slice none 0 0)]),(false,[.v (.int .i64 4)])]))
  | .v (.slice none 0 0)=>some fun K=> ∃(a:QN) (p q:List Rat),xs=XX a/\ys=lR 63 p/\zs=lR 63 q/\Qa9 a [] s p q 0/\(∀out w,FdY a [] s p q out->FdW a s p q out w->K (.t [(false,[.s 1 (wN 63 w)]),(false,[.v (.int .i64 0)])]))/\(FdN a [] s p q->K (.t [(false,[.v (.slice none 0 0)]),(false,[.v (.int .i64 4)])]))
  | _=>none
 | _=>none
def QM4:Ctr:=fun as0=>match as0 with
 | []=>some fun K=>K (.x false [.v (.bool true)])
 | _=>none
def Qeo:List (Nat×Ctr):=(52,QH6)::(50,QH1)::Qek
noncomputable def Qhm:QU:=mkTP Qeo QZm X4
def Qhn:List (Nat×Ctr):=(49,QM4)::Qeo
noncomputable def Qho:QU:=mkTP Qhn QZm X4
def QZt:OT:=fun id=>bif id.beq 2 then([0,2,3,4,5,6,7,1,8,9,10,11,12,13],[[],[0],[],[],[2,3],[],[],[5,6],[1,0,4,2,3,7,5,6],[8,1,0,4,2,3,7,5,6],[9,8,1,0,4,2,3,7,5,6],[9,8,1,0,4,2,3,7,5,6],[10,9,8,1,0,4,2,3,7,5,6],[11,9,8,1,0,4,2,3,7,5,6,12,10]])else([],[])
def QFi (K:AV->Prop):Prop:=QX Qhm QZt noL Tryz.f49 [] K
theorem QH7 (K:AV->Prop):QFi K=((((-9223372036854775808:Int)<2/\(2:Int)<9223372036854775808)/\(0:Int)<1/\(1:Int)<9223372036854775808)/\(((-9223372036854775808:Int)< -2/\(-2:Int)<9223372036854775808)/\(0:Int)<1/\(1:Int)<9223372036854775808)/\∃(ns:List Int),[[Zg (Value.int Za 3)],[Zg (Value.int Za 2)]]=ints ns/\(ns.length<=3/\∀(n:Int),n∈ns->1<=n/\n<=1000)/\∃(a:QN)(p:List Rat)(q:List Rat),[Zg (Zc (Xd ns).name),Ze (Xd ns).x 63,Ze (Xd ns).y 63,Zg (Zb false),Ze (Xd ns).t 63,Zj 16 (Zf QB (Xd ns).links)]=[Zg (Zc a.name),Ze a.x 63,Ze a.y 63,Zg (Zb a.half),Ze a.t 63,Zj 16 (Zf QB a.links)]/\[[Ze (mkRat (-2) 1) 63],[Ze (mkRat (-2) 1) 63]]=lR 63 p/\[[Ze (mkRat 2 1) 63],[Ze (mkRat 2 1) 63]]=lR 63 q/\(QO a/\((1:Int)<=1/\(1:Int)<=12)/\((∀(i:Nat) (L:Qg) (q:Rat),a.links[i]?=some L->p[i]?=some q->L.lo<=q/\q<=L.hi)/\p.length=a.links.length)/\((∀(i:Nat) (L:Qg) (q_1:Rat),a.links[i]?=some L->q[i]?=some q_1->L.lo<=q_1/\q_1<=L.hi)/\q.length=a.links.length)/\0<=400000000/\(∀(w:List (Rat×Rat)),w∈[]->QZ w)/\0<=20)/\(∀(out:List (List Int)) (w:List (List Rat)),FdY a [] 1 p q out->FdW a 1 p q out w->K (AV.x false [Zg (Zb (Zd (wN 63 w).length==5))]))/\((Wx a [] 1 p=true->QEO a [] 1 q=true->∀(D:Nat),¬Dst (EdS a [] 1) (Qk a 1 q) D (Qk a 1 p))->K (AV.x false [Zg (Zb false)]))):=by kernel_rfl
def QQZ:OT:=fun id=>bif id.beq 4 then([0,1,3,4,2,5,6,7],[[],[],[0,1],[],[],[3,4,2,0,1],[2,0,1,5,3,4],[5,3,4,2,0,1,6]])else bif id.beq 8 then([0,1,2,3,4,5,6,7,10,8,9,11,12,13,14,15,16],[[],[],[],[],[],[],[5],[6,5],[4,7,6,5],[3,8,4,7,6,5],[],[0,1,2,9,3,8,4,7,6,5,10],[11,0,1,2,9,3,8,4,7,6,5,10],[12,11,0,1,2,9,3,8,4,7,6,5,10],[12,11,0,1,2,9,3,8,4,7,6,5,10],[13,12,11,0,1,2,9,3,8,4,7,6,5,10],[14,12,11,0,1,2,9,3,8,4,7,6,5,10,15,13]])else([],[])
def QAB (l m k w:List Int)(n x:Int)(K:AV->Prop):Prop:=QX Qho QQZ noL Tryz.f9 [.x false [.s 1 (ints l)],.x false [.s 1 (ints m)],.x false [.s 1 (ints k)],.x false [.s 1 (ints w)],iA .i64 n,iA .i64 x] K
theorem QDX (l:List Int)(m:List Int)(k:List Int)(w:List Int)(n:Int)(x:Int)(K:AV->Prop):QAB l m k w n x K=(∃(l_1:List Int),ints l=ints l_1/\l_1.length<=9223372036854775807/\∀(a:QN),QO a->a.links.length<=2->∃(a_3:QN)(l:List Int),[Zg (Zc a.name),Ze a.x 63,Ze a.y 63,Zg (Zb a.half),Ze a.t 63,Zj 16 (Zf QB a.links)]=[Zg (Zc a_3.name),Ze a_3.x 63,Ze a_3.y 63,Zg (Zb a_3.half),Ze a_3.t 63,Zj 16 (Zf QB a_3.links)]/\ints m=ints l/\(QO a_3/\l.length<=9223372036854775807)/\∀(qs:List Rat),(∀(i:Nat) (L:Qg) (q:Rat),a_3.links[i]?=some L->qs[i]?=some q->L.lo<=q/\q<=L.hi)->qs.length=a_3.links.length->∃(a_6:QN)(l:List Int),[Zg (Zc a.name),Ze a.x 63,Ze a.y 63,Zg (Zb a.half),Ze a.t 63,Zj 16 (Zf QB a.links)]=[Zg (Zc a_6.name),Ze a_6.x 63,Ze a_6.y 63,Zg (Zb a_6.half),Ze a_6.t 63,Zj 16 (Zf QB a_6.links)]/\ints k=ints l/\(QO a_6/\l.length<=9223372036854775807)/\∀(qs_1:List Rat),(∀(i:Nat) (L:Qg) (q:Rat),a_6.links[i]?=some L->qs_1[i]?=some q->L.lo<=q/\q<=L.hi)->qs_1.length=a_6.links.length->((0:Int)<3/\(3:Int)<9223372036854775808)/\∃(l:List Int),ints w=ints l/\l.length<=9223372036854775807/\∃(a_9:QN)(p:List Rat)(q:List Rat)(m:Nat)(ws:List (List (Rat×Rat))),[Zg (Zc a.name),Ze a.x 63,Ze a.y 63,Zg (Zb a.half),Ze a.t 63,Zj 16 (Zf QB a.links)]=[Zg (Zc a_9.name),Ze a_9.x 63,Ze a_9.y 63,Zg (Zb a_9.half),Ze a_9.t 63,Zj 16 (Zf QB a_9.links)]/\lR 63 qs=lR 63 p/\lR 63 qs_1=lR 63 q/\shN 127 (Qy l)=shN m ws/\(QO a_9/\(1<=Za.wrap (1+n%3)/\Za.wrap (1+n%3)<=12)/\((∀(i:Nat) (L:Qg) (q:Rat),a_9.links[i]?=some L->p[i]?=some q->L.lo<=q/\q<=L.hi)/\p.length=a_9.links.length)/\((∀(i:Nat) (L:Qg) (q_1:Rat),a_9.links[i]?=some L->q[i]?=some q_1->L.lo<=q_1/\q_1<=L.hi)/\q.length=a_9.links.length)/\m<=400000000/\(∀(w:List (Rat×Rat)),w∈ws->QZ w)/\ws.length<=20)/\(∀(out:List (List Int)) (w:List (List Rat)),FdY a_9 ws (Za.wrap (1+n%3)) p q out->FdW a_9 (Za.wrap (1+n%3)) p q out w->(0<Za.wrap (Zd (shN 127 (Qy l)).length+1)/\Za.wrap (Zd (shN 127 (Qy l)).length+1)<9223372036854775808)/\((0:Int)<=0/\0<=x%Za.wrap (Zd (shN 127 (Qy l)).length+1)/\x%Za.wrap (Zd (shN 127 (Qy l)).length+1)<=Zd (shN 127 (Qy l)).length)/\∃(a_12:QN)(p:List Rat)(q:List Rat)(m:Nat)(ws:List (List (Rat×Rat))),[Zg (Zc a.name),Ze a.x 63,Ze a.y 63,Zg (Zb a.half),Ze a.t 63,Zj 16 (Zf QB a.links)]=[Zg (Zc a_12.name),Ze a_12.x 63,Ze a_12.y 63,Zg (Zb a_12.half),Ze a_12.t 63,Zj 16 (Zf QB a_12.links)]/\lR 63 qs=lR 63 p/\lR 63 qs_1=lR 63 q/\List.take ((x%Za.wrap (Zd (shN 127 (Qy l)).length+1)).toNat-0) (List.drop 0 (shN 127 (Qy l)))=shN m ws/\(QO a_12/\(1<=Za.wrap (1+n%3)/\Za.wrap (1+n%3)<=12)/\((∀(i:Nat) (L:Qg) (q:Rat),a_12.links[i]?=some L->p[i]?=some q->L.lo<=q/\q<=L.hi)/\p.length=a_12.links.length)/\((∀(i:Nat) (L:Qg) (q_1:Rat),a_12.links[i]?=some L->q[i]?=some q_1->L.lo<=q_1/\q_1<=L.hi)/\q.length=a_12.links.length)/\m<=400000000/\(∀(w:List (Rat×Rat)),w∈ws->QZ w)/\ws.length<=20)/\(∀(out:List (List Int)) (w_1:List (List Rat)),FdY a_12 ws (Za.wrap (1+n%3)) p q out->FdW a_12 (Za.wrap (1+n%3)) p q out w_1->∃(a_15:QN)(p:List Rat)(q:List Rat),[Zg (Zc a.name),Ze a.x 63,Ze a.y 63,Zg (Zb a.half),Ze a.t 63,Zj 16 (Zf QB a.links)]=[Zg (Zc a_15.name),Ze a_15.x 63,Ze a_15.y 63,Zg (Zb a_15.half),Ze a_15.t 63,Zj 16 (Zf QB a_15.links)]/\lR 63 qs=lR 63 p/\lR 63 qs_1=lR 63 q/\(QO a_15/\(1<=Za.wrap (1+n%3)/\Za.wrap (1+n%3)<=12)/\((∀(i:Nat) (L:Qg) (q:Rat),a_15.links[i]?=some L->p[i]?=some q->L.lo<=q/\q<=L.hi)/\p.length=a_15.links.length)/\((∀(i:Nat) (L:Qg) (q_1:Rat),a_15.links[i]?=some L->q[i]?=some q_1->L.lo<=q_1/\q_1<=L.hi)/\q.length=a_15.links.length)/\0<=400000000/\(∀(w:List (Rat×Rat)),w∈[]->QZ w)/\0<=20)/\(∀(out:List (List Int)) (w_2:List (List Rat)),FdY a_15 [] (Za.wrap (1+n%3)) p q out->FdW a_15 (Za.wrap (1+n%3)) p q out w_2->bif decide (Zd (wN 63 w_1).length<=Zd (wN 63 w).length)then K (AV.x false [Zg (Zb (decide (Zd (wN 63 w_2).length<=Zd (wN 63 w_1).length)))])else K (AV.x false [Zg (Zb false)]))/\((Wx a_15 [] (Za.wrap (1+n%3)) p=true->QEO a_15 [] (Za.wrap (1+n%3)) q=true->∀(D:Nat),¬Dst (EdS a_15 [] (Za.wrap (1+n%3))) (Qk a_15 (Za.wrap (1+n%3)) q) D (Qk a_15 (Za.wrap (1+n%3)) p))->K (AV.x false [Zg (Zb false)])))/\((Wx a_12 ws (Za.wrap (1+n%3)) p=true->QEO a_12 ws (Za.wrap (1+n%3)) q=true->∀(D:Nat),¬Dst (EdS a_12 ws (Za.wrap (1+n%3))) (Qk a_12 (Za.wrap (1+n%3)) q) D (Qk a_12 (Za.wrap (1+n%3)) p))->∃(a_14:QN)(p:List Rat)(q:List Rat),[Zg (Zc a.name),Ze a.x 63,Ze a.y 63,Zg (Zb a.half),Ze a.t 63,Zj 16 (Zf QB a.links)]=[Zg (Zc a_14.name),Ze a_14.x 63,Ze a_14.y 63,Zg (Zb a_14.half),Ze a_14.t 63,Zj 16 (Zf QB a_14.links)]/\lR 63 qs=lR 63 p/\lR 63 qs_1=lR 63 q/\(QO a_14/\(1<=Za.wrap (1+n%3)/\Za.wrap (1+n%3)<=12)/\((∀(i:Nat) (L:Qg) (q:Rat),a_14.links[i]?=some L->p[i]?=some q->L.lo<=q/\q<=L.hi)/\p.length=a_14.links.length)/\((∀(i:Nat) (L:Qg) (q_1:Rat),a_14.links[i]?=some L->q[i]?=some q_1->L.lo<=q_1/\q_1<=L.hi)/\q.length=a_14.links.length)/\0<=400000000/\(∀(w:List (Rat×Rat)),w∈[]->QZ w)/\0<=20)/\(∀(out:List (List Int)) (w:List (List Rat)),FdY a_14 [] (Za.wrap (1+n%3)) p q out->FdW a_14 (Za.wrap (1+n%3)) p q out w->K (AV.x false [Zg (Zb false)]))/\((Wx a_14 [] (Za.wrap (1+n%3)) p=true->QEO a_14 [] (Za.wrap (1+n%3)) q=true->∀(D:Nat),¬Dst (EdS a_14 [] (Za.wrap (1+n%3))) (Qk a_14 (Za.wrap (1+n%3)) q) D (Qk a_14 (Za.wrap (1+n%3)) p))->K (AV.x false [Zg (Zb false)]))))/\((Wx a_9 ws (Za.wrap (1+n%3)) p=true->QEO a_9 ws (Za.wrap (1+n%3)) q=true->∀(D:Nat),¬Dst (EdS a_9 ws (Za.wrap (1+n%3))) (Qk a_9 (Za.wrap (1+n%3)) q) D (Qk a_9 (Za.wrap (1+n%3)) p))->(0<Za.wrap (Zd (shN 127 (Qy l)).length+1)/\Za.wrap (Zd (shN 127 (Qy l)).length+1)<9223372036854775808)/\((0:Int)<=0/\0<=x%Za.wrap (Zd (shN 127 (Qy l)).length+1)/\x%Za.wrap (Zd (shN 127 (Qy l)).length+1)<=Zd (shN 127 (Qy l)).length)/\∃(a_11:QN)(p:List Rat)(q:List Rat)(m:Nat)(ws:List (List (Rat×Rat))),[Zg (Zc a.name),Ze a.x 63,Ze a.y 63,Zg (Zb a.half),Ze a.t 63,Zj 16 (Zf QB a.links)]=[Zg (Zc a_11.name),Ze a_11.x 63,Ze a_11.y 63,Zg (Zb a_11.half),Ze a_11.t 63,Zj 16 (Zf QB a_11.links)]/\lR 63 qs=lR 63 p/\lR 63 qs_1=lR 63 q/\List.take ((x%Za.wrap (Zd (shN 127 (Qy l)).length+1)).toNat-0) (List.drop 0 (shN 127 (Qy l)))=shN m ws/\(QO a_11/\(1<=Za.wrap (1+n%3)/\Za.wrap (1+n%3)<=12)/\((∀(i:Nat) (L:Qg) (q:Rat),a_11.links[i]?=some L->p[i]?=some q->L.lo<=q/\q<=L.hi)/\p.length=a_11.links.length)/\((∀(i:Nat) (L:Qg) (q_1:Rat),a_11.links[i]?=some L->q[i]?=some q_1->L.lo<=q_1/\q_1<=L.hi)/\q.length=a_11.links.length)/\m<=400000000/\(∀(w:List (Rat×Rat)),w∈ws->QZ w)/\ws.length<=20)/\(∀(out:List (List Int)) (w:List (List Rat)),FdY a_11 ws (Za.wrap (1+n%3)) p q out->FdW a_11 (Za.wrap (1+n%3)) p q out w->∃(a_14:QN)(p:List Rat)(q:List Rat),[Zg (Zc a.name),Ze a.x 63,Ze a.y 63,Zg (Zb a.half),Ze a.t 63,Zj 16 (Zf QB a.links)]=[Zg (Zc a_14.name),Ze a_14.x 63,Ze a_14.y 63,Zg (Zb a_14.half),Ze a_14.t 63,Zj 16 (Zf QB a_14.links)]/\lR 63 qs=lR 63 p/\lR 63 qs_1=lR 63 q/\(QO a_14/\(1<=Za.wrap (1+n%3)/\Za.wrap (1+n%3)<=12)/\((∀(i:Nat) (L:Qg) (q:Rat),a_14.links[i]?=some L->p[i]?=some q->L.lo<=q/\q<=L.hi)/\p.length=a_14.links.length)/\((∀(i:Nat) (L:Qg) (q_1:Rat),a_14.links[i]?=some L->q[i]?=some q_1->L.lo<=q_1/\q_1<=L.hi)/\q.length=a_14.links.length)/\0<=400000000/\(∀(w:List (Rat×Rat)),w∈[]->QZ w)/\0<=20)/\(∀(out:List (List Int)) (w_1:List (List Rat)),FdY a_14 [] (Za.wrap (1+n%3)) p q out->FdW a_14 (Za.wrap (1+n%3)) p q out w_1->K (AV.x false [Zg (Zb (decide (Zd (wN 63 w_1).length<=Zd (wN 63 w).length)))]))/\((Wx a_14 [] (Za.wrap (1+n%3)) p=true->QEO a_14 [] (Za.wrap (1+n%3)) q=true->∀(D:Nat),¬Dst (EdS a_14 [] (Za.wrap (1+n%3))) (Qk a_14 (Za.wrap (1+n%3)) q) D (Qk a_14 (Za.wrap (1+n%3)) p))->K (AV.x false [Zg (Zb false)])))/\((Wx a_11 ws (Za.wrap (1+n%3)) p=true->QEO a_11 ws (Za.wrap (1+n%3)) q=true->∀(D:Nat),¬Dst (EdS a_11 ws (Za.wrap (1+n%3))) (Qk a_11 (Za.wrap (1+n%3)) q) D (Qk a_11 (Za.wrap (1+n%3)) p))->∃(a_13:QN)(p:List Rat)(q:List Rat),[Zg (Zc a.name),Ze a.x 63,Ze a.y 63,Zg (Zb a.half),Ze a.t 63,Zj 16 (Zf QB a.links)]=[Zg (Zc a_13.name),Ze a_13.x 63,Ze a_13.y 63,Zg (Zb a_13.half),Ze a_13.t 63,Zj 16 (Zf QB a_13.links)]/\lR 63 qs=lR 63 p/\lR 63 qs_1=lR 63 q/\(QO a_13/\(1<=Za.wrap (1+n%3)/\Za.wrap (1+n%3)<=12)/\((∀(i:Nat) (L:Qg) (q:Rat),a_13.links[i]?=some L->p[i]?=some q->L.lo<=q/\q<=L.hi)/\p.length=a_13.links.length)/\((∀(i:Nat) (L:Qg) (q_1:Rat),a_13.links[i]?=some L->q[i]?=some q_1->L.lo<=q_1/\q_1<=L.hi)/\q.length=a_13.links.length)/\0<=400000000/\(∀(w:List (Rat×Rat)),w∈[]->QZ w)/\0<=20)/\(∀(out:List (List Int)) (w:List (List Rat)),FdY a_13 [] (Za.wrap (1+n%3)) p q out->FdW a_13 (Za.wrap (1+n%3)) p q out w->K (AV.x false [Zg (Zb true)]))/\((Wx a_13 [] (Za.wrap (1+n%3)) p=true->QEO a_13 [] (Za.wrap (1+n%3)) q=true->∀(D:Nat),¬Dst (EdS a_13 [] (Za.wrap (1+n%3))) (Qk a_13 (Za.wrap (1+n%3)) q) D (Qk a_13 (Za.wrap (1+n%3)) p))->K (AV.x false [Zg (Zb false)]))))):=by kernel_rfl
theorem QVb:Dst (EdS (Xd [3,2]) [] 1) [1,1] 2 [0,0]:=by
 have go: ∀p q,goV (Xd [3,2]) [] 2 p q=true:=fun _ _=>GM;have fr: ∀u v,frV (Xd [3,2]) [] 1 u v=true:=fun _ _=>go _ _;refine⟨.step (.step .zero (v:=[0,1]) ⟨⟨rfl,by decide⟩,⟨0,1,0,rfl,.inl rfl,by decide,rfl⟩,fr _ _⟩) ⟨⟨rfl,by decide⟩,⟨1,1,0,rfl,.inl rfl,by decide,rfl⟩,fr _ _⟩,fun k hk hr=> ?_⟩;match k,hk with
 | 0,_=>cases hr
 | 1,_=>
  cases hr with
  | step h e=>
   cases h
   obtain⟨i,v,w,hv,_,_,he⟩:=e.2.1;match i with
   | 0=>simp at he
   | 1=>simp at he
   | i+2=>simp at hv
theorem QFj:Qk (Xd [3,2]) 1 [mkRat (-2) 1,mkRat (-2) 1]=[0,0]/\Qk (Xd [3,2]) 1 [mkRat 2 1,mkRat 2 1]=[1,1]:=by decide+kernel
theorem QKI:(∀L∈(Xd [3,2]).links,L.lo<=mkRat (-2) 1/\mkRat (-2) 1<=L.hi)/\(∀L∈(Xd [3,2]).links,L.lo<=mkRat 2 1/\mkRat 2 1<=L.hi):=by
 simp only[Xd,List.map_cons,List.map_nil,List.mem_cons,Zi,or_false,forall_eq_or_imp,forall_eq,Vr];decide+kernel
theorem QN7 {a:QN}{x:Rat}(h: ∀L∈a.links,L.lo<=x/\x<=L.hi):Fit a [x,x]:=fun i L q hL hq=>by
 have:q=x:=by simpa using List.mem_of_getElem? hq
 subst this;exact h L (List.mem_of_getElem? hL)
theorem Qep (K:AV->Prop)(hK:K (.x false [.v (.bool true)])):QR (QFi K):=by
 refine⟨?_⟩;rw[QH7];simp only[Int.ofNat_eq_natCast,R0,R1,Nat.zero_add,Nat.le_refl,R4,R2,R3];have hg:QO (Xd [3,2]):=QJa ⟨by decide,by decide⟩ (by decide);have hd:=QVb;rw[<-QFj.1,<-QFj.2]at hd;refine⟨⟨⟨by omega,by omega⟩,by omega,by omega⟩,⟨⟨by omega,by omega⟩,by omega,by omega⟩,[3,2],rfl,⟨by decide,by decide⟩,Xd [3,2],[mkRat (-2) 1,mkRat (-2) 1],[mkRat 2 1,mkRat 2 1],rfl,rfl,rfl,⟨hg,by omega,⟨QN7 QKI.1,rfl⟩,⟨QN7 QKI.2,rfl⟩,by omega,fun w hw=>(Zi hw).elim,by omega⟩,fun out w h1 h2=> ?_,fun hN=>(hN GM GM _ hd).elim⟩
 have e:=h1.dst.uniq hd;have hl:=h1.len;have e2:((wN 63 w).length:Int)=5:=by
  rw[show(wN 63 w).length=w.length by simp[wN],h2.e];simp;omega
 rw[e2];exact hK
theorem Qeq (n:Nat)(w:List (List Rat)):(wN n w).length=w.length:=by simp[wN]
theorem HF {a:QN}{s:Int}{p q:List Rat}{out:List (List Int)}{w:List (List Rat)}(h:FdW a s p q out w):(wN 63 w).length=out.length+2:=by
 rw[Qeq,h.e];simp
theorem QVc (l m k w:List Int)(n x:Int)(hl:l.length<=9223372036854775807)(hm:m.length<=9223372036854775807)(hk:k.length<=9223372036854775807)(hw:w.length<=9223372036854775807)(K:AV->Prop)(hK:K (.x false [.v (.bool true)])):QR (QAB l m k w n x K):=by
 refine⟨?_⟩;rw[QDX];simp only[Int.ofNat_eq_natCast,R0,R1,Nat.zero_add,Nat.le_refl,R4,R2,R3];have hs:1<=Za.wrap (1+n % 3)/\Za.wrap (1+n % 3)<=12:=by rw[w64 (by omega)];omega
 obtain⟨wl,wo⟩:=QQD w;have hsl:(shN 127 (Qy w)).length=(Qy w).length:=by simp[shN]
 have hx:Za.wrap ((shN 127 (Qy w)).length+1)=(Qy w).length+1:=by rw[w64 (by omega)];omega
 have hxr:0<=x % ((Qy w).length+1)/\x % ((Qy w).length+1)<=(Qy w).length:=by
  have h1:=Int.emod_nonneg x (b:=((Qy w).length:Int)+1) (by omega);have h2:=Int.emod_lt_of_pos x (b:=((Qy w).length:Int)+1) (by omega);omega
 obtain⟨i,hi⟩: ∃i:Nat,x % (((Qy w).length:Int)+1)=i:=⟨_,(Int.toNat_of_nonneg hxr.1).symm⟩;have hte: ∀d:Nat,List.take (i-0) (List.drop 0 (shN 127 (Qy w)))=shN 127 ((Qy w).take i):=fun _=>by
  rw[Nat.sub_zero,List.drop_zero];simp[shN,List.map_take]
 have hti:((Qy w).take i).length<=20:=by rw[List.length_take];omega
 have hto: ∀v∈(Qy w).take i,QZ v:=fun v hv=>wo v (List.mem_of_mem_take hv);refine⟨l,rfl,hl,fun a ha han=>⟨a,m,rfl,rfl,⟨ha,hm⟩,fun p hp hpl=>⟨a,k,rfl,rfl,⟨ha,hk⟩,fun q hq hql=> ?_⟩⟩⟩;refine⟨⟨by omega,by omega⟩,w,rfl,hw,a,p,q,127,Qy w,rfl,rfl,rfl,rfl,⟨ha,hs,⟨hp,hpl⟩,⟨hq,hql⟩,by omega,wo,by omega⟩,fun out w1 h1 h2=> ?_,fun hN=> ?_⟩
 ·rw[hsl]at*;rw[hx,hi];refine⟨⟨by omega,by omega⟩,⟨by omega,by omega,by omega⟩,a,p,q,127,(Qy w).take i,rfl,rfl,rfl,by rw[Int.toNat_natCast];exact hte 0,⟨ha,hs,⟨hp,hpl⟩,⟨hq,hql⟩,by omega,hto,hti⟩,fun out' w2 h1' h2'=>⟨a,p,q,rfl,rfl,rfl,⟨ha,hs,⟨hp,hpl⟩,⟨hq,hql⟩,by omega,fun v hv=>(Zi hv).elim,by omega⟩,fun o3 w3 h3 h3'=> ?_,fun hN=>(J1 0 h1' hN).elim⟩,fun hN=>(J1 i h1 hN).elim⟩;have e1:=UM i h1 h1';have e2:=UM 0 h1' h3;rw[HF h2,HF h2',HF h3'];refine QF (fun _=> ?_) (fun h=> ?_)
  ·rw[decide_eq_true (by omega)];exact hK
  ·have:=R6 h;omega
 ·rw[hsl]at*;rw[hx,hi];refine⟨⟨by omega,by omega⟩,⟨by omega,by omega,by omega⟩,a,p,q,127,(Qy w).take i,rfl,rfl,rfl,by rw[Int.toNat_natCast];exact hte 0,⟨ha,hs,⟨hp,hpl⟩,⟨hq,hql⟩,by omega,hto,hti⟩,fun out' w2 h1' h2'=>⟨a,p,q,rfl,rfl,rfl,⟨ha,hs,⟨hp,hpl⟩,⟨hq,hql⟩,by omega,fun v hv=>(Zi hv).elim,by omega⟩,fun o3 w3 h3 h3'=> ?_,fun hN=>(J1 0 h1' hN).elim⟩,fun hN=>⟨a,p,q,rfl,rfl,rfl,⟨ha,hs,⟨hp,hpl⟩,⟨hq,hql⟩,by omega,fun v hv=>(Zi hv).elim,by omega⟩,fun _ _ _ _=>hK,fun hN=>(QQW ha hs.1 hp hpl hq hql hN).elim⟩⟩;have e2:=UM 0 h1' h3;rw[HF h2',HF h3',decide_eq_true (by omega)];exact hK
end Go.Proofs
namespace Go.Proofs
open Go Go.Eng
theorem QVd {H:HP}{a:QN}{m:Nat}{ws:List (List (Rat×Rat))}{s:Int}{k d:Nat}{f:Int->Option Int}{out:List (List Int)}(hk:H k=some (seB a m ws s (.m (k+5000))))(hm:H (k+5000)=some (.mp f))(hd:H d=none):
  XO [(1000,k),(6000,k+5000),(500,d)] (QT [(500,Wj out),(1000,seB a m ws s (.m 6000)),(6000,.mp f)]) H=upd H d (some (Wj out)):=by
 have e:lkA [(1000,k),(6000,k+5000),(500,d)] 6000=some (k+5000):=rfl;have r:JK (lkA [(1000,k),(6000,k+5000),(500,d)]) (seB a m ws s (.m 6000))=some (seB a m ws s (.m (k+5000))):=by
  simp only[JK,seB,UL,XX,List.cons_append,List.nil_append,XL,e]
 have dk:d≠k:=fun h=>by subst h;rw[hk]at hd;cases hd
 have dm:d≠k+5000:=fun h=>by subst h;rw[hm]at hd;cases hd
 funext i;unfold XO;simp only[lkB];cases h:i.beq k with
 | true=>
  have:=Zh h;subst this;rw[Qd _ _ (fun h=>dk h.symm),hk];show some (rdB _ (seB a m ws s (.m 6000)))=_
  simp only[rdB,r,Option.getD_some]
 | false=>
  simp only[R8];cases h2:i.beq (k+5000)with
  | true=>
   have:=Zh h2;subst this;rw[Qd _ _ (fun h=>dm h.symm),hm];rfl
  | false=>
   simp only[R8];cases h3:i.beq d with
   | true=>
    have:=Zh h3;subst this;rw[QW];show some (rdB _ (Wj out))=_
    have rr:JK (lkA [(1000,k),(6000,k+5000),(500,i)]) (Wj out)=some (Wj out):=rfl;simp only[rdB,rr,Option.getD_some]
   | false=>
    have:i≠d:=fun e=>by subst e;simp at h3
    rw[Qd _ _ this];rfl
theorem QQa:XQ Tryz.prog QH QG 110 QDU:=by
 refine⟨QK Tryz.func110 (by kernel_rfl),fun l H d T hT K hK=> ?_⟩;unfold QDU at hT;split at hT
 ·rename_i k o xs;split at hT
  ·split at hT
   ·rename_i t cs f e1 e2 e3;cases hb:t.beq 166 with
    | false=>rw[hb]at hT;cases hT
    | true=>
     rw[hb]at hT;have ht:=Zh hb;subst ht;simp only[R7]at hT;split at hT
     ·rename_i j _;cases hj:j.beq (k+5000)with
      | false=>rw[hj]at hT;cases hT
      | true=>
       rw[hj]at hT;simp only[R7]at hT;cases hT
       obtain⟨a,m,ws,s,g,fr,D,rfl,rfl,⟨hg,hs,hgo,hfo,hm,hw,hF,hD⟩,hK⟩:=hK;refine WB (R:=[(1000,k),(6000,k+5000)]) (N:=[(500,d)]) (Hl:=[(1000,seB a m ws s (.m 6000)),(6000,.mp f)]) QZg QP Tryz.func110 (by kernel_rfl) (by kernel_rfl) (by rfl)
        (as0:=[.x false [.p 1000 0],.x false [.s 1 (ints fr)]]) ?_ (QDQ e1 e2) rfl (by simp) (by simp) (fun p hp=>by simp at hp;subst hp;exact e3) (fun x=>⟨fun p hp=> ?_,fun p hp b hb=> ?_⟩) (Qen ⟨hg,hs,hgo,hfo,hm,hw,hF,hD⟩) (fun out ho=>⟨_,rfl,?_⟩)
       ·simp[Xm,Xl,XL,lkB]
       ·simp at hp;rcases hp with rfl | rfl
        ·exact fun h=>by have h':some (seB a m ws s (.m 6000))=none:=h;cases h'
        ·exact fun h=>by have h':some (Blk.mp f)=none:=h;cases h'
       ·simp at hp;rcases hp with rfl | rfl | rfl
        ·have h':some (seB a m ws s (.m 6000))=some b:=hb;cases h'
         have e:lkA [(1000,k),(6000,k+5000),(500,d)] 6000=some (k+5000):=rfl;exact⟨seB a m ws s (.m (k+5000)),by show JK (lkA [(1000,k),(6000,k+5000),(500,d)]) _=_;simp only[JK,seB,UL,XX,List.cons_append,List.nil_append,XL,e]⟩
        ·have h':some (Blk.mp f)=some b:=hb;cases h';exact⟨_,rfl⟩
        ·have h':some (Wj x)=some b:=hb;cases h';exact⟨_,rfl⟩
       ·show K _ (XO [(1000,k),(6000,k+5000),(500,d)] (QT [(500,Wj out),(1000,seB a m ws s (.m 6000)),(6000,.mp f)]) H)
        rw[QVd e1 e2 e3];exact hK out ho.1 ho.2
     ·cases hT
   ·cases hT
  ·cases hT
 ·cases hT
theorem QM5:CtrMsOK Tryz.prog QH QG QZm:= .cons QQV (.cons QQa GK)
theorem QVe:CtrsOK Tryz.prog QH QG Qek:= .cons QM3 QDK
theorem QVf:QM Tryz.prog QH QG Qhh:=VP QVe QM5 Ql
theorem Qhp {w:World}{O:Nat->Prop}{ρ:Env}{n:Nat}{v:Value}(h:ConcV w O ρ (.x false [.v (.slice none 0 0)]) v):ConcV w O ρ (.x false [.s n []]) v:=by
 obtain⟨vals,h1,h2⟩:=h;cases h1 with | v _ h1=>exact⟨_,.s0 h1,h2⟩
theorem QVg:CtrOK Tryz.prog QH QG 52 QH6:=by
 refine⟨QK Tryz.func52 (by kernel_rfl),fun l T hT K hK=> ?_⟩;unfold QH6 at hT;split at hT
 ·split at hT
  ·cases hT
   obtain⟨a,p,q,m,ws,rfl,rfl,rfl,rfl,⟨hg,hs,hp,hq,hm,hw⟩,hY,hN⟩:=hK;exact QJ QVf QP Tryz.func52 (by kernel_rfl) (by kernel_rfl) (by rfl) (QVY a m ws _ p q hg hs hp hq hm hw K (fun out h=>hY out _ h ⟨rfl⟩) hN)
  ·cases hT
   obtain⟨a,p,q,rfl,rfl,rfl,⟨hg,hs,hp,hq,hm,hw⟩,hY,hN⟩:=hK;refine Eng.Spec.args (QJ QVf QP Tryz.func52 (by kernel_rfl) (by kernel_rfl) (by rfl) (QVY a 0 [] _ p q hg hs hp hq hm hw K (fun out h=>hY out _ h ⟨rfl⟩) hN)) fun w O vals hv=> ?_
   cases hv with | cons h1 hv=>cases hv with | cons h2 hv=>cases hv with | cons h3 hv=>cases hv with | cons h4 hv=>exact .cons h1 (.cons h2 (.cons h3 (.cons (Qhp h4) hv)))
  ·cases hT
 ·cases hT
theorem QVh:CtrsOK Tryz.prog QH QG Qeo:= .cons QVg (.cons QZl QVe)
theorem Qer:QM Tryz.prog QH QG Qhm:=VP QVh QM5 Ql
theorem QZu:CtrOK Tryz.prog QH QG 49 QM4:=by
 refine⟨QK Tryz.func49 (by kernel_rfl),fun l T hT K hK=> ?_⟩;unfold QM4 at hT;split at hT
 ·cases hT
  exact QJ Qer QP Tryz.func49 (by kernel_rfl) (by kernel_rfl) (by rfl) (Qep K hK)
 ·cases hT
theorem Qes:CtrsOK Tryz.prog QH QG Qhn:= .cons QZu QVh
theorem Qet:QM Tryz.prog QH QG Qho:=VP Qes QM5 Ql
theorem QKJ (l m k w:List Int)(n x:Int)(hl:l.length<=9223372036854775807)(hm:m.length<=9223372036854775807)(hk:k.length<=9223372036854775807)(hw:w.length<=9223372036854775807):Eng.Spec Tryz.prog QH QG 9 [.x false [.s 1 (ints l)],.x false [.s 1 (ints m)],.x false [.s 1 (ints k)],.x false [.s 1 (ints w)],iA .i64 n,iA .i64 x] (fun av=>av= .x false [.v (.bool true)]):=
 QJ Qet QP Tryz.func9 (by kernel_rfl) (by kernel_rfl) (by rfl) (QVc l m k w n x hl hm hk hw _ rfl)
end Go.Proofs
