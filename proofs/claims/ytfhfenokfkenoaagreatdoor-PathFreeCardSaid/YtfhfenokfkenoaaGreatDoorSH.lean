/- Ways with points left out: plain laws. -/
import Derived.Test.YtfhfenokfkenoaaGreatDoorCU
import Derived.Test.YtfhfenokfkenoaaGreatDoorS2
open Int renaming ofNat → Za
open Go.IntKind renaming i64 → Zb
open List renaming map → Zc
namespace Go.Proofs
open Go Go.Eng
def QYu (go:List Rat->List Rat->Bool)(w:List (List Rat))(i:Nat):Nat->Nat
 | 0=>i+1
 | k+1=>bif Nat.ble (k+1) (i+1)then i+1 else bif go (w.getD i []) (w.getD (k+1) [])then k+1 else QYu go w i k
def cutI (go:List Rat->List Rat->Bool)(w:List (List Rat)):Nat->Nat->List Nat
 | 0,_=>[]
 | f+1,i=>bif decide (i+1<w.length)then QYu go w i (w.length-1)::cutI go w f (QYu go w i (w.length-1))else[]
def atW (w:List (List Rat))(i:Nat):List Rat:=w.getD i []
def QGr (go:List Rat->List Rat->Bool)(w:List (List Rat)):Bool:=(List.range w.length).all fun i=>go (atW w (i-1)) (atW w i)
theorem QEm {w:List (List Rat)}{i:Nat}(h:i<w.length):w[i]? =some (atW w i):=by
 unfold atW;rw[List.getD_eq_getElem?_getD,List.getElem?_eq_getElem h];rfl
end Go.Proofs
namespace Go.Proofs
open Go Go.Eng
def goV (a:ArmV)(ws:List (List (Rat×Rat)))(k:Nat)(p q:List Rat):Bool:=QBg a (Xr p q k) ws
theorem Qa8 {W:World}{O:Nat->Prop}{ρ:Env}{sz:Nat}{X Y:List (List Ch)}{vs:List Value}(hlen:X.length=Y.length)(hel: ∀(i:Nat) (x y:List Ch),X[i]? =some x->Y[i]? =some y-> ∀f,CC W O (fun _=>none) x f->CC W O (fun _=>none) y f)(h:CC W O ρ [.s sz X] vs):CC W O ρ [.s sz Y] vs:=by
 cases h with
 | s0 h=>rw[List.length_eq_zero_iff.1 hlen.symm];exact .s0 h
 | s00 h=>rw[List.length_eq_zero_iff.1 hlen.symm];exact .s00 h
 | s hr hx hcap h=>
  have back: ∀(i:Nat) (y:List Ch),Y[i]? =some y-> ∃x,X[i]? =some x:=fun i y hy=>⟨_,List.getElem?_eq_getElem (by have:=(List.getElem?_eq_some_iff.1 hy).1;omega)⟩
  rename_i f vs';rw[hlen]at hcap⊢;refine .s (f:=f) ⟨hr.lt,hr.free,fun i y hy=> ?_⟩ (fun i y hy=> ?_) hcap h
  ·obtain⟨x,hx'⟩:=back i y hy;exact hr.cell i x hx'
  ·obtain⟨x,hx'⟩:=back i y hy;exact hel i x y hx' hy _ (hx i x hx')
theorem QQ0 {W:World}{O:Nat->Prop}{ρ:Env}{n m:Nat}{qs:List Rat}(hb: ∀q∈qs,Bd n q){v:Value}(h:ConcV W O ρ (sR m qs) v):ConcV W O ρ (sR n qs) v:=by
 obtain⟨vs,h1,h2⟩:=h;refine⟨vs,Qa8 (by rw[WD,WD]) (fun i x y hx hy g hg=> ?_) h1,h2⟩;simp only[lR,List.getElem?_map]at hx hy;cases hq:qs[i]? with
 | none=>rw[hq]at hx;cases hx
 | some r=>
  rw[hq]at hx hy;cases hx;cases hy
  cases hg with
  | r _ h'=>exact .r (hb r (List.mem_of_getElem? hq)) h'
theorem QQ1 {w:World}{O:Nat->Prop}{ρ:Env}{n:Nat}{qs:List Rat}{v:Value}(h:ConcV w O ρ (sR n qs) v): ∀q∈qs,Bd n q:=by
 obtain⟨vs,h1,h2⟩:=h;intro q hq;obtain⟨i,hi⟩:=List.getElem?_of_mem hq
 have hi':(lR n qs)[i]? =some [.r q n]:=by simp only[lR,List.getElem?_map,hi];rfl
 generalize lR n qs=X at*;cases h1 with
 | s0 _=>simp at hi'
 | s00 _=>simp at hi'
 | s hr hx hcap h=>
  rename_i f vs';have hc:=hx i _ hi';generalize f i=g at hc;cases hc with
  | r hb _=>exact hb
def QYv:LC:=(18,Uu)::QQz
theorem QQ2:QG QYv:= .cons QL3 QUs
def U7 (go:List Rat->List Rat->Bool)(w:List (List Rat))(i:Nat):Bool:=(List.range i).all fun j=>go (atW w (j-1)) (atW w j)
def QMs (a:ArmV)(n:Nat)(w:List (List Rat))(m:Nat)(ws:List (List (Rat×Rat)))(k:Nat):LI:=fun _=> .inv ⟨Nat,fun i=>⟨[(1,sW n w),(2,slA m ws),(3,iA .i64 k),(4,.x false [.p 4 0]),(11,.x false [.v (.bool (U7 (goV a ws k) w i))]),(27,iA .i64 w.length),(28,iA .i64 i)],[(4,.box 34 (XM a))]⟩,fun i=>i<=w.length,fun i=>w.length-i,fun _=>0⟩
theorem QBq (go:List Rat->List Rat->Bool)(w:List (List Rat))(i:Nat):U7 go w (i+1)=(U7 go w i&&go (atW w (i-1)) (atW w i)):=by
 simp[U7,List.range_succ]
abbrev QKk (a:ArmV)(n:Nat)(w:List (List Rat))(m:Nat)(ws:List (List (Rat×Rat)))(k:Nat)(K:AV->Prop):Prop:=((QJ a)/\(QWD w a.links.length/\3*n+130<=400)/\(m<=400000000)/\((∀w∈ws,QX w)/\ws.length<=20)/\(1<=k/\k<=50))/\(K (.t [(false,[.v (.bool (QGr (goV a ws k) w))]),(false,[.v (.int .i64 0)])]))
set_option maxHeartbeats 1000000 in
theorem QUt (a:ArmV)(n:Nat)(w:List (List Rat))(m:Nat)(ws:List (List (Rat×Rat)))(k:Nat)(K:AV->Prop)(hK:QKk a n w m ws k K):QM (QR (mkT QYv QJO X4) (oF Tryz.f50) (QMs a n w m ws k) Tryz.f50 [J5 a,sW n w,slA m ws,iA .i64 k] K):=by
 obtain⟨hc,hK⟩:=hK;refine HV ((∃(a_1:ArmV),[Ch.v (Value.string a.name),Ch.r a.x 63,Ch.r a.y 63,Ch.v (Value.bool a.half),Ch.r a.t 63,Ch.s 16 (Zc QB a.links)]=[Ch.v (Value.string a_1.name),Ch.r a_1.x 63,Ch.r a_1.y 63,Ch.v (Value.bool a_1.half),Ch.r a_1.t 63,Ch.s 16 (Zc QB a_1.links)]/\QJ a_1/\bif Za (wN n w).length==0 then K (AV.t [(false,[Ch.v (Value.bool false)]),(false,[Ch.v (Value.int Zb 14)])])else bif decide (Za (wN n w).length>60)then K (AV.t [(false,[Ch.v (Value.bool false)]),(false,[Ch.v (Value.int Zb 2)])])else(∃(x:Nat),(x<=w.length/\OfNat.ofNat 0=0)/\1=1/\wN n w=wN n w/\1=1/\shN m ws=shN m ws/\Za k=Za k/\0=0/\true=U7 (goV a ws k) w x/\Za (wN n w).length=Za w.length/\0=Za x/\34=34/\a.name=a.name/\a.x=a.x/\63<=63/\a.y=a.y/\63<=63/\a.half=a.half/\a.t=a.t/\63<=63/\16=16/\Zc QB a.links=Zc QB a.links/\True)/\∀(x:Nat),x<=w.length->OfNat.ofNat 0=0->bif decide (Za x<Za w.length)then(0<=Za x/\Za x<Za (wN n w).length)/\∃(ys:List (List Ch)),ldE (wN n w) (Za x).toNat 0 1=some [Ch.s 3 ys]/\((0<=bif true then if 0>Zb.wrap (Za x-1)then 0 else Zb.wrap (Za x-1)else if 0<Zb.wrap (Za x-1)then 0 else Zb.wrap (Za x-1))/\(bif true then if 0>Zb.wrap (Za x-1)then 0 else Zb.wrap (Za x-1)else if 0<Zb.wrap (Za x-1)then 0 else Zb.wrap (Za x-1))<Za (wN n w).length)/\∃(ys_1:List (List Ch)),ldE (wN n w) (bif true then if 0>Zb.wrap (Za x-1)then 0 else Zb.wrap (Za x-1)else if 0<Zb.wrap (Za x-1)then 0 else Zb.wrap (Za x-1)).toNat 0 1=some [Ch.s 3 ys_1]/\∃(a_4:ArmV),∃(d:Nat),∃(p:List Rat),∃(e:Nat),∃(q:List Rat),∃(m_1:Nat),∃(ws_1:List (List (Rat×Rat))),∃(n_1:Nat),[Ch.v (Value.string a.name),Ch.r a.x 63,Ch.r a.y 63,Ch.v (Value.bool a.half),Ch.r a.t 63,Ch.s 16 (Zc QB a.links)]=[Ch.v (Value.string a_4.name),Ch.r a_4.x 63,Ch.r a_4.y 63,Ch.v (Value.bool a_4.half),Ch.r a_4.t 63,Ch.s 16 (Zc QB a_4.links)]/\ys_1=lR d p/\ys=lR e q/\shN m ws=shN m_1 ws_1/\Za k=Za n_1/\(QJ a_4/\2*d+e+130<=400/\(p.length=a_4.links.length/\q.length=a_4.links.length)/\m_1<=400000000/\((∀(w:List (Rat×Rat)),w∈ws_1->QX w)/\ws_1.length<=20)/\1<=n_1/\n_1<=50)/\bif U7 (goV a ws k) w x then ∃(x':Nat),(x'<=w.length/\OfNat.ofNat 0=0/\w.length-x'<w.length-x)/\1=1/\wN n w=wN n w/\1=1/\shN m ws=shN m ws/\Za k=Za k/\0=0/\QBg a_4 (Xr p q n_1) ws_1=U7 (goV a ws k) w x'/\Za w.length=Za w.length/\Zb.wrap (Za x+1)=Za x'/\34=34/\a.name=a.name/\a.x=a.x/\63<=63/\a.y=a.y/\63<=63/\a.half=a.half/\a.t=a.t/\63<=63/\16=16/\Zc QB a.links=Zc QB a.links/\True else ∃(x':Nat),(x'<=w.length/\OfNat.ofNat 0=0/\w.length-x'<w.length-x)/\1=1/\wN n w=wN n w/\1=1/\shN m ws=shN m ws/\Za k=Za k/\0=0/\false=U7 (goV a ws k) w x'/\Za w.length=Za w.length/\Zb.wrap (Za x+1)=Za x'/\34=34/\a.name=a.name/\a.x=a.x/\63<=63/\a.y=a.y/\63<=63/\a.half=a.half/\a.t=a.t/\63<=63/\16=16/\Zc QB a.links=Zc QB a.links/\True else K (AV.t [(false,[Ch.v (Value.bool (U7 (goV a ws k) w x))]),(false,[Ch.v (Value.int Zb 0)])]))) ?_
 try simp only[Int.ofNat_eq_natCast,R0,R1,Nat.le_refl,R4]
 obtain⟨hg,⟨hw,hn⟩,hm,⟨hp,hl⟩,hk⟩:=hc;have hwn:=hw.n;have wl: ∀n,(wN n w).length=w.length:=fun n=>by simp[wN]
 have hlen: ∀i,i<w.length->(atW w i).length=a.links.length:=fun i hi=>hw.len _ (List.mem_of_getElem? (QEm hi));simp only[wl];refine⟨a,rfl,hg,QF (fun h=>by have:=eq_of_beq h;omega) (fun _=>QF (fun h=>by have:=R5 h;omega) (fun _=>⟨⟨0,by omega,rfl,trivial,rfl⟩,fun x hx=>QF (fun hx'=> ?_) (fun hx'=> ?_)⟩))⟩
 ·have hx':x<w.length:=by have:=R5 hx';omega
  have e1:(bif true then if(0:Int)>Zb.wrap ((x:Int)-1)then 0 else Zb.wrap ((x:Int)-1)else if(0:Int)<Zb.wrap ((x:Int)-1)then 0 else Zb.wrap ((x:Int)-1))=((x-1:Nat):Int):=by
   rw[w64 (by omega)];simp only[R7];split<;>omega
  rw[e1,Int.toNat_natCast];refine⟨by omega,_,QBR (by simpa using QEm hx'),by omega,_,QBR (QEm (by omega)),a,n,atW w (x-1),n,atW w x,m,ws,k,rfl,rfl,rfl,rfl,rfl,⟨hg,by omega,⟨hlen _ (by omega),hlen _ hx'⟩,hm,⟨hp,hl⟩,hk⟩,QF (fun hb=>⟨x+1,⟨by omega,by omega⟩,?_,by rw[w64 (by omega)];simp⟩) (fun hb=>⟨x+1,⟨by omega,by omega⟩,?_,by rw[w64 (by omega)];simp⟩)⟩
  ·rw[QBq,hb];rfl
  ·rw[QBq,hb];rfl
 ·have hx':x=w.length:=by have:=R6 hx';omega
  rw[hx'];exact hK
def QEn:Ctr
 | [.x true xs,.x false [.s 1 ys],.x false [.s 1 zs],.x false [.v (.int .i64 N)]]=>some fun K=> ∃(a:ArmV) (n:Nat) (w:List (List Rat)) (m:Nat) (ws:List (List (Rat×Rat))) (k:Nat),xs=XM a/\ys=wN n w/\zs=shN m ws/\N=(k:Int)/\QKk a n w m ws k K
 | _=>none
theorem QQ3:QI 50 QEn:=by
 refine okL Tryz.func50 fun l T hT K hK=> ?_
 unfold QEn at hT;split at hT<;>cases hT
 obtain⟨a,n,w,m,ws,k,rfl,rfl,rfl,rfl,hK⟩:=hK;exact spL (QW QQ2 QEl Qg) QK Tryz.func50 (QUt _ _ _ _ _ _ K hK)
def QWO:LC:=(50,QEn)::QYv
theorem QUu:QG QWO:= .cons QQ3 QQ2
def QQ4:LC:=QWO
noncomputable def Qbz:QZ:=mkT QQ4 QJO X4
theorem QUv:QG QQ4:=QUu
end Go.Proofs
