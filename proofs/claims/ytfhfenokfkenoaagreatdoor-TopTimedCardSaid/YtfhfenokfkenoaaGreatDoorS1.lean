/- Ways: plain laws. -/
import Derived.Test.YtfhfenokfkenoaaGreatDoorAJ
open Int renaming ofNat → Za
open List renaming getElem?_eq_getElem → Zb, map → Zd, drop → Zg, mem_of_getElem? → Zi
open ByteArray renaming mk → Zc
open Array renaming mk → Ze
open Go.IntKind renaming i64 → Zf
open Go.Value renaming string → Zh, bool → Zj
namespace Go.Proofs
open Go Go.Eng
end Go.Proofs
namespace Go.Proofs
open Go Go.Eng
def dst:List Rat->List Rat->Rat
 | p::ps,q::qs=>Q5 (q-p)+dst ps qs
 | _,_=>0
def XL:List (List Rat)->Rat
 | x::y::r=>dst x y+XL (y::r)
 | _=>0
end Go.Proofs
namespace Go.Proofs
open Go Go.Eng
def wEl (n:Nat)(q:List Rat):List Ch:=[.s 3 (lR n q)]
def wN (n:Nat)(w:List (List Rat)):List (List Ch):=w.map (wEl n)
def sW (n:Nat)(w:List (List Rat)):AV:= .x false [.s 1 (wN n w)]
structure WQ (w:List (List Rat))(m:Nat):Prop where
  n:1<=w.length/\w.length<=60
  len: ∀q∈w,q.length=m
  m:1<=m/\m<=3
structure MsX where
 i:Nat
 j:Nat
 s:Rat
def L99:LC:=(18,UD)::L52
def M99:List (Nat×XW):=M48
theorem WZ {n:Nat}{w:List (List Rat)}{i:Nat}{q:List Rat}(h:w[i]? =some q):ldE (wN n w) i 0 1=some [.s 3 (lR n q)]:=by
 simp only[ldE,wN,List.getElem?_map,h];rfl
theorem QNW {a b:Rat}:YT a b>0↔b<a:=by
 unfold YT;by_cases h:a<b
 ·rw[if_pos h];refine⟨fun h2=>by omega,fun h2=> ?_⟩;grind
 ·rw[if_neg h];by_cases h2:a=b
  ·rw[if_pos h2];refine⟨fun h=>by omega,fun h=> ?_⟩;grind
  ·rw[if_neg h2];refine⟨fun _=> ?_,fun _=>by omega⟩;grind
theorem QBx {w:List (List Rat)}{i:Nat}{q:List Rat}(h:w[i]? =some q):w.getD i []=q:=by rw[List.getD_eq_getElem?_getD,h];rfl
theorem QDN {w:List (List Rat)}{i:Nat}{q:List Rat}(h:w[i]? =some q):w.drop i=q::w.drop (i+1):=by
 have hi:=(List.getElem?_eq_some_iff.1 h).1;rw[List.drop_eq_getElem_cons hi];rw[Zb hi]at h;rw[Option.some.inj h]
theorem QAY {l:List Rat}{i:Nat}{q:Rat}(h:l[i]? =some q):l.drop i=q::l.drop (i+1):=by
 have hi:=(List.getElem?_eq_some_iff.1 h).1;rw[List.drop_eq_getElem_cons hi];rw[Zb hi]at h;rw[Option.some.inj h]
theorem QKd {w:List (List Rat)}{i:Nat}{p q:List Rat}(hi:1<=i)(hp:w[i-1]? =some p)(hq:w[i]? =some q):XL (w.drop (i-1))=dst p q+XL (w.drop i):=by
 rw[QDN hp,show i-1+1=i by omega,QDN hq];rfl
theorem QNX {p q:List Rat}{j:Nat}{x y:Rat}(hp:p[j]? =some x)(hq:q[j]? =some y):dst (p.drop j) (q.drop j)=Q5 (y-x)+dst (p.drop (j+1)) (q.drop (j+1)):=by
 rw[QAY hp,QAY hq];rfl
theorem QRL (n:Nat)(o:List (List Rat))(q:List Rat):List.take o.length (wN n o)++[[.s 3 (lR n q)]]=wN n (o++[q]):=by
 rw[List.take_of_length_le (by simp[wN])];simp[wN,wEl]
theorem QXN:QG L99:= .cons QKO QS7
theorem QAZ:Xe M99:=UF
def QXO:LC:=L99
theorem QUx:QG QXO:=QXN
def QUy:LC:=QXO
theorem QNY:QG QUy:=QUx
theorem QNZ (a:ArmV)(n:Nat)(w:List (List Rat))(hc:(QX a)/\(WQ w a.links.length))(K:AV->Prop)(hK:K (iA .i64 0)):QK (QT (mkT QUy M99 X4) (oF Tryz.f67) (fun _=> .inv ⟨Nat,fun i=>⟨[(2,.x false [.p 2 0]),(20,sW n w),(21,iA .i64 w.length),(22,iA .i64 i)],[(2,.box 34 (XY a))]⟩,fun i=>i<=w.length,fun i=>w.length-i,fun _=>0⟩) Tryz.f67 [KT a,sW n w] K):=by
 refine HV ((∃(a_1:ArmV),[Ch.v (Zh a.name),Ch.r a.x 63,Ch.r a.y 63,Ch.v (Zj a.half),Ch.r a.t 63,Ch.s 16 (Zd QH a.links)]=[Ch.v (Zh a_1.name),Ch.r a_1.x 63,Ch.r a_1.y 63,Ch.v (Zj a_1.half),Ch.r a_1.t 63,Ch.s 16 (Zd QH a_1.links)]/\QX a_1/\bif Za (wN n w).length==0 then K (AV.x false [Ch.v (Value.int Zf 14)])else bif decide (Za (wN n w).length>60)then K (AV.x false [Ch.v (Value.int Zf 2)])else(∃(x:Nat),(x<=w.length/\OfNat.ofNat 0=0)/\0=0/\1=1/\wN n w=wN n w/\Za (wN n w).length=Za w.length/\0=Za x/\34=34/\a.name=a.name/\a.x=a.x/\63<=63/\a.y=a.y/\63<=63/\a.half=a.half/\a.t=a.t/\63<=63/\16=16/\Zd QH a.links=Zd QH a.links/\True)/\∀(x:Nat),x<=w.length->OfNat.ofNat 0=0->bif decide (Za x<Za w.length)then(0<=Za x/\Za x<Za (wN n w).length)/\∃(ys:List (List Ch)),ldE (wN n w) (Za x).toNat 0 1=some [Ch.s 3 ys]/\∃(a_4:ArmV),[Ch.v (Zh a.name),Ch.r a.x 63,Ch.r a.y 63,Ch.v (Zj a.half),Ch.r a.t 63,Ch.s 16 (Zd QH a.links)]=[Ch.v (Zh a_4.name),Ch.r a_4.x 63,Ch.r a_4.y 63,Ch.v (Zj a_4.half),Ch.r a_4.t 63,Ch.s 16 (Zd QH a_4.links)]/\(QX a_4/\Za ys.length=Za a_4.links.length)/\∃(x':Nat),(x'<=w.length/\OfNat.ofNat 0=0/\w.length-x'<w.length-x)/\0=0/\1=1/\wN n w=wN n w/\Za w.length=Za w.length/\Zf.wrap (Za x+1)=Za x'/\34=34/\a.name=a.name/\a.x=a.x/\63<=63/\a.y=a.y/\63<=63/\a.half=a.half/\a.t=a.t/\63<=63/\16=16/\Zd QH a.links=Zd QH a.links/\True else K (AV.x false [Ch.v (Value.int Zf 0)]))) ?_
 try simp only[Int.ofNat_eq_natCast,R0,R1,Nat.le_refl,R4]
 obtain⟨ha,hw⟩:=hc;have hn:=hw.n;have hm:=ha.n;have hlw:(wN n w).length=w.length:=by simp[wN]
 rw[hlw];refine⟨a,rfl,ha,QC (fun h=>by have h:=eq_of_beq h;omega) (fun _=>QC (fun h=>by have:=R5 h;omega) (fun _=>⟨⟨0,by omega,rfl,rfl⟩,fun x hx=>QC (fun hp=> ?_) (fun _=>hK)⟩))⟩;have hp:x<w.length:=by have:=R5 hp;omega
 obtain⟨q,hq⟩: ∃q,w[x]? =some q:=⟨_,Zb hp⟩
 exact⟨by omega,_,WZ (by simpa using hq),a,rfl,⟨ha,by rw[Qr,hw.len q (Zi hq)]⟩,x+1,⟨by omega,by omega⟩,by rw[w64 (by omega)];simp⟩
def QAa:Ctr
 | [.x true xs,.x false [.s 1 ys]]=>some fun K=> ∃(a:ArmV) (n:Nat) (w:List (List Rat)),xs=XY a/\ys=wN n w/\((QX a)/\(WQ w a.links.length))/\(K (iA .i64 0))
 | _=>none
theorem QKe:QJ 67 QAa:=by
 refine okL Tryz.func67 fun l T hT K hK=> ?_
 unfold QAa at hT;split at hT<;>cases hT
 obtain⟨a,n,w,rfl,rfl,hc,hK⟩:=hK;exact spL (QV QNY QAZ Qo) QN Tryz.func67 (QNZ _ _ _ hc K hK)
def QUz:LC:=(67,QAa)::QUy
theorem QNa:QG QUz:= .cons QKe QNY
set_option maxHeartbeats 1000000 in
theorem QHP (a:ArmV)(n:Nat)(w:List (List Rat))(hc:(QX a)/\(WQ w a.links.length/\n<=100000))(K:AV->Prop)(hK:K (.t [(true,[.r (XL w) (64+(2*n+2)*(3*(w.length-1)))]),(false,[.v (.int .i64 0)])])):QK (QT (mkT QUz M99 X4) (oF Tryz.f15) (fun id=>bif id.beq 6 then .inv ⟨MsX,fun x=>⟨[(1,sW n w),(2,.x false [.p 2 0]),(4,.x false [.p 4 0]),(7,.x false [.p 7 0]),(8,iA .i64 x.i)],[(2,.box 34 (XY a)),(4,.box 25 KP),(7,.box 25 [.r x.s (64+(2*n+2)*(3*(x.i-1)))])]⟩,fun x=>(1<=x.i/\x.i<=w.length)/\x.s+XL (w.drop (x.i-1))=XL w,fun x=>w.length-x.i,fun _=>0⟩else .inv ⟨MsX,fun x=>⟨[(1,sW n w),(2,.x false [.p 2 0]),(4,.x false [.p 4 0]),(7,.x false [.p 7 0]),(8,iA .i64 x.i),(28,iA .i64 a.links.length),(29,iA .i64 x.j)],[(2,.box 34 (XY a)),(4,.box 25 KP),(7,.box 25 [.r x.s (64+(2*n+2)*(3*(x.i-1)+x.j))])]⟩,fun x=>((1<=x.i/\x.i<w.length)/\x.j<=a.links.length)/\x.s+dst ((w.getD (x.i-1) []).drop x.j) ((w.getD x.i []).drop x.j)+XL (w.drop x.i)=XL w,fun x=>a.links.length-x.j,fun x=>w.length-x.i⟩) Tryz.f15 [KT a,sW n w] K):=by
 refine HV ((∃(a_1:ArmV),∃(n_1:Nat),∃(w_1:List (List Rat)),[Ch.v (Zh a.name),Ch.r a.x 63,Ch.r a.y 63,Ch.v (Zj a.half),Ch.r a.t 63,Ch.s 16 (Zd QH a.links)]=[Ch.v (Zh a_1.name),Ch.r a_1.x 63,Ch.r a_1.y 63,Ch.v (Zj a_1.half),Ch.r a_1.t 63,Ch.s 16 (Zd QH a_1.links)]/\wN n w=wN n_1 w_1/\(QX a_1/\WQ w_1 a_1.links.length)/\((-9223372036854775808:Int)<=0/\(0:Int)<9223372036854775808)/\(∃(x:MsX),(((1<=x.i/\x.i<=w.length)/\x.s+XL (Zg (x.i-1) w)=XL w)/\OfNat.ofNat 0=0)/\1=1/\wN n w=wN n w/\0=0/\0=0/\0=0/\1=Za x.i/\34=34/\a.name=a.name/\a.x=a.x/\63<=63/\a.y=a.y/\63<=63/\a.half=a.half/\a.t=a.t/\63<=63/\16=16/\Zd QH a.links=Zd QH a.links/\25=25/\false=false/\Zc (Ze [])=Zc (Ze [])/\Zc (Ze [])=Zc (Ze [])/\25=25/\↑(0:Int)=x.s/\64<=64+(2*n+2)*(3*(x.i-1))/\True)/\∀(x:MsX),(1<=x.i/\x.i<=w.length)/\x.s+XL (Zg (x.i-1) w)=XL w->OfNat.ofNat 0=0->bif decide (Za x.i<Za (wN n w).length)then(0<=Za x.i/\Za x.i<Za (wN n w).length)/\∃(ys:List (List Ch)),ldE (wN n w) (Za x.i).toNat 0 1=some [Ch.s 3 ys]/\(∃(x_1:MsX),((((1<=x_1.i/\x_1.i<w.length)/\x_1.j<=a.links.length)/\x_1.s+dst (Zg x_1.j (w.getD (x_1.i-1) [])) (Zg x_1.j (w.getD x_1.i []))+XL (Zg x_1.i w)=XL w)/\w.length-x_1.i=w.length-x.i)/\1=1/\wN n w=wN n w/\0=0/\0=0/\0=0/\Za x.i=Za x_1.i/\Za ys.length=Za a.links.length/\0=Za x_1.j/\34=34/\a.name=a.name/\a.x=a.x/\63<=63/\a.y=a.y/\63<=63/\a.half=a.half/\a.t=a.t/\63<=63/\16=16/\Zd QH a.links=Zd QH a.links/\25=25/\false=false/\Zc (Ze [])=Zc (Ze [])/\Zc (Ze [])=Zc (Ze [])/\25=25/\x.s=x_1.s/\64+(2*n+2)*(3*(x.i-1))<=64+(2*n+2)*(3*(x_1.i-1)+x_1.j)/\True)/\∀(x_1:MsX),((1<=x_1.i/\x_1.i<w.length)/\x_1.j<=a.links.length)/\x_1.s+dst (Zg x_1.j (w.getD (x_1.i-1) [])) (Zg x_1.j (w.getD x_1.i []))+XL (Zg x_1.i w)=XL w->w.length-x_1.i=w.length-x.i->bif decide (Za x_1.j<Za a.links.length)then(0<=Za x_1.i/\Za x_1.i<Za (wN n w).length)/\∃(ys:List (List Ch)),ldE (wN n w) (Za x_1.i).toNat 0 1=some [Ch.s 3 ys]/\(0<=Za x_1.j/\Za x_1.j<Za ys.length)/\∃(q:Rat),∃(n_2:Nat),ldE ys (Za x_1.j).toNat 0 3=some [Ch.r q n_2]/\(0<=Zf.wrap (Za x_1.i-1)/\Zf.wrap (Za x_1.i-1)<Za (wN n w).length)/\∃(ys:List (List Ch)),ldE (wN n w) (Zf.wrap (Za x_1.i-1)).toNat 0 1=some [Ch.s 3 ys]/\(0<=Za x_1.j/\Za x_1.j<Za ys.length)/\∃(q_1:Rat),∃(n_3:Nat),ldE ys (Za x_1.j).toNat 0 3=some [Ch.r q_1 n_3]/\n_2+n_3+1<=4294967296/\n_2+n_3+1<=4294967296/\64+(2*n+2)*(3*(x_1.i-1)+x_1.j)+(n_2+n_3+1)+1<=4294967296/\∃(x':MsX),((((1<=x'.i/\x'.i<w.length)/\x'.j<=a.links.length)/\x'.s+dst (Zg x'.j (w.getD (x'.i-1) [])) (Zg x'.j (w.getD x'.i []))+XL (Zg x'.i w)=XL w)/\w.length-x'.i=w.length-x.i/\a.links.length-x'.j<a.links.length-x_1.j)/\1=1/\wN n w=wN n w/\0=0/\0=0/\0=0/\Za x_1.i=Za x'.i/\Za a.links.length=Za a.links.length/\Zf.wrap (Za x_1.j+1)=Za x'.j/\34=34/\a.name=a.name/\a.x=a.x/\63<=63/\a.y=a.y/\63<=63/\a.half=a.half/\a.t=a.t/\63<=63/\16=16/\Zd QH a.links=Zd QH a.links/\25=25/\false=false/\Zc (Ze [])=Zc (Ze [])/\Zc (Ze [])=Zc (Ze [])/\25=25/\x_1.s+Q5 (q-q_1)=x'.s/\64+(2*n+2)*(3*(x_1.i-1)+x_1.j)+(n_2+n_3+1)+1<=64+(2*n+2)*(3*(x'.i-1)+x'.j)/\True else ∃(x':MsX),(((1<=x'.i/\x'.i<=w.length)/\x'.s+XL (Zg (x'.i-1) w)=XL w)/\OfNat.ofNat 0=0/\w.length-x'.i<w.length-x.i)/\1=1/\wN n w=wN n w/\0=0/\0=0/\0=0/\Zf.wrap (Za x_1.i+1)=Za x'.i/\34=34/\a.name=a.name/\a.x=a.x/\63<=63/\a.y=a.y/\63<=63/\a.half=a.half/\a.t=a.t/\63<=63/\16=16/\Zd QH a.links=Zd QH a.links/\25=25/\false=false/\Zc (Ze [])=Zc (Ze [])/\Zc (Ze [])=Zc (Ze [])/\25=25/\x_1.s=x'.s/\64+(2*n+2)*(3*(x_1.i-1)+x_1.j)<=64+(2*n+2)*(3*(x'.i-1))/\True else K (AV.t [(true,[Ch.r x.s (64+(2*n+2)*(3*(x.i-1)))]),(false,[Ch.v (Value.int Zf 0)])]))) ?_
 try simp only[Int.ofNat_eq_natCast,R0,R1,Nat.le_refl,R4]
 obtain⟨ha,hw,hn⟩:=hc;have hwn:=hw.n;have hm:=ha.n;have hlw:(wN n w).length=w.length:=by simp[wN]
 rw[hlw];refine⟨a,n,w,rfl,rfl,⟨ha,hw⟩,by omega,⟨⟨1,0,0⟩,⟨by simp only;omega,?_⟩,rfl,rfl,by simp⟩,fun x ⟨⟨hi1,hi2⟩,hs⟩=>QC (fun hp=> ?_) (fun hp=> ?_)⟩
 ·show(0:Rat)+XL (w.drop 0)=XL w
  rw[List.drop_zero];exact Rat.zero_add _
 ·have hp:x.i<w.length:=by have:=R5 hp;omega
  obtain⟨q,hq⟩: ∃q,w[x.i]? =some q:=⟨_,Zb hp⟩
  obtain⟨p,hpp⟩: ∃p,w[x.i-1]? =some p:=⟨_,Zb (by omega)⟩
  have lq:=hw.len q (Zi hq);have lp:=hw.len p (Zi hpp);refine⟨by omega,_,WZ (by simpa using hq),⟨⟨x.i,0,x.s⟩,⟨⟨⟨⟨hi1,hp⟩,by simp⟩,?_⟩,rfl⟩,rfl,by rw[Qr,lq],rfl,rfl,by simp⟩,fun y ⟨⟨⟨hy1,hy2⟩,hy3⟩,hy4⟩ ht=> ?_⟩
  ·simp only[List.drop_zero];rw[QBx hq,QBx hpp];rw[QKd hi1 hpp hq]at hs;rw[Rat.add_assoc];exact hs
  have hyi:y.i=x.i:=by omega
  rw[hyi]at hy4⊢;rw[QBx hq,QBx hpp]at hy4;have hB:(2*n+2)*(3*(x.i-1)+y.j)<=200002*183:=Nat.mul_le_mul (by omega) (by omega);refine QC (fun hj=> ?_) (fun hj=> ?_)
  ·have hj:y.j<a.links.length:=by have:=R5 hj;omega
   obtain⟨u,hu⟩: ∃u,q[y.j]? =some u:=⟨_,Zb (by omega)⟩
   obtain⟨v,hv⟩: ∃v,p[y.j]? =some v:=⟨_,Zb (by omega)⟩
   rw[w64 (n:=(x.i:Int)-1) (by omega),show((x.i:Int)-1).toNat=x.i-1 by omega];have hB2:(2*n+2)*(3*(x.i-1)+(y.j+1))=(2*n+2)*(3*(x.i-1)+y.j)+(2*n+2):=by rw[<-Nat.add_assoc,Nat.mul_succ]
   refine⟨by omega,_,WZ (by simpa using hq),by rw[Qr];omega,u,n,XD (by simpa using hu),by omega,_,WZ hpp,by rw[Qr];omega,v,n,XD (by simpa using hv),by omega,by omega,by omega,⟨x.i,y.j+1,y.s+Q5 (u-v)⟩,⟨⟨⟨⟨hi1,hp⟩,hj⟩,?_⟩,rfl,by simp only;omega⟩,rfl,by rw[w64 (by omega)];simp,rfl,by simp only;omega⟩;simp only;rw[QBx hq,QBx hpp];rw[QNX hv hu]at hy4;rw[<-hy4];grind
  ·have hj:y.j=a.links.length:=by have:=R6 hj;omega
   refine⟨⟨x.i+1,0,y.s⟩,⟨⟨⟨by simp only;omega,by simp only;omega⟩,?_⟩,by simp only;omega⟩,by rw[w64 (by omega)];simp,rfl,?_⟩
   ·simp only;rw[List.drop_eq_nil_of_le (by omega:p.length<=y.j)]at hy4;rw[show x.i+1-1=x.i by omega];have e:dst [] (q.drop y.j)=0:=by unfold dst;rfl
    rw[e,Rat.add_zero]at hy4;exact hy4
   ·simp only;exact Nat.add_le_add_left (Nat.mul_le_mul_left _ (by omega)) _
 ·have hp:x.i=w.length:=by have:=R6 hp;omega
  obtain⟨p,hpp⟩: ∃p,w[x.i-1]? =some p:=⟨_,Zb (by omega)⟩
  rw[QDN hpp,show x.i-1+1=x.i by omega,hp,List.drop_length]at hs;rw[show XL [p]=0 from rfl,Rat.add_zero]at hs;rw[hs,hp];exact hK
def KF:Ctr
 | [.x true xs,.x false [.s 1 ys]]=>some fun K=> ∃(a:ArmV) (n:Nat) (w:List (List Rat)),xs=XY a/\ys=wN n w/\((QX a)/\(WQ w a.links.length/\n<=100000))/\(K (.t [(true,[.r (XL w) (64+(2*n+2)*(3*(w.length-1)))]),(false,[.v (.int .i64 0)])]))
 | _=>none
theorem HW:QJ 15 KF:=by
 refine okL Tryz.func15 fun l T hT K hK=> ?_
 unfold KF at hT;split at hT<;>cases hT
 obtain⟨a,n,w,rfl,rfl,hc,hK⟩:=hK;exact spL (QV QNa QAZ Qo) QN Tryz.func15 (QHP _ _ _ hc K hK)
def QXP:LC:=(15,KF)::QUz
theorem QU0:QG QXP:= .cons HW QNa
def QU1:LC:=QXP
noncomputable def QYv:Qa:=mkT QU1 M99 X4
theorem QU2:QG QU1:=QU0
end Go.Proofs
