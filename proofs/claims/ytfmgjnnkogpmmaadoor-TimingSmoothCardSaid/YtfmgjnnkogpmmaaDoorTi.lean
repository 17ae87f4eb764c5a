/- timing: cover, need. -/
import Derived.Test.YtfmgjnnkogpmmaaDoorR1
open Int renaming ofNat → Za, toNat_natCast → Zf, ofNat_eq_natCast → Zh
open Go.IntKind renaming i64 → Zb
open Go.Value renaming slice → Zc, int → Ze
open ByteArray renaming mk → Zd
open List renaming map → Zg, take → Zi
namespace Go.Proofs
open Go Go.Eng
def cvB (a b k:Nat):Nat:=64+k*(max a (b+64)+1)
def QHw (n:Nat)(sp:Rat)(a:Nat)(ac:Rat)(b:Nat):LI:=fun _=> .inv ⟨Nat,fun k=>⟨[(0,iA .i64 n),(4,.x false [.p 4 0]),(5,.x false [.p 5 0]),(6,.x false [.p 6 0]),(7,.x false [.p 7 0]),(8,iA .i64 ((k:Int)+1))],
 [(4,.box 27 [.r sp a]),(5,.box 27 [.r ac b]),(6,.box 27 QDN),(7,.box 27 [.r (Xi (XY sp ac n) k) (cvB a b k)])]⟩,fun k=>k<=n,fun k=>n-k,fun _=>0⟩
theorem QGH {x y:Int}(hx:0<=x)(hy:0<=y):(bif false then if y>x then y else x else if y<x then y else x)=((min x.toNat y.toNat:Nat):Int):=by
 simp only[R8];split<;>omega
set_option maxHeartbeats 1000000 in
theorem QM7 (n:Nat)(sp:Rat)(a:Nat)(ac:Rat)(b:Nat)(hn:n<=50)(ha:a<=1000000)(hb:b<=1000000)(K:AV->Prop)(hK:K (rA (QM sp ac n) (cvB a b n))):QU (Qc T26 (oF Tryd.f29) (QHw n sp a ac b) Tryd.f29 [iA .i64 n,rA sp a,rA ac b] K):=by
 refine HV ((((-9223372036854775808:Int)<=0/\(0:Int)<9223372036854775808)/\(∃(x:Nat),(x<=n/\OfNat.ofNat 0=0)/\Za n=Za n/\0=0/\0=0/\0=0/\0=0/\1=Za x+1/\27=27/\sp=sp/\a<=a/\27=27/\ac=ac/\b<=b/\27=27/\false=false/\Zd (Array.mk [])=Zd (Array.mk [])/\Zd (Array.mk [])=Zd (Array.mk [])/\27=27/\↑(0:Int)=Xi (XY sp ac n) x/\64<=cvB a b x/\True)/\∀(x:Nat),x<=n->OfNat.ofNat 0=0->bif decide (Za x+1<=Za n)then((-9223372036854775808<=bif false then if Zb.wrap (Zb.wrap (Za n+1)-(Za x+1))>Za x+1 then Zb.wrap (Zb.wrap (Za n+1)-(Za x+1))else Za x+1 else if Zb.wrap (Zb.wrap (Za n+1)-(Za x+1))<Za x+1 then Zb.wrap (Zb.wrap (Za n+1)-(Za x+1))else Za x+1)/\(bif false then if Zb.wrap (Zb.wrap (Za n+1)-(Za x+1))>Za x+1 then Zb.wrap (Zb.wrap (Za n+1)-(Za x+1))else Za x+1 else if Zb.wrap (Zb.wrap (Za n+1)-(Za x+1))<Za x+1 then Zb.wrap (Zb.wrap (Za n+1)-(Za x+1))else Za x+1)<9223372036854775808)/\b+64<=4294967296/\a+(b+64)<=4294967296/\cvB a b x+max a (b+64)+1<=4294967296/\∃(x':Nat),(x'<=n/\OfNat.ofNat 0=0/\n-x'<n-x)/\Za n=Za n/\0=0/\0=0/\0=0/\0=0/\Zb.wrap (Za x+1+1)=Za x'+1/\27=27/\sp=sp/\a<=a/\27=27/\ac=ac/\b<=b/\27=27/\false=false/\Zd (Array.mk [])=Zd (Array.mk [])/\Zd (Array.mk [])=Zd (Array.mk [])/\27=27/\Xi (XY sp ac n) x+J9 sp (ac*↑(bif false then if Zb.wrap (Zb.wrap (Za n+1)-(Za x+1))>Za x+1 then Zb.wrap (Zb.wrap (Za n+1)-(Za x+1))else Za x+1 else if Zb.wrap (Zb.wrap (Za n+1)-(Za x+1))<Za x+1 then Zb.wrap (Zb.wrap (Za n+1)-(Za x+1))else Za x+1))=Xi (XY sp ac n) x'/\cvB a b x+max a (b+64)+1<=cvB a b x'/\True else K (AV.x true [Ch.r (Xi (XY sp ac n) x) (cvB a b x)]))) ?_
 simp only[Zh,R0,R1,Nat.le_refl,R4];have cb: ∀x,x<=n->cvB a b x<=64+50*(max a (b+64)+1):=fun x hx=>by
  unfold cvB;have:x*(max a (b+64)+1)<=50*(max a (b+64)+1):=Nat.mul_le_mul_right _ (by omega);omega
 refine⟨by omega,⟨0,Nat.zero_le _,by omega,by simp[Xi],Nat.le_add_right _ _⟩,fun x hx=>QE (fun hp=> ?_) (fun hp=> ?_)⟩
 ·have hp:x+1<=n:=by have:=R5 hp;omega
  have e1:Zb.wrap (Zb.wrap ((n:Int)+1)-((x:Int)+1))=((n-x:Nat):Int):=by
   rw[w64 (n:=(n:Int)+1) (by omega),w64 (by omega)];omega
  have e2:((x:Int)+1)=((x+1:Nat):Int):=by omega
  have hc:=cb x hx;rw[e1,e2,QGH (by omega) (by omega),Zf,Zf];refine⟨by omega,by omega,by omega,by omega,x+1,⟨hp,by omega⟩,by rw[w64 (by omega)],?_,?_⟩
  ·show _=Xi (XY sp ac n) x+XY sp ac n (x+1)
   unfold XY;rw[show n+1-(x+1)=n-x by omega];rfl
  ·unfold cvB;rw[Nat.add_mul];omega
 ·have hp:x=n:=by have:=R6 hp;omega
  subst hp;exact hK
def QBp:Ctr
 | [.x false [.v (.int .i64 n)],.x true [.r sp a],.x true [.r ac b]]=>some fun K=>(0<=n/\n<=50)/\(a<=1000000/\b<=1000000)/\K (rA (QM sp ac n.toNat) (cvB a b n.toNat))
 | _=>none
theorem QKE:QT 29 QBp:=by
 refine okL Tryd.func29 fun l T hT K hK=> ?_
 unfold QBp at hT;split at hT<;>cases hT
 obtain⟨⟨h0,h1⟩,⟨h2,h3⟩,hK⟩:=hK;rename_i n sp a ac b;obtain⟨n,rfl⟩:=Int.eq_ofNat_of_zero_le h0;exact spL QKB QW Tryd.func29 (QM7 n sp a ac b (by omega) h2 h3 K hK)
def L27:LC:=(16,Vl)::(29,QBp)::L26
def M27:List (Nat×YA):=M23
theorem QN6:QN L27:= .cons QAn (.cons QKE QGG)
theorem QN7:YI M27:=QAm
def QKF (far:Rat)(c:Nat)(sp:Rat)(a:Nat)(ac:Rat)(b:Nat):LI:=fun _=> .inv ⟨Nat,fun k=>⟨[(3,.x false [.p 3 0]),(4,.x false [.p 4 0]),(5,.x false [.p 5 0]),(7,iA .i64 ((k:Int)+1))],
 [(3,.box 27 [.r far c]),(4,.box 27 [.r sp a]),(5,.box 27 [.r ac b])]⟩,fun k=>k<=50/\ ∀j,1<=j->j<=k-> ¬far<=QM sp ac j,fun k=>50-k,fun _=>0⟩
def Jq (far sp ac:Rat)(n:Nat):Prop:=1<=n/\n<=50/\far<=QM sp ac n/\ ∀j,1<=j->j<n-> ¬far<=QM sp ac j
def GX (far sp ac:Rat):Prop:= ∀j,1<=j->j<=50-> ¬far<=QM sp ac j
theorem QPW (far:Rat)(c:Nat)(sp:Rat)(a:Nat)(ac:Rat)(b:Nat)(hc:c<=1000000)(ha:a<=1000000)(hb:b<=1000000)(K:AV->Prop)(h1: ∀n:Nat,Jq far sp ac n->K (iA .i64 n))(h2:GX far sp ac->K (iA .i64 (-1))):QU (Qc (mkT L27 M27 X4) (oF Tryd.f27) (QKF far c sp a ac b) Tryd.f27 [rA far c,rA sp a,rA ac b] K):=by
 refine HV (((∃(x:Nat),((x<=50/\∀(j:Nat),1<=j->j<=x->¬far<=QM sp ac j)/\OfNat.ofNat 0=0)/\0=0/\0=0/\0=0/\1=Za x+1/\27=27/\far=far/\c<=c/\27=27/\sp=sp/\a<=a/\27=27/\ac=ac/\b<=b/\True)/\∀(x:Nat),(x<=50/\∀(j:Nat),1<=j->j<=x->¬far<=QM sp ac j)->OfNat.ofNat 0=0->bif decide (Za x+1<=50)then(0<=Za x+1/\Za x+1<=50)/\(a<=1000000/\b<=1000000)/\cvB a b (Za x+1).toNat+c<=4294967296/\bif decide (JS (QM sp ac (Za x+1).toNat) far≥0)then K (AV.x false [Ch.v (Ze Zb (Za x+1))])else ∃(x':Nat),((x'<=50/\∀(j:Nat),1<=j->j<=x'->¬far<=QM sp ac j)/\OfNat.ofNat 0=0/\50-x'<50-x)/\0=0/\0=0/\0=0/\Zb.wrap (Za x+1+1)=Za x'+1/\27=27/\far=far/\c<=c/\27=27/\sp=sp/\a<=a/\27=27/\ac=ac/\b<=b/\True else K (AV.x false [Ch.v (Ze Zb (-1))]))) ?_
 simp only[Zh,R0,R1,Nat.le_refl,R4];have cb: ∀x,x<=50->cvB a b x<=64+50*(max a (b+64)+1):=fun x hx=>by
  unfold cvB;have:x*(max a (b+64)+1)<=50*(max a (b+64)+1):=Nat.mul_le_mul_right _ (by omega);omega
 refine⟨⟨0,⟨by omega,fun j h1 h2=>by omega⟩,by omega⟩,fun x hx=>QE (fun hp=> ?_) (fun hp=> ?_)⟩
 ·have hp:x+1<=50:=by have:=R5 hp;omega
  have e2:((x:Int)+1)=((x+1:Nat):Int):=by omega
  have hc2:=cb (x+1) hp;simp only[e2,Zf];refine⟨by omega,by omega,by omega,QE (fun hq=> ?_) (fun hq=> ?_)⟩
  ·have hq:=(GS _ _).1 (R5 hq);exact h1 (x+1) ⟨by omega,hp,hq,fun j a b=>hx.2 j a (by omega)⟩
  ·have hq: ¬far<=QM sp ac (x+1):=fun h=>R6 hq ((GS _ _).2 h);refine⟨x+1,⟨⟨hp,fun j h1 h2=> ?_⟩,by omega⟩,by rw[w64 (by omega)]⟩;by_cases e:j=x+1
   ·subst e;exact hq
   ·exact hx.2 j h1 (by omega)
 ·have hp: ¬x+1<=50:=by have:=R6 hp;omega
  exact h2 fun j a b=>hx.2 j a (by omega)
def QFR:Ctr
 | [.x true [.r far c],.x true [.r sp a],.x true [.r ac b]]=>some fun K=>(c<=1000000/\a<=1000000/\b<=1000000)/\(∀n:Nat,Jq far sp ac n->K (iA .i64 n))/\(GX far sp ac->K (iA .i64 (-1)))
 | _=>none
theorem QM8:QT 27 QFR:=by
 refine okL Tryd.func27 fun l T hT K hK=> ?_
 unfold QFR at hT;split at hT<;>cases hT
 obtain⟨⟨h1,h2,h3⟩,h4,h5⟩:=hK;exact spL (Qq QN6 QN7 XP) QW Tryd.func27 (QPW _ _ _ _ _ _ h1 h2 h3 K h4 h5)
def L28:LC:=(27,QFR)::L27
theorem QQy:QN L28:= .cons QM8 QN6
end Go.Proofs
namespace Go.Proofs
open Go Go.Eng
def Q7 (far sp ac:Rat)(m k:Nat):List Rat:=(List.range k).map fun i=>far/QM sp ac m*XY sp ac m (i+1)
def pfB (c a b m:Nat):Nat:=c+cvB a b m+max a (b+64)
def okM (far sp ac:Rat)(ticks:Int)(m:Nat):Prop:= ∃n,Jq far sp ac n/\m=max n ticks.toNat/\(0<ticks->(n:Int)<=ticks)
def pfH (far:Rat)(c:Nat)(sp:Rat)(a:Nat)(ac:Rat)(b m:Nat):List (Nat×Blk):=[(4,.box 27 [.r far c]),(5,.box 27 [.r sp a]),(6,.box 27 [.r ac b]),(11,.box 27 [.r (far/QM sp ac m) (c+cvB a b m)])]
def pfT (m:Nat):List (Nat×AV):=[(4,.x false [.p 4 0]),(5,.x false [.p 5 0]),(6,.x false [.p 6 0]),(10,iA .i64 m),(11,.x false [.p 11 0])]
def QDU (far:Rat)(c:Nat)(sp:Rat)(a:Nat)(ac:Rat)(b:Nat)(ticks:Int):LI:=fun id=>bif id.beq 6 then .cut ⟨Nat,fun n=>⟨[(3,iA .i64 ticks),(4,.x false [.p 4 0]),(5,.x false [.p 5 0]),(6,.x false [.p 6 0]),(10,iA .i64 n)],[(4,.box 27 [.r far c]),(5,.box 27 [.r sp a]),(6,.box 27 [.r ac b])]⟩,fun n=>Jq far sp ac n/\(0<ticks->(n:Int)<=ticks),fun _=>0,fun _=>0⟩
 else bif id.beq 8 then .cut ⟨Nat,fun m=>⟨pfT m,pfH far c sp a ac b m⟩,okM far sp ac ticks,fun _=>0,fun _=>0⟩
 else bif id.beq 10 then .inv ⟨Nat×Nat,fun x=>⟨(13,.x false [.w 500 0 x.2])::(14,iA .i64 ((x.2:Int)+1))::pfT x.1,
 (500,UW (pfB c a b x.1) (Q7 far sp ac x.1 x.2))::pfH far c sp a ac b x.1⟩,fun x=>okM far sp ac ticks x.1/\x.2<=x.1,fun x=>x.1-x.2,fun _=>0⟩else .no
theorem QQz {α:Sort _}{P Q:α->Prop}{N C B:Prop}(hb:B)(h1: ∀a,P a->Q a)(h2:N->C):(∀a,P a->Q a/\B)/\(N->C/\B):=⟨fun a h=>⟨h1 a h,hb⟩,fun h=>⟨h2 h,hb⟩⟩
theorem QFS (far sp ac:Rat)(m k:Nat):Q7 far sp ac m (k+1)=Q7 far sp ac m k++[far/QM sp ac m*XY sp ac m (k+1)]:=by
 unfold Q7;rw[List.range_succ,List.map_append];rfl
theorem Wg (far sp ac:Rat)(m k:Nat):(Q7 far sp ac m k).length=k:=by simp[Q7]
theorem QPX {q:Rat}(h:0<=q): ¬WV q<0:=by
 unfold WV;have:=Rat.num_nonneg.2 h;split
 ·omega
 ·rw[if_neg (by omega)];omega
theorem QGI {q:Rat}(h:0<q):WV q=1:=by
 unfold WV;have h1:=Rat.num_nonneg.2 (Rat.le_of_lt h);have h2:q.num≠0:=fun e=>by
  rw[Rat.num_eq_zero.1 e]at h;exact absurd h Rat.lt_irrefl
 rw[if_neg h2,if_neg (by omega)]
theorem QM9 {x y:Int}(hx:0<=x)(hy:0<=y):(bif true then if y>x then y else x else if y<x then y else x)=((max x.toNat y.toNat:Nat):Int):=by
 simp only[R7];split<;>omega
set_option maxHeartbeats 1000000 in
theorem QHx (far:Rat)(c:Nat)(sp:Rat)(a:Nat)(ac:Rat)(b:Nat)(ticks:Int)(hc:c<=1000000)(ha:a<=1000000)(hb:b<=1000000)(hf:0<=far)(hs:0<sp)(hac:0<ac)(ht:0<=ticks/\ticks<=50)(K:AV->Prop)(h1: ∀m,okM far sp ac ticks m->K (.t [(false,[.s 3 (lR (pfB c a b m) (Q7 far sp ac m m))]),(false,[.v (.int .i64 0)])]))(h2:GX far sp ac∨(∃n,Jq far sp ac n/\ticks<n/\0<ticks)->K (.t [(false,[.v (.slice none 0 0)]),(false,[.v (.int .i64 19)])])):QU (Qc (mkT L28 M27 X4) (oF Tryd.f6) (QDU far c sp a ac b ticks) Tryd.f6 [rA far c,rA sp a,rA ac b,iA .i64 ticks] K):=by
 refine HV ((c<=4294967296/\bif decide (WV far<0)then K (AV.t [(false,[Ch.v (Zc none 0 0)]),(false,[Ch.v (Ze Zb 1)])])else a<=4294967296/\bif decide (WV sp<=0)then K (AV.t [(false,[Ch.v (Zc none 0 0)]),(false,[Ch.v (Ze Zb 1)])])else b<=4294967296/\bif decide (WV ac<=0)then K (AV.t [(false,[Ch.v (Zc none 0 0)]),(false,[Ch.v (Ze Zb 1)])])else bif decide (ticks<0)then K (AV.t [(false,[Ch.v (Zc none 0 0)]),(false,[Ch.v (Ze Zb 1)])])else bif decide (ticks>50)then K (AV.t [(false,[Ch.v (Zc none 0 0)]),(false,[Ch.v (Ze Zb 1)])])else(c<=1000000/\a<=1000000/\b<=1000000)/\(∀(n:Nat),(1<=n/\n<=50/\far<=QM sp ac n/\∀(j:Nat),1<=j->j<n->¬far<=QM sp ac j)->(bif decide (ticks>0)then bif decide (Za n>ticks)then K (AV.t [(false,[Ch.v (Zc none 0 0)]),(false,[Ch.v (Ze Zb 19)])])else ∃(x:Nat),(((1<=x/\x<=50/\far<=QM sp ac x/\∀(j:Nat),1<=j->j<x->¬far<=QM sp ac j)/\(0<ticks->Za x<=ticks))/\OfNat.ofNat 0=0)/\ticks=ticks/\(0:Nat)=0/\(0:Nat)=0/\(0:Nat)=0/\Za n=Za x/\(27:Nat)=27/\far=far/\c<=c/\(27:Nat)=27/\sp=sp/\a<=a/\(27:Nat)=27/\ac=ac/\b<=b/\True else ∃(x:Nat),(((1<=x/\x<=50/\far<=QM sp ac x/\∀(j:Nat),1<=j->j<x->¬far<=QM sp ac j)/\(0<ticks->Za x<=ticks))/\OfNat.ofNat 0=0)/\ticks=ticks/\(0:Nat)=0/\(0:Nat)=0/\(0:Nat)=0/\Za n=Za x/\(27:Nat)=27/\far=far/\c<=c/\(27:Nat)=27/\sp=sp/\a<=a/\(27:Nat)=27/\ac=ac/\b<=b/\True)/\∀(x:Nat),(1<=x/\x<=50/\far<=QM sp ac x/\∀(j:Nat),1<=j->j<x->¬far<=QM sp ac j)/\(0<ticks->Za x<=ticks)->OfNat.ofNat 0=0->(((0<=bif true then if ticks>Za x then ticks else Za x else if ticks<Za x then ticks else Za x)/\(bif true then if ticks>Za x then ticks else Za x else if ticks<Za x then ticks else Za x)<=50)/\(a<=1000000/\b<=1000000)/\c+cvB a b (bif true then if ticks>Za x then ticks else Za x else if ticks<Za x then ticks else Za x).toNat<=4294967296/\(QM sp ac (bif true then if ticks>Za x then ticks else Za x else if ticks<Za x then ticks else Za x).toNat≠OfNat.ofNat 0->∃(x_1:Nat),((∃(n:Nat),(1<=n/\n<=50/\far<=QM sp ac n/\∀(j:Nat),1<=j->j<n->¬far<=QM sp ac j)/\x_1=max n ticks.toNat/\(0<ticks->Za n<=ticks))/\OfNat.ofNat 0=0)/\(0:Nat)=0/\(0:Nat)=0/\(0:Nat)=0/\(bif true then if ticks>Za x then ticks else Za x else if ticks<Za x then ticks else Za x)=Za x_1/\(0:Nat)=0/\(27:Nat)=27/\far=far/\c<=c/\(27:Nat)=27/\sp=sp/\a<=a/\(27:Nat)=27/\ac=ac/\b<=b/\(27:Nat)=27/\far/QM sp ac (bif true then if ticks>Za x then ticks else Za x else if ticks<Za x then ticks else Za x).toNat=far/QM sp ac x_1/\c+cvB a b (bif true then if ticks>Za x then ticks else Za x else if ticks<Za x then ticks else Za x).toNat<=c+cvB a b x_1/\True)/\(QM sp ac (bif true then if ticks>Za x then ticks else Za x else if ticks<Za x then ticks else Za x).toNat=OfNat.ofNat 0->∃(x_1:Nat),((∃(n:Nat),(1<=n/\n<=50/\far<=QM sp ac n/\∀(j:Nat),1<=j->j<n->¬far<=QM sp ac j)/\x_1=max n ticks.toNat/\(0<ticks->Za n<=ticks))/\OfNat.ofNat 0=0)/\(0:Nat)=0/\(0:Nat)=0/\(0:Nat)=0/\(bif true then if ticks>Za x then ticks else Za x else if ticks<Za x then ticks else Za x)=Za x_1/\(0:Nat)=0/\(27:Nat)=27/\far=far/\c<=c/\(27:Nat)=27/\sp=sp/\a<=a/\(27:Nat)=27/\ac=ac/\b<=b/\(27:Nat)=27/\False))/\∀(x:Nat),okM far sp ac ticks x->OfNat.ofNat 0=0->(∃(x_1:Nat×Nat),(((∃(n:Nat),(1<=n/\n<=50/\far<=QM sp ac n/\∀(j:Nat),1<=j->j<n->¬far<=QM sp ac j)/\x_1.fst=max n ticks.toNat/\(0<ticks->Za n<=ticks))/\x_1.snd<=x_1.fst)/\OfNat.ofNat 0=0)/\Zc none 0 0=Zc none 0 0/\(0:Nat)=0/\x_1.snd=0/\1=Za x_1.snd+1/\(0:Nat)=0/\(0:Nat)=0/\(0:Nat)=0/\Za x=Za x_1.fst/\(0:Nat)=0/\Zg (fun(q:Rat)=>[Ch.r q (pfB c a b x_1.fst)]) (Q7 far sp ac x_1.fst x_1.snd)=[]/\(27:Nat)=27/\far=far/\c<=c/\(27:Nat)=27/\sp=sp/\a<=a/\(27:Nat)=27/\ac=ac/\b<=b/\(27:Nat)=27/\far/QM sp ac x=far/QM sp ac x_1.fst/\c+cvB a b x<=c+cvB a b x_1.fst/\True)/\∀(x:Nat×Nat),okM far sp ac ticks x.fst/\x.snd<=x.fst->OfNat.ofNat 0=0->bif decide (Za x.snd+1<=Za x.fst)then((-9223372036854775808<=bif false then if Zb.wrap (Zb.wrap (Za x.fst+1)-(Za x.snd+1))>Za x.snd+1 then Zb.wrap (Zb.wrap (Za x.fst+1)-(Za x.snd+1))else Za x.snd+1 else if Zb.wrap (Zb.wrap (Za x.fst+1)-(Za x.snd+1))<Za x.snd+1 then Zb.wrap (Zb.wrap (Za x.fst+1)-(Za x.snd+1))else Za x.snd+1)/\(bif false then if Zb.wrap (Zb.wrap (Za x.fst+1)-(Za x.snd+1))>Za x.snd+1 then Zb.wrap (Zb.wrap (Za x.fst+1)-(Za x.snd+1))else Za x.snd+1 else if Zb.wrap (Zb.wrap (Za x.fst+1)-(Za x.snd+1))<Za x.snd+1 then Zb.wrap (Zb.wrap (Za x.fst+1)-(Za x.snd+1))else Za x.snd+1)<9223372036854775808)/\b+64<=4294967296/\a+(b+64)<=4294967296/\c+cvB a b x.fst+max a (b+64)<=4294967296/\((x.snd+1)*40<=140737488355328/\x.snd+1<=9223372036854775807)/\∃(x':Nat×Nat),(((∃(n:Nat),(1<=n/\n<=50/\far<=QM sp ac n/\∀(j:Nat),1<=j->j<n->¬far<=QM sp ac j)/\x'.fst=max n ticks.toNat/\(0<ticks->Za n<=ticks))/\x'.snd<=x'.fst)/\OfNat.ofNat 0=0/\x'.fst-x'.snd<x.fst-x.snd)/\(0:Nat)=0/\x.snd+1=x'.snd/\Zb.wrap (Za x.snd+1+1)=Za x'.snd+1/\(0:Nat)=0/\(0:Nat)=0/\(0:Nat)=0/\Za x.fst=Za x'.fst/\(0:Nat)=0/\(27:Nat)=27/\(3:Nat)=3/\(Zi x.snd (Zg (fun(q:Rat)=>[Ch.r q (pfB c a b x.fst)]) (Q7 far sp ac x.fst x.snd))++[[Ch.r (far/QM sp ac x.fst*J9 sp (ac*↑(bif false then if Zb.wrap (Zb.wrap (Za x.fst+1)-(Za x.snd+1))>Za x.snd+1 then Zb.wrap (Zb.wrap (Za x.fst+1)-(Za x.snd+1))else Za x.snd+1 else if Zb.wrap (Zb.wrap (Za x.fst+1)-(Za x.snd+1))<Za x.snd+1 then Zb.wrap (Zb.wrap (Za x.fst+1)-(Za x.snd+1))else Za x.snd+1))) (c+cvB a b x.fst+max a (b+64))]]=Zg (fun(q:Rat)=>[Ch.r q (pfB c a b x'.fst)]) (Q7 far sp ac x'.fst x'.snd)∨QG (Zi x.snd (Zg (fun(q:Rat)=>[Ch.r q (pfB c a b x.fst)]) (Q7 far sp ac x.fst x.snd))++[[Ch.r (far/QM sp ac x.fst*J9 sp (ac*↑(bif false then if Zb.wrap (Zb.wrap (Za x.fst+1)-(Za x.snd+1))>Za x.snd+1 then Zb.wrap (Zb.wrap (Za x.fst+1)-(Za x.snd+1))else Za x.snd+1 else if Zb.wrap (Zb.wrap (Za x.fst+1)-(Za x.snd+1))<Za x.snd+1 then Zb.wrap (Zb.wrap (Za x.fst+1)-(Za x.snd+1))else Za x.snd+1))) (c+cvB a b x.fst+max a (b+64))]]) (Zg (fun(q:Rat)=>[Ch.r q (pfB c a b x'.fst)]) (Q7 far sp ac x'.fst x'.snd)))/\(27:Nat)=27/\far=far/\c<=c/\(27:Nat)=27/\sp=sp/\a<=a/\(27:Nat)=27/\ac=ac/\b<=b/\(27:Nat)=27/\far/QM sp ac x.fst=far/QM sp ac x'.fst/\c+cvB a b x.fst<=c+cvB a b x'.fst/\True else K (AV.t [(false,[Ch.s 3 (Zi x.snd (List.drop 0 (Zg (fun(q:Rat)=>[Ch.r q (pfB c a b x.fst)]) (Q7 far sp ac x.fst x.snd))))]),(false,[Ch.v (Ze Zb 0)])]))/\((∀(j:Nat),1<=j->j<=50->¬far<=QM sp ac j)->K (AV.t [(false,[Ch.v (Zc none 0 0)]),(false,[Ch.v (Ze Zb 19)])])/\∀(x:Nat),(1<=x/\x<=50/\far<=QM sp ac x/\∀(j:Nat),1<=j->j<x->¬far<=QM sp ac j)/\(0<ticks->Za x<=ticks)->OfNat.ofNat 0=0->(((0<=bif true then if ticks>Za x then ticks else Za x else if ticks<Za x then ticks else Za x)/\(bif true then if ticks>Za x then ticks else Za x else if ticks<Za x then ticks else Za x)<=50)/\(a<=1000000/\b<=1000000)/\c+cvB a b (bif true then if ticks>Za x then ticks else Za x else if ticks<Za x then ticks else Za x).toNat<=4294967296/\(QM sp ac (bif true then if ticks>Za x then ticks else Za x else if ticks<Za x then ticks else Za x).toNat≠OfNat.ofNat 0->∃(x_1:Nat),((∃(n:Nat),(1<=n/\n<=50/\far<=QM sp ac n/\∀(j:Nat),1<=j->j<n->¬far<=QM sp ac j)/\x_1=max n ticks.toNat/\(0<ticks->Za n<=ticks))/\OfNat.ofNat 0=0)/\(0:Nat)=0/\(0:Nat)=0/\(0:Nat)=0/\(bif true then if ticks>Za x then ticks else Za x else if ticks<Za x then ticks else Za x)=Za x_1/\(0:Nat)=0/\(27:Nat)=27/\far=far/\c<=c/\(27:Nat)=27/\sp=sp/\a<=a/\(27:Nat)=27/\ac=ac/\b<=b/\(27:Nat)=27/\far/QM sp ac (bif true then if ticks>Za x then ticks else Za x else if ticks<Za x then ticks else Za x).toNat=far/QM sp ac x_1/\c+cvB a b (bif true then if ticks>Za x then ticks else Za x else if ticks<Za x then ticks else Za x).toNat<=c+cvB a b x_1/\True)/\(QM sp ac (bif true then if ticks>Za x then ticks else Za x else if ticks<Za x then ticks else Za x).toNat=OfNat.ofNat 0->∃(x_1:Nat),((∃(n:Nat),(1<=n/\n<=50/\far<=QM sp ac n/\∀(j:Nat),1<=j->j<n->¬far<=QM sp ac j)/\x_1=max n ticks.toNat/\(0<ticks->Za n<=ticks))/\OfNat.ofNat 0=0)/\(0:Nat)=0/\(0:Nat)=0/\(0:Nat)=0/\(bif true then if ticks>Za x then ticks else Za x else if ticks<Za x then ticks else Za x)=Za x_1/\(0:Nat)=0/\(27:Nat)=27/\far=far/\c<=c/\(27:Nat)=27/\sp=sp/\a<=a/\(27:Nat)=27/\ac=ac/\b<=b/\(27:Nat)=27/\False))/\∀(x:Nat),okM far sp ac ticks x->OfNat.ofNat 0=0->(∃(x_1:Nat×Nat),(((∃(n:Nat),(1<=n/\n<=50/\far<=QM sp ac n/\∀(j:Nat),1<=j->j<n->¬far<=QM sp ac j)/\x_1.fst=max n ticks.toNat/\(0<ticks->Za n<=ticks))/\x_1.snd<=x_1.fst)/\OfNat.ofNat 0=0)/\Zc none 0 0=Zc none 0 0/\(0:Nat)=0/\x_1.snd=0/\1=Za x_1.snd+1/\(0:Nat)=0/\(0:Nat)=0/\(0:Nat)=0/\Za x=Za x_1.fst/\(0:Nat)=0/\Zg (fun(q:Rat)=>[Ch.r q (pfB c a b x_1.fst)]) (Q7 far sp ac x_1.fst x_1.snd)=[]/\(27:Nat)=27/\far=far/\c<=c/\(27:Nat)=27/\sp=sp/\a<=a/\(27:Nat)=27/\ac=ac/\b<=b/\(27:Nat)=27/\far/QM sp ac x=far/QM sp ac x_1.fst/\c+cvB a b x<=c+cvB a b x_1.fst/\True)/\∀(x:Nat×Nat),okM far sp ac ticks x.fst/\x.snd<=x.fst->OfNat.ofNat 0=0->bif decide (Za x.snd+1<=Za x.fst)then((-9223372036854775808<=bif false then if Zb.wrap (Zb.wrap (Za x.fst+1)-(Za x.snd+1))>Za x.snd+1 then Zb.wrap (Zb.wrap (Za x.fst+1)-(Za x.snd+1))else Za x.snd+1 else if Zb.wrap (Zb.wrap (Za x.fst+1)-(Za x.snd+1))<Za x.snd+1 then Zb.wrap (Zb.wrap (Za x.fst+1)-(Za x.snd+1))else Za x.snd+1)/\(bif false then if Zb.wrap (Zb.wrap (Za x.fst+1)-(Za x.snd+1))>Za x.snd+1 then Zb.wrap (Zb.wrap (Za x.fst+1)-(Za x.snd+1))else Za x.snd+1 else if Zb.wrap (Zb.wrap (Za x.fst+1)-(Za x.snd+1))<Za x.snd+1 then Zb.wrap (Zb.wrap (Za x.fst+1)-(Za x.snd+1))else Za x.snd+1)<9223372036854775808)/\b+64<=4294967296/\a+(b+64)<=4294967296/\c+cvB a b x.fst+max a (b+64)<=4294967296/\((x.snd+1)*40<=140737488355328/\x.snd+1<=9223372036854775807)/\∃(x':Nat×Nat),(((∃(n:Nat),(1<=n/\n<=50/\far<=QM sp ac n/\∀(j:Nat),1<=j->j<n->¬far<=QM sp ac j)/\x'.fst=max n ticks.toNat/\(0<ticks->Za n<=ticks))/\x'.snd<=x'.fst)/\OfNat.ofNat 0=0/\x'.fst-x'.snd<x.fst-x.snd)/\(0:Nat)=0/\x.snd+1=x'.snd/\Zb.wrap (Za x.snd+1+1)=Za x'.snd+1/\(0:Nat)=0/\(0:Nat)=0/\(0:Nat)=0/\Za x.fst=Za x'.fst/\(0:Nat)=0/\(27:Nat)=27/\(3:Nat)=3/\(Zi x.snd (Zg (fun(q:Rat)=>[Ch.r q (pfB c a b x.fst)]) (Q7 far sp ac x.fst x.snd))++[[Ch.r (far/QM sp ac x.fst*J9 sp (ac*↑(bif false then if Zb.wrap (Zb.wrap (Za x.fst+1)-(Za x.snd+1))>Za x.snd+1 then Zb.wrap (Zb.wrap (Za x.fst+1)-(Za x.snd+1))else Za x.snd+1 else if Zb.wrap (Zb.wrap (Za x.fst+1)-(Za x.snd+1))<Za x.snd+1 then Zb.wrap (Zb.wrap (Za x.fst+1)-(Za x.snd+1))else Za x.snd+1))) (c+cvB a b x.fst+max a (b+64))]]=Zg (fun(q:Rat)=>[Ch.r q (pfB c a b x'.fst)]) (Q7 far sp ac x'.fst x'.snd)∨QG (Zi x.snd (Zg (fun(q:Rat)=>[Ch.r q (pfB c a b x.fst)]) (Q7 far sp ac x.fst x.snd))++[[Ch.r (far/QM sp ac x.fst*J9 sp (ac*↑(bif false then if Zb.wrap (Zb.wrap (Za x.fst+1)-(Za x.snd+1))>Za x.snd+1 then Zb.wrap (Zb.wrap (Za x.fst+1)-(Za x.snd+1))else Za x.snd+1 else if Zb.wrap (Zb.wrap (Za x.fst+1)-(Za x.snd+1))<Za x.snd+1 then Zb.wrap (Zb.wrap (Za x.fst+1)-(Za x.snd+1))else Za x.snd+1))) (c+cvB a b x.fst+max a (b+64))]]) (Zg (fun(q:Rat)=>[Ch.r q (pfB c a b x'.fst)]) (Q7 far sp ac x'.fst x'.snd)))/\(27:Nat)=27/\far=far/\c<=c/\(27:Nat)=27/\sp=sp/\a<=a/\(27:Nat)=27/\ac=ac/\b<=b/\(27:Nat)=27/\far/QM sp ac x.fst=far/QM sp ac x'.fst/\c+cvB a b x.fst<=c+cvB a b x'.fst/\True else K (AV.t [(false,[Ch.s 3 (Zi x.snd (List.drop 0 (Zg (fun(q:Rat)=>[Ch.r q (pfB c a b x.fst)]) (Q7 far sp ac x.fst x.snd))))]),(false,[Ch.v (Ze Zb 0)])])))) ?_
 simp only[Zh,R0,R1,Nat.le_refl,R4];have cb: ∀x,x<=50->cvB a b x<=64+50*(max a (b+64)+1):=fun x hx=>by
  unfold cvB;have:x*(max a (b+64)+1)<=50*(max a (b+64)+1):=Nat.mul_le_mul_right _ (by omega);omega
 have lm: ∀{m},okM far sp ac ticks m->1<=m/\m<=50:=fun⟨n,h,e,_⟩=>by
  have:=h.1;have:=h.2.1;omega
 refine⟨by omega,QE (fun h=>absurd (R5 h) (QPX hf)) (fun _=>⟨by omega,QE (fun h=> ?_) (fun _=>⟨by omega,QE (fun h=> ?_) (fun _=>QE (fun h=> ?_) (fun _=>QE (fun h=> ?_) (fun _=>⟨by omega,?_⟩)))⟩)⟩)⟩
 ·have:=R5 h;rw[QGI hs]at this;omega
 ·have:=R5 h;rw[QGI hac]at this;omega
 ·have:=R5 h;omega
 ·have:=R5 h;omega
 refine QQz (fun x hx=> ?_) (fun n hn=>QE (fun h=>QE (fun h'=> ?_) (fun h'=> ?_)) (fun h=> ?_)) (fun h=>h2 (.inl h));rotate_left
 ·have h:=R5 h;have h':=R5 h';exact h2 (.inr ⟨n,hn,by omega,h⟩)
 ·have h':=R6 h';exact⟨n,⟨hn,fun _=>by omega⟩,rfl⟩
 ·have h:=R6 h;exact⟨n,⟨hn,fun h'=>by omega⟩,rfl⟩
 ·obtain⟨hx,hxt⟩:=hx;have l1:=hx.1;have l2:=hx.2.1;have hok:okM far sp ac ticks (max x ticks.toNat):=⟨x,hx,rfl,hxt⟩;have lmx:=lm hok;simp only[QM9 (x:=(x:Int)) (y:=ticks) (by omega) ht.1,Zf];have hpos:=VJ hs hac lmx.1;have hcv:=cb _ lmx.2;refine⟨⟨by omega,by omega,by omega,fun _=>⟨_,hok,rfl,rfl,Nat.le_refl _⟩,fun h=> ?_⟩,fun m hm=>⟨⟨(m,0),⟨hm,Nat.zero_le _⟩,rfl,by simp,rfl,by simp[Q7],rfl,Nat.le_refl _⟩,fun y hy=> ?_⟩⟩
  ·rw[h]at hpos;exact absurd hpos Rat.lt_irrefl
  ·obtain⟨m,k⟩:=y;obtain⟨hm,hk⟩:=hy;have lmm:=lm hm;have hcv:=cb _ lmm.2;simp only at hk lmm hm hcv⊢;refine QE (fun hp=> ?_) (fun hp=> ?_)
   ·have hp:k+1<=m:=by have:=R5 hp;omega
    have e1:Zb.wrap (Zb.wrap ((m:Int)+1)-((k:Int)+1))=((m-k:Nat):Int):=by
     rw[w64 (n:=(m:Int)+1) (by omega),w64 (by omega)];omega
    have e2:((k:Int)+1)=((k+1:Nat):Int):=by omega
    simp only[e1];simp only[e2,QGH (x:=((k+1:Nat):Int)) (y:=((m-k:Nat):Int)) (by omega) (by omega),Zf];refine⟨by omega,by omega,by omega,by omega,by omega,(m,k+1),⟨⟨hm,hp⟩,by simp only;omega⟩,rfl,by rw[w64 (by omega)],rfl,.inl ?_,rfl,Nat.le_refl _⟩;rw[List.take_of_length_le (by simp[Wg]),QFS,List.map_append];simp only[List.map_cons,List.map_nil];unfold XY pfB;rw[show m+1-(k+1)=m-k by omega];rfl
   ·have hp:k=m:=by have:=R6 hp;omega
    subst hp;rw[List.drop_zero,List.take_of_length_le (by simp[Wg])];exact h1 k hm
def UX:Ctr
 | [.x true [.r far c],.x true [.r sp a],.x true [.r ac b],.x false [.v (.int .i64 ticks)]]=>some fun K=>(c<=1000000/\a<=1000000/\b<=1000000)/\(0<=far/\0<sp/\0<ac)/\(0<=ticks/\ticks<=50)/\
   (∀m,okM far sp ac ticks m->K (.t [(false,[.s 3 (lR (pfB c a b m) (Q7 far sp ac m m))]),(false,[.v (.int .i64 0)])]))/\
   (GX far sp ac∨(∃n:Nat,Jq far sp ac n/\ticks<n/\0<ticks)->K (.t [(false,[.v (.slice none 0 0)]),(false,[.v (.int .i64 19)])]))
 | _=>none
theorem QFT:QT 6 UX:=by
 refine okL Tryd.func6 fun l T hT K hK=> ?_
 unfold UX at hT;split at hT<;>cases hT
 obtain⟨⟨h1,h2,h3⟩,⟨h4,h5,h6⟩,h7,h8,h9⟩:=hK;exact spL (Qq QQy QN7 XP) QW Tryd.func6 (QHx _ _ _ _ _ _ _ h1 h2 h3 h4 h5 h6 h7 K h8 h9)
end Go.Proofs
namespace Go.Proofs
open Go Go.Eng
def vP (far sp ac:Rat)(m k:Nat):Rat:=far/QM sp ac m*XY sp ac m k
def spI (y:Int):Rat:=mkRat (1+y % 12) 6
theorem ok1 {m:Nat}(h:okM (mkRat 4 1) (mkRat 2 1) (mkRat 1 1) 0 m):m=3:=by
 obtain⟨n,⟨h1,h2,h3,h4⟩,rfl,_⟩:=h;have e3:mkRat 4 1<=QM (mkRat 2 1) (mkRat 1 1) 3:=by decide+kernel
 have e2: ¬mkRat 4 1<=QM (mkRat 2 1) (mkRat 1 1) 2:=by decide+kernel
 have e1: ¬mkRat 4 1<=QM (mkRat 2 1) (mkRat 1 1) 1:=by decide+kernel
 have h5: ¬3<n:=fun h=>h4 3 (by omega) h e3;have:n=1∨n=2∨n=3:=by omega
 rcases this with rfl | rfl | rfl
 ·exact absurd h3 e1
 ·exact absurd h3 e2
 ·rfl
theorem QKG {far sp ac:Rat}{m k i:Nat}(h:i<k):(Q7 far sp ac m k)[i]? =some (vP far sp ac m (i+1)):=by
 unfold Q7 vP;rw[List.getElem?_map,List.getElem?_range h];rfl
end Go.Proofs
