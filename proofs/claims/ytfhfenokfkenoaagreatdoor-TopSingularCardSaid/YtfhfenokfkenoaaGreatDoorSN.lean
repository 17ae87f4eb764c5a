/- Power of rates that are not small; rvTwo. -/
import Derived.Test.YtfhfenokfkenoaaGreatDoorFT
import Derived.Test.YtfhfenokfkenoaaGreatDoorIF
import Derived.Test.YtfhfenokfkenoaaGreatDoorSA
open Int renaming ofNat → Za
open ByteArray renaming mk → Zb
open List renaming map → Zc, zipWith → Ze
open Array renaming mk → Zd
namespace Go.Proofs
open Go Go.Eng
def QQg (a:ArmV)(qs:List Rat)(u:Rat)(c:Nat)(v:Rat)(d:Nat)(r:Nat)(rs:List Rat):LI:=fun _=> .inv ⟨PwX,fun x=>⟨[(2,sR r rs),(8,.x false [.p 8 0]),(10,sR (265600010+c+d) x.ts),(12,.x false [.p 12 0]),(36,iA .i64 a.links.length),(37,iA .i64 x.i)],
 [(8,.box 25 VX),(12,.box 25 [.r x.s (64+830000000*x.i)])]⟩,PwI a qs u v rs,fun x=>a.links.length-x.i,fun _=>0⟩
set_option maxHeartbeats 1000000 in
theorem QT8 (a:ArmV)(b:Nat)(qs:List Rat)(r:Nat)(rs:List Rat)(u:Rat)(c:Nat)(v:Rat)(d:Nat)(hc:(QU a)/\(b<=400/\qs.length=a.links.length)/\(r<=531400000/\rs.length=a.links.length)/\(c<=1000/\d<=1000))(K:AV->Prop)(hK: ∀(fs:List FrV) (f:FrV),fs++[f]=Ql (XF a) a.links qs->fs.length=a.links.length-> ∀n,n<=2500000000->K (.t [(true,[.r (Uq (YB f u v fs) rs 0) n]),(false,[.v (.int .i64 0)])])):QK (QP (mkT QSq M79 X4) (oF Tryz.f30) (QQg a qs u c v d r rs) Tryz.f30 [Jq a,sR b qs,sR r rs,.x true [.r u c,.r v d]] K):=by
 refine HV ((∃(a_1:ArmV),∃(b_1:Nat),∃(qs_1:List Rat),[Ch.v (Value.string a.name),Ch.r a.x 63,Ch.r a.y 63,Ch.v (Value.bool a.half),Ch.r a.t 63,Ch.s 16 (Zc QG a.links)]=[Ch.v (Value.string a_1.name),Ch.r a_1.x 63,Ch.r a_1.y 63,Ch.v (Value.bool a_1.half),Ch.r a_1.t 63,Ch.s 16 (Zc QG a_1.links)]/\lR b qs=lR b_1 qs_1/\(QU a_1/\(b_1<=400/\qs_1.length=a_1.links.length)/\c<=300000000/\d<=300000000)/\∀(fs:List FrV) (f:FrV),fs++[f]=Ql (XF a_1) a_1.links qs_1->fs.length=a_1.links.length->bif Za (lR r rs).length !=Za (lR (265600010+c+d) (YB f u v fs)).length then K (AV.t [(true,[Ch.v (Value.bool false),Ch.v (Value.string (Zb (Zd []))),Ch.v (Value.string (Zb (Zd [])))]),(false,[Ch.v (Value.int IntKind.i64 1)])])else((-9223372036854775808:Int)<=0/\(0:Int)<9223372036854775808)/\(∃(x:PwX),(PwI a qs u v rs x/\OfNat.ofNat 0=0)/\3=3/\lR r rs=lR r rs/\0=0/\3=3/\lR (265600010+c+d) (YB f u v fs)=lR (265600010+c+d) x.ts/\0=0/\Za (lR (265600010+c+d) (YB f u v fs)).length=Za a.links.length/\0=Za x.i/\25=25/\false=false/\Zb (Zd [])=Zb (Zd [])/\Zb (Zd [])=Zb (Zd [])/\25=25/\↑(0:Int)=x.s/\64<=64+830000000*x.i/\True)/\∀(x:PwX),PwI a qs u v rs x->OfNat.ofNat 0=0->bif decide (Za x.i<Za a.links.length)then(0<=Za x.i/\Za x.i<Za (lR (265600010+c+d) x.ts).length)/\∃(q:Rat),∃(n:Nat),ldE (lR (265600010+c+d) x.ts) (Za x.i).toNat 0 3=some [Ch.r q n]/\(0<=Za x.i/\Za x.i<Za (lR r rs).length)/\∃(q_1:Rat),∃(n_1:Nat),ldE (lR r rs) (Za x.i).toNat 0 3=some [Ch.r q_1 n_1]/\n+n_1<=4294967296/\64+830000000*x.i+(n+n_1)+1<=4294967296/\∃(x':PwX),(PwI a qs u v rs x'/\OfNat.ofNat 0=0/\a.links.length-x'.i<a.links.length-x.i)/\3=3/\lR r rs=lR r rs/\0=0/\3=3/\lR (265600010+c+d) x.ts=lR (265600010+c+d) x'.ts/\0=0/\Za a.links.length=Za a.links.length/\IntKind.i64.wrap (Za x.i+1)=Za x'.i/\25=25/\false=false/\Zb (Zd [])=Zb (Zd [])/\Zb (Zd [])=Zb (Zd [])/\25=25/\x.s+q*q_1=x'.s/\64+830000000*x.i+(n+n_1)+1<=64+830000000*x'.i/\True else K (AV.t [(true,[Ch.r x.s (64+830000000*x.i)]),(false,[Ch.v (Value.int IntKind.i64 0)])]))) ?_
 try simp only[Int.ofNat_eq_natCast,R0,R1,R4]
 obtain⟨hg,⟨hb,hq⟩,⟨hr,hrs⟩,hcd⟩:=hc;have hn:=hg.n;have hcl: ∀(fs:List FrV) f,(YB f u v fs).length=fs.length:=fun _ _=>by simp[YB]
 refine⟨a,b,qs,rfl,rfl,⟨hg,⟨hb,hq⟩,by omega⟩,fun fs f hf hl=> ?_⟩;simp only[XH,hcl];refine QC (fun h=>by simp[hl,hrs]at h) (fun _=>⟨by omega,⟨⟨YB f u v fs,0,0⟩,⟨by rw[hcl,hl],⟨fs,f,hf,hl,rfl⟩,rfl,by simp⟩,rfl,by omega,rfl,rfl,by simp⟩,fun x hx=>QC (fun hp=> ?_) (fun hp=> ?_)⟩)
 ·have hp:x.i<a.links.length:=by have:=R5 hp;omega
  have hxl:=hx.len;obtain⟨q,hqx⟩: ∃q,x.ts[x.i]? =some q:=⟨_,List.getElem?_eq_getElem (by omega)⟩
  obtain⟨w,hwx⟩: ∃w,rs[x.i]? =some w:=⟨_,List.getElem?_eq_getElem (by omega)⟩
  have he:=hx.eq;rw[QFt hqx,QFt hwx,Uq]at he;exact⟨by omega,_,_,Xk (by simpa using hqx),by omega,_,_,Xk (by simpa using hwx),by omega,by omega,⟨x.ts,_,x.i+1⟩,⟨⟨hxl,hx.ts,he,hp⟩,by simp only;omega⟩,rfl,by rw[w64 (by omega)];simp,rfl,by simp only;omega⟩
 ·have hp:x.i=a.links.length:=by have:=R6 hp;have:=hx.le;omega
  obtain⟨fs',f',h1,h2,h3⟩:=hx.ts;have hxl:=hx.len;have he:=hx.eq;rw[List.drop_of_length_le (by omega:x.ts.length<=x.i),Uq]at he;have:=hK fs' f' h1 h2 (64+830000000*x.i) (by omega);rw[<-h3,<-he]at this;exact this;all_goals intros;contradiction
def Gu:Ctr
 | [.x true xs,.x false [.s 3 ys],.x false [.s 3 zs],.x true [.r u c,.r v d]]=>some fun K=> ∃(a:ArmV) (b:Nat) (qs:List Rat) (r:Nat) (rs:List Rat),xs=Xd a/\ys=lR b qs/\zs=lR r rs/\((QU a)/\(b<=400/\qs.length=a.links.length)/\(r<=531400000/\rs.length=a.links.length)/\(c<=1000/\d<=1000))/\(∀(fs:List FrV) (f:FrV),fs++[f]=Ql (XF a) a.links qs->fs.length=a.links.length-> ∀n,n<=2500000000->K (.t [(true,[.r (Uq (YB f u v fs) rs 0) n]),(false,[.v (.int .i64 0)])]))
 | _=>none
theorem QQh:QI 30 Gu:=by
 refine okL Tryz.func30 fun l T hT K hK=> ?_
 unfold Gu at hT;split at hT<;>cases hT
 obtain⟨a,b,qs,r,rs,rfl,rfl,rfl,hc,hK⟩:=hK;exact spL (QS QWr Xe Qm) QM Tryz.func30 (QT8 _ _ _ _ _ _ _ _ _ hc K hK)
def Qac:LC:=(30,Gu)::QSq
noncomputable def QbI:Qb:=mkT Qac M79 X4
theorem QYL (l:List Int)(hc:(l.length*8<=140737488351232))(K:AV->Prop)(hK: ∀a:ArmV,MadeA a->a.links.length=2->K (Jq a)):QK (QP (mkT QPM QS8 X4) (oF Tryz.f24) noL Tryz.f24 [.x false [.s 1 (ints l)]] K):=by
 refine HV ((∃(l_1:List Int),ints l=ints l_1/\l_1.length<=9223372036854775807/\∀(a:ArmV),Made a/\1<=a.links.length->((3+(ints l).length)*8<=140737488355328/\3+(ints l).length<=9223372036854775807)/\∃(l_2:List Int),List.take (3+(ints l).length) ([Ch.v (Value.int IntKind.i64 0)]::[Ch.v (Value.int IntKind.i64 0)]::[Ch.v (Value.int IntKind.i64 2)]::ints l)=ints l_2/\l_2.length<=9223372036854775807/\∀(a_2:ArmV),Made a_2/\1<=a_2.links.length->∃(ls:List QY),Zc QG a.links=Zc QG ls/\ls≠[]/\ls.length<=3/\((ls.length+(Zc QG a_2.links).length)*224<=140737488355328/\ls.length+(Zc QG a_2.links).length<=9223372036854775807)/\((0:Int)<=0/\(0:Int)<=2/\2<=Za (ls.length+(Zc QG a_2.links).length))/\K (AV.x true [Ch.v (Value.string a.name),Ch.r a.x 63,Ch.r a.y 63,Ch.v (Value.bool a.half),Ch.r a.t 63,Ch.s 16 (List.take 2 (List.drop 0 (List.take ls.length (Zc QG ls)++Zc QG a_2.links)))]))) ?_
 try simp only[Int.ofNat_eq_natCast]
 refine⟨l,rfl,by omega,fun a ha=>⟨by rw[QFl];omega,0::0::2::l,List.take_of_length_le (by simp[ints];omega),by simp only[List.length_cons];omega,fun a2 ha2=> ?_⟩⟩;have g1:=MadeA.good ha;have g2:=MadeA.good ha2;have n1:=g1.n;have n2:=g2.n;refine⟨a.links,rfl,fun e=>by rw[e]at n1;simp at n1,n1.2,by rw[List.length_map];omega,by rw[List.length_map];omega,?_⟩;have:=hK ⟨a.name,a.x,a.y,a.half,a.t,(a.links++a2.links).take 2⟩ ⟨⟨ha.1.name,ha.1.x,ha.1.y,ha.1.half,ha.1.t,by simp;omega,fun L hL=>(List.mem_append.1 (List.mem_of_mem_take hL)).elim (ha.1.links L) (ha2.1.links L)⟩,by simp;omega⟩ (by simp;omega)
 rw[show List.take a.links.length (Zc QG a.links)=Zc QG a.links from List.take_of_length_le (by simp),List.drop_zero,<-List.map_append,<-List.map_take];exact this
def QEY:Ctr
 | [.x false [.s 1 xs]]=>some fun K=> ∃(l:List Int),xs=ints l/\((l.length*8<=140737488351232))/\(∀a:ArmV,MadeA a->a.links.length=2->K (Jq a))
 | _=>none
theorem QT9:QI 24 QEY:=by
 refine okL Tryz.func24 fun l T hT K hK=> ?_
 unfold QEY at hT;split at hT<;>cases hT
 obtain⟨l,rfl,hc,hK⟩:=hK;exact spL (QS QPN QXd Qm) QM Tryz.func24 (QYL _ hc K hK)
def Qa7:LC:=(24,QEY)::QPM
noncomputable def QbU:Qb:=mkT Qa7 QS8 X4
end Go.Proofs
namespace Go.Proofs
open Go Go.Eng
theorem QYM (n:Bool): ¬(rk (!false) n<2):=by cases n<;>decide
theorem QUA {a:ArmV}{L0 L1:QY}{t0 t1:Rat}{fs:List FrV}{f:FrV}(l0:1<=L0.len)(l1:1<=L1.len)(hf:fs++[f]=Ql (XF a) [L0,L1] [t0,t1])(hr:YP (XU f fs)<2):t1=0:=by
  have hf:fs++[f]=[Xn (XF a) ⟨0,0,false,t0⟩,Xn (Xn (Xn (XF a) ⟨0,0,false,t0⟩) ⟨L0.len,0,false,0⟩) ⟨0,0,false,t1⟩]++[Xn (Xn (Xn (Xn (XF a) ⟨0,0,false,t0⟩) ⟨L0.len,0,false,0⟩) ⟨0,0,false,t1⟩) ⟨L1.len,0,false,0⟩]:=hf;obtain⟨rfl,rfl⟩:=Ur hf;unfold XU at hr;simp only[List.map_cons,List.map_nil]at hr;rw[QFv]at hr
  have h0:=Classical.byContradiction fun k=>absurd hr (by
    rw[decide_eq_false k]
    exact QYM _)
  unfold crs Xn QDr QDs XF at h0;simp only[(QCZ _ _ _ _).1,(QCZ _ _ _ _).2,Gs.1,Gs.2]at h0;have e:=cs1 a.half a.t;have e0:=cs1 false t0;obtain⟨_,k4⟩:=QBb t1;have e1:=cs1 false t1;have n:=Xq t1;generalize Qz a.half a.t=c at*;generalize Qv a.half a.t=s at*;generalize Qz false t0=c0 at*;generalize Qv false t0=s0 at*;generalize Qz false t1=c1 at*;generalize Qv false t1=s1 at*;have h1:L0.len*(L1.len*s1)*((c*c+s*s)*(c0*c0+s0*s0))=0:=by grind
  rw[e,e0]at h1;have h2:L0.len*(L1.len*s1)=0:=by grind
  have h3:L1.len*s1=0:=(Rat.mul_eq_zero.1 h2).resolve_left (by grind);have h4:s1=0:=(Rat.mul_eq_zero.1 h3).resolve_left (by grind);rw[h4]at k4;grind
theorem QIq: ∀(qs ws:List Rat),qs.length=ws.length->Ze YO qs (Ze (fun q w=>w/YO q 1) qs ws)=ws:=by
 intro qs;induction qs with
 | nil=>intro ws h;cases ws with | nil=>rfl | cons _ _=>simp at h
 | cons q qs ih=>
  intro ws h;match ws,h with
  | w::ws,h=>
   simp only[List.zipWith_cons_cons,QOP];rw[show Ze YO qs (Ze (fun q w=>w/YO q 1) qs ws)=ws from ih ws (by simpa using h)]
theorem QUB (f:FrV)(u v:Rat): ∀(fs:List FrV) (ws:List Rat) (x y:Rat),Uq (YB f u v fs) ws (u*x+v*y)=u*(Ky (XU f fs) ws x y).1+v*(Ky (XU f fs) ws x y).2:=by
 intro fs;induction fs with
 | nil=>intro ws x y;rfl
 | cons g fs ih=>
  intro ws x y;match ws with
  | []=>rfl
  | w::ws=>
   show Uq (YB f u v fs) ws (u*x+v*y+((f.x-g.x)*v-(f.y-g.y)*u)*w)=u*(Ky (XU f fs) ws (x+ -(f.y-g.y)*w) (y+(f.x-g.x)*w)).1+v*(Ky (XU f fs) ws (x+ -(f.y-g.y)*w) (y+(f.x-g.x)*w)).2
   rw[<-ih];congr 1;grind
theorem QMD {f:FrV}{fs:List FrV}{ws:List Rat}(u v:Rat)(h:Ky (XU f fs) ws 0 0=(0,0)):Uq (YB f u v fs) ws 0=0:=by
  have:=QUB f u v fs ws 0 0;rw[h]at this;have e:u*0+v*0=(0:Rat):=by grind
  rw[e]at this;rw[this]
end Go.Proofs
