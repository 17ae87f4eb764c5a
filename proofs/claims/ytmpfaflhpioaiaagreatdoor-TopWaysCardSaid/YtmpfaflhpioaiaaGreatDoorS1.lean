/- Ways: plain laws. -/
import Derived.Test.YtmpfaflhpioaiaaGreatDoorAJ
open _root_ renaming List → A, Nat → B, Rat → C
open Int renaming ofNat → D
open List renaming length → E, take → Zc, map → Zb, take_of_length_le → Zd
set_option maxHeartbeats 200000
set_option maxRecDepth 100000
namespace Go.Proofs
open Go Go.Eng Tryz
def dst:A C->A C->C
 | p::a,q::b=>Xr (q-p)+dst a b
 | _,_=>0
def wEl (n:B)(q:A C):A Ch:=[.s 3 (lR n q)]
def wN (n:B)(w:A (A C)):A (A Ch):=w.map (wEl n)
def sW (n:B)(w:A (A C)):AV:= .x false [.s 1 (wN n w)]
structure Km (w:A (A C))(m:B):Prop where
  n:1<=E w/\w.length<=60
  len: ∀q∈w,E q=m
  m:1<=m/\m<=3
def L99:LC:=L52
def M99:A (B×XS):=M48
noncomputable def T99:Qd:=mkT L99 M99 X4
theorem Wt {n:B}{w:A (A C)}{i:B}{q:A C}(h:w[i]? =some q):ldE (wN n w) i 0 1=some [.s 3 (lR n q)]:=by
 simp only[ldE,wN,A.getElem?_map,h];rfl
theorem Qfs {a b:C}:YY a b>0↔b<a:=by
 unfold YY;by_cases h:a<b
 ·rw[if_pos h];refine⟨fun c=>o3,fun c=> ?_⟩;grind
 ·rw[if_neg h];by_cases c:a=b
  ·rw[if_pos c];refine⟨fun h=>o3,fun h=> ?_⟩;grind
  ·rw[if_neg c];refine⟨fun _=> ?_,fun _=>o3⟩;grind
theorem Qaz (n:B)(o:A (A C))(q:A C):Zc o.length (wN n o)++[[.s 3 (lR n q)]]=wN n (o++[q]):=by
 rw[Zd (by simp[wN])];simp[wN,wEl]
theorem QeC:QF L99:=cd
theorem TZ:XK M99:=UR
theorem uM:Qr T99:=QP QeC TZ Qb
def ED(a:C->B)(b:B)(c:A C):=Zb (fun(z:C)=>[Ch.r z (a z+65)]) (Zc b c)
def EE:=OfNat.ofNat 0=0
def EH:=Value.slice none 0 0
theorem QOL (n:B)(a:A C)(e:(n<=1000000/\a.length<=1000000))(K:AV->Prop)(d:K (sR (n+65) a)):QM (QN T99 (oF f33) (fun _=> .inv ⟨B,fun k=>⟨[(3,.x false [.w 500 0 k]),(6,sR n a),(7,iA .i64 a.length),(8,iA .i64 k)],[(500,YU (n+65) (a.take k))]⟩,fun k=>k<=E a,fun k=>E a-k,fun _=>0⟩) f33 [sR n a] K):=by
 refine HV ((∃(x:B),(x<=E a/\EE)/\EH=EH/\0=0/\x=0/\3=3/\lR n a=lR n a/\D (lR n a).length=D a.length/\0=D x/\ED (fun q=>n) x a=[]/\True)/\∀(x:B),x<=E a->EE->bif decide (D x<D a.length)then(0<=D x/\D x<D (lR n a).length)/\∃(q:C)(b:B),ldE (lR n a) (D x).toNat 0 3=some [Ch.r q b]/\((-9223372036854775808:Int)<=0/\(0:Int)<9223372036854775808)/\b+64+1<=4294967296/\((x+1)*40<=140737488355328/\x+1<=9223372036854775807)/\∃(c:B),(c<=E a/\EE/\a.length-c<E a-x)/\0=0/\x+1=c/\3=3/\lR n a=lR n a/\D a.length=D a.length/\IntKind.i64.wrap (D x+1)=D c/\25=25/\3=3/\(Zc x (ED (fun q=>n) x a)++[[Ch.r (q+↑(0:Int)) (b+64+1)]]=ED (fun q=>n) c a\/QC (Zc x (ED (fun q=>n) x a)++[[Ch.r (q+↑(0:Int)) (b+64+1)]]) (ED (fun q=>n) c a))/\True else K (AV.x false [Ch.s 3 (Zc x (A.drop 0 (ED (fun q=>n) x a)))])) ?_
 delta ED EE EH
 try simp only[Int.ofNat_eq_natCast,R0,R1,R4]
 refine⟨⟨0,o3,rfl,by rw[Qw],rfl,o6⟩,fun x f=>QE (fun h=> ?_) (fun h=> ?_)⟩
 ·have h:x<E a:=(j7 h)
  obtain⟨q,hq⟩: ∃q,a[x]? =some q:=⟨_,A.getElem?_eq_getElem h⟩
  refine⟨by rw[Qw];omega,_,_,Xd ((j9 hq)),o3,o3,o3,x+1,⟨o3,o3⟩,rfl,by rw[w64 o3];simp,.inl ?_⟩;rw[Zd (by rw[A.length_map,A.length_take];omega),A.take_add_one,hq,A.map_append];simp only[Option.toList,A.map_cons,A.map_nil];rw[show q+((0:Int):C)=q by rw[C.intCast_zero,C.add_zero]]
 ·have h:x=E a:=(j8 h)
  subst h;rw[A.drop_zero,A.take_length,Zd (by rw[A.length_map];exact B.le_refl _)];exact d
def iI:Ctr
 | [.x false [.s 3 x]]=>some fun K=> ∃(n:B) (q:A C),x=lR n q/\((n<=1000000/\q.length<=1000000))/\(K (sR (n+65) q))
 | _=>none
theorem QUg:QH 33 iI:=by
 refine okL func33 fun l T a K h=> ?_
 unfold iI at a;split at a<;>cases a
 obtain⟨n,q,rfl,b,h⟩:=h;exact spL uM QK func33 (QOL _ _ b K h)
def QjS:LC:=(33,iI)::L99
theorem Qft:QF QjS:= .cons QUg QeC
def gK:LC:=QjS
theorem wI:QF gK:=Qft
def EF(a b c d e f:ArmV):A Ch:=[Ch.v (Value.string a.name),Ch.r b.x 63,Ch.r c.y 63,Ch.v (Value.bool d.half),Ch.r e.t 63,Ch.s 16 (Zb QA f.za)]
def EG(a:AV->Prop)(b:Int):=a (AV.x false [Ch.v (Value.int IntKind.i64 b)])
def EI(a b c d e f g h i j:ArmV):=a.x=b.x/\63<=63/\c.y=d.y/\63<=63/\e.half=f.half/\g.t=h.t/\63<=63/\16=16/\Zb QA i.za=Zb QA j.za/\True
theorem QUi (a:ArmV)(n:B)(w:A (A C))(l:(QJ a)/\(Km w a.za.length))(K:AV->Prop)(k:K (iA .i64 0)):QM (QN (mkT gK M99 X4) (oF f32) (fun _=> .inv ⟨B,fun i=>⟨[(2,.x false [.p 2 0]),(20,sW n w),(21,iA .i64 w.length),(22,iA .i64 i)],[(2,.box 34 (Qp a))]⟩,fun i=>i<=E w,fun i=>E w-i,fun _=>0⟩) f32 [JV a,sW n w] K):=by
 refine HV (∃(c:ArmV),EF a a a a a a=EF c c c c c c/\QJ c/\bif D (wN n w).length ==0 then EG K 14 else bif decide (D (wN n w).length>60)then EG K 2 else(∃(x:B),(x<=E w/\EE)/\0=0/\1=1/\wN n w=wN n w/\D (wN n w).length=D w.length/\0=D x/\34=34/\a.name=a.name/\EI a a a a a a a a a a)/\∀(x:B),x<=E w->EE->bif decide (D x<D w.length)then(0<=D x/\D x<D (wN n w).length)/\∃(y:A (A Ch)),ldE (wN n w) (D x).toNat 0 1=some [Ch.s 3 y]/\∃(b:ArmV),EF a a a a a a=EF b b b b b b/\(QJ b/\D y.length=D b.za.length)/\∃(g:B),(g<=E w/\EE/\w.length-g<E w-x)/\0=0/\1=1/\wN n w=wN n w/\D w.length=D w.length/\IntKind.i64.wrap (D x+1)=D g/\34=34/\a.name=a.name/\EI a a a a a a a a a a else EG K 0) ?_
 delta EE EF EG EI
 try simp only[Int.ofNat_eq_natCast,R0,R1,B.le_refl,R4]
 obtain⟨d,j⟩:=l;have o:=j.n;have m:=d.n;have e:(wN n w).length=E w:=by simp[wN]
 rw[e];refine⟨a,rfl,d,QE (fun h=>by have h:=eq_of_beq h;omega) (fun _=>QE (fun h=>(j7 h)) (fun _=>⟨⟨0,o3,rfl,rfl⟩,fun x p=>QE (fun f=> ?_) (fun _=>k)⟩))⟩;have f:x<E w:=(j7 f)
 obtain⟨q,hq⟩: ∃q,w[x]? =some q:=⟨_,A.getElem?_eq_getElem f⟩
 exact⟨o3,_,Wt ((j9 hq)),a,rfl,⟨d,by rw[Qw,j.len q (A.mem_of_getElem? hq)]⟩,x+1,⟨o3,o3⟩,by rw[w64 o3];simp⟩
def GM:Ctr
 | [.x true x,.x false [.s 1 y]]=>some fun K=> ∃(a:ArmV) (n:B) (w:A (A C)),x=Qp a/\y=wN n w/\((QJ a)/\(Km w a.za.length))/\(K (iA .i64 0))
 | _=>none
theorem xF:QH 32 GM:=by
 refine okL func32 fun l T b K h=> ?_
 unfold GM at b;split at b<;>cases b
 obtain⟨a,n,w,rfl,rfl,c,h⟩:=h;exact spL (QP wI TZ Qb) QK func32 (QUi _ _ _ c K h)
def uP:LC:=(32,GM)::gK
theorem Qfv:QF uP:= .cons xF wI
def vD:LC:=uP
theorem Qfw:QF vD:=Qfv
def qP:LC:=vD
noncomputable def QlY:Qd:=mkT qP M99 X4
theorem Qfy:QF qP:=Qfw
end Go.Proofs
namespace Go.Proofs
open Go Go.Eng
def xR:LC:=qP
theorem Qfz:QF xR:=Qfy
def QjW:LC:=xR
theorem Qf0:QF QjW:=Qfz
def iH:LC:=QjW
noncomputable def QlZ:Qd:=mkT iH M99 X4
theorem Qf2:QF iH:=Qf0
end Go.Proofs
