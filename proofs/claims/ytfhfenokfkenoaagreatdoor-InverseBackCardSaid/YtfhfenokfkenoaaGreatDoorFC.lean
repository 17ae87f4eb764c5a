/- reaches; plain laws of frames. -/
import Derived.Test.YtfhfenokfkenoaaGreatDoorF1
namespace Go.Proofs
open Go Go.Eng
def QJN:OT:=fun id=>bif id.beq 2 then([0,1,2,3,4,5,6,7,8],[[],[0],[1,0],[2,1,0],[3,2,1,0],[2,1,0],[4,3,2,1,0,5],[2,1,0,6,4,3,5],[7,2,1,0,6,4,3,5]])else([],[])
def UN  (K:AV->Prop):Prop:=QS T94 QJN noL Tryz.f42 [] K
theorem GJ (K:AV->Prop):UN K=(∃(ns:List Int),[[Ch.v (Value.int IntKind.i64 3)],[Ch.v (Value.int IntKind.i64 2)]]=ints ns/\(ns.length<=3/\∀(n:Int),n∈ns->1<=n/\n<=1000)/\(((-9223372036854775808:Int)<0/\(0:Int)<9223372036854775808)/\(0:Int)<1/\(1:Int)<9223372036854775808)/\(((-9223372036854775808:Int)<1/\(1:Int)<9223372036854775808)/\(0:Int)<1/\(1:Int)<9223372036854775808)/\∃(a:Qs)(b:Nat)(qs:List Rat),[Ch.v (Value.string (XM ns).name),Ch.r (XM ns).x 63,Ch.r (XM ns).y 63,Ch.v (Value.bool false),Ch.r (XM ns).t 63,Ch.s 16 (List.map QN (XM ns).links)]=[Ch.v (Value.string a.name),Ch.r a.x 63,Ch.r a.y 63,Ch.v (Value.bool a.half),Ch.r a.t 63,Ch.s 16 (List.map QN a.links)]/\[[Ch.r (mkRat 0 1) 63],[Ch.r (mkRat 1 1) 63]]=lR b qs/\(Q7 a/\b<=400/\qs.length=a.links.length)/\∀(n:Nat) (f:FrV),n<=120000000->(YG (WT a) a.links qs)[a.links.length]?=some f->(((-9223372036854775808:Int)<3/\(3:Int)<9223372036854775808)/\(-9223372036854775808:Int)<2/\(2:Int)<9223372036854775808)/\K (AV.x false [Ch.v (Value.bool (decide (f.x=(pt1 3 2).fst)&&(decide (f.y=(pt1 3 2).snd)&&true)))])):=by kernel_rfl
theorem QL3  (_hc:True)(K:AV->Prop)(hK:K (.x false [.v (.bool true)])):QO (UN  K):=by
 refine⟨?_⟩;rw[GJ];try simp only[Int.ofNat_eq_natCast,R0,R1,Nat.zero_add,Nat.le_refl,R4,R2,R3]
 have e:((YG (WT (XM [3,2])) (XM [3,2]).links [mkRat 0 1,mkRat 1 1])[2]?.map fun f=>(f.x,f.y))=some (pt1 3 2):=by decide+kernel
 refine⟨[3,2],rfl,⟨by simp,by simp⟩,by omega,by omega,XM [3,2],63,[mkRat 0 1,mkRat 1 1],rfl,rfl,⟨G8 (by simp) (by simp),by omega,rfl⟩,fun n f hn hf=>⟨by omega,?_⟩⟩;rw[show(XM [3,2]).links.length=2 from rfl]at hf;rw[hf]at e;simp only[Option.map_some,Option.some.injEq]at e;rw[show f.x=(pt1 3 2).fst by rw[<-e],show f.y=(pt1 3 2).snd by rw[<-e]];simpa using hK
def Kx:Ctr
 | []=>some fun K=>(True)/\(K (.x false [.v (.bool true)]))
 | _=>none
theorem G9:QI 42 Kx:=by
 refine⟨QK Tryz.func42 (by kernel_rfl),fun l T hT K hK=> ?_⟩;unfold Kx at hT;split at hT
 ·cases hT
  obtain⟨hc,hK⟩:=hK;exact QF Qft QP Tryz.func42 (by kernel_rfl) (by kernel_rfl) (by rfl) (QL3  hc K hK)
 ·cases hT
def L95:List (Nat×Ctr):=(42,Kx)::L94
noncomputable def T95:QR:=mkT L95 M79 X4
theorem QaK:QH L95:= .cons G9 QaJ
theorem Qfu (b:FrV):HG b 0 0=b.x:=by unfold HG;grind
theorem Qfv (b:FrV):HH b 0 0=b.y:=by unfold HH;grind
theorem cs1 (h:Bool)(t:Rat):Qt h t*Qt h t+Qd h t*Qd h t=1:=by
 unfold Qt Qd;cases h with
 | true=>simp only[R7];grind
 | false=>
  simp only[R8];have:=sq1 t;grind
end Go.Proofs
