/- reaches; plain laws of frames. -/
import Derived.Test.YtnbkdgmgbaangaaGreatDoorF1
namespace Go.Proofs
open Go Go.Eng
def QIJ:OT:=fun id=>bif id.beq 2 then([0,1,2,3,4,5,6,7,8],[[],[0],[1,0],[2,1,0],[3,2,1,0],[2,1,0],[4,3,2,1,0,5],[2,1,0,6,4,3,5],[7,2,1,0,6,4,3,5]])else([],[])
def V7  (K:AV->Prop):Prop:=QW T94 QIJ noL Tryz.f37 [] K
theorem Hn (K:AV->Prop):V7 K=(∃(ns:List Int),[[Ch.v (Value.int IntKind.i64 3)],[Ch.v (Value.int IntKind.i64 2)]]=ints ns/\(ns.length<=3/\∀(n:Int),n∈ns->1<=n/\n<=1000)/\(((-9223372036854775808:Int)<0/\(0:Int)<9223372036854775808)/\(0:Int)<1/\(1:Int)<9223372036854775808)/\(((-9223372036854775808:Int)<1/\(1:Int)<9223372036854775808)/\(0:Int)<1/\(1:Int)<9223372036854775808)/\∃(a:Qs)(b:Nat)(qs:List Rat),[Ch.v (Value.string (XI ns).name),Ch.r (XI ns).x 63,Ch.r (XI ns).y 63,Ch.v (Value.bool false),Ch.r (XI ns).t 63,Ch.s 16 (List.map QN (XI ns).links)]=[Ch.v (Value.string a.name),Ch.r a.x 63,Ch.r a.y 63,Ch.v (Value.bool a.half),Ch.r a.t 63,Ch.s 16 (List.map QN a.links)]/\[[Ch.r (mkRat 0 1) 63],[Ch.r (mkRat 1 1) 63]]=lR b qs/\(Qt a/\b<=400/\qs.length=a.links.length)/\∀(n:Nat) (f:FrV),n<=120000000->(Y4 (KA a) a.links qs)[a.links.length]?=some f->(((-9223372036854775808:Int)<3/\(3:Int)<9223372036854775808)/\(-9223372036854775808:Int)<2/\(2:Int)<9223372036854775808)/\K (AV.x false [Ch.v (Value.bool (decide (f.x=(pt1 3 2).fst)&&(decide (f.y=(pt1 3 2).snd)&&true)))])):=by kernel_rfl
theorem QKf  (_hc:True)(K:AV->Prop)(hK:K (.x false [.v (.bool true)])):QR (V7  K):=by
 refine⟨?_⟩;rw[Hn];try simp only[Int.ofNat_eq_natCast,R0,R1,Nat.zero_add,Nat.le_refl,R4,R2,R3]
 have e:((Y4 (KA (XI [3,2])) (XI [3,2]).links [mkRat 0 1,mkRat 1 1])[2]?.map fun f=>(f.x,f.y))=some (pt1 3 2):=by decide+kernel
 refine⟨[3,2],rfl,⟨by simp,by simp⟩,by omega,by omega,XI [3,2],63,[mkRat 0 1,mkRat 1 1],rfl,rfl,⟨GM (by simp) (by simp),by omega,rfl⟩,fun n f hn hf=>⟨by omega,?_⟩⟩;rw[show(XI [3,2]).links.length=2 from rfl]at hf;rw[hf]at e;simp only[Option.map_some,Option.some.injEq]at e;rw[show f.x=(pt1 3 2).fst by rw[<-e],show f.y=(pt1 3 2).snd by rw[<-e]];simpa using hK
def Kb:Ctr:=fun as0=>match as0 with
 | []=>some fun K=>(True)/\(K (.x false [.v (.bool true)]))
 | _=>none
theorem GN:CtrOK Tryz.prog QH QG 37 Kb:=by
 refine⟨QJ Tryz.func37 (by kernel_rfl),fun l T hT K hK=> ?_⟩;unfold Kb at hT;split at hT
 ·cases hT
  obtain⟨hc,hK⟩:=hK;exact QI QcX QP Tryz.func37 (by kernel_rfl) (by kernel_rfl) (by rfl) (QKf  hc K hK)
 ·cases hT
def L95:List (Nat×Ctr):=(37,Kb)::L94
noncomputable def T95:QU:=mkT L95 M79 X4
theorem QcY:CtrsOK Tryz.prog QH QG L95:= .cons GN QXP
theorem cs1 (h:Bool)(t:Rat):Q3 h t*Q3 h t+Q0 h t*Q0 h t=1:=by
 unfold Q3 Q0;cases h with
 | true=>simp only[R7];grind
 | false=>
  simp only[R8];have:=sq1 t;grind
end Go.Proofs
