/- Configurations in eighths of the limits: conf, Conf. -/
import Derived.Test.YtfhfenokfkenoaaGreatDoorA1
open List renaming map → Za, length_map → Zb
namespace Go.Proofs
open Go Go.Eng
def QdY:List (Nat×YA):=M33
theorem QTS:X6 QdY:=W6
def QX3:List (Nat×Ctr):=L47
noncomputable def Qge:QR:=mkT QX3 QdY X4
theorem QTT:QH QX3:=QZ0
theorem QdZ:QJ Qge:=QU QTT QTS Ql
end Go.Proofs
namespace Go.Proofs
open Go Go.Eng
def QAE (ls:List Qw):Prop:=JM (X:=Unit) Qge noO noL Tryz.f78 [.x false [.s 16 (ls.map QN)]] [] (fun _=>True) (fun _=>⟨[(2,.x false [.w 0 0 ls.length])],[(0,QCG ls)]⟩)
theorem QCq (ls:List Qw):QAE ls=(Za QN ls≠[]/\((0+(Za QN ls).length)*224<=140737488355328/\0+(Za QN ls).length<=9223372036854775807)/\∃(x:Unit),True/\0=0/\0+(Za QN ls).length=ls.length/\63=63/\16=16/\(Za QN ls=Za QN ls∨QC (Za QN ls) (Za QN ls))/\True):=by kernel_rfl
theorem QTU (ls:List Qw)(h:ls≠[])(hl:ls.length<=3):QO (QAE ls):=by
 refine⟨?_⟩;rw[QCq];simp only[Int.ofNat_eq_natCast,R0,R1,Nat.zero_add,Nat.le_refl,R4,R2,R3];rw[Zb];exact⟨fun e=>h (by simpa using e),by omega,(),rfl⟩
def QCr:YA:=fun as0 H d=>match as0 with
 | [.x false [.s 16 xs]]=>match H d with
  | none=>some fun K=> ∃ls:List Qw,xs=ls.map QN/\ls≠[]/\ls.length<=3/\K (.x false [.w d 0 ls.length]) (XS [(0,d)] (QW [(0,QCG ls)]) H)
  | some _=>none
 | _=>none
theorem QPq:WG 78 QCr:=by
 refine⟨QK Tryz.func78 (by kernel_rfl),fun l H d T hT K hK=> ?_⟩;unfold QCr at hT;split at hT
 ·split at hT
  ·rename_i hd;cases hT
   obtain⟨ls,rfl,h0,hl,hK⟩:=hK;exact KQ QdZ QP Tryz.func78 (by kernel_rfl) (by kernel_rfl) (by rfl) (by rfl) hd (by kernel_rfl) (QTU ls h0 hl) hK
  ·cases hT
 ·cases hT
def Qda:List (Nat×YA):=(78,QCr)::QdY
noncomputable def Qgf:QR:=mkT QX3 Qda X4
theorem Qdb:X6 Qda:= .cons QPq QTS
theorem Qdc:QJ Qgf:=QU QTT Qdb Ql
def QTV:OT:=fun id=>bif id.beq 3 then([0,1,3,4,2,5,6,7,8],[[],[0],[1,0],[],[3],[2,1,0,4,3],[5,2,1,0,4,3],[0,1,2,3,4,5,6],[7,0,1,2,3,4,5,6]])else([],[])
def QCs (l:List Int)(K:AV->Prop):Prop:=QS Qgf QTV noL Tryz.f37 [.x false [.s 1 (ints l)]] K
theorem QD4 (l:List Int)(K:AV->Prop):QCs l K=(∃(l_1:List Int),ints l=ints l_1/\l_1.length<=9223372036854775807/\∀(a:Qs),Made a/\1<=a.links.length->((3+(ints l).length)*8<=140737488355328/\3+(ints l).length<=9223372036854775807)/\∃(l_2:List Int),List.take (3+(ints l).length) ([Ch.v (Value.int IntKind.i64 0)]::[Ch.v (Value.int IntKind.i64 0)]::[Ch.v (Value.int IntKind.i64 2)]::ints l)=ints l_2/\l_2.length<=9223372036854775807/\∀(a_2:Qs),Made a_2/\1<=a_2.links.length->∃(ls:List Qw),Za QN a.links=Za QN ls/\ls≠[]/\ls.length<=3/\((ls.length+(Za QN a_2.links).length)*224<=140737488355328/\ls.length+(Za QN a_2.links).length<=9223372036854775807)/\((0:Int)<=0/\(0:Int)<=2/\2<=Int.ofNat (ls.length+(Za QN a_2.links).length))/\K (AV.x true [Ch.v (Value.string a.name),Ch.r a.x 63,Ch.r a.y 63,Ch.v (Value.bool a.half),Ch.r a.t 63,Ch.s 16 (List.take 2 (List.drop 0 (List.take ls.length (Za QN ls)++Za QN a_2.links)))])):=by kernel_rfl
theorem QX4 (l:List Int)(hc:(l.length*8<=140737488351232))(K:AV->Prop)(hK: ∀a:Qs,MadeA a->a.links.length=2->K (Ug a)):QO (QCs l K):=by
 refine⟨?_⟩;rw[QD4];try simp only[Int.ofNat_eq_natCast,R0,R1,Nat.zero_add,Nat.le_refl,R4,R2,R3]
 refine⟨l,rfl,by omega,fun a ha=>⟨by rw[QCE];omega,0::0::2::l,List.take_of_length_le (by simp[ints];omega),by simp only[List.length_cons];omega,fun a2 ha2=> ?_⟩⟩;have g1:=MadeA.good ha;have g2:=MadeA.good ha2;have n1:=g1.n;have n2:=g2.n;refine⟨a.links,rfl,fun e=>by rw[e]at n1;simp at n1,n1.2,by rw[Zb];omega,by rw[Zb];omega,?_⟩;have:=hK ⟨a.name,a.x,a.y,a.half,a.t,(a.links++a2.links).take 2⟩ ⟨⟨ha.1.name,ha.1.x,ha.1.y,ha.1.half,ha.1.t,by simp;omega,fun L hL=>(List.mem_append.1 (List.mem_of_mem_take hL)).elim (ha.1.links L) (ha2.1.links L)⟩,by simp;omega⟩ (by simp;omega);rw[show List.take a.links.length (Za QN a.links)=Za QN a.links from List.take_of_length_le (by simp),List.drop_zero,<-List.map_append,<-List.map_take]
 exact this
def QAu:Ctr
 | [.x false [.s 1 xs]]=>some fun K=> ∃(l:List Int),xs=ints l/\((l.length*8<=140737488351232))/\(∀a:Qs,MadeA a->a.links.length=2->K (Ug a))
 | _=>none
theorem QTW:QI 37 QAu:=by
 refine⟨QK Tryz.func37 (by kernel_rfl),fun l T hT K hK=> ?_⟩;unfold QAu at hT;split at hT
 ·cases hT
  obtain⟨l,rfl,hc,hK⟩:=hK;exact QF Qdc QP Tryz.func37 (by kernel_rfl) (by kernel_rfl) (by rfl) (QX4 _ hc K hK)
 ·cases hT
def Qhj:List (Nat×Ctr):=(37,QAu)::QX3
noncomputable def Qh4:QR:=mkT Qhj Qda X4
end Go.Proofs
