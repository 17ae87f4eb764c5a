/- Power of rates that are not small; rvTwo. -/
import Derived.Test.YtfhfenokfkenoaaGreatDoorFT
import Derived.Test.YtfhfenokfkenoaaGreatDoorCG
open List renaming map → Za
namespace Go.Proofs
open Go Go.Eng
def QcT:LC:=Qbe
noncomputable def QdJ:QZ:=mkT QcT M79 X4
theorem QaG (l:List Int)(hc:(l.length*8<=140737488351232))(K:AV->Prop)(hK: ∀a:ArmV,MadeA a->a.links.length=2->K (WN a)):QK (QN (mkT QQr QUn X4) (oF Tryz.f24) noL Tryz.f24 [.x false [.s 1 (ints l)]] K):=by
 refine HV ((∃(l_1:List Int),ints l=ints l_1/\l_1.length<=9223372036854775807/\∀(a:ArmV),Made a/\1<=a.links.length->((3+(ints l).length)*8<=140737488355328/\3+(ints l).length<=9223372036854775807)/\∃(l_2:List Int),List.take (3+(ints l).length) ([Ch.v (Value.int IntKind.i64 0)]::[Ch.v (Value.int IntKind.i64 0)]::[Ch.v (Value.int IntKind.i64 2)]::ints l)=ints l_2/\l_2.length<=9223372036854775807/\∀(a_2:ArmV),Made a_2/\1<=a_2.links.length->∃(ls:List QT),Za QC a.links=Za QC ls/\ls≠[]/\ls.length<=3/\((ls.length+(Za QC a_2.links).length)*224<=140737488355328/\ls.length+(Za QC a_2.links).length<=9223372036854775807)/\((0:Int)<=0/\(0:Int)<=2/\2<=Int.ofNat (ls.length+(Za QC a_2.links).length))/\K (AV.x true [Ch.v (Value.string a.name),Ch.r a.x 63,Ch.r a.y 63,Ch.v (Value.bool a.half),Ch.r a.t 63,Ch.s 16 (List.take 2 (List.drop 0 (List.take ls.length (Za QC ls)++Za QC a_2.links)))]))) ?_
 try simp only[Int.ofNat_eq_natCast]
 refine⟨l,rfl,by omega,fun a ha=>⟨by rw[QGg];omega,0::0::2::l,List.take_of_length_le (by simp[ints];omega),by simp only[List.length_cons];omega,fun a2 ha2=> ?_⟩⟩;have g1:=MadeA.good ha;have g2:=MadeA.good ha2;have n1:=g1.n;have n2:=g2.n;refine⟨a.links,rfl,fun e=>by rw[e]at n1;simp at n1,n1.2,by rw[List.length_map];omega,by rw[List.length_map];omega,?_⟩;have:=hK ⟨a.name,a.x,a.y,a.half,a.t,(a.links++a2.links).take 2⟩ ⟨⟨ha.1.name,ha.1.x,ha.1.y,ha.1.half,ha.1.t,by simp;omega,fun L hL=>(List.mem_append.1 (List.mem_of_mem_take hL)).elim (ha.1.links L) (ha2.1.links L)⟩,by simp;omega⟩ (by simp;omega)
 rw[show List.take a.links.length (Za QC a.links)=Za QC a.links from List.take_of_length_le (by simp),List.drop_zero,<-List.map_append,<-List.map_take];exact this
def QFS:Ctr
 | [.x false [.s 1 xs]]=>some fun K=> ∃(l:List Int),xs=ints l/\((l.length*8<=140737488351232))/\(∀a:ArmV,MadeA a->a.links.length=2->K (WN a))
 | _=>none
theorem QVl:QI 24 QFS:=by
 refine okL Tryz.func24 fun l T hT K hK=> ?_
 unfold QFS at hT;split at hT<;>cases hT
 obtain⟨l,rfl,hc,hK⟩:=hK;exact spL (QP QQs QZW Qg) QM Tryz.func24 (QaG _ hc K hK)
def Qc6:LC:=(24,QFS)::QQr
noncomputable def QdV:QZ:=mkT Qc6 QUn X4
end Go.Proofs
