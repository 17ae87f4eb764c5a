/- InverseFinds: its parts. -/
import Derived.Test.YtfhfenokfkenoaaGreatDoorIU
import Derived.Test.YtfhfenokfkenoaaGreatDoorCG
namespace Go.Proofs
open Go Go.Eng
structure BT (x:Rat):Prop where
  bd:Bd 20000 x
def GA:Ctr
 | [.x true xs,.x true [.r x _n,.r y _m]]=>some fun K=> ∃(a:ArmV) (L0 L1:QZ) (rs R:List (RtV×RtV)) (O:List (List Sp)),xs=XY a/\((QX a/\a.links=[L0,L1])/\BT x/\BT y)/\((JR L0.len L1.len (QK2 a x y) (QK3 a x y)=some rs/\inF L0.lo L0.hi L1.lo L1.hi rs []=some R)/\Hn R []=some O)/\
   (O=[]->K (.t [(false,[.v (.slice none 0 0)]),(false,[.v (.int .i64 17)])]))/\(O≠[]->K (.t [(false,[.s 1 (O.map K9)]),(false,[.v (.int .i64 0)])]))
 | _=>none
theorem QV8 {W:World}{O:Nat->Prop}{ρ:Env}{x y:Rat}{n m n' m':Nat}(h1:Bd n' x)(h2:Bd m' y){v:Value}(h:ConcV W O ρ (.x true [.r x n,.r y m]) v):ConcV W O ρ (.x true [.r x n',.r y m']) v:=by
 obtain⟨vals,h3,h4⟩:=h;cases h3 with | r b1 h3=>cases h3 with | r b2 h3=>exact⟨_,.r h1 (.r h2 h3),h4⟩
theorem QPA:QJ 27 GA:=by
 refine⟨ok_iTwo.enter,fun l T hT K hK=> ?_⟩;unfold GA at hT;split at hT
 ·rename_i xs x n y m;cases hT
  obtain⟨a,L0,L1,rs,R,O,rfl,⟨hg,hx,hy⟩,hs,hK⟩:=hK;refine Eng.Spec.args (ok_iTwo.sound [.x true (XY a),.x true [.r x 20000,.r y 20000]] _ rfl K ⟨a,L0,L1,rs,R,O,rfl,⟨⟨hg,Nat.le_refl _,Nat.le_refl _⟩,hs⟩,hK⟩) fun w O vals hc=> ?_
  cases hc with
  | cons h1 h2=>cases h2 with
   | cons h2 h3=>exact .cons h1 (.cons (QV8 hx.bd hy.bd h2) h3)
 ·cases hT
def QYe:LC:=(27,GA)::QO7
theorem QFU:(((JR (Xi 3).len (Xi 4).len (QK2 (Q9 [3,4]) (pt1 5 0).1 (pt1 5 0).2) (QK3 (Q9 [3,4]) (pt1 5 0).1 (pt1 5 0).2)).bind fun rs=>(inF (Xi 3).lo (Xi 3).hi (Xi 4).lo (Xi 4).hi rs []).bind fun R=>Hn R []).map (·.map List.length))=some [2,2]:=by decide+kernel
theorem QV9:JP (Xi 4):=by
 have hp:=UE (show QBt (Xi 4).shape=true by decide+kernel);refine⟨⟨?_,?_,?_,?_,?_⟩,?_,?_,?_,?_,hp,fun p hp=> ?_⟩
 ·exact Qv (by omega) (by decide)
 ·exact Qv (by decide) (by decide)
 ·exact Qv (by decide) (by decide)
 ·exact Qv (by decide) (by decide)
 ·exact Qv (by decide) (by decide)
 ·exact Xo (by omega) (by decide)
 ·show mkRat (-2) 1<mkRat 2 1
  decide+kernel
 ·exact Xo (by decide) (by decide)
 ·exact Xo (by decide) (by decide)
 ·have c: ∀x y:Int,x.natAbs<=1000000->y.natAbs<=1000000->Xp (pt1 x y).1/\Xp (pt1 x y).2:=fun x y hx hy=>⟨Qv hx (by decide),Qv hy (by decide)⟩;simp only[Xi,List.mem_cons,List.not_mem_nil,or_false]at hp;rcases hp with rfl | rfl | rfl | rfl<;>exact c _ _ (by omega) (by omega)
theorem QAx:QX (Q9 [3,4]):=by
 have g:=QFD (ns:=[3]) (by simp) (by simp);refine⟨g.name,by simp[Q9],g.small,g.half,fun L hL=> ?_⟩;have hL:L=Xi 3∨L=Xi 4:=by simpa [Q9]using hL
 rcases hL with rfl | rfl
 ·exact QAW (by simp)
 ·exact QV9
theorem QYB:BT (pt1 5 0).1/\BT (pt1 5 0).2:=by
 constructor
 ·exact⟨Bd.mono (n:=5) (by omega) ⟨by decide+kernel,by decide+kernel⟩⟩
 ·exact⟨Bd.mono (n:=5) (by omega) ⟨by decide+kernel,by decide+kernel⟩⟩
def QYC:LC:=QYe
noncomputable def QYq:Qa:=mkT QYC Hp X4
end Go.Proofs
