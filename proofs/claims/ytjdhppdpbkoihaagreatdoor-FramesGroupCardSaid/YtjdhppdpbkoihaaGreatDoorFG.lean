/- Frames one after the other: in any grouping the same; moved arms: plain laws. -/
import Derived.Test.YtjdhppdpbkoihaaGreatDoorFL
namespace Go.Proofs
open Go Go.Eng
theorem Vm {h:Bool}{t:Rat}{g:Bool}{u:Rat}(h1:h=true->t=0)(h2:g=true->u=0)(hc:Q7 h t=Q7 g u)(hs:XA h t=XA g u):h=g/\t=u:=by
 have key: ∀t:Rat,(1+Q7 false t)*(1+t*t)=2:=fun t=>by have:=J3 t;grind
 have no: ∀t:Rat,Q7 false t≠ -1:=fun t e=>by
  have:=key t;rw[e]at this;have e2:(1+ -1:Rat)=0:=by decide+kernel
  rw[e2,Rat.zero_mul]at this;exact absurd this (by decide+kernel)
 cases h<;>cases g
 ·refine⟨rfl,?_⟩;have k1:=key t;have k2:=key u;have s1:=Jc t;have s2:=Jc u;rw[hc]at k1;rw[hs]at s1;generalize Q7 false u=c at*;generalize XA false u=s at*;have hn:1+c≠0:=fun e=>by rw[e,Rat.zero_mul]at k2;exact absurd k2 (by decide+kernel)
  have e1:t*(1+c)=s:=We (sq1 t) (by grind);have e2:u*(1+c)=s:=We (sq1 u) (by grind);exact We hn (e1.trans e2.symm)
 ·exact absurd hc (no t)
 ·exact absurd hc.symm (no u)
 ·exact⟨rfl,by rw[h1 rfl,h2 rfl]⟩
def WB (f:FrV):Prop:=f.h=true->f.t=0
theorem FrV.ext' {f g:FrV}(h1:f.x=g.x)(h2:f.y=g.y)(h3:f.h=g.h/\f.t=g.t):f=g:=by
 cases f;cases g;simp only at h1 h2 h3;obtain⟨h3,h4⟩:=h3;subst h1 h2 h3 h4;rfl
theorem Jg (f g:FrV):WB (Qw f g):=QBv _ _ _ _
theorem QK2 (h1:Bool)(t1:Rat)(h2:Bool)(t2:Rat)(h3:Bool)(t3:Rat):
  thH (thH h1 t1 h2 t2) (thT h1 t1 h2 t2) h3 t3=thH h1 t1 (thH h2 t2 h3 t3) (thT h2 t2 h3 t3)/\thT (thH h1 t1 h2 t2) (thT h1 t1 h2 t2) h3 t3=thT h1 t1 (thH h2 t2 h3 t3) (thT h2 t2 h3 t3):=by
 refine Vm (QBv _ _ _ _) (QBv _ _ _ _) ?_ ?_
 ·rw[(YO (thH h1 t1 h2 t2) (thT h1 t1 h2 t2) h3 t3).1,(YO h1 t1 (thH h2 t2 h3 t3) (thT h2 t2 h3 t3)).1,(YO h1 t1 h2 t2).1,(YO h1 t1 h2 t2).2,(YO h2 t2 h3 t3).1,(YO h2 t2 h3 t3).2];grind
 ·rw[(YO (thH h1 t1 h2 t2) (thT h1 t1 h2 t2) h3 t3).2,(YO h1 t1 (thH h2 t2 h3 t3) (thT h2 t2 h3 t3)).2,(YO h1 t1 h2 t2).1,(YO h1 t1 h2 t2).2,(YO h2 t2 h3 t3).1,(YO h2 t2 h3 t3).2];grind
theorem QB0 (a b c:FrV):Qw (Qw a b) c=Qw a (Qw b c):=
 FrV.ext' (Vj a b c.x c.y).1 (Vj a b c.x c.y).2 (QK2 _ _ _ _ _ _)
end Go.Proofs
