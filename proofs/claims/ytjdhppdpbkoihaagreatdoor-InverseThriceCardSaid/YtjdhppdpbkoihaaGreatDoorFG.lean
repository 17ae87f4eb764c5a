/- Frames one after the other: in any grouping the same; moved arms: plain laws. -/
import Derived.Test.YtjdhppdpbkoihaaGreatDoorFL
namespace Go.Proofs
open Go Go.Eng
theorem QGL {h:Bool}{t:Rat}{g:Bool}{u:Rat}(h1:h=true->t=0)(h2:g=true->u=0)(hc:QK h t=QK g u)(hs:QO h t=QO g u):h=g/\t=u:=by
 have key: ∀t:Rat,(1+QK false t)*(1+t*t)=2:=fun t=>by have:=KB t;grind
 have no: ∀t:Rat,QK false t≠ -1:=fun t e=>by
  have:=key t;rw[e]at this;have e2:(1+ -1:Rat)=0:=by decide+kernel
  rw[e2,Rat.zero_mul]at this;exact absurd this (by decide+kernel)
 cases h<;>cases g
 ·refine⟨rfl,?_⟩;have k1:=key t;have k2:=key u;have s1:=WZ t;have s2:=WZ u;rw[hc]at k1;rw[hs]at s1;generalize QK false u=c at*;generalize QO false u=s at*;have hn:1+c≠0:=fun e=>by rw[e,Rat.zero_mul]at k2;exact absurd k2 (by decide+kernel)
  have e1:t*(1+c)=s:=K4 (sq1 t) (by grind);have e2:u*(1+c)=s:=K4 (sq1 u) (by grind);exact K4 hn (e1.trans e2.symm)
 ·exact absurd hc (no t)
 ·exact absurd hc.symm (no u)
 ·exact⟨rfl,by rw[h1 rfl,h2 rfl]⟩
def QZ2 (f:FrV):Prop:=f.h=true->f.t=0
theorem FrV.ext' {f g:FrV}(h1:f.x=g.x)(h2:f.y=g.y)(h3:f.h=g.h/\f.t=g.t):f=g:=by
 cases f;cases g;simp only at h1 h2 h3;obtain⟨h3,h4⟩:=h3;subst h1 h2 h3 h4;rfl
theorem GJ (f g:FrV):QZ2 (Qt f g):=QEO _ _ _ _
theorem QO3 (h1:Bool)(t1:Rat)(h2:Bool)(t2:Rat)(h3:Bool)(t3:Rat):
  thH (thH h1 t1 h2 t2) (thT h1 t1 h2 t2) h3 t3=thH h1 t1 (thH h2 t2 h3 t3) (thT h2 t2 h3 t3)/\thT (thH h1 t1 h2 t2) (thT h1 t1 h2 t2) h3 t3=thT h1 t1 (thH h2 t2 h3 t3) (thT h2 t2 h3 t3):=by
 refine QGL (QEO _ _ _ _) (QEO _ _ _ _) ?_ ?_
 ·rw[(JK (thH h1 t1 h2 t2) (thT h1 t1 h2 t2) h3 t3).1,(JK h1 t1 (thH h2 t2 h3 t3) (thT h2 t2 h3 t3)).1,(JK h1 t1 h2 t2).1,(JK h1 t1 h2 t2).2,(JK h2 t2 h3 t3).1,(JK h2 t2 h3 t3).2];grind
 ·rw[(JK (thH h1 t1 h2 t2) (thT h1 t1 h2 t2) h3 t3).2,(JK h1 t1 (thH h2 t2 h3 t3) (thT h2 t2 h3 t3)).2,(JK h1 t1 h2 t2).1,(JK h1 t1 h2 t2).2,(JK h2 t2 h3 t3).1,(JK h2 t2 h3 t3).2];grind
theorem QEX (a b c:FrV):Qt (Qt a b) c=Qt a (Qt b c):=
 FrV.ext' (QGI a b c.x c.y).1 (QGI a b c.x c.y).2 (QO3 _ _ _ _ _ _)
end Go.Proofs
