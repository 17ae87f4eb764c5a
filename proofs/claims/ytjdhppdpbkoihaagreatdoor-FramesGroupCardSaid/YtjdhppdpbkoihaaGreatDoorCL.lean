/- Polygons apart, free lists of polygons, polygons within boxes: plain laws. -/
import Derived.Test.YtjdhppdpbkoihaaGreatDoorPE
import Derived.Test.YtjdhppdpbkoihaaGreatDoorS3
namespace Go.Proofs
open Go Go.Eng
def QVF (n v:Rat×Rat):Rat:=n.1*v.1+n.2*v.2
def QVG (p q:Rat×Rat):Rat×Rat:=(q.2-p.2,-(q.1-p.1))
def QVH (p q:Rat×Rat)(b:List (Rat×Rat)):Bool:=b.all fun v=>decide (0<QVF (QVG p q) (v.1-p.1,v.2-p.2))
def QUW (a b:List (Rat×Rat)):Bool:=(List.range a.length).any fun i=>QVH (a.getD i (0,0)) (a.getD ((i+1) % a.length) (0,0)) b
def QUX (a b:List (Rat×Rat)):Bool:= !QUW a b&& !QUW b a
def VI (l:List (Rat×Rat)):VH:=l.tail.foldl Wf ⟨(l.headD (0,0)).1,(l.headD (0,0)).2,(l.headD (0,0)).1,(l.headD (0,0)).2⟩
def VH.ok (b:VH):Bool:=decide (b.x1<=b.x2)&&decide (b.y1<=b.y2)
def QR8 (a b:VH):Bool:=a.ok&&(b.ok&&(decide (a.x1<=b.x2)&&(decide (b.x1<=a.x2)&&(decide (a.y1<=b.y2)&&decide (b.y1<=a.y2)))))
def freeB (l m:List (List (Rat×Rat))):Bool:=l.all fun a=>m.all fun b=> !(QR8 (VI a) (VI b)) || !(QUX a b)
def QAg (b:VH):List (Rat×Rat):=[(b.x1,b.y1),(b.x2,b.y1),(b.x2,b.y2),(b.x1,b.y2)]
structure VH.has (b:VH)(v:Rat×Rat):Prop where
 x:b.x1<=v.1/\v.1<=b.x2
 y:b.y1<=v.2/\v.2<=b.y2
end Go.Proofs
namespace Go.Proofs
open Go Go.Eng
theorem QIL {b:VH}(hx:b.x1<b.x2)(hy:b.y1<b.y2):Js (QAg b):=by
  have hp:0<(b.x2-b.x1)*(b.y2-b.y1):=Rat.mul_pos (by grind) (by grind);refine⟨by simp[QAg],by simp[QAg],fun i k p q r h2 hk hp' hq hr=> ?_⟩;have hi:i<4:=by have:=(List.getElem?_eq_some_iff.1 hp').1;simpa [QAg]using this
  have hk:k<4:=by simpa [QAg]using hk
  have hk2:k=2∨k=3:=by omega
  have hi2:i=0∨i=1∨i=2∨i=3:=by omega
  rcases hi2 with rfl | rfl | rfl | rfl<;>rcases hk2 with rfl | rfl<;>(simp[QAg]at hp' hq hr;subst hp' hq hr;unfold lft;simp only;grind)
end Go.Proofs
