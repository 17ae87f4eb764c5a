/- Outer boxes of shapes: ShapeInside. -/
import Derived.Test.YtjdhppdpbkoihaaGreatDoorPD
import Derived.Test.YtjdhppdpbkoihaaGreatDoorSE
namespace Go.Proofs
open Go Go.Eng
def atX (l:LoV)(p:Rat×Rat):Sp:=QKl l.x (QT5 (QGY (QN7 p.1) l.c) (QGY (QN7 p.2) l.s))
def atY (l:LoV)(p:Rat×Rat):Sp:=QKl l.y (QKl (QGY (QN7 p.1) l.s) (QGY (QN7 p.2) l.c))
def hX (l:LoV):List (Rat×Rat)->Sp->Sp
 | [],x=>x
 | v::vs,x=>hX l vs (QKn x (atX l v))
def hY (l:LoV):List (Rat×Rat)->Sp->Sp
 | [],y=>y
 | v::vs,y=>hY l vs (QKn y (atY l v))
def QPr:LC:=QK1
theorem QOC:QC QPr:=QBz
theorem QOD {s:List (Rat×Rat)}{p:Rat×Rat}(h:s[0]? =some p):s.headD (0,0)=p:=by
 cases s with
 | nil=>cases h
 | cons v vs=>cases h;rfl
def QUS:LC:=QPr
theorem QR4:QC QUS:=QOC
def QUT:LC:=QUS
theorem QR5:QC QUT:=QR4
def QUU:LC:=QUT
theorem QR6:QC QUU:=QR5
def QOE:LC:=QUU
noncomputable def QUV:QY:=mkT QOE M79 X4
theorem QFX:QC QOE:=QR6
theorem QR7:XM QUV:=QW QFX XC Q0
end Go.Proofs
