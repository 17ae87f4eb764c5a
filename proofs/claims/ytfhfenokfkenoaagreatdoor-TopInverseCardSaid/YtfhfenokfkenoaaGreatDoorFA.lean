/- Columns, velocities. -/
import Derived.Test.YtfhfenokfkenoaaGreatDoorFL
namespace Go.Proofs
open Go Go.Eng
structure TqX where
 fs:List FrV
 f:FrV
 i:Nat
structure TqI (a:ArmV)(qs:List Rat)(x:TqX):Prop where
 eq:x.fs++[x.f]=XD (Xs a) a.links qs
 len:x.fs.length=a.links.length
 le:x.i<=a.links.length
def sVv (n:Nat)(l:List (Rat×Rat)):AV:= .x false [.s 6 (l.map (Q6 n))]
def QbX:LC:=L95
theorem QYM:QG QbX:=QWe
def QbY:LC:=QbX
theorem QYN:QG QbY:=QYM
def QbZ:LC:=QbY
theorem QYO:QG QbZ:=QYN
def Qba:LC:=QbZ
theorem QYP:QG Qba:=QYO
def Qbb:LC:=Qba
theorem QYQ:QG Qbb:=QYP
def Qbc:LC:=Qbb
theorem QYR:QG Qbc:=QYQ
def Qbd:LC:=Qbc
theorem QYS:QG Qbd:=QYR
def QUG:LC:=Qbd
noncomputable def QdP:QZ:=mkT QUG M79 X4
theorem QYT:QG QUG:=QYS
end Go.Proofs
