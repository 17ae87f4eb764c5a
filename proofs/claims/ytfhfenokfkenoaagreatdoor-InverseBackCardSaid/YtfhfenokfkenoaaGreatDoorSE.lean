/- Placed shapes: List, Place, Convex, Area, Around. -/
import Derived.Test.YtfhfenokfkenoaaGreatDoorFA
namespace Go.Proofs
open Go Go.Eng
def Qf3:List (Nat×Ctr):=Qf2
def QhZ:List (Nat×Ctr):=Qf3
def Qha:List (Nat×Ctr):=QhZ
def Qhb:List (Nat×Ctr):=Qha
def QSc:Ctr
 | [.x false [.v (.int .i64 n)],.x false [.v (.int .i64 d)]]=>some fun K=>((-9223372036854775808<=n/\n<9223372036854775808)/\(0<d/\d<9223372036854775808))/\(K (.t [(true,[.r ((n:Rat)/(d:Rat)) 128]),(false,[.v (.int .i64 0)])]))
 | _=>none
def Qhc:List (Nat×Ctr):=(146,QSc)::Qhb
def Qhd:List (Nat×Ctr):=Qhc
def Qhe:List (Nat×Ctr):=Qhd
noncomputable def Qh1:QR:=mkT Qhe M79 X4
end Go.Proofs
