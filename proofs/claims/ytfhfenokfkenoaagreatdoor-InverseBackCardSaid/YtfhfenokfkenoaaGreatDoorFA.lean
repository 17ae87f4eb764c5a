/- Columns, velocities. -/
import Derived.Test.YtfhfenokfkenoaaGreatDoorFL
open Go.IntKind renaming i64 → Za
open Go.Value renaming int → Zb
namespace Go.Proofs
open Go Go.Eng
def QL5 (x:Int):Int:=([1,2,3,4,5,8]:List Int).getD (x % 6).toNat 1
def Jl (x:Int):Rat:=mkRat (Za.wrap (x.tdiv 6) % (16*QL5 x+1)-8*QL5 x) (QL5 x).toNat
def QcF:List (Nat×Ctr):=L95
noncomputable def Qf0:QR:=mkT QcF M79 X4
theorem QSZ:QH QcF:=QaK
theorem QcG:QJ Qf0:=QU QSZ XE Ql
def QSa:OT:=fun _=>([],[])
def QCb (x:Int)(K:AV->Prop):Prop:=QS Qf0 QSa noL Tryz.f90 [iA .i64 x] K
theorem QDy (x:Int)(K:AV->Prop):QCb x K=(((0:Int)<6/\(6:Int)<9223372036854775808)/\(0<=x%6/\x%6<6)/\∃(d:Int),ldE [[Ch.v (Zb Za 1)],[Ch.v (Zb Za 2)],[Ch.v (Zb Za 3)],[Ch.v (Zb Za 4)],[Ch.v (Zb Za 5)],[Ch.v (Zb Za 8)]] (0+(x%6).toNat) 0 1=some [Ch.v (Zb Za d)]/\(6:Int)≠0/\(0<Za.wrap (Za.wrap (16*d)+1)/\Za.wrap (Za.wrap (16*d)+1)<9223372036854775808)/\((-9223372036854775808<Za.wrap (Za.wrap (x.tdiv 6)%Za.wrap (Za.wrap (16*d)+1)-Za.wrap (8*d))/\Za.wrap (Za.wrap (x.tdiv 6)%Za.wrap (Za.wrap (16*d)+1)-Za.wrap (8*d))<9223372036854775808)/\0<d/\d<9223372036854775808)/\K (AV.x true [Ch.r (mkRat (Za.wrap (Za.wrap (x.tdiv 6)%Za.wrap (Za.wrap (16*d)+1)-Za.wrap (8*d))) d.toNat) 63])):=by kernel_rfl
theorem QXV (x:Int)(hc:(-9223372036854775808<=x/\x<9223372036854775808))(K:AV->Prop)(hK:K (rA (Jl x) 63)):QO (QCb x K):=by
 refine⟨?_⟩;rw[QDy];try simp only[Int.ofNat_eq_natCast,R0,R1,Nat.zero_add,Nat.le_refl,R4,R2,R3]
 have b1:=Int.emod_nonneg x (show(6:Int)≠0 by decide);have b2:=Int.emod_lt_of_pos x (show(0:Int)<6 by decide);obtain⟨d,hd,hdr,hde⟩: ∃d,ldE [[Ch.v (Zb Za 1)],[Ch.v (Zb Za 2)],[Ch.v (Zb Za 3)],[Ch.v (Zb Za 4)],[Ch.v (Zb Za 5)],[Ch.v (Zb Za 8)]] (x % 6).toNat 0 1=some [Ch.v (Zb Za d)]/\(1<=d/\d<=8)/\QL5 x=d:=by
  unfold QL5;generalize x % 6=r at b1 b2;have:r=0∨r=1∨r=2∨r=3∨r=4∨r=5:=by omega
  rcases this with rfl | rfl | rfl | rfl | rfl | rfl
  ·exact⟨1,rfl,by omega,rfl⟩
  ·exact⟨2,rfl,by omega,rfl⟩
  ·exact⟨3,rfl,by omega,rfl⟩
  ·exact⟨4,rfl,by omega,rfl⟩
  ·exact⟨5,rfl,by omega,rfl⟩
  ·exact⟨8,rfl,by omega,rfl⟩
 unfold Jl at hK;rw[hde]at hK;have e1:Za.wrap (Za.wrap (16*d)+1)=16*d+1:=by rw[w64 (n:=16*d) (by omega),w64 (by omega)]
 have e2:Za.wrap (8*d)=8*d:=w64 (by omega);have b3:=Int.emod_nonneg (Za.wrap (x.tdiv 6)) (show 16*d+1≠0 by omega);have b4:=Int.emod_lt_of_pos (Za.wrap (x.tdiv 6)) (show 0<16*d+1 by omega);refine⟨by omega,by omega,d,hd,by decide,?_⟩;rw[e1,e2,w64 (n:=_-8*d) (by omega)];exact⟨by omega,by omega,hK⟩
def QHA:Ctr
 | [.x false [.v (.int .i64 x)]]=>some fun K=>((-9223372036854775808<=x/\x<9223372036854775808))/\(K (rA (Jl x) 63))
 | _=>none
theorem QSb:QI 90 QHA:=by
 refine⟨QK Tryz.func90 (by kernel_rfl),fun l T hT K hK=> ?_⟩;unfold QHA at hT;split at hT
 ·cases hT
  obtain⟨hc,hK⟩:=hK;exact QF QcG QP Tryz.func90 (by kernel_rfl) (by kernel_rfl) (by rfl) (QXV _ hc K hK)
 ·cases hT
def QXW:List (Nat×Ctr):=(90,QHA)::QcF
noncomputable def Qf1:QR:=mkT QXW M79 X4
theorem QcH:QH QXW:= .cons QSb QSZ
theorem QcI:QJ Qf1:=QU QcH XE Ql
def QhU:List (Nat×Ctr):=QXW
def QcJ:Ctr
 | [.x false [.s 1 xs]]=>some fun K=> ∃(l:List Int),xs=ints l/\((l.length<=9223372036854775807))/\(∀p:Rat×Rat,K (.x true (XQ p)))
 | _=>none
def QhV:List (Nat×Ctr):=(31,QcJ)::QhU
def QhW:List (Nat×Ctr):=QhV
def QhX:List (Nat×Ctr):=QhW
def QhY:List (Nat×Ctr):=QhX
def Qf2:List (Nat×Ctr):=QhY
noncomputable def Qh0:QR:=mkT Qf2 M79 X4
end Go.Proofs
