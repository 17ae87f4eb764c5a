/- Columns, velocities. -/
import Derived.Test.YtjdhppdpbkoihaaGreatDoorFL
open Go.IntKind renaming i64 → Za
open Go.Value renaming int → Zb
namespace Go.Proofs
open Go Go.Eng
def sVv (n:Nat)(l:List (Rat×Rat)):AV:= .x false [.s 6 (l.map (Qp n))]
def QKe (x:Int):Int:=([1,2,3,4,5,8]:List Int).getD (x % 6).toNat 1
def QJ (x:Int):Rat:=mkRat (Za.wrap (x.tdiv 6) % (16*QKe x+1)-8*QKe x) (QKe x).toNat
def QRG:LC:=L95
theorem QKf:QC QRG:=QPn
theorem QDX {α:Type}{l:List α}{i:Nat}{a:α}(h:l[i]? =some a):l.drop i=a::l.drop (i+1):=by
 obtain⟨hi,e⟩:=List.getElem?_eq_some_iff.1 h
 rw[List.drop_eq_getElem_cons hi,e]
theorem QN4 (x:Int)(_hc:(-9223372036854775808<=x/\x<9223372036854775808))(K:AV->Prop)(hK:K (rA (QJ x) 63)):QN (QU (mkT QRG M79 X4) (oF Tryz.f7) noL Tryz.f7 [iA .i64 x] K):=by
 refine HV ((((0:Int)<6/\(6:Int)<9223372036854775808)/\(0<=x%6/\x%6<6)/\∃(d:Int),ldE [[Ch.v (Zb Za 1)],[Ch.v (Zb Za 2)],[Ch.v (Zb Za 3)],[Ch.v (Zb Za 4)],[Ch.v (Zb Za 5)],[Ch.v (Zb Za 8)]] (0+(x%6).toNat) 0 1=some [Ch.v (Zb Za d)]/\(6:Int)≠0/\(0<Za.wrap (Za.wrap (16*d)+1)/\Za.wrap (Za.wrap (16*d)+1)<9223372036854775808)/\((-9223372036854775808<Za.wrap (Za.wrap (x.tdiv 6)%Za.wrap (Za.wrap (16*d)+1)-Za.wrap (8*d))/\Za.wrap (Za.wrap (x.tdiv 6)%Za.wrap (Za.wrap (16*d)+1)-Za.wrap (8*d))<9223372036854775808)/\0<d/\d<9223372036854775808)/\K (AV.x true [Ch.r (mkRat (Za.wrap (Za.wrap (x.tdiv 6)%Za.wrap (Za.wrap (16*d)+1)-Za.wrap (8*d))) d.toNat) 63]))) ?_
 try simp only[Nat.zero_add]
 have b1:=Int.emod_nonneg x (show(6:Int)≠0 by decide);have b2:=Int.emod_lt_of_pos x (show(0:Int)<6 by decide);obtain⟨d,hd,hdr,hde⟩: ∃d,ldE [[Ch.v (Zb Za 1)],[Ch.v (Zb Za 2)],[Ch.v (Zb Za 3)],[Ch.v (Zb Za 4)],[Ch.v (Zb Za 5)],[Ch.v (Zb Za 8)]] (x % 6).toNat 0 1=some [Ch.v (Zb Za d)]/\(1<=d/\d<=8)/\QKe x=d:=by
  unfold QKe;generalize x % 6=r at b1 b2;have:r=0∨r=1∨r=2∨r=3∨r=4∨r=5:=by omega
  rcases this with rfl | rfl | rfl | rfl | rfl | rfl
  ·exact⟨1,rfl,by omega,rfl⟩
  ·exact⟨2,rfl,by omega,rfl⟩
  ·exact⟨3,rfl,by omega,rfl⟩
  ·exact⟨4,rfl,by omega,rfl⟩
  ·exact⟨5,rfl,by omega,rfl⟩
  ·exact⟨8,rfl,by omega,rfl⟩
 unfold QJ at hK;rw[hde]at hK;have e1:Za.wrap (Za.wrap (16*d)+1)=16*d+1:=by rw[w64 (n:=16*d) (by omega),w64 (by omega)]
 have e2:Za.wrap (8*d)=8*d:=w64 (by omega);have b3:=Int.emod_nonneg (Za.wrap (x.tdiv 6)) (show 16*d+1≠0 by omega);have b4:=Int.emod_lt_of_pos (Za.wrap (x.tdiv 6)) (show 0<16*d+1 by omega);refine⟨by omega,by omega,d,hd,by decide,?_⟩;rw[e1,e2,w64 (n:=_-8*d) (by omega)];exact⟨by omega,by omega,hK⟩
def U8:Ctr
 | [.x false [.v (.int .i64 x)]]=>some fun K=>((-9223372036854775808<=x/\x<9223372036854775808))/\(K (rA (QJ x) 63))
 | _=>none
theorem QDY:QH 7 U8:=by
 refine okL Tryz.func7 fun l T hT K hK=> ?_
 unfold U8 at hT;split at hT<;>cases hT
 obtain⟨hc,hK⟩:=hK;exact spL (QW QKf XC Q0) QO Tryz.func7 (QN4 _ hc K hK)
def QTy:LC:=(7,U8)::QRG
theorem QRH:QC QTy:= .cons QDY QKf
def QTz:LC:=QTy
theorem QRI:QC QTz:=QRH
def QT0:LC:=QTz
theorem QRJ:QC QT0:=QRI
def QT1:LC:=QT0
theorem QRK:QC QT1:=QRJ
def QT2:LC:=QT1
theorem QRL:QC QT2:=QRK
def QT3:LC:=QT2
theorem QRM:QC QT3:=QRL
def QRN:LC:=QT3
noncomputable def QVQ:QY:=mkT QRN M79 X4
theorem QRO:QC QRN:=QRM
end Go.Proofs
