/- Natural numbers, first part: trim, short. -/
import Derived.Test.YtagcmnmbgogljaaDoorTy
import Derived.Test.YtagcmnmbgogljaaDoorPl
import Derived.Test.YtagcmnmbgogljaaDoorE4
import Derived.KernelRfl
import Derived.Lib.Bytealg
import Derived.Laws.Externs
/- Natural numbers, first part: trim, short. -/
namespace Go.Proofs
open Go Go.Eng
def itE : List (Nat × OT) := []
def ot_itN : OT := fun _ => ([], [])
def itN : List (Nat × OT) := [(16, ot_itN)]
def itA : List (Nat × OT) := []
def itAll : List (Nat × OT) := itE ++ (itN ++ itA)
def imAll : List (Nat × Nat × Bool) := [(60, 75, true)]
noncomputable def mkT (l : List (Nat × Ctr)) (m : List (Nat × CtrM)) (x : List (Nat × CtrX)) : Tabs := ⟨tbL Tryd.tyL, prL l, pmL m, pxL x, methP Tryd.prog, itP Tryd.prog itAll, imAll⟩
noncomputable def T0 : Tabs := mkT [] [] []
def noL : LI := fun _ => .no
def strA (l : List UInt8) : AV := .x false [.v (.string ⟨l.toArray⟩)]
def bA (m n : Nat) : AV := .x false [.b m n]
def iA (k : IntKind) (n : Int) : AV := .x false [.v (.int k n)]
def inv_trim (l : List UInt8) : LI := fun _ => .inv ⟨List UInt8, fun x => ⟨[(0, strA x)], []⟩, fun x => dropZ x = dropZ l, fun x => x.length, fun _ => 0⟩
def goal_trims (l : List UInt8) (K : AV → Prop) : Prop := goalA T0 (inv_trim l) Tryd.f29 [strA l] K
theorem goal_trims_vc (l : List UInt8) (K : AV → Prop) : goal_trims l K = ((∃(x:List UInt8),(dropZ x=dropZ l∧OfNat.ofNat 0=0)∧ByteArray.mk (Array.mk l)=ByteArray.mk (Array.mk x)∧True)∧∀(x:List UInt8),dropZ x=dropZ l→OfNat.ofNat 0=0→bif decide (Int.ofNat (ByteArray.mk (Array.mk x)).size>0) then ∃(b:UInt8),((0:Int)≤0∧(Array.mk x).toList[0]?=some b)∧bif Int.ofNat b.toNat==0 then ((0:Int)≤1∧1≤Int.ofNat (ByteArray.mk (Array.mk x)).size∧Int.ofNat (ByteArray.mk (Array.mk x)).size≤Int.ofNat (ByteArray.mk (Array.mk x)).size)∧∃(x':List UInt8),(dropZ x'=dropZ l∧OfNat.ofNat 0=0∧x'.length<x.length)∧(ByteArray.mk (Array.mk x)).extract 1 (Int.ofNat (ByteArray.mk (Array.mk x)).size).toNat=ByteArray.mk (Array.mk x')∧True else K (AV.x false [Ch.v (Value.string (ByteArray.mk (Array.mk x)))]) else K (AV.x false [Ch.v (Value.string (ByteArray.mk (Array.mk x)))])) := by kernel_rfl
def goal_trimb (m n : Nat) (K : AV → Prop) : Prop := goalA T0 (fun _ => .unroll 1) Tryd.f29 [bA m n] K
theorem goal_trimb_vc (m : Nat) (n : Nat) (K : AV → Prop) : goal_trimb m n K = (bif decide (Int.ofNat (natBytes m).length>0) then ∃(b:UInt8),((0:Int)≤0∧(natBytes m)[0]?=some b)∧bif Int.ofNat b.toNat==0 then False else K (AV.x false [Ch.b m n]) else K (AV.x false [Ch.b m n])) := by kernel_rfl
def inv_short (m n : Nat) : LI := fun _ => .inv ⟨Nat, fun i => ⟨[(0, bA m n), (3, iA .u64 (m / 256 ^ ((natBytes m).length - i) : Nat)), (6, iA .i64 (natBytes m).length), (7, iA .i64 i)], []⟩, fun i => i ≤ (natBytes m).length, fun i => (natBytes m).length - i, fun _ => 0⟩
def goal_short (m n : Nat) (K : AV → Prop) : Prop := goalA T0 (inv_short m n) Tryd.f32 [bA m n] K
theorem goal_short_vc (m : Nat) (n : Nat) (K : AV → Prop) : goal_short m n K = ((∃(x:Nat),(x≤(natBytes m).length∧OfNat.ofNat 0=0)∧m=m∧n≤n∧0=Int.ofNat (m/256^((natBytes m).length-x))∧Int.ofNat (natBytes m).length=Int.ofNat (natBytes m).length∧0=Int.ofNat x∧True)∧∀(x:Nat),x≤(natBytes m).length→OfNat.ofNat 0=0→bif decide (Int.ofNat x<Int.ofNat (natBytes m).length) then (0:Int)≤8∧∃(b:UInt8),(0≤Int.ofNat x∧(natBytes m)[(Int.ofNat x).toNat]?=some b)∧∃(x':Nat),(x'≤(natBytes m).length∧OfNat.ofNat 0=0∧(natBytes m).length-x'<(natBytes m).length-x)∧m=m∧n≤n∧orI IntKind.u64 (shlI IntKind.u64 (Int.ofNat (m/256^((natBytes m).length-x))) 8) (IntKind.u64.wrap (Int.ofNat b.toNat))=Int.ofNat (m/256^((natBytes m).length-x'))∧Int.ofNat (natBytes m).length=Int.ofNat (natBytes m).length∧IntKind.i64.wrap (Int.ofNat x+1)=Int.ofNat x'∧True else K (AV.x false [Ch.v (Value.int IntKind.u64 (Int.ofNat (m/256^((natBytes m).length-x))))])) := by kernel_rfl
theorem g_trims (l : List UInt8) (K : AV → Prop) (h : K (strA (dropZ l))) : Holds (goal_trims l K) := by
 refine ⟨?_⟩
 rw [goal_trims_vc]
 refine ⟨⟨l, ⟨rfl, rfl⟩, rfl, trivial⟩, fun x hx _ => bif_mk (fun hp => ?_) (fun hp => ?_)⟩
 ·have hsz : ByteArray.size (ByteArray.mk (Array.mk x)) = x.length := rfl
  cases x with
  | nil => simp [hsz] at hp
  | cons b x =>
   refine ⟨b, ⟨by omega, rfl⟩, bif_mk (fun hb => ?_) (fun hb => ?_)⟩
   ·have hb0 : b = 0 := UInt8.toNat_inj.1 (by simpa using hb)
    rw [hsz]
    refine ⟨⟨by omega, by simp only [List.length_cons, Int.ofNat_eq_natCast]; omega, by omega⟩, x, ⟨?_, rfl, by simp⟩, ?_, trivial⟩
    ·rw [← hx]; simp [dropZ, hb0]
    ·apply ByteArray.ext
     simp
   ·have hb0 : ¬ b = 0 := fun e => by subst e; simp at hb
    have : dropZ (b :: x) = b :: x := by simp [dropZ, hb0]
    rw [← hx, this] at h
    exact h
 ·have : x = [] := by
   have hsz : ByteArray.size (ByteArray.mk (Array.mk x)) = x.length := rfl
   cases x with
   | nil => rfl
   | cons b x => rw [hsz] at hp; simp at hp
  subst this
  rw [← hx] at h
  exact h
theorem g_trimb (m n : Nat) (K : AV → Prop) (h : K (bA m n)) : Holds (goal_trimb m n K) := by
 refine ⟨?_⟩
 rw [goal_trimb_vc]
 refine bif_mk (fun hp => ?_) (fun _ => h)
 have h0 : m ≠ 0 := fun e => by subst e; simp [natBytes_zero] at hp
 obtain ⟨b, h1, h2⟩ := natBytes_head h0
 exact ⟨b, ⟨by omega, h1⟩, bif_mk (fun hb => by simp at hb; omega) (fun _ => h)⟩
theorem g_short (m n : Nat) (K : AV → Prop) (hm : m < 18446744073709551616) (h : K (iA .u64 m)) : Holds (goal_short m n K) := by
 refine ⟨?_⟩
 rw [goal_short_vc]
 have hlt := len_natBytes_lt m
 have hlen : (natBytes m).length ≤ 8 := natBytes_len_iff.2 (by simpa using hm)
 refine ⟨⟨0, ⟨by omega, rfl⟩, rfl, Nat.le_refl _, ?_, rfl, rfl, trivial⟩, fun x hx _ => bif_mk (fun hp => ?_) (fun hp => ?_)⟩
 ·rw [Nat.sub_zero, Nat.div_eq_of_lt hlt]; rfl
 ·have hp : x < (natBytes m).length := by simpa using hp
  refine ⟨by omega, _, ⟨Int.natCast_nonneg _, natBytes_get hp⟩, x + 1, ⟨by omega, rfl, by omega⟩, rfl, Nat.le_refl _, ?_, rfl, ?_, trivial⟩
  ·have e1 : (natBytes m).length - x = ((natBytes m).length - (x + 1)) + 1 := by omega
   have e2 : (natBytes m).length - 1 - Int.toNat (Int.ofNat x) = (natBytes m).length - (x + 1) := by simp only [Int.ofNat_eq_natCast, Int.toNat_natCast]; omega
   rw [e1, e2]
   generalize (natBytes m).length - (x + 1) = k
   have h1 : m / 256 ^ (k + 1) = m / 256 ^ k / 256 := by rw [Nat.pow_succ, Nat.div_div_eq_div_mul]
   rw [h1]
   have h2 : m / 256 ^ k < 18446744073709551616 := Nat.lt_of_le_of_lt (Nat.div_le_self _ _) hm
   generalize m / 256 ^ k = y at h2
   rw [UInt8.toNat_ofNat', Nat.mod_mod]
   have h3 : shlI .u64 (Int.ofNat (y / 256)) 8 = ((2 ^ 8 * (y / 256) : Nat) : Int) := by
    have : ((y / 256 : Nat) : Int) * 2 ^ (min (8 : Int).toNat IntKind.u64.bits) = ((2 ^ 8 * (y / 256) : Nat) : Int) := by
     show ((y / 256 : Nat) : Int) * 2 ^ 8 = _
     omega
    show IntKind.u64.wrap _ = _
    rw [Int.ofNat_eq_natCast, this]
    exact wrap_u64_id (by omega) (by omega)
   rw [h3, show IntKind.u64.wrap (Int.ofNat (y % 256)) = ((y % 256 : Nat) : Int) from wrap_u64_id (by simp; omega) (by simp; omega), orI_u64 (by omega) (by omega)]
   show ((_ : Nat) : Int) = _
   congr 1
   omega
  ·rw [wrap_i64_id] <;> simp <;> omega
 ·have hp : ¬ x < (natBytes m).length := by simpa using hp
  have : (natBytes m).length - x = 0 := by omega
  rw [this, Nat.pow_zero, Nat.div_one]
  exact h
end Go.Proofs
/- Natural numbers, second part: contracts of trim and short; fromShort, words. -/
namespace Go.Proofs
open Go Go.Eng
theorem mixed : Tryd.prog.follows .mixedOrders = true := by kernel_rfl
theorem tok_of {P : Program} {g : Nat} {tab : List Value} {T : Tabs} {tb : TB} {pr : PR} {pm : PM} {px : PX} {mt : MTab} {it : Nat → Option (Func × OT)} {im : List (Nat × Nat × Bool)} (e : T = ⟨tb, pr, pm, px, mt, it, im⟩) (h1 : TbOK P tb) (h2 : PrOK P g tab pr) (h3 : PmOK P g tab pm) (h4 : PxOK P px) (h5 : MethOK P mt)
  (h6 : ∀ f q, it f = some q → P.funcs[f]? = some q.1) (h7 : ∀ t i e j, tb t = some i → i.und = .slice e → tb e = some j → j.und = .int .u8 → P.underlying e = some (.int .u8)) : TabsOK P g tab T := by
 subst e; exact ⟨h1, h2, h3, h4, h5, h6, h7⟩
theorem mkTok {g : Nat} {tab : List Value} {l : List (Nat × Ctr)} {m : List (Nat × CtrM)} {x : List (Nat × CtrX)} (h : CtrsOK Tryd.prog g tab l) (hm : CtrMsOK Tryd.prog g tab m) (hx : CtrXsOK Tryd.prog x) : TabsOK Tryd.prog g tab (mkT l m x) :=
 tok_of (mkT.eq_1 l m x) Tryd.tb_ok (prL_ok h) (pmL_ok hm) (pxL_ok hx) (methP_ok Tryd.prog) (itP_ok Tryd.prog itAll) fun _ _ e j _ _ he hu => by rw [(Tryd.tb_ok e j he).und, hu]
theorem conc_str_b {w : World} {O : Nat → Prop} {ρ : Env} {m n : Nat} {v : Value} (h : ConcV w O ρ (strA (natBytes m)) v) (hb : m < 2 ^ n) : ConcV w O ρ (bA m n) v := by
 have := conc_val1 h
 subst this
 exact mk_one (.b hb .nil)
theorem beNat_bits (l : List UInt8) : beNat l < 2 ^ (8 * l.length) := by
 have := beNat_lt l
 rwa [show (256 : Nat) = 2 ^ 8 from rfl, ← Nat.pow_mul] at this
def c_trim : Ctr := fun l => match l with
 | [.x false [.b m n]] => some fun K => K (bA m n)
 | [.x false [.v (.string s)]] => some fun K => K (bA (beNat s.data.toList) (8 * s.data.toList.length))
 | _ => none
def c_short : Ctr := fun l => match l with
 | [.x false [.b m _]] => some fun K => m < 18446744073709551616 ∧ K (iA .u64 m)
 | _ => none
section
variable {g : Nat} {tab : List Value}
theorem T0ok : TabsOK Tryd.prog g tab T0 := mkTok .nil .nil .nil
theorem ok_trim : CtrOK Tryd.prog g tab 29 c_trim := by
 refine ⟨enters Tryd.func29 (by kernel_rfl), fun l T hT K hK => ?_⟩
 unfold c_trim at hT
 split at hT
 ·cases hT
  exact spec_of T0ok mixed Tryd.func29 (by kernel_rfl) (by kernel_rfl) (g_trimb _ _ K hK)
 ·rename_i s
  cases hT
  refine Spec.res (spec_of T0ok mixed Tryd.func29 (by kernel_rfl) (by kernel_rfl) (g_trims s.data.toList (fun av => av = strA (dropZ s.data.toList)) rfl)) ?_
  rintro w O av v rfl hc
  refine ⟨_, hK, conc_str_b ?_ (beNat_bits _)⟩
  rw [natBytes_beNat]; exact hc
 ·cases hT
theorem ok_short : CtrOK Tryd.prog g tab 32 c_short := by
 refine ⟨enters Tryd.func32 (by kernel_rfl), fun l T hT K hK => ?_⟩
 unfold c_short at hT
 split at hT
 ·cases hT
  exact spec_of T0ok mixed Tryd.func32 (by kernel_rfl) (by kernel_rfl) (g_short _ _ K hK.1 hK.2)
 ·cases hT
def L1 : List (Nat × Ctr) := [(29, c_trim), (32, c_short)]
theorem L1ok : CtrsOK Tryd.prog g tab L1 := .cons ok_trim (.cons ok_short .nil)
end
noncomputable def T1 : Tabs := mkT L1 [] []
theorem T1ok {g : Nat} {tab : List Value} : TabsOK Tryd.prog g tab T1 := mkTok L1ok .nil .nil
def noO : OT := fun _ => ([], [])
def goal_fromShort (n : Nat) (K : AV → Prop) : Prop := goalL T1 noO (fun _ => .unroll 9) Tryd.f31 [iA .u64 n] K
theorem goal_fromShort_vc (n : Nat) (K : AV → Prop) : goal_fromShort n K = ((∀(vals:List Value),[Value.int IntKind.u8 0,Value.int IntKind.u8 0,Value.int IntKind.u8 0,Value.int IntKind.u8 0,Value.int IntKind.u8 0,Value.int IntKind.u8 0,Value.int IntKind.u8 0,Value.int IntKind.u8 0]=vals→[Value.int IntKind.u8 0,Value.int IntKind.u8 0,Value.int IntKind.u8 0,Value.int IntKind.u8 0,Value.int IntKind.u8 0,Value.int IntKind.u8 0,Value.int IntKind.u8 0,Value.int IntKind.u8 0]=vals→(0:Int)≤56∧((0:Int)≤0∧(0:Int)<8)∧0<8∧(0:Int)≤48∧((0:Int)≤1∧(1:Int)<8)∧1<8∧(0:Int)≤40∧((0:Int)≤2∧(2:Int)<8)∧2<8∧(0:Int)≤32∧((0:Int)≤3∧(3:Int)<8)∧3<8∧(0:Int)≤24∧((0:Int)≤4∧(4:Int)<8)∧4<8∧(0:Int)≤16∧((0:Int)≤5∧(5:Int)<8)∧5<8∧(0:Int)≤8∧((0:Int)≤6∧(6:Int)<8)∧6<8∧(0:Int)≤0∧((0:Int)≤7∧(7:Int)<8)∧7<8∧((0:Int)≤0∧(0:Int)≤8∧(8:Int)≤8∧8≤8)∧∃(bs:List UInt8),[[Ch.v (Value.int IntKind.u8 (IntKind.u8.wrap (shrI IntKind.u64 (Int.ofNat n) 56)))],[Ch.v (Value.int IntKind.u8 (IntKind.u8.wrap (shrI IntKind.u64 (Int.ofNat n) 48)))],[Ch.v (Value.int IntKind.u8 (IntKind.u8.wrap (shrI IntKind.u64 (Int.ofNat n) 40)))],[Ch.v (Value.int IntKind.u8 (IntKind.u8.wrap (shrI IntKind.u64 (Int.ofNat n) 32)))],[Ch.v (Value.int IntKind.u8 (IntKind.u8.wrap (shrI IntKind.u64 (Int.ofNat n) 24)))],[Ch.v (Value.int IntKind.u8 (IntKind.u8.wrap (shrI IntKind.u64 (Int.ofNat n) 16)))],[Ch.v (Value.int IntKind.u8 (IntKind.u8.wrap (shrI IntKind.u64 (Int.ofNat n) 8)))],[Ch.v (Value.int IntKind.u8 (IntKind.u8.wrap (shrI IntKind.u64 (Int.ofNat n) 0)))]]=List.map byteEl bs∧K (AV.x false [Ch.b (beNat (Array.mk bs).toList) (8*(Array.mk bs).toList.length)]))∧[Value.int IntKind.u8 0,Value.int IntKind.u8 0,Value.int IntKind.u8 0,Value.int IntKind.u8 0,Value.int IntKind.u8 0,Value.int IntKind.u8 0,Value.int IntKind.u8 0,Value.int IntKind.u8 0]=[Value.int IntKind.u8 0,Value.int IntKind.u8 0,Value.int IntKind.u8 0,Value.int IntKind.u8 0,Value.int IntKind.u8 0,Value.int IntKind.u8 0,Value.int IntKind.u8 0,Value.int IntKind.u8 0]) := by kernel_rfl
theorem fromShort_bytes {n : Nat} (h : n < 18446744073709551616) : beNat [UInt8.ofNat (n / 72057594037927936), UInt8.ofNat (n / 281474976710656), UInt8.ofNat (n / 1099511627776), UInt8.ofNat (n / 4294967296), UInt8.ofNat (n / 16777216), UInt8.ofNat (n / 65536), UInt8.ofNat (n / 256), UInt8.ofNat n] = n := by
 simp only [beNat, List.foldl_cons, List.foldl_nil, UInt8.toNat_ofNat']
 omega
theorem byte_shr {n k : Nat} (hk : k ≤ 64) : IntKind.u8.wrap (shrI .u64 (Int.ofNat n) (k : Int)) = ((UInt8.ofNat (n / 2 ^ k)).toNat : Int) := by
 rw [shr_eq (by simpa [IntKind.bits] using hk) (by simp), IntKind.wrap_u8]
 simp only [Int.toNat_natCast, UInt8.toNat_ofNat', Int.ofNat_eq_natCast]
 have : ((2 : Int) ^ k) = ((2 ^ k : Nat) : Int) := by simp
 rw [this, ← Int.natCast_ediv]
 omega
theorem g_fromShort (n : Nat) (K : AV → Prop) (h : n < 18446744073709551616) (hK : K (bA n 64)) : Holds (goal_fromShort n K) := by
 refine ⟨?_⟩
 rw [goal_fromShort_vc]
 refine ⟨fun vals hv _ => ?_, rfl⟩
 repeat (refine And.intro (by omega) ?_)
 refine ⟨[UInt8.ofNat (n / 72057594037927936), UInt8.ofNat (n / 281474976710656), UInt8.ofNat (n / 1099511627776), UInt8.ofNat (n / 4294967296), UInt8.ofNat (n / 16777216), UInt8.ofNat (n / 65536), UInt8.ofNat (n / 256), UInt8.ofNat n], ?_, ?_⟩
 ·simp only [List.map_cons, List.map_nil, byteEl]
  rw [show IntKind.u8.wrap (shrI .u64 (Int.ofNat n) 56) = _ from byte_shr (k := 56) (by omega), show IntKind.u8.wrap (shrI .u64 (Int.ofNat n) 48) = _ from byte_shr (k := 48) (by omega),
   show IntKind.u8.wrap (shrI .u64 (Int.ofNat n) 40) = _ from byte_shr (k := 40) (by omega), show IntKind.u8.wrap (shrI .u64 (Int.ofNat n) 32) = _ from byte_shr (k := 32) (by omega),
   show IntKind.u8.wrap (shrI .u64 (Int.ofNat n) 24) = _ from byte_shr (k := 24) (by omega), show IntKind.u8.wrap (shrI .u64 (Int.ofNat n) 16) = _ from byte_shr (k := 16) (by omega),
   show IntKind.u8.wrap (shrI .u64 (Int.ofNat n) 8) = _ from byte_shr (k := 8) (by omega), show IntKind.u8.wrap (shrI .u64 (Int.ofNat n) 0) = _ from byte_shr (k := 0) (by omega)]
  simp
 ·simp only
  rw [fromShort_bytes h]
  exact hK
def c_fromShort : Ctr := fun as0 => match as0 with
 | [.x false [.v (.int .u64 n)]] => some fun K => (0 ≤ n ∧ n < 18446744073709551616) ∧ K (bA n.toNat 64)
 | _ => none
theorem ok_fromShort {g : Nat} {tab : List Value} : CtrOK Tryd.prog g tab 31 c_fromShort := by
 refine ⟨enters Tryd.func31 (by kernel_rfl), fun l T hT K hK => ?_⟩
 unfold c_fromShort at hT
 split at hT
 ·cases hT
  obtain ⟨⟨h0, h1⟩, hK⟩ := hK
  rename_i n
  obtain ⟨n, rfl⟩ := Int.eq_ofNat_of_zero_le h0
  exact spec_ofL T1ok mixed Tryd.func31 (by kernel_rfl) (by kernel_rfl) (by rfl) (g_fromShort n K (by omega) (by simpa using hK))
 ·cases hT
def wl (m : Nat) : Nat := ((natBytes m).length + 3) / 4
def inv_words (m n : Nat) : LI := fun _ => .inv ⟨Nat, fun i => ⟨[(0, bA m n), (3, .x false [.w 12 0 (wl m)]), (14, iA .i64 (natBytes m).length), (15, iA .i64 i)], [(12, .row 86 1 (W (fd 4294967296 (wl m) (m % 256 ^ i))))]⟩,
 fun i => i ≤ (natBytes m).length, fun i => (natBytes m).length - i, fun _ => 0⟩
def ot_words : OT := fun id => bif id.beq 7 then ([0, 1, 2, 3, 4, 5, 6, 7, 8, 9, 10, 11, 12, 13, 14, 15], [[], [], [1], [0, 2, 1], [3, 0, 2, 1], [], [], [5, 6], [7, 5, 6], [], [9], [10, 9], [8, 7, 5, 6, 11, 10, 9], [4, 3, 0, 2, 1, 12, 8, 7, 5, 6, 11, 10, 9], [0, 2, 1, 3, 4, 5, 6, 7, 8, 9, 10, 11, 12, 13], [14, 0, 2, 1, 3, 4, 5, 6, 7, 8, 9, 10, 11, 12, 13]]) else ([], [])
def goal_words (m n : Nat) : Prop := goalM (X := Unit) T1 ot_words (inv_words m n) Tryd.f33 [bA m n] [] (fun _ => True) (fun _ => ⟨[(2, .x false [.w 0 0 (wl m)])], [(0, .row 86 1 (W (fd 4294967296 (wl m) m)))]⟩)
theorem goal_words_vc (m : Nat) (n : Nat) : goal_words m n = ((4:Int)≠0∧(0≤IntKind.i64.wrap ((IntKind.i64.wrap (Int.ofNat (natBytes m).length+3)).tdiv 4)∧IntKind.i64.wrap ((IntKind.i64.wrap (Int.ofNat (natBytes m).length+3)).tdiv 4)≤IntKind.i64.wrap ((IntKind.i64.wrap (Int.ofNat (natBytes m).length+3)).tdiv 4)∧4*IntKind.i64.wrap ((IntKind.i64.wrap (Int.ofNat (natBytes m).length+3)).tdiv 4)≤281474976710656∧IntKind.i64.wrap ((IntKind.i64.wrap (Int.ofNat (natBytes m).length+3)).tdiv 4)≤9223372036854775807)∧(∃(x:Nat),(x≤(natBytes m).length∧OfNat.ofNat 0=0)∧m=m∧n≤n∧0=0∧(IntKind.i64.wrap ((IntKind.i64.wrap (Int.ofNat (natBytes m).length+3)).tdiv 4)).toNat=wl m∧Int.ofNat (natBytes m).length=Int.ofNat (natBytes m).length∧0=Int.ofNat x∧86=86∧1=1∧(List.replicate (IntKind.i64.wrap ((IntKind.i64.wrap (Int.ofNat (natBytes m).length+3)).tdiv 4)).toNat [Ch.v (Value.int IntKind.u32 0)]=W (fd 4294967296 (wl m) (m%256^x))∨RowLE (List.replicate (IntKind.i64.wrap ((IntKind.i64.wrap (Int.ofNat (natBytes m).length+3)).tdiv 4)).toNat [Ch.v (Value.int IntKind.u32 0)]) (W (fd 4294967296 (wl m) (m%256^x))))∧True)∧∀(x:Nat),x≤(natBytes m).length→OfNat.ofNat 0=0→bif decide (Int.ofNat x<Int.ofNat (natBytes m).length) then (4:Int)≠0∧(0≤IntKind.i64.wrap ((Int.ofNat x).tdiv 4)∧IntKind.i64.wrap ((Int.ofNat x).tdiv 4)<Int.ofNat (wl m))∧∃(d:Int),ldE (W (fd 4294967296 (wl m) (m%256^x))) (0+(IntKind.i64.wrap ((Int.ofNat x).tdiv 4)).toNat) 0 1=some [Ch.v (Value.int IntKind.u32 d)]∧∃(b:UInt8),(0≤IntKind.i64.wrap (IntKind.i64.wrap (Int.ofNat (natBytes m).length-1)-Int.ofNat x)∧(natBytes m)[(IntKind.i64.wrap (IntKind.i64.wrap (Int.ofNat (natBytes m).length-1)-Int.ofNat x)).toNat]?=some b)∧(4:Int)≠0∧0≤IntKind.i64.wrap ((Int.ofNat x).tmod 4*8)∧(0≤IntKind.i64.wrap ((Int.ofNat x).tdiv 4)∧IntKind.i64.wrap ((Int.ofNat x).tdiv 4)<Int.ofNat (wl m))∧0+(IntKind.i64.wrap ((Int.ofNat x).tdiv 4)).toNat<(W (fd 4294967296 (wl m) (m%256^x))).length∧∃(x':Nat),(x'≤(natBytes m).length∧OfNat.ofNat 0=0∧(natBytes m).length-x'<(natBytes m).length-x)∧m=m∧n≤n∧0=0∧wl m=wl m∧Int.ofNat (natBytes m).length=Int.ofNat (natBytes m).length∧IntKind.i64.wrap (Int.ofNat x+1)=Int.ofNat x'∧86=86∧1=1∧((W (fd 4294967296 (wl m) (m%256^x))).set (0+(IntKind.i64.wrap ((Int.ofNat x).tdiv 4)).toNat) [Ch.v (Value.int IntKind.u32 (orI IntKind.u32 d (shlI IntKind.u32 (IntKind.u32.wrap (Int.ofNat b.toNat)) (IntKind.i64.wrap ((Int.ofNat x).tmod 4*8)))))]=W (fd 4294967296 (wl m) (m%256^x'))∨RowLE ((W (fd 4294967296 (wl m) (m%256^x))).set (0+(IntKind.i64.wrap ((Int.ofNat x).tdiv 4)).toNat) [Ch.v (Value.int IntKind.u32 (orI IntKind.u32 d (shlI IntKind.u32 (IntKind.u32.wrap (Int.ofNat b.toNat)) (IntKind.i64.wrap ((Int.ofNat x).tmod 4*8)))))]) (W (fd 4294967296 (wl m) (m%256^x'))))∧True else ∃(x_1:Unit),True∧0=0∧wl m=wl m∧86=86∧1=1∧(W (fd 4294967296 (wl m) (m%256^x))=W (fd 4294967296 (wl m) m)∨RowLE (W (fd 4294967296 (wl m) (m%256^x))) (W (fd 4294967296 (wl m) m)))∧True) := by kernel_rfl
theorem g_words (m n : Nat) (hn : n ≤ 1099511627776) (hm : m < 2 ^ n) : Holds (goal_words m n) := by
 refine ⟨?_⟩
 rw [goal_words_vc]
 have hl := natBytes_len hm
 have hw : ∀ x : Nat, x ≤ (natBytes m).length → (x : Int) < 9223372036854775807 := fun x hx => by omega
 generalize hlen : (natBytes m).length = len at hl hw
 have hwl : wl m = (len + 3) / 4 := by unfold wl; rw [hlen]
 simp only [hwl]
 simp only [Int.ofNat_eq_natCast, true_and, and_true, Nat.zero_add, Nat.le_refl, true_implies, true_or, or_true]
 simp (disch := omega) only [w64, te, tm]
 have e1 : (((len : Int) + 3) / 4).toNat = (len + 3) / 4 := by omega
 rw [e1]
 simp only [true_and]
 refine ⟨by omega, ⟨by omega, by omega, by omega, by omega⟩, ⟨0, by omega, rfl, .inl ?_⟩, fun x hx => bif_mk (fun hp => ?_) (fun hp => ?_)⟩
 ·rw [Nat.pow_zero, Nat.mod_one, zeros_fd, W, List.map_replicate]; rfl
 ·have hp : x < len := by simpa using hp
  simp (disch := omega) only [w64, te, tm]
  have e2 : ((x : Int) / 4).toNat = x / 4 := by omega
  have e3 : ((len : Int) - 1 - x).toNat = len - 1 - x := by omega
  have hj : x / 4 < (len + 3) / 4 := by omega
  rw [e2, e3]
  refine ⟨by omega, by omega, _, W_ldE (fd_get hj), _, ⟨by omega, natBytes_get (by omega)⟩, by omega, by omega, by omega, by rw [W_len, fd_len]; exact hj, x + 1, by omega, by omega, .inl ?_⟩
  rw [hlen, show len - 1 - (len - 1 - x) = x by omega, UInt8.toNat_ofNat', Nat.mod_mod, ← fd_byte (by omega), ← W_set]
  congr 4
  rw [show ((x : Int) % 4) = ((x % 4 : Nat) : Int) by omega]
  exact or_byte32 (byte_lt m x) (by omega) (Nat.mod_lt _ (by omega))
 ·have hp : ¬ x < len := by simpa using hp
  have : x = len := by omega
  subst this
  exact ⟨(), .inl (by rw [Nat.mod_eq_of_lt (by rw [← hlen]; exact len_natBytes_lt m)])⟩
/-- digits of a number -/
def c_words : CtrM := fun as0 H d => match as0 with
  | [.x false [.b m n]] => match H d with
    | none => some fun K => n ≤ 1099511627776 ∧ K (.x false [.w d 0 (wl m)]) (backH [(0, d)] (lookH [(0, .row 86 1 (W (fd 4294967296 (wl m) m)))]) H)
    | some _ => none
  | _ => none
theorem SpecM.pre {P : Program} {g : Nat} {tab : List Value} {f : Nat} {l : List AV} {H : HP} {K : KK} (h : (∀ w O ρ vals, ConcAs w O ρ l vals → SpecM P g tab f l H K)) : SpecM P g tab f l H K :=
 fun w0 M ρ w vals hg ht hs hc => h w _ ρ vals hc w0 M ρ w vals hg ht hs hc
theorem conc_lt {w : World} {O : Nat → Prop} {ρ : Env} {m n : Nat} {l : List AV} {vals : List Value} (h : ConcAs w O ρ (.x false [.b m n] :: l) vals) : m < 2 ^ n := by
 cases h with
 | cons h _ => exact (conc_b h).2
theorem ok_words {g : Nat} {tab : List Value} : CtrMOK Tryd.prog g tab 33 c_words := by
 refine ⟨enters Tryd.func33 (by kernel_rfl), fun l H d T hT K hK => ?_⟩
 unfold c_words at hT
 split at hT
 ·split at hT
  ·rename_i hd
   cases hT
   exact SpecM.pre fun w O ρ vals hc => specM_new T1ok mixed Tryd.func33 (by kernel_rfl) (by kernel_rfl) (by rfl) (by rfl) hd (by kernel_rfl) (g_words _ _ hK.1 (conc_lt hc)) hK.2
  ·cases hT
 ·cases hT
end Go.Proofs
/- Natural numbers, third part: text. -/
namespace Go.Proofs
open Go Go.Eng
def L2 : List (Nat × Ctr) := (31, c_fromShort) :: L1
def M2 : List (Nat × CtrM) := [(33, c_words)]
noncomputable def T2 : Tabs := mkT L2 M2 []
theorem L2ok {g : Nat} {tab : List Value} : CtrsOK Tryd.prog g tab L2 := .cons ok_fromShort L1ok
theorem M2ok {g : Nat} {tab : List Value} : CtrMsOK Tryd.prog g tab M2 := .cons ok_words .nil
theorem T2ok {g : Nat} {tab : List Value} : TabsOK Tryd.prog g tab T2 := mkTok L2ok M2ok .nil
/-- The bytes of digits, the most significant one first. -/
def tbs (ds : List Nat) : List UInt8 := ds.foldl (fun (l : List UInt8) (d : Nat) => UInt8.ofNat (d / 16777216) :: UInt8.ofNat (d / 65536) :: UInt8.ofNat (d / 256) :: UInt8.ofNat d :: l) []
theorem tbs_snoc (ds : List Nat) (d : Nat) : tbs (ds ++ [d]) = [UInt8.ofNat (d / 16777216), UInt8.ofNat (d / 65536), UInt8.ofNat (d / 256), UInt8.ofNat d] ++ tbs ds := by
 unfold tbs; rw [List.foldl_append]; rfl
theorem tbs_len (ds : List Nat) : (tbs ds).length = 4 * ds.length := by
 induction ds using snocInd with
 | h0 => rfl
 | h1 l d ih => rw [tbs_snoc]; simp [ih]; omega
theorem be4 {d : Nat} (h : d < 4294967296) : beNat [UInt8.ofNat (d / 16777216), UInt8.ofNat (d / 65536), UInt8.ofNat (d / 256), UInt8.ofNat d] = d := by
 simp only [beNat, List.foldl_cons, List.foldl_nil, UInt8.toNat_ofNat']
 omega
theorem tbs_val {ds : List Nat} (h : Dig 4294967296 ds) : beNat (tbs ds) = leNat 4294967296 ds := by
 induction ds using snocInd with
 | h0 => rfl
 | h1 l d ih =>
  have hd := h d (by simp)
  have hl := ih (fun x hx => h x (by simp [hx]))
  rw [tbs_snoc, beNat_append, be4 hd, hl, tbs_len, leNat_append]
  simp only [leNat, Nat.mul_zero, Nat.add_zero]
  rw [Nat.pow_mul, show (256 : Nat) ^ 4 = 4294967296 from rfl, Nat.mul_comm, Nat.add_comm]
theorem set4 {α : Type} {p q : List α} {z1 z2 z3 z4 a b c e : α} {k : Nat} (hk : p.length = k) : ((((p ++ ([z1, z2, z3, z4] ++ q)).set k a).set (k + 1) b).set (k + 2) c).set (k + 3) e = p ++ ([a, b, c, e] ++ q) := by
 subst hk
 simp []
theorem byte_shr32 {n k : Nat} (hk : k ≤ 32) : IntKind.u8.wrap (shrI .u32 (n : Int) (k : Int)) = ((UInt8.ofNat (n / 2 ^ k)).toNat : Int) := by
 rw [shr_eq (by simpa [IntKind.bits] using hk) (by simp), IntKind.wrap_u8]
 simp only [Int.toNat_natCast, UInt8.toNat_ofNat']
 have : ((2 : Int) ^ k) = ((2 ^ k : Nat) : Int) := by simp
 rw [this, ← Int.natCast_ediv]
 omega
theorem byteEl_eq (b : UInt8) : [Ch.v (.int .u8 (b.toNat : Int))] = byteEl b := rfl
def inv_text (ds : List Nat) : LI := fun _ => .inv ⟨Nat, fun i => ⟨[(0, .x false [.s 1 (W ds)]), (3, .x false [.w 10 0 (4 * ds.length)]), (11, .x false [.s 1 (W ds)]), (12, iA .i64 ds.length), (13, iA .i64 i)],
  [(10, .row 5 1 ((List.replicate (4 * (ds.length - i)) 0 ++ tbs (ds.take i)).map byteEl))]⟩, fun i => i ≤ ds.length, fun i => ds.length - i, fun _ => 0⟩
def ot_text : OT := fun _ => ([], [])
def goal_text (ds : List Nat) (K : AV → Prop) : Prop := goalL T2 ot_text (inv_text ds) Tryd.f34 [.x false [.s 1 (W ds)]] K
theorem goal_text_vc (ds : List Nat) (K : AV → Prop) : goal_text ds K = ((0≤IntKind.i64.wrap (4*Int.ofNat (W ds).length)∧IntKind.i64.wrap (4*Int.ofNat (W ds).length)≤IntKind.i64.wrap (4*Int.ofNat (W ds).length)∧1*IntKind.i64.wrap (4*Int.ofNat (W ds).length)≤281474976710656∧IntKind.i64.wrap (4*Int.ofNat (W ds).length)≤9223372036854775807)∧(∃(x:Nat),(x≤ds.length∧OfNat.ofNat 0=0)∧1=1∧W ds=W ds∧0=0∧(IntKind.i64.wrap (4*Int.ofNat (W ds).length)).toNat=4*ds.length∧1=1∧W ds=W ds∧Int.ofNat (W ds).length=Int.ofNat ds.length∧0=Int.ofNat x∧5=5∧1=1∧(List.replicate (IntKind.i64.wrap (4*Int.ofNat (W ds).length)).toNat [Ch.v (Value.int IntKind.u8 0)]=List.map byteEl (List.replicate (4*(ds.length-x)) (OfNat.ofNat 0)++tbs (List.take x ds))∨RowLE (List.replicate (IntKind.i64.wrap (4*Int.ofNat (W ds).length)).toNat [Ch.v (Value.int IntKind.u8 0)]) (List.map byteEl (List.replicate (4*(ds.length-x)) (OfNat.ofNat 0)++tbs (List.take x ds))))∧True)∧∀(x:Nat),x≤ds.length→OfNat.ofNat 0=0→bif decide (Int.ofNat x<Int.ofNat ds.length) then (0≤Int.ofNat x∧Int.ofNat x<Int.ofNat (W ds).length)∧∃(d:Int),ldE (W ds) (Int.ofNat x).toNat 0 1=some [Ch.v (Value.int IntKind.u32 d)]∧(0:Int)≤24∧(0:Int)≤16∧(0:Int)≤8∧(0≤IntKind.i64.wrap (4*IntKind.i64.wrap (IntKind.i64.wrap (Int.ofNat (W ds).length-1)-Int.ofNat x))∧IntKind.i64.wrap (4*IntKind.i64.wrap (IntKind.i64.wrap (Int.ofNat (W ds).length-1)-Int.ofNat x))<Int.ofNat (4*ds.length))∧0+(IntKind.i64.wrap (4*IntKind.i64.wrap (IntKind.i64.wrap (Int.ofNat (W ds).length-1)-Int.ofNat x))).toNat<(List.map byteEl (List.replicate (4*(ds.length-x)) (OfNat.ofNat 0)++tbs (List.take x ds))).length∧(0≤IntKind.i64.wrap (IntKind.i64.wrap (4*IntKind.i64.wrap (IntKind.i64.wrap (Int.ofNat (W ds).length-1)-Int.ofNat x))+1)∧IntKind.i64.wrap (IntKind.i64.wrap (4*IntKind.i64.wrap (IntKind.i64.wrap (Int.ofNat (W ds).length-1)-Int.ofNat x))+1)<Int.ofNat (4*ds.length))∧0+(IntKind.i64.wrap (IntKind.i64.wrap (4*IntKind.i64.wrap (IntKind.i64.wrap (Int.ofNat (W ds).length-1)-Int.ofNat x))+1)).toNat<((List.map byteEl (List.replicate (4*(ds.length-x)) (OfNat.ofNat 0)++tbs (List.take x ds))).set (0+(IntKind.i64.wrap (4*IntKind.i64.wrap (IntKind.i64.wrap (Int.ofNat (W ds).length-1)-Int.ofNat x))).toNat) [Ch.v (Value.int IntKind.u8 (IntKind.u8.wrap (shrI IntKind.u32 d 24)))]).length∧(0≤IntKind.i64.wrap (IntKind.i64.wrap (4*IntKind.i64.wrap (IntKind.i64.wrap (Int.ofNat (W ds).length-1)-Int.ofNat x))+2)∧IntKind.i64.wrap (IntKind.i64.wrap (4*IntKind.i64.wrap (IntKind.i64.wrap (Int.ofNat (W ds).length-1)-Int.ofNat x))+2)<Int.ofNat (4*ds.length))∧0+(IntKind.i64.wrap (IntKind.i64.wrap (4*IntKind.i64.wrap (IntKind.i64.wrap (Int.ofNat (W ds).length-1)-Int.ofNat x))+2)).toNat<(((List.map byteEl (List.replicate (4*(ds.length-x)) (OfNat.ofNat 0)++tbs (List.take x ds))).set (0+(IntKind.i64.wrap (4*IntKind.i64.wrap (IntKind.i64.wrap (Int.ofNat (W ds).length-1)-Int.ofNat x))).toNat) [Ch.v (Value.int IntKind.u8 (IntKind.u8.wrap (shrI IntKind.u32 d 24)))]).set (0+(IntKind.i64.wrap (IntKind.i64.wrap (4*IntKind.i64.wrap (IntKind.i64.wrap (Int.ofNat (W ds).length-1)-Int.ofNat x))+1)).toNat) [Ch.v (Value.int IntKind.u8 (IntKind.u8.wrap (shrI IntKind.u32 d 16)))]).length∧(0≤IntKind.i64.wrap (IntKind.i64.wrap (4*IntKind.i64.wrap (IntKind.i64.wrap (Int.ofNat (W ds).length-1)-Int.ofNat x))+3)∧IntKind.i64.wrap (IntKind.i64.wrap (4*IntKind.i64.wrap (IntKind.i64.wrap (Int.ofNat (W ds).length-1)-Int.ofNat x))+3)<Int.ofNat (4*ds.length))∧0+(IntKind.i64.wrap (IntKind.i64.wrap (4*IntKind.i64.wrap (IntKind.i64.wrap (Int.ofNat (W ds).length-1)-Int.ofNat x))+3)).toNat<((((List.map byteEl (List.replicate (4*(ds.length-x)) (OfNat.ofNat 0)++tbs (List.take x ds))).set (0+(IntKind.i64.wrap (4*IntKind.i64.wrap (IntKind.i64.wrap (Int.ofNat (W ds).length-1)-Int.ofNat x))).toNat) [Ch.v (Value.int IntKind.u8 (IntKind.u8.wrap (shrI IntKind.u32 d 24)))]).set (0+(IntKind.i64.wrap (IntKind.i64.wrap (4*IntKind.i64.wrap (IntKind.i64.wrap (Int.ofNat (W ds).length-1)-Int.ofNat x))+1)).toNat) [Ch.v (Value.int IntKind.u8 (IntKind.u8.wrap (shrI IntKind.u32 d 16)))]).set (0+(IntKind.i64.wrap (IntKind.i64.wrap (4*IntKind.i64.wrap (IntKind.i64.wrap (Int.ofNat (W ds).length-1)-Int.ofNat x))+2)).toNat) [Ch.v (Value.int IntKind.u8 (IntKind.u8.wrap (shrI IntKind.u32 d 8)))]).length∧∃(x':Nat),(x'≤ds.length∧OfNat.ofNat 0=0∧ds.length-x'<ds.length-x)∧1=1∧W ds=W ds∧0=0∧4*ds.length=4*ds.length∧1=1∧W ds=W ds∧Int.ofNat ds.length=Int.ofNat ds.length∧IntKind.i64.wrap (Int.ofNat x+1)=Int.ofNat x'∧5=5∧1=1∧(((((List.map byteEl (List.replicate (4*(ds.length-x)) (OfNat.ofNat 0)++tbs (List.take x ds))).set (0+(IntKind.i64.wrap (4*IntKind.i64.wrap (IntKind.i64.wrap (Int.ofNat (W ds).length-1)-Int.ofNat x))).toNat) [Ch.v (Value.int IntKind.u8 (IntKind.u8.wrap (shrI IntKind.u32 d 24)))]).set (0+(IntKind.i64.wrap (IntKind.i64.wrap (4*IntKind.i64.wrap (IntKind.i64.wrap (Int.ofNat (W ds).length-1)-Int.ofNat x))+1)).toNat) [Ch.v (Value.int IntKind.u8 (IntKind.u8.wrap (shrI IntKind.u32 d 16)))]).set (0+(IntKind.i64.wrap (IntKind.i64.wrap (4*IntKind.i64.wrap (IntKind.i64.wrap (Int.ofNat (W ds).length-1)-Int.ofNat x))+2)).toNat) [Ch.v (Value.int IntKind.u8 (IntKind.u8.wrap (shrI IntKind.u32 d 8)))]).set (0+(IntKind.i64.wrap (IntKind.i64.wrap (4*IntKind.i64.wrap (IntKind.i64.wrap (Int.ofNat (W ds).length-1)-Int.ofNat x))+3)).toNat) [Ch.v (Value.int IntKind.u8 (IntKind.u8.wrap d))]=List.map byteEl (List.replicate (4*(ds.length-x')) (OfNat.ofNat 0)++tbs (List.take x' ds))∨RowLE (((((List.map byteEl (List.replicate (4*(ds.length-x)) (OfNat.ofNat 0)++tbs (List.take x ds))).set (0+(IntKind.i64.wrap (4*IntKind.i64.wrap (IntKind.i64.wrap (Int.ofNat (W ds).length-1)-Int.ofNat x))).toNat) [Ch.v (Value.int IntKind.u8 (IntKind.u8.wrap (shrI IntKind.u32 d 24)))]).set (0+(IntKind.i64.wrap (IntKind.i64.wrap (4*IntKind.i64.wrap (IntKind.i64.wrap (Int.ofNat (W ds).length-1)-Int.ofNat x))+1)).toNat) [Ch.v (Value.int IntKind.u8 (IntKind.u8.wrap (shrI IntKind.u32 d 16)))]).set (0+(IntKind.i64.wrap (IntKind.i64.wrap (4*IntKind.i64.wrap (IntKind.i64.wrap (Int.ofNat (W ds).length-1)-Int.ofNat x))+2)).toNat) [Ch.v (Value.int IntKind.u8 (IntKind.u8.wrap (shrI IntKind.u32 d 8)))]).set (0+(IntKind.i64.wrap (IntKind.i64.wrap (4*IntKind.i64.wrap (IntKind.i64.wrap (Int.ofNat (W ds).length-1)-Int.ofNat x))+3)).toNat) [Ch.v (Value.int IntKind.u8 (IntKind.u8.wrap d))]) (List.map byteEl (List.replicate (4*(ds.length-x')) (OfNat.ofNat 0)++tbs (List.take x' ds))))∧True else ∃(bs:List UInt8),List.take (4*ds.length) (List.drop 0 (List.map byteEl (List.replicate (4*(ds.length-x)) (OfNat.ofNat 0)++tbs (List.take x ds))))=List.map byteEl bs∧K (AV.x false [Ch.b (beNat (Array.mk bs).toList) (8*(Array.mk bs).toList.length)])) := by kernel_rfl
theorem g_text (ds : List Nat) (K : AV → Prop) (hd : Dig 4294967296 ds) (hn : ds.length ≤ 1099511627776) (hK : K (bA (leNat 4294967296 ds) (32 * ds.length))) : Holds (goal_text ds K) := by
 refine ⟨?_⟩
 rw [goal_text_vc]
 simp only [W_len]
 generalize hlen : ds.length = len at hn hK
 simp only [Int.ofNat_eq_natCast, true_and, and_true, Nat.zero_add, true_implies]
 simp (disch := omega) only [w64]
 have e1 : ((4 : Int) * len).toNat = 4 * len := by omega
 simp only [e1, true_and]
 refine ⟨⟨by omega, by omega, by omega, by omega⟩, ⟨0, by omega, rfl, .inl ?_⟩, fun x hx => bif_mk (fun hp => ?_) (fun hp => ?_)⟩
 ·simp [tbs, byteEl]
 ·have hp : x < len := by simpa using hp
  simp (disch := omega) only [w64]
  obtain ⟨d, hget⟩ : ∃ d, ds[x]? = some d := ⟨_, List.getElem?_eq_getElem (by omega)⟩
  have hdd := hd.get hget
  have f1 : ((4 : Int) * ((len : Int) - 1 - x)).toNat = 4 * (len - 1 - x) := by omega
  have f2 : ((4 : Int) * ((len : Int) - 1 - x) + 1).toNat = 4 * (len - 1 - x) + 1 := by omega
  have f3 : ((4 : Int) * ((len : Int) - 1 - x) + 2).toNat = 4 * (len - 1 - x) + 2 := by omega
  have f4 : ((4 : Int) * ((len : Int) - 1 - x) + 3).toNat = 4 * (len - 1 - x) + 3 := by omega
  have hl1 : (List.map byteEl (List.replicate (4 * (len - x)) 0 ++ tbs (List.take x ds))).length = 4 * len := by
   simp [tbs_len, hlen]; omega
  simp only [f1, f2, f3, f4, List.length_set, hl1, Int.toNat_natCast]
  refine ⟨by omega, _, W_ldE hget, ?_⟩
  repeat (refine And.intro (by omega) ?_)
  refine ⟨x + 1, ⟨by omega, by omega⟩, by omega, .inl ?_⟩
  have e5 : len - x = (len - (x + 1)) + 1 := by omega
  rw [List.take_add_one, hget, Option.toList_some, tbs_snoc, e5, Nat.mul_add, Nat.mul_one, ← List.replicate_append_replicate, List.append_assoc, show len - 1 - x = len - (x + 1) by omega]
  rw [show List.replicate 4 (0 : UInt8) = [0, 0, 0, 0] from rfl]
  rw [show IntKind.u8.wrap (shrI .u32 (d : Int) 24) = _ from byte_shr32 (k := 24) (by omega), show IntKind.u8.wrap (shrI .u32 (d : Int) 16) = _ from byte_shr32 (k := 16) (by omega),
   show IntKind.u8.wrap (shrI .u32 (d : Int) 8) = _ from byte_shr32 (k := 8) (by omega)]
  rw [show IntKind.u8.wrap (d : Int) = ((UInt8.ofNat d).toNat : Int) by rw [IntKind.wrap_u8, UInt8.toNat_ofNat']; omega]
  simp only [byteEl_eq, ← List.map_set]
  congr 1
  exact set4 (by simp)
 ·have hp : ¬ x < len := by simpa using hp
  have : x = len := by omega
  subst this
  refine ⟨tbs ds, ?_, ?_⟩
  ·have e0 : List.take x ds = ds := List.take_of_length_le (by omega)
   have e9 : 4 * (x - x) = 0 := by omega
   rw [e0, e9, List.replicate_zero, List.nil_append, List.drop_zero, List.take_of_length_le (by rw [List.length_map, tbs_len]; omega)]
  ·rw [tbs_val hd, tbs_len, hlen, ← Nat.mul_assoc]; exact hK
def c_text : Ctr := fun as0 => match as0 with
 | [.x false [.s 1 xs]] => some fun K => ∃ ds, xs = W ds ∧ Dig 4294967296 ds ∧ ds.length ≤ 1099511627776 ∧ K (bA (leNat 4294967296 ds) (32 * ds.length))
 | _ => none
theorem ok_text {g : Nat} {tab : List Value} : CtrOK Tryd.prog g tab 34 c_text := by
 refine ⟨enters Tryd.func34 (by kernel_rfl), fun l T hT K hK => ?_⟩
 unfold c_text at hT
 split at hT
 ·cases hT
  obtain ⟨ds, rfl, h1, h2, h3⟩ := hK
  exact spec_ofL T2ok mixed Tryd.func34 (by kernel_rfl) (by kernel_rfl) (by rfl) (g_text ds K h1 h2 h3)
 ·cases hT
end Go.Proofs
/- Natural numbers, fourth part: comparing, Of, common. -/
namespace Go.Proofs
open Go Go.Eng
def c_cmpstring : CtrX := fun as0 => match as0 with
 | [.x false [.b m _], .x false [.b n _]] => some fun K => K (iA .i64 (Lib.compareBytes (natBytes m) (natBytes n)))
 | _ => none
def L3 : List (Nat × Ctr) := (34, c_text) :: L2
def X3 : List (Nat × CtrX) := [(51, c_cmpstring)]
noncomputable def T3 : Tabs := mkT L3 M2 X3
theorem ok_cmpstring : CtrXOK Tryd.prog 51 c_cmpstring := by
 intro l T hT K hK w O ρ vals hc
 unfold c_cmpstring at hT
 split at hT
 ·cases hT
  cases hc with
  | cons h1 hc => cases hc with
   | cons h2 hc =>
    cases hc
    obtain ⟨rfl, _⟩ := conc_b h1
    obtain ⟨rfl, _⟩ := conc_b h2
    refine ⟨_, _, ?_, val1_conc rfl, hK⟩
    rw [run_callFunc_extern Tryd.func51 (by kernel_rfl) (by kernel_rfl) (by kernel_rfl) (e := Extern.BytealgCompare.compare) (by kernel_rfl)]
    simp only [strOf]
    rw [Lib.run_compareString]
    rfl
 ·cases hT
theorem L3ok {g : Nat} {tab : List Value} : CtrsOK Tryd.prog g tab L3 := .cons ok_text L2ok
theorem X3ok : CtrXsOK Tryd.prog X3 := .cons ok_cmpstring .nil
theorem T3ok {g : Nat} {tab : List Value} : TabsOK Tryd.prog g tab T3 := mkTok L3ok M2ok X3ok
def c_Compare : Ctr := fun as0 => match as0 with
 | [.x false [.b m _], .x false [.b n _]] => some fun K => K (iA .i64 (Lib.compareBytes (natBytes m) (natBytes n)))
 | _ => none
def goal_CompareString (m a n b : Nat) (K : AV → Prop) : Prop := goalL T3 noO noL Tryd.f44 [bA m a, bA n b] K
theorem goal_CompareString_vc (m : Nat) (a : Nat) (n : Nat) (b : Nat) (K : AV → Prop) : goal_CompareString m a n b K = (K (AV.x false [Ch.v (Value.int IntKind.i64 (Lib.compareBytes (natBytes m) (natBytes n)))])) := by kernel_rfl
theorem ok_CompareString {g : Nat} {tab : List Value} : CtrOK Tryd.prog g tab 44 c_Compare := by
 refine ⟨enters Tryd.func44 (by kernel_rfl), fun l T hT K hK => ?_⟩
 unfold c_Compare at hT
 split at hT
 ·cases hT
  exact spec_ofL T3ok mixed Tryd.func44 (by kernel_rfl) (by kernel_rfl) (by rfl) (show Holds (goal_CompareString _ _ _ _ K) from ⟨by rw [goal_CompareString_vc]; exact hK⟩)
 ·cases hT
def L4 : List (Nat × Ctr) := (44, c_Compare) :: L3
noncomputable def T4 : Tabs := mkT L4 M2 X3
theorem L4ok {g : Nat} {tab : List Value} : CtrsOK Tryd.prog g tab L4 := .cons ok_CompareString L3ok
theorem T4ok {g : Nat} {tab : List Value} : TabsOK Tryd.prog g tab T4 := mkTok L4ok M2ok X3ok
def goal_Compare (m a n b : Nat) (K : AV → Prop) : Prop := goalL T4 noO noL Tryd.f30 [bA m a, bA n b] K
theorem goal_Compare_vc (m : Nat) (a : Nat) (n : Nat) (b : Nat) (K : AV → Prop) : goal_Compare m a n b K = (K (AV.x false [Ch.v (Value.int IntKind.i64 (Lib.compareBytes (natBytes m) (natBytes n)))])) := by kernel_rfl
theorem ok_Compare {g : Nat} {tab : List Value} : CtrOK Tryd.prog g tab 30 c_Compare := by
 refine ⟨enters Tryd.func30 (by kernel_rfl), fun l T hT K hK => ?_⟩
 unfold c_Compare at hT
 split at hT
 ·cases hT
  exact spec_ofL T4ok mixed Tryd.func30 (by kernel_rfl) (by kernel_rfl) (by rfl) (show Holds (goal_Compare _ _ _ _ K) from ⟨by rw [goal_Compare_vc]; exact hK⟩)
 ·cases hT
def L5 : List (Nat × Ctr) := (30, c_Compare) :: L4
noncomputable def T5 : Tabs := mkT L5 M2 X3
theorem L5ok {g : Nat} {tab : List Value} : CtrsOK Tryd.prog g tab L5 := .cons ok_Compare L4ok
theorem T5ok {g : Nat} {tab : List Value} : TabsOK Tryd.prog g tab T5 := mkTok L5ok M2ok X3ok
def goal_Cmp (m a n b : Nat) (K : AV → Prop) : Prop := goalL T5 noO noL Tryd.f19 [bA m a, bA n b] K
theorem goal_Cmp_vc (m : Nat) (a : Nat) (n : Nat) (b : Nat) (K : AV → Prop) : goal_Cmp m a n b K = (bif decide (Int.ofNat (natBytes m).length<Int.ofNat (natBytes n).length) then K (AV.x false [Ch.v (Value.int IntKind.i64 (-1))]) else bif decide (Int.ofNat (natBytes m).length>Int.ofNat (natBytes n).length) then K (AV.x false [Ch.v (Value.int IntKind.i64 1)]) else K (AV.x false [Ch.v (Value.int IntKind.i64 (Lib.compareBytes (natBytes m) (natBytes n)))])) := by kernel_rfl
def goal_Of (n : Int) (K : AV → Prop) : Prop := goalL T5 noO noL Tryd.f41 [iA .i64 n] K
theorem goal_Of_vc (n : Int) (K : AV → Prop) : goal_Of n K = (bif decide (n<1) then K (AV.x false [Ch.v (Value.string (ByteArray.mk (Array.mk [])))]) else (0≤IntKind.u64.wrap n∧IntKind.u64.wrap n<18446744073709551616)∧K (AV.x false [Ch.b (IntKind.u64.wrap n).toNat 64])) := by kernel_rfl
def inv_common (x y : Nat) : LI := fun _ => .inv ⟨Nat × Nat, fun i => ⟨[(0, iA .u64 i.1), (1, iA .u64 i.2)], []⟩, fun i => Nat.gcd i.1 i.2 = Nat.gcd x y ∧ i.1 < 18446744073709551616 ∧ i.2 < 18446744073709551616, fun i => i.2, fun _ => 0⟩
def ot_common : OT := fun id => bif id.beq 2 then ([0, 1, 2, 3, 4, 5], [[], [], [], [1, 2], [0, 1], [3, 1, 2, 4, 0]]) else ([], [])
def goal_common (x y : Nat) (K : AV → Prop) : Prop := goalL T5 ot_common (inv_common x y) Tryd.f49 [iA .u64 x, iA .u64 y] K
theorem goal_common_vc (x : Nat) (y : Nat) (K : AV → Prop) : goal_common x y K = ((∃(x_1:Nat × Nat),((x_1.fst.gcd x_1.snd=x.gcd y∧x_1.fst<18446744073709551616∧x_1.snd<18446744073709551616)∧OfNat.ofNat 0=0)∧Int.ofNat x=Int.ofNat x_1.fst∧Int.ofNat y=Int.ofNat x_1.snd∧True)∧∀(x_1:Nat × Nat),x_1.fst.gcd x_1.snd=x.gcd y∧x_1.fst<18446744073709551616∧x_1.snd<18446744073709551616→OfNat.ofNat 0=0→bif decide (Int.ofNat x_1.snd>0) then Int.ofNat x_1.snd≠0∧∃(x':Nat × Nat),((x'.fst.gcd x'.snd=x.gcd y∧x'.fst<18446744073709551616∧x'.snd<18446744073709551616)∧OfNat.ofNat 0=0∧x'.snd<x_1.snd)∧Int.ofNat x_1.snd=Int.ofNat x'.fst∧(Int.ofNat x_1.fst).tmod (Int.ofNat x_1.snd)=Int.ofNat x'.snd∧True else K (AV.x false [Ch.v (Value.int IntKind.u64 (Int.ofNat x_1.fst))])) := by kernel_rfl
theorem beNat_cons (x : UInt8) (l : List UInt8) : beNat (x :: l) = x.toNat * 256 ^ l.length + beNat l := by
 have := beNat_append [x] l
 simpa [beNat] using this
theorem compare_be : ∀ {a b : List UInt8}, a.length = b.length → Lib.compareBytes a b = cmpN (beNat a) (beNat b) := by
 intro a
 induction a with
 | nil => intro b h; cases b with
  | nil => rfl
  | cons => cases h
 | cons x a ih =>
  intro b h
  cases b with
  | nil => cases h
  | cons y b =>
   have hl : a.length = b.length := by simpa using h
   rw [Lib.compareBytes, beNat_cons, beNat_cons, ih hl, hl]
   have h1 := beNat_lt a
   have h2 := beNat_lt b
   rw [hl] at h1
   generalize 256 ^ b.length = p at h1 h2
   simp only [UInt8.lt_iff_toNat_lt]
   rcases Nat.lt_trichotomy x.toNat y.toNat with h | h | h
   ·rw [if_pos h]
    have : (x.toNat + 1) * p ≤ y.toNat * p := Nat.mul_le_mul_right _ h
    rw [Nat.add_mul] at this
    unfold cmpN; rw [if_pos (by omega)]
   ·rw [if_neg (by omega), if_neg (by omega), h]
    unfold cmpN
    simp only [Nat.add_lt_add_iff_left, Nat.add_left_cancel_iff]
   ·rw [if_neg (by omega), if_pos h]
    have : (y.toNat + 1) * p ≤ x.toNat * p := Nat.mul_le_mul_right _ h
    rw [Nat.add_mul] at this
    unfold cmpN; rw [if_neg (by omega), if_neg (by omega)]
theorem len_lt_lt {m n : Nat} (h : (natBytes m).length < (natBytes n).length) : m < n := by
 have h1 := natBytes_len_iff (m := n) (k := (natBytes m).length)
 have h2 := len_natBytes_lt m
 have : ¬ n < 256 ^ (natBytes m).length := fun h' => by have := h1.2 h'; omega
 omega
theorem g_Cmp (m a n b : Nat) (K : AV → Prop) (h : K (iA .i64 (cmpN m n))) : Holds (goal_Cmp m a n b K) := by
 refine ⟨?_⟩
 rw [goal_Cmp_vc]
 refine bif_mk (fun hp => ?_) (fun hp => bif_mk (fun hq => ?_) (fun hq => ?_))
 ·have := len_lt_lt (m := m) (n := n) (by simpa using hp)
  unfold cmpN at h; rw [if_pos this] at h; exact h
 ·have := len_lt_lt (m := n) (n := m) (by simpa using hq)
  unfold cmpN at h; rw [if_neg (by omega), if_neg (by omega)] at h; exact h
 ·simp at hp hq
  rw [compare_be (by omega), beNat_natBytes, beNat_natBytes]; exact h
/-- A number as a string, however it is told. -/
def NatIs (m n : Nat) (av : AV) : Prop := m < 2 ^ n ∧ ((∃ n', av = bA m n') ∨ ∃ l, av = .x false [.v (.string ⟨l.toArray⟩)] ∧ l = natBytes m)
theorem NatIs.b {m n n' : Nat} (h : m < 2 ^ n) : NatIs m n (bA m n') := ⟨h, .inl ⟨n', rfl⟩⟩
theorem NatIs.conc {w : World} {O : Nat → Prop} {ρ : Env} {m n : Nat} {av : AV} {v : Value} (h : NatIs m n av) (hc : ConcV w O ρ av v) : ConcV w O ρ (bA m n) v := by
 obtain ⟨h1, ⟨n', rfl⟩ | ⟨l, rfl, rfl⟩⟩ := h
 ·obtain ⟨rfl, _⟩ := conc_b hc
  exact mk_one (.b h1 .nil)
 ·exact conc_str_b hc h1
theorem g_Of (n : Int) (h : n < 9223372036854775808) : Holds (goal_Of n (NatIs n.toNat 63)) := by
 refine ⟨?_⟩
 rw [goal_Of_vc]
 refine bif_mk (fun hp => ?_) (fun hp => ?_)
 ·have hp : n < 1 := by simpa using hp
  have : n.toNat = 0 := by omega
  rw [this]
  exact ⟨by omega, .inr ⟨[], rfl, rfl⟩⟩
 ·have hp : ¬ n < 1 := by simpa using hp
  rw [wu64 (by omega)]
  exact ⟨by omega, .b (by omega)⟩
theorem g_common (x y : Nat) (K : AV → Prop) (hx : x < 18446744073709551616) (hy : y < 18446744073709551616) (h : K (iA .u64 (Nat.gcd x y : Nat))) : Holds (goal_common x y K) := by
 refine ⟨?_⟩
 rw [goal_common_vc]
 refine ⟨⟨(x, y), ⟨⟨rfl, hx, hy⟩, rfl⟩, rfl, rfl, trivial⟩, fun p hp _ => bif_mk (fun hq => ?_) (fun hq => ?_)⟩
 ·obtain ⟨u, v⟩ := p
  obtain ⟨h1, h2, h3⟩ := hp
  simp only at h1 h2 h3 hq ⊢
  have hv : v ≠ 0 := by simp at hq; omega
  refine ⟨by simp; omega, (v, u % v), ⟨⟨?_, h3, Nat.lt_trans (Nat.mod_lt _ (by omega)) h3⟩, by simp, Nat.mod_lt _ (by omega)⟩, rfl, ?_, trivial⟩
  ·rw [← h1, Nat.gcd_comm v, ← Nat.gcd_rec, Nat.gcd_comm]
  ·simp only [Int.ofNat_eq_natCast]; rw [tm (by omega)]; simp
 ·obtain ⟨u, v⟩ := p
  obtain ⟨h1, h2, h3⟩ := hp
  simp only at h1 h2 h3 hq ⊢
  have hv : v = 0 := by simp at hq; omega
  subst hv
  rw [Nat.gcd_zero_right] at h1
  subst h1; exact h
def c_Cmp : Ctr := fun as0 => match as0 with
 | [.x false [.b m _], .x false [.b n _]] => some fun K => K (iA .i64 (cmpN m n))
 | _ => none
def c_Of : Ctr := fun as0 => match as0 with
 | [.x false [.v (.int .i64 n)]] => some fun K => n < 9223372036854775808 ∧ K (bA n.toNat 63)
 | _ => none
def c_common : Ctr := fun as0 => match as0 with
 | [.x false [.v (.int .u64 x)], .x false [.v (.int .u64 y)]] => some fun K => ((0 ≤ x ∧ x < 18446744073709551616) ∧ 0 ≤ y ∧ y < 18446744073709551616) ∧ K (iA .u64 (Nat.gcd x.toNat y.toNat : Nat))
 | _ => none
theorem ok_Cmp {g : Nat} {tab : List Value} : CtrOK Tryd.prog g tab 19 c_Cmp := by
 refine ⟨enters Tryd.func19 (by kernel_rfl), fun l T hT K hK => ?_⟩
 unfold c_Cmp at hT
 split at hT
 ·rename_i m a n b
  cases hT
  have hG := g_Cmp m a n b K hK
  exact spec_ofL T5ok mixed Tryd.func19 (by kernel_rfl) (by kernel_rfl) (by rfl) hG
 ·cases hT
theorem spec_nat {P : Program} {g : Nat} {tab : List Value} {f : Nat} {l : List AV} {m n : Nat} {K : AV → Prop} (h : Eng.Spec P g tab f l (NatIs m n)) (hk : K (bA m n)) : Eng.Spec P g tab f l K :=
 Eng.Spec.res h fun _ _ _ _ hn hc => ⟨_, hk, hn.conc hc⟩
theorem ok_Of {g : Nat} {tab : List Value} : CtrOK Tryd.prog g tab 41 c_Of := by
 refine ⟨enters Tryd.func41 (by kernel_rfl), fun l T hT K hK => ?_⟩
 unfold c_Of at hT
 split at hT
 ·cases hT
  exact spec_nat (spec_ofL T5ok mixed Tryd.func41 (by kernel_rfl) (by kernel_rfl) (by rfl) (g_Of _ hK.1)) hK.2
 ·cases hT
theorem ok_common {g : Nat} {tab : List Value} : CtrOK Tryd.prog g tab 49 c_common := by
 refine ⟨enters Tryd.func49 (by kernel_rfl), fun l T hT K hK => ?_⟩
 unfold c_common at hT
 split at hT
 ·cases hT
  rename_i x y
  obtain ⟨⟨⟨a1, a2⟩, a3, a4⟩, hK⟩ := hK
  obtain ⟨x, rfl⟩ := Int.eq_ofNat_of_zero_le a1
  obtain ⟨y, rfl⟩ := Int.eq_ofNat_of_zero_le a3
  exact spec_ofL T5ok mixed Tryd.func49 (by kernel_rfl) (by kernel_rfl) (by rfl) (g_common x y K (by omega) (by omega) hK)
 ·cases hT
def L6 : List (Nat × Ctr) := (19, c_Cmp) :: (41, c_Of) :: (49, c_common) :: L5
noncomputable def T6 : Tabs := mkT L6 M2 X3
theorem L6ok {g : Nat} {tab : List Value} : CtrsOK Tryd.prog g tab L6 := .cons ok_Cmp (.cons ok_Of (.cons ok_common L5ok))
theorem T6ok {g : Nat} {tab : List Value} : TabsOK Tryd.prog g tab T6 := mkTok L6ok M2ok X3ok
end Go.Proofs
/- Natural numbers, fifth part: Add. -/
namespace Go.Proofs
open Go Go.Eng
def wA (k n : Nat) : AV := .x false [.w k 0 n]
def rowW (ds : List Nat) : Blk := .row 86 1 (W ds)
structure AddX where
 xs : List Nat
 ys : List Nat
 out : List Nat
 carry : Nat
 i : Nat
structure AddI (s : Nat) (e : Nat) (x : AddX) : Prop where
 dx : Dig 4294967296 x.xs
 dy : Dig 4294967296 x.ys
 dz : Dig 4294967296 x.out
 lz : x.out.length = x.xs.length + 1
 ly : x.ys.length ≤ x.xs.length
 lx : x.xs.length ≤ e
 hi : x.i ≤ x.xs.length
 hc : x.carry ≤ 1
 sum : leNat 4294967296 x.xs + leNat 4294967296 x.ys = s
 inv : leNat 4294967296 (x.out.take x.i) + 4294967296 ^ x.i * x.carry = leNat 4294967296 (x.xs.take x.i) + leNat 4294967296 (x.ys.take x.i)
structure AddJ (s e : Nat) (p : List Nat × List Nat) : Prop where
 dx : Dig 4294967296 p.1
 dy : Dig 4294967296 p.2
 ly : p.2.length ≤ p.1.length
 lx : p.1.length ≤ e
 sum : leNat 4294967296 p.1 + leNat 4294967296 p.2 = s
def inv_Add (m a n b s e : Nat) : LI := fun id => bif id.beq 4 then .cut ⟨Unit, fun _ => ⟨[(0, bA m a), (1, bA n b)], []⟩, fun _ => True, fun _ => 0, fun _ => 0⟩ else bif id.beq 7 then .cut ⟨List Nat × List Nat, fun p => ⟨[(5, wA 30 p.1.length), (6, wA 32 p.2.length)], [(30, rowW p.1), (32, rowW p.2)]⟩, AddJ s e, fun _ => 0, fun _ => 0⟩
 else bif id.beq 15 then .cut ⟨AddX × Nat, fun x => ⟨[(5, wA 30 x.1.xs.length), (6, wA 32 x.1.ys.length), (7, wA 43 (x.1.xs.length + 1)), (8, iA .u64 x.2), (9, iA .i64 x.1.i), (44, wA 30 x.1.xs.length), (45, iA .i64 x.1.xs.length), (46, iA .i64 x.1.i)],
  [(30, rowW x.1.xs), (32, rowW x.1.ys), (43, rowW x.1.out)]⟩, fun x => AddI s e x.1 ∧ x.1.i < x.1.xs.length ∧ x.2 = x.1.carry + x.1.xs.getD x.1.i 0 + x.1.ys.getD x.1.i 0, fun _ => 0, fun x => x.1.xs.length - x.1.i⟩
 else .inv ⟨AddX, fun x => ⟨[(5, wA 30 x.xs.length), (6, wA 32 x.ys.length), (7, wA 43 (x.xs.length + 1)), (8, iA .u64 x.carry), (44, wA 30 x.xs.length), (45, iA .i64 x.xs.length), (46, iA .i64 x.i)],
 [(30, rowW x.xs), (32, rowW x.ys), (43, rowW x.out)]⟩, AddI s e, fun x => x.xs.length - x.i, fun _ => 0⟩
def ot_Add : OT := fun _ => ([], [])
def goal_Add (m a n b e : Nat) (K : AV → Prop) : Prop := goalL T6 ot_Add (inv_Add m a n b (m + n) e) Tryd.f42 [bA m a, bA n b] K
theorem goal_Add_vc (m : Nat) (a : Nat) (n : Nat) (b : Nat) (e : Nat) (K : AV → Prop) : goal_Add m a n b e K = ((bif decide (Int.ofNat (natBytes m).length<8) then bif decide (Int.ofNat (natBytes n).length<8) then m<18446744073709551616∧n<18446744073709551616∧(0≤IntKind.u64.wrap (Int.ofNat m+Int.ofNat n)∧IntKind.u64.wrap (Int.ofNat m+Int.ofNat n)<18446744073709551616)∧K (AV.x false [Ch.b (IntKind.u64.wrap (Int.ofNat m+Int.ofNat n)).toNat 64]) else ∃(x:Unit),(True∧OfNat.ofNat 0=0)∧m=m∧a≤a∧n=n∧b≤b∧True else ∃(x:Unit),(True∧OfNat.ofNat 0=0)∧m=m∧a≤a∧n=n∧b≤b∧True)∧∀(x:Unit),True→OfNat.ofNat 0=0→a≤1099511627776∧b≤1099511627776∧(bif decide (Int.ofNat (wl m)<Int.ofNat (wl n)) then ∃(x:List Nat × List Nat),(AddJ (m+n) e x∧OfNat.ofNat 0=0)∧0=0∧wl n=x.fst.length∧0=0∧wl m=x.snd.length∧86=86∧1=1∧(W (fd 4294967296 (wl n) n)=W x.fst∨RowLE (W (fd 4294967296 (wl n) n)) (W x.fst))∧86=86∧1=1∧(W (fd 4294967296 (wl m) m)=W x.snd∨RowLE (W (fd 4294967296 (wl m) m)) (W x.snd))∧True else ∃(x:List Nat × List Nat),(AddJ (m+n) e x∧OfNat.ofNat 0=0)∧0=0∧wl m=x.fst.length∧0=0∧wl n=x.snd.length∧86=86∧1=1∧(W (fd 4294967296 (wl m) m)=W x.fst∨RowLE (W (fd 4294967296 (wl m) m)) (W x.fst))∧86=86∧1=1∧(W (fd 4294967296 (wl n) n)=W x.snd∨RowLE (W (fd 4294967296 (wl n) n)) (W x.snd))∧True)∧∀(x:List Nat × List Nat),AddJ (m+n) e x→OfNat.ofNat 0=0→(0≤IntKind.i64.wrap (Int.ofNat x.fst.length+1)∧IntKind.i64.wrap (Int.ofNat x.fst.length+1)≤IntKind.i64.wrap (Int.ofNat x.fst.length+1)∧4*IntKind.i64.wrap (Int.ofNat x.fst.length+1)≤281474976710656∧IntKind.i64.wrap (Int.ofNat x.fst.length+1)≤9223372036854775807)∧(∃(x_1:AddX),(AddI (m+n) e x_1∧OfNat.ofNat 0=0)∧0=0∧x.fst.length=x_1.xs.length∧0=0∧x.snd.length=x_1.ys.length∧0=0∧(IntKind.i64.wrap (Int.ofNat x.fst.length+1)).toNat=x_1.xs.length+1∧0=Int.ofNat x_1.carry∧0=0∧x.fst.length=x_1.xs.length∧Int.ofNat x.fst.length=Int.ofNat x_1.xs.length∧0=Int.ofNat x_1.i∧86=86∧1=1∧(W x.fst=W x_1.xs∨RowLE (W x.fst) (W x_1.xs))∧86=86∧1=1∧(W x.snd=W x_1.ys∨RowLE (W x.snd) (W x_1.ys))∧86=86∧1=1∧(List.replicate (IntKind.i64.wrap (Int.ofNat x.fst.length+1)).toNat [Ch.v (Value.int IntKind.u32 0)]=W x_1.out∨RowLE (List.replicate (IntKind.i64.wrap (Int.ofNat x.fst.length+1)).toNat [Ch.v (Value.int IntKind.u32 0)]) (W x_1.out))∧True)∧∀(x:AddX),AddI (m+n) e x→OfNat.ofNat 0=0→bif decide (Int.ofNat x.i<Int.ofNat x.xs.length) then (0≤Int.ofNat x.i∧Int.ofNat x.i<Int.ofNat x.xs.length)∧∃(d:Int),ldE (W x.xs) (0+(Int.ofNat x.i).toNat) 0 1=some [Ch.v (Value.int IntKind.u32 d)]∧(bif decide (Int.ofNat x.i<Int.ofNat x.ys.length) then (0≤Int.ofNat x.i∧Int.ofNat x.i<Int.ofNat x.ys.length)∧∃(d_1:Int),ldE (W x.ys) (0+(Int.ofNat x.i).toNat) 0 1=some [Ch.v (Value.int IntKind.u32 d_1)]∧∃(x_1:AddX × Nat),((AddI (m+n) e x_1.fst∧x_1.fst.i<x_1.fst.xs.length∧x_1.snd=x_1.fst.carry+x_1.fst.xs.getD x_1.fst.i 0+x_1.fst.ys.getD x_1.fst.i 0)∧x_1.fst.xs.length-x_1.fst.i=x.xs.length-x.i)∧0=0∧x.xs.length=x_1.fst.xs.length∧0=0∧x.ys.length=x_1.fst.ys.length∧0=0∧x.xs.length+1=x_1.fst.xs.length+1∧IntKind.u64.wrap (IntKind.u64.wrap (Int.ofNat x.carry+IntKind.u64.wrap d)+IntKind.u64.wrap d_1)=Int.ofNat x_1.snd∧Int.ofNat x.i=Int.ofNat x_1.fst.i∧0=0∧x.xs.length=x_1.fst.xs.length∧Int.ofNat x.xs.length=Int.ofNat x_1.fst.xs.length∧Int.ofNat x.i=Int.ofNat x_1.fst.i∧86=86∧1=1∧(W x.xs=W x_1.fst.xs∨RowLE (W x.xs) (W x_1.fst.xs))∧86=86∧1=1∧(W x.ys=W x_1.fst.ys∨RowLE (W x.ys) (W x_1.fst.ys))∧86=86∧1=1∧(W x.out=W x_1.fst.out∨RowLE (W x.out) (W x_1.fst.out))∧True else ∃(x_1:AddX × Nat),((AddI (m+n) e x_1.fst∧x_1.fst.i<x_1.fst.xs.length∧x_1.snd=x_1.fst.carry+x_1.fst.xs.getD x_1.fst.i 0+x_1.fst.ys.getD x_1.fst.i 0)∧x_1.fst.xs.length-x_1.fst.i=x.xs.length-x.i)∧0=0∧x.xs.length=x_1.fst.xs.length∧0=0∧x.ys.length=x_1.fst.ys.length∧0=0∧x.xs.length+1=x_1.fst.xs.length+1∧IntKind.u64.wrap (Int.ofNat x.carry+IntKind.u64.wrap d)=Int.ofNat x_1.snd∧Int.ofNat x.i=Int.ofNat x_1.fst.i∧0=0∧x.xs.length=x_1.fst.xs.length∧Int.ofNat x.xs.length=Int.ofNat x_1.fst.xs.length∧Int.ofNat x.i=Int.ofNat x_1.fst.i∧86=86∧1=1∧(W x.xs=W x_1.fst.xs∨RowLE (W x.xs) (W x_1.fst.xs))∧86=86∧1=1∧(W x.ys=W x_1.fst.ys∨RowLE (W x.ys) (W x_1.fst.ys))∧86=86∧1=1∧(W x.out=W x_1.fst.out∨RowLE (W x.out) (W x_1.fst.out))∧True)∧∀(x_1:AddX × Nat),AddI (m+n) e x_1.fst∧x_1.fst.i<x_1.fst.xs.length∧x_1.snd=x_1.fst.carry+x_1.fst.xs.getD x_1.fst.i 0+x_1.fst.ys.getD x_1.fst.i 0→x_1.fst.xs.length-x_1.fst.i=x.xs.length-x.i→(0≤Int.ofNat x_1.fst.i∧Int.ofNat x_1.fst.i<Int.ofNat (x_1.fst.xs.length+1))∧0+(Int.ofNat x_1.fst.i).toNat<(W x_1.fst.out).length∧(0:Int)≤32∧∃(x':AddX),(AddI (m+n) e x'∧OfNat.ofNat 0=0∧x'.xs.length-x'.i<x.xs.length-x.i)∧0=0∧x_1.fst.xs.length=x'.xs.length∧0=0∧x_1.fst.ys.length=x'.ys.length∧0=0∧x_1.fst.xs.length+1=x'.xs.length+1∧shrI IntKind.u64 (Int.ofNat x_1.snd) 32=Int.ofNat x'.carry∧0=0∧x_1.fst.xs.length=x'.xs.length∧Int.ofNat x_1.fst.xs.length=Int.ofNat x'.xs.length∧IntKind.i64.wrap (Int.ofNat x_1.fst.i+1)=Int.ofNat x'.i∧86=86∧1=1∧(W x_1.fst.xs=W x'.xs∨RowLE (W x_1.fst.xs) (W x'.xs))∧86=86∧1=1∧(W x_1.fst.ys=W x'.ys∨RowLE (W x_1.fst.ys) (W x'.ys))∧86=86∧1=1∧((W x_1.fst.out).set (0+(Int.ofNat x_1.fst.i).toNat) [Ch.v (Value.int IntKind.u32 (IntKind.u32.wrap (Int.ofNat x_1.snd)))]=W x'.out∨RowLE ((W x_1.fst.out).set (0+(Int.ofNat x_1.fst.i).toNat) [Ch.v (Value.int IntKind.u32 (IntKind.u32.wrap (Int.ofNat x_1.snd)))]) (W x'.out))∧True else (0≤Int.ofNat x.xs.length∧Int.ofNat x.xs.length<Int.ofNat (x.xs.length+1))∧0+(Int.ofNat x.xs.length).toNat<(W x.out).length∧∃(ds:List Nat),List.take (x.xs.length+1) (List.drop 0 ((W x.out).set (0+(Int.ofNat x.xs.length).toNat) [Ch.v (Value.int IntKind.u32 (IntKind.u32.wrap (Int.ofNat x.carry)))]))=W ds∧(∀(d:Nat),d ∈ ds→d<4294967296)∧ds.length≤1099511627776∧K (AV.x false [Ch.b (leNat 4294967296 ds) (32*ds.length)])) := by kernel_rfl
theorem getD_of {l : List Nat} {i d : Nat} (h : l[i]? = some d) : l.getD i 0 = d := by simp [List.getD_eq_getElem?_getD, h]
theorem AddI.step {s e : Nat} {x : AddX} (h : AddI s e x) (hi : x.i < x.xs.length) {t : Nat} (ht : t = x.carry + x.xs.getD x.i 0 + x.ys.getD x.i 0) :
  AddI s e { x with out := x.out.set x.i (t % 4294967296), carry := t / 4294967296, i := x.i + 1 } := by
 obtain ⟨dx, dy, dz, lz, ly, lx, _, hc, sum, inv⟩ := h
 have hx := dx.getD (i := x.i) (by omega)
 have hy := dy.getD (i := x.i) (by omega)
 have gx : x.xs[x.i]? = some (x.xs.getD x.i 0) := by rw [List.getD_eq_getElem?_getD, List.getElem?_eq_getElem hi]; rfl
 have gz : (x.out.set x.i (t % 4294967296))[x.i]? = some (t % 4294967296) := by rw [List.getElem?_set]; simp; omega
 have ey : leNat 4294967296 (x.ys.take (x.i + 1)) = leNat 4294967296 (x.ys.take x.i) + 4294967296 ^ x.i * x.ys.getD x.i 0 := by
  cases hy : x.ys[x.i]? with
  | some d => rw [leNat_take_succ hy, getD_of hy]
  | none =>
   have : x.ys.length ≤ x.i := by simpa using hy
   rw [leNat_take_all (by omega), leNat_take_all (by omega)]
   simp [List.getD_eq_getElem?_getD, hy]
 refine ⟨dx, dy, dz.set (Nat.mod_lt _ (by omega)), by simpa using lz, ly, lx, hi, by simp only; omega, sum, ?_⟩
 simp only
 rw [leNat_take_succ gz, take_set_eq, leNat_take_succ gx, ey, Nat.pow_succ]
 generalize (4294967296 : Nat) ^ x.i = p at inv ⊢
 generalize x.xs.getD x.i 0 = u at ht hx
 generalize x.ys.getD x.i 0 = v at ht hy
 have e1 : t = 4294967296 * (t / 4294967296) + t % 4294967296 := (Nat.div_add_mod t 4294967296).symm
 have e2 : p * t = p * x.carry + p * u + p * v := by rw [ht, Nat.mul_add, Nat.mul_add]
 have e3 : p * t = p * 4294967296 * (t / 4294967296) + p * (t % 4294967296) := by
  conv => lhs; rw [e1]
  rw [Nat.mul_add, Nat.mul_assoc]
 omega
theorem wl_le {m a : Nat} (h : m < 2 ^ a) : wl m ≤ a + 1 := by have := natBytes_len h; unfold wl; omega
theorem wl_pow (m : Nat) : m < 4294967296 ^ wl m := by
 refine Nat.lt_of_lt_of_le (len_natBytes_lt m) ?_
 rw [show (4294967296 : Nat) = 256 ^ 4 from rfl, ← Nat.pow_mul]
 exact Nat.pow_le_pow_right (by omega) (by unfold wl; omega)
theorem g_Add (m a n b : Nat) (K : AV → Prop) (ha : a ≤ 549755813888) (hb : b ≤ 549755813888) (hm : m < 2 ^ a) (hn : n < 2 ^ b) (hK : ∀ av, NatIs (m + n) (max a b + 1) av → K av) : Holds (goal_Add m a n b (max a b + 1) K) := by
 refine ⟨?_⟩
 rw [goal_Add_vc]
 have hlt : m + n < 2 ^ (max a b + 1) := by
  have h1 : 2 ^ a ≤ 2 ^ max a b := Nat.pow_le_pow_right (by omega) (by omega)
  have h2 : 2 ^ b ≤ 2 ^ max a b := Nat.pow_le_pow_right (by omega) (by omega)
  rw [Nat.pow_succ]; omega
 have hwm := wl_le hm
 have hwn := wl_le hn
 have hB : max a b + 1 ≤ 549755813889 := by omega
 refine ⟨bif_mk (fun h1 => bif_mk (fun h2 => ?_) (fun _ => ⟨(), by simp⟩)) (fun _ => ⟨(), by simp⟩), fun _ _ _ => ⟨by omega, by omega, bif_mk (fun h1 => ?_) (fun h1 => ?_), fun p hp _ => ?_⟩⟩
 ·have k1 := natBytes_len_iff (m := m) (k := 7)
  have k2 := natBytes_len_iff (m := n) (k := 7)
  simp at h1 h2
  have l1 := k1.1 (by omega)
  have l2 := k2.1 (by omega)
  simp only [Int.ofNat_eq_natCast]
  rw [wu64 (by omega)]
  refine ⟨by omega, by omega, by omega, hK _ ?_⟩
  rw [show ((m : Int) + n).toNat = m + n by omega]
  exact .b hlt
 ·refine ⟨(fd 4294967296 (wl n) n, fd 4294967296 (wl m) m), ⟨⟨Dig.fd (by omega), Dig.fd (by omega), by simp at h1; simp [fd_len]; omega, by simp [fd_len]; omega, by simp only; rw [leNat_fd (wl_pow n), leNat_fd (wl_pow m)]; omega⟩, rfl⟩, ?_⟩
  simp [fd_len]
 ·refine ⟨(fd 4294967296 (wl m) m, fd 4294967296 (wl n) n), ⟨⟨Dig.fd (by omega), Dig.fd (by omega), by simp at h1; simp [fd_len]; omega, by simp [fd_len]; omega, by simp only; rw [leNat_fd (wl_pow n), leNat_fd (wl_pow m)]⟩, rfl⟩, ?_⟩
  simp [fd_len]
 ·obtain ⟨xs, ys⟩ := p
  obtain ⟨dx, dy, ly, lx, sum⟩ := hp
  simp only at dx dy ly lx sum ⊢
  simp only [Int.ofNat_eq_natCast]
  rw [w64 (by omega), show ((xs.length : Int) + 1).toNat = xs.length + 1 by omega]
  refine ⟨⟨by omega, by omega, by omega, by omega⟩, ⟨⟨xs, ys, List.replicate (xs.length + 1) 0, 0, 0⟩, ⟨⟨dx, dy, Dig.zeros (by omega), by simp, ly, lx, by simp, by simp, sum, by simp [leNat]⟩, trivial⟩, ?_⟩, fun x hx _ => bif_mk (fun hp => ⟨by simp at hp; omega, ?_⟩) (fun hp => ?_)⟩
  ·simp [W_zeros]
  ·obtain ⟨xs, ys, out, carry, i⟩ := x
   have hp : i < xs.length := by simpa using hp
   obtain ⟨d, hd⟩ : ∃ d, xs[i]? = some d := ⟨_, List.getElem?_eq_getElem hp⟩
   have dd := hx.dx.get hd
   have hc := hx.hc
   have hl := hx.lx
   simp only at dd hc hl ⊢
   refine ⟨d, by simpa using W_ldE hd, bif_mk (fun hq => ⟨by simp at hq; omega, ?_⟩) (fun hq => ?_), fun x1 h1 ht => ?_⟩
   ·have hq : i < ys.length := by simpa using hq
    obtain ⟨e, he⟩ : ∃ e, ys[i]? = some e := ⟨_, List.getElem?_eq_getElem hq⟩
    have de := hx.dy.get he
    refine ⟨e, by simpa using W_ldE he, (⟨xs, ys, out, carry, i⟩, carry + d + e), ⟨⟨hx, hp, by simp only; rw [getD_of hd, getD_of he]⟩, rfl⟩, ?_⟩
    simp (disch := omega) only [wu64]
    simp
   ·have hq : ¬ i < ys.length := by simpa using hq
    refine ⟨(⟨xs, ys, out, carry, i⟩, carry + d), ⟨⟨hx, hp, by simp only; rw [getD_of hd]; simp [List.getD_eq_getElem?_getD, show ys[i]? = none by simp; omega]⟩, rfl⟩, ?_⟩
    simp (disch := omega) only [wu64]
    simp
   ·obtain ⟨⟨xs', ys', out', carry', i'⟩, t⟩ := x1
    obtain ⟨h1, h2, h3⟩ := h1
    simp only at h1 h2 h3 ht ⊢
    have hs := h1.step h2 h3
    have b1 := h1.dx.getD (i := i') (by omega)
    have b2 := h1.dy.getD (i := i') (by omega)
    have b3 := h1.hc
    have b4 := h1.lz
    have b5 := h1.lx
    simp only at b1 b2 b3 b4 b5
    refine ⟨by omega, by rw [W_len]; simp; omega, by omega, _, ⟨hs, by simp, by simp only; omega⟩, ?_⟩
    have e1 : IntKind.u32.wrap (t : Int) = ((t % 4294967296 : Nat) : Int) := by rw [IntKind.wrap_u32]; simp
    simp only []
    rw [shr_eq (by decide) (by simp), w64 (by omega), e1]
    simp
    rw [show ((t : Int) % 4294967296) = ((t % 4294967296 : Nat) : Int) by omega]
    exact .inl (W_set _ _ _)
  ·obtain ⟨xs, ys, out, carry, i⟩ := x
   have hp : ¬ i < xs.length := by simpa using hp
   have hi := hx.hi
   have lz := hx.lz
   have hc := hx.hc
   have hl := hx.lx
   simp only at hi lz hc hl ⊢
   have : i = xs.length := by omega
   subst this
   refine ⟨by omega, by rw [W_len]; simp; omega, out.set xs.length carry, ?_, hx.dz.set (by omega), by simp; omega, ?_⟩
   ·rw [wu32 (by omega)]
    simp [W_set, W_take]
    congr 1
    rw [List.take_of_length_le (by simp; omega)]
   ·have hv : leNat 4294967296 (out.set xs.length carry) = m + n := by
     have h1 : (out.set xs.length carry)[xs.length]? = some carry := by rw [List.getElem?_set]; simp; omega
     have h2 := leNat_take_succ (B := 4294967296) h1
     rw [leNat_take_all (by simp; omega), take_set_eq] at h2
     have h3 := hx.inv
     simp only at h3
     rw [leNat_take_all (l := xs) (by omega), leNat_take_all (l := ys) hx.ly] at h3
     have := hx.sum
     simp only at this
     omega
    rw [hv]
    exact hK _ (.b hlt)
def c_Add : Ctr := fun as0 => match as0 with
 | [.x false [.b m a], .x false [.b n b]] => some fun K => (a ≤ 549755813888 ∧ b ≤ 549755813888) ∧ K (bA (m + n) (max a b + 1))
 | _ => none
theorem conc_lt2 {w : World} {O : Nat → Prop} {ρ : Env} {x : AV} {m n : Nat} {l : List AV} {vals : List Value} (h : ConcAs w O ρ (x :: .x false [.b m n] :: l) vals) : m < 2 ^ n := by
 cases h with
 | cons _ h => exact conc_lt h
theorem spec_pre {P : Program} {g : Nat} {tab : List Value} {f : Nat} {l : List AV} {K : AV → Prop} (h : ∀ w O ρ vals, ConcAs w O ρ l vals → Eng.Spec P g tab f l K) : Eng.Spec P g tab f l K :=
 fun w O vals h1 h2 h3 => h w O noEnv vals h3 w O vals h1 h2 h3
theorem ok_Add {g : Nat} {tab : List Value} : CtrOK Tryd.prog g tab 42 c_Add := by
 refine ⟨enters Tryd.func42 (by kernel_rfl), fun l T hT K hK => ?_⟩
 unfold c_Add at hT
 split at hT
 ·rename_i m a n b
  cases hT
  exact spec_pre fun w O ρ vals hc => spec_nat (spec_ofL T6ok mixed Tryd.func42 (by kernel_rfl) (by kernel_rfl) (by rfl) (g_Add m a n b _ hK.1.1 hK.1.2 (conc_lt hc) (conc_lt2 hc) fun _ h => h)) hK.2
 ·cases hT
end Go.Proofs
/- Natural numbers, sixth part: less. -/
namespace Go.Proofs
open Go Go.Eng
structure LessX where
 cur : List Nat
 b : Nat
 i : Nat
structure LessI (ds es : List Nat) (x : LessX) : Prop where
 dc : Dig 4294967296 x.cur
 lc : x.cur.length = ds.length
 hi : x.i ≤ ds.length
 hb : x.b ≤ 1
 rest : x.cur.drop x.i = ds.drop x.i
 inv : leNat 4294967296 (x.cur.take x.i) + leNat 4294967296 (es.take x.i) = leNat 4294967296 (ds.take x.i) + 4294967296 ^ x.i * x.b
def lessT (ds es : List Nat) (x : LessX) : List (Nat × AV) := [(0, wA 1000 ds.length), (1, wA 1001 es.length), (4, iA .u64 x.b), (8, wA 1000 ds.length), (9, iA .i64 ds.length), (10, iA .i64 x.i)]
def inv_less (ds es : List Nat) : LI := fun id => bif id.beq 7 then .cut ⟨LessX, fun x => ⟨(5, iA .i64 x.i) :: (7, iA .u64 (((ds.getD x.i 0 : Int) - x.b - es.getD x.i 0) % 18446744073709551616)) :: lessT ds es x, [(1000, rowW x.cur), (1001, rowW es)]⟩,
  fun x => LessI ds es x ∧ x.i < ds.length, fun _ => 0, fun x => ds.length - x.i⟩
 else .inv ⟨LessX, fun x => ⟨lessT ds es x, [(1000, rowW x.cur), (1001, rowW es)]⟩, LessI ds es, fun x => ds.length - x.i, fun _ => 0⟩
def ot_less : OT := fun _ => ([], [])
def goal_less (ds es : List Nat) : Prop := goalM (X := Unit) T6 ot_less (inv_less ds es) Tryd.f76 [wA 1000 ds.length, wA 1001 es.length] [(1000, rowW ds), (1001, rowW es)] (fun _ => True)
 (fun _ => ⟨[], [(1000, rowW (fd 4294967296 ds.length (leNat 4294967296 ds - leNat 4294967296 es))), (1001, rowW es)]⟩)
theorem goal_less_vc (ds : List Nat) (es : List Nat) : goal_less ds es = ((∃(x:LessX),(LessI ds es x∧OfNat.ofNat 0=0)∧0=0∧ds.length=ds.length∧0=0∧es.length=es.length∧0=Int.ofNat x.b∧0=0∧ds.length=ds.length∧Int.ofNat ds.length=Int.ofNat ds.length∧0=Int.ofNat x.i∧86=86∧1=1∧(W ds=W x.cur∨RowLE (W ds) (W x.cur))∧86=86∧1=1∧(W es=W es∨RowLE (W es) (W es))∧True)∧∀(x:LessX),LessI ds es x→OfNat.ofNat 0=0→bif decide (Int.ofNat x.i<Int.ofNat ds.length) then (0≤Int.ofNat x.i∧Int.ofNat x.i<Int.ofNat ds.length)∧∃(d:Int),ldE (W x.cur) (0+(Int.ofNat x.i).toNat) 0 1=some [Ch.v (Value.int IntKind.u32 d)]∧(bif decide (Int.ofNat x.i<Int.ofNat es.length) then (0≤Int.ofNat x.i∧Int.ofNat x.i<Int.ofNat es.length)∧∃(d_1:Int),ldE (W es) (0+(Int.ofNat x.i).toNat) 0 1=some [Ch.v (Value.int IntKind.u32 d_1)]∧∃(x_1:LessX),((LessI ds es x_1∧x_1.i<ds.length)∧ds.length-x_1.i=ds.length-x.i)∧Int.ofNat x.i=Int.ofNat x_1.i∧IntKind.u64.wrap (IntKind.u64.wrap (IntKind.u64.wrap d-Int.ofNat x.b)-IntKind.u64.wrap d_1)=(Int.ofNat (ds.getD x_1.i 0)-Int.ofNat x_1.b-Int.ofNat (es.getD x_1.i 0))%18446744073709551616∧0=0∧ds.length=ds.length∧0=0∧es.length=es.length∧Int.ofNat x.b=Int.ofNat x_1.b∧0=0∧ds.length=ds.length∧Int.ofNat ds.length=Int.ofNat ds.length∧Int.ofNat x.i=Int.ofNat x_1.i∧86=86∧1=1∧(W x.cur=W x_1.cur∨RowLE (W x.cur) (W x_1.cur))∧86=86∧1=1∧(W es=W es∨RowLE (W es) (W es))∧True else ∃(x_1:LessX),((LessI ds es x_1∧x_1.i<ds.length)∧ds.length-x_1.i=ds.length-x.i)∧Int.ofNat x.i=Int.ofNat x_1.i∧IntKind.u64.wrap (IntKind.u64.wrap d-Int.ofNat x.b)=(Int.ofNat (ds.getD x_1.i 0)-Int.ofNat x_1.b-Int.ofNat (es.getD x_1.i 0))%18446744073709551616∧0=0∧ds.length=ds.length∧0=0∧es.length=es.length∧Int.ofNat x.b=Int.ofNat x_1.b∧0=0∧ds.length=ds.length∧Int.ofNat ds.length=Int.ofNat ds.length∧Int.ofNat x.i=Int.ofNat x_1.i∧86=86∧1=1∧(W x.cur=W x_1.cur∨RowLE (W x.cur) (W x_1.cur))∧86=86∧1=1∧(W es=W es∨RowLE (W es) (W es))∧True)∧∀(x_1:LessX),LessI ds es x_1∧x_1.i<ds.length→ds.length-x_1.i=ds.length-x.i→(0:Int)≤63∧(0≤Int.ofNat x_1.i∧Int.ofNat x_1.i<Int.ofNat ds.length)∧0+(Int.ofNat x_1.i).toNat<(W x_1.cur).length∧∃(x':LessX),(LessI ds es x'∧OfNat.ofNat 0=0∧ds.length-x'.i<ds.length-x.i)∧0=0∧ds.length=ds.length∧0=0∧es.length=es.length∧shrI IntKind.u64 ((Int.ofNat (ds.getD x_1.i 0)-Int.ofNat x_1.b-Int.ofNat (es.getD x_1.i 0))%18446744073709551616) 63=Int.ofNat x'.b∧0=0∧ds.length=ds.length∧Int.ofNat ds.length=Int.ofNat ds.length∧IntKind.i64.wrap (Int.ofNat x_1.i+1)=Int.ofNat x'.i∧86=86∧1=1∧((W x_1.cur).set (0+(Int.ofNat x_1.i).toNat) [Ch.v (Value.int IntKind.u32 (IntKind.u32.wrap ((Int.ofNat (ds.getD x_1.i 0)-Int.ofNat x_1.b-Int.ofNat (es.getD x_1.i 0))%18446744073709551616)))]=W x'.cur∨RowLE ((W x_1.cur).set (0+(Int.ofNat x_1.i).toNat) [Ch.v (Value.int IntKind.u32 (IntKind.u32.wrap ((Int.ofNat (ds.getD x_1.i 0)-Int.ofNat x_1.b-Int.ofNat (es.getD x_1.i 0))%18446744073709551616)))]) (W x'.cur))∧86=86∧1=1∧(W es=W es∨RowLE (W es) (W es))∧True else ∃(x_1:Unit),True∧86=86∧1=1∧(W x.cur=W (fd 4294967296 ds.length (leNat 4294967296 ds-leNat 4294967296 es))∨RowLE (W x.cur) (W (fd 4294967296 ds.length (leNat 4294967296 ds-leNat 4294967296 es))))∧86=86∧1=1∧(W es=W es∨RowLE (W es) (W es))∧True) := by kernel_rfl
theorem LessI.step {ds es : List Nat} {x : LessX} (h : LessI ds es x) (_dd : Dig 4294967296 ds) (_de : Dig 4294967296 es) (hi : x.i < ds.length) {v b' : Nat} (hv : v < 4294967296) (hb : b' ≤ 1)
  (he : v + x.b + es.getD x.i 0 = ds.getD x.i 0 + 4294967296 * b') : LessI ds es ⟨x.cur.set x.i v, b', x.i + 1⟩ := by
 obtain ⟨dc, lc, _, _, rest, inv⟩ := h
 have gz : (x.cur.set x.i v)[x.i]? = some v := by rw [List.getElem?_set]; simp; omega
 have gd : ds[x.i]? = some (ds.getD x.i 0) := by rw [List.getD_eq_getElem?_getD, List.getElem?_eq_getElem hi]; rfl
 have ey : leNat 4294967296 (es.take (x.i + 1)) = leNat 4294967296 (es.take x.i) + 4294967296 ^ x.i * es.getD x.i 0 := by
  cases hy : es[x.i]? with
  | some d => rw [leNat_take_succ hy, getD_of hy]
  | none =>
   have : es.length ≤ x.i := by simpa using hy
   rw [leNat_take_all (by omega), leNat_take_all (by omega)]
   simp [List.getD_eq_getElem?_getD, hy]
 refine ⟨dc.set hv, by simpa using lc, hi, hb, ?_, ?_⟩
 ·simp only
  rw [List.drop_set_of_lt (by omega)]
  have := congrArg (List.drop 1) rest
  rwa [List.drop_drop, List.drop_drop] at this
 ·simp only
  rw [leNat_take_succ gz, take_set_eq, leNat_take_succ gd, ey, Nat.pow_succ]
  generalize (4294967296 : Nat) ^ x.i = p at inv ⊢
  have e2 : p * (v + x.b + es.getD x.i 0) = p * (ds.getD x.i 0 + 4294967296 * b') := by rw [he]
  rw [Nat.mul_add, Nat.mul_add, Nat.mul_add, ← Nat.mul_assoc] at e2
  omega
theorem g_less (ds es : List Nat) (dd : Dig 4294967296 ds) (de : Dig 4294967296 es) (hl : ds.length ≤ 1099511627776) (hle : es.length ≤ ds.length) (hv : leNat 4294967296 es ≤ leNat 4294967296 ds) : Holds (goal_less ds es) := by
 refine ⟨?_⟩
 rw [goal_less_vc]
 simp only [Int.ofNat_eq_natCast, true_and, and_true, Nat.zero_add, true_implies, true_or]
 refine ⟨⟨⟨ds, 0, 0⟩, ⟨dd, rfl, Nat.zero_le _, by simp, rfl, by simp [leNat]⟩, rfl, rfl, .inl rfl⟩, fun x hx => bif_mk (fun hp => ⟨by simp at hp; omega, ?_⟩) (fun hp => ?_)⟩
 ·obtain ⟨cur, b, i⟩ := x
  have hp : i < ds.length := by simpa using hp
  obtain ⟨w, hw⟩ : ∃ w, ds[i]? = some w := ⟨_, List.getElem?_eq_getElem hp⟩
  have dw := dd.get hw
  have hb := hx.hb
  have hcw : cur[i]? = some w := by
   have := congrArg (fun l : List Nat => l[0]?) hx.rest
   simpa [hw] using this
  simp only at hb ⊢
  refine ⟨w, by simpa using W_ldE hcw, bif_mk (fun hq => ⟨by simp at hq; omega, ?_⟩) (fun hq => ?_), fun x1 h1 ht => ?_⟩
  ·have hq : i < es.length := by simpa using hq
   obtain ⟨e, he⟩ : ∃ e, es[i]? = some e := ⟨_, List.getElem?_eq_getElem hq⟩
   have dE := de.get he
   refine ⟨e, by simpa using W_ldE he, ⟨cur, b, i⟩, ⟨⟨hx, hp⟩, rfl⟩, rfl, ?_, rfl, rfl, .inl rfl⟩
   simp only [getD_of hw, getD_of he, wrap_u64]
   omega
  ·have hq : ¬ i < es.length := by simpa using hq
   have e0 : es.getD i 0 = 0 := by simp [List.getD_eq_getElem?_getD, show es[i]? = none by simp; omega]
   refine ⟨⟨cur, b, i⟩, ⟨⟨hx, hp⟩, rfl⟩, rfl, ?_, rfl, rfl, .inl rfl⟩
   simp only [getD_of hw, e0, wrap_u64]
   omega
  ·obtain ⟨cur', b', i'⟩ := x1
   obtain ⟨h1, h2⟩ := h1
   have hs := fun v c => h1.step dd de h2 (v := v) (b' := c)
   have b1 := dd.getD (i := i') (by omega)
   have b2 := de.getD (i := i') (by omega)
   have b3 := h1.hb
   have b4 := h1.lc
   simp only at h2 ht b1 b2 b3 b4 hs ⊢
   generalize ds.getD i' 0 = u at b1 hs
   generalize es.getD i' 0 = v at b2 hs
   obtain ⟨q, c, hq, hc, he⟩ : ∃ q c : Nat, q < 4294967296 ∧ c ≤ 1 ∧ q + b' + v = u + 4294967296 * c := by
    by_cases h : b' + v ≤ u
    ·exact ⟨u - b' - v, 0, by omega, by omega, by omega⟩
    ·exact ⟨u + 4294967296 - b' - v, 1, by omega, by omega, by omega⟩
   refine ⟨by omega, by omega, by rw [W_len]; simp; omega, _, ⟨hs q c hq hc he, by simp only; omega⟩, ?_, ?_, ?_⟩
   ·rw [shr_eq (by decide) (by omega)]
    simp only [show (63 : Int).toNat = 63 from rfl]
    omega
   ·rw [w64 (by omega)]; simp
   ·have : IntKind.u32.wrap (((u : Int) - b' - v) % 18446744073709551616) = (q : Int) := by rw [IntKind.wrap_u32]; omega
    rw [this]
    exact .inl (by simpa using W_set _ _ _)
 ·obtain ⟨cur, b, i⟩ := x
  have hp : ¬ i < ds.length := by simpa using hp
  have hi := hx.hi
  have lc := hx.lc
  have inv := hx.inv
  have hb := hx.hb
  have dc := hx.dc
  simp only at hi lc inv hb dc ⊢
  have : i = ds.length := by omega
  subst this
  rw [leNat_take_all (l := cur) (by omega), leNat_take_all (l := es) hle, leNat_take_all (l := ds) (by omega)] at inv
  have hlt := leNat_lt dc
  rw [lc] at hlt
  have hb0 : b = 0 := by
   rcases Nat.le_one_iff_eq_zero_or_eq_one.1 hb with h | h
   ·exact h
   ·subst h; omega
  subst hb0
  have hcv : leNat 4294967296 cur = leNat 4294967296 ds - leNat 4294967296 es := by omega
  exact ⟨(), .inl (by rw [← hcv, ← lc, fd_leNat dc (by omega)])⟩
def c_less : CtrM := fun as0 H _ => match as0 with
 | [.x false [.w k 0 n], .x false [.w k2 0 n2]] => match H k, H k2 with
  | some (.row t 1 xs), some (.row t2 1 ys) => bif t.beq 86 && t2.beq 86 && !(k.beq k2) then
    some fun K => ∃ ds es, xs = W ds ∧ ys = W es ∧ n = ds.length ∧ n2 = es.length ∧ Dig 4294967296 ds ∧ Dig 4294967296 es ∧ ds.length ≤ 1099511627776 ∧ es.length ≤ ds.length ∧ leNat 4294967296 es ≤ leNat 4294967296 ds ∧
     K (.t []) (backH [(1000, k), (1001, k2)] (lookH [(1000, rowW (fd 4294967296 ds.length (leNat 4294967296 ds - leNat 4294967296 es))), (1001, rowW es)]) H)
    else none
  | _, _ => none
 | _ => none
def L7 : List (Nat × Ctr) := (42, c_Add) :: L6
def M7 : List (Nat × CtrM) := (76, c_less) :: M2
noncomputable def T7 : Tabs := mkT L7 M7 X3
theorem hand2 {H : HP} {k k2 : Nat} {b b2 : Blk} (h : H k = some b) (h2 : H k2 = some b2) (hk : k ≠ k2) (l : live (some b) = true) (l2 : live (some b2) = true) (f : freeB b = true) (f2 : freeB b2 = true) : Hand [(1000, k), (1001, k2)] H (lookH [(1000, b), (1001, b2)]) := by
 refine ⟨by simp, by simpa using hk, fun p hp => ?_, fun c hc => ?_⟩
 ·simp at hp
  rcases hp with rfl | rfl
  ·exact ⟨b, rfl, h, l, f⟩
  ·exact ⟨b2, rfl, h2, l2, f2⟩
 ·simp only [lookH] at hc
  cases h1 : c.beq 1000 with
  | true => simp [Nat.eq_of_beq_eq_true h1]
  | false =>
   rw [h1] at hc
   cases h2 : c.beq 1001 with
   | true => simp [Nat.eq_of_beq_eq_true h2]
   | false => rw [h2] at hc; simp at hc
theorem hand1 {H : HP} {k : Nat} {b : Blk} (h : H k = some b) (l : live (some b) = true) (f : freeB b = true) : Hand [(1000, k)] H (lookH [(1000, b)]) := by
 refine ⟨by simp, by simp, fun p hp => ?_, fun c hc => ?_⟩
 ·simp at hp; subst hp
  exact ⟨b, rfl, h, l, f⟩
 ·simp only [lookH] at hc
  cases h1 : c.beq 1000 with
  | true => simp [Nat.eq_of_beq_eq_true h1]
  | false => rw [h1] at hc; simp at hc
theorem lkB2 {k k2 : Nat} (hk : k ≠ k2) : lkB [(1000, k), (1001, k2)] k = some 1000 ∧ lkB [(1000, k), (1001, k2)] k2 = some 1001 := by
 constructor
 ·simp [lkB]
 ·have : k2.beq k = false := by
   cases h : k2.beq k with
   | false => rfl
   | true => exact absurd (Nat.eq_of_beq_eq_true h).symm hk
  simp [lkB, this]
theorem ok_less {g : Nat} {tab : List Value} : CtrMOK Tryd.prog g tab 76 c_less := by
 refine ⟨enters Tryd.func76 (by kernel_rfl), fun l H d T hT K hK => ?_⟩
 unfold c_less at hT
 split at hT
 ·rename_i k n k2 n2
  split at hT
  ·rename_i t xs t2 ys e1 e2
   cases hb : t.beq 86 && t2.beq 86 && !(k.beq k2) with
   | false => rw [hb] at hT; cases hT
   | true =>
    rw [hb] at hT
    cases hT
    simp only [Bool.and_eq_true, Bool.not_eq_true'] at hb
    obtain ⟨⟨ht, ht2⟩, hk⟩ := hb
    have ht := Nat.eq_of_beq_eq_true ht
    have ht2 := Nat.eq_of_beq_eq_true ht2
    have hk : k ≠ k2 := fun e => by subst e; simp at hk
    subst ht ht2
    obtain ⟨ds, es, rfl, rfl, rfl, rfl, dd, de, hl, hle, hv, hK⟩ := hK
    refine specM_of (R := [(1000, k), (1001, k2)]) (N := []) (Hl := [(1000, rowW ds), (1001, rowW es)]) T6ok mixed Tryd.func76 (by kernel_rfl) (by kernel_rfl) (by rfl)
     (as0 := [wA 1000 ds.length, wA 1001 es.length]) ?_ (hand2 e1 e2 hk rfl rfl rfl rfl) rfl (by simp) (by simp) (fun _ h => by cases h) (fun x => ⟨fun p hp => ?_, fun p hp b hb => ?_⟩) (g_less ds es dd de hl hle hv) (fun x _ => ?_)
    ·simp [renAs, renAV, renCh, (lkB2 hk).1, (lkB2 hk).2, wA]
    ·simp at hp
     rcases hp with rfl | rfl
     ·exact fun h => by have h' : some (rowW _) = none := h; cases h'
     ·exact fun h => by have h' : some (rowW _) = none := h; cases h'
    ·simp at hp
     rcases hp with rfl | rfl
     ·have h' : some (rowW _) = some b := hb; cases h'; rfl
     ·have h' : some (rowW _) = some b := hb; cases h'; rfl
    ·exact ⟨_, rfl, hK⟩
  ·cases hT
 ·cases hT
theorem L7ok {g : Nat} {tab : List Value} : CtrsOK Tryd.prog g tab L7 := .cons ok_Add L6ok
theorem M7ok {g : Nat} {tab : List Value} : CtrMsOK Tryd.prog g tab M7 := .cons ok_less M2ok
theorem T7ok {g : Nat} {tab : List Value} : TabsOK Tryd.prog g tab T7 := mkTok L7ok M7ok X3ok
def goal_Sub (m a n b : Nat) (K : AV → Prop) : Prop := goalL T7 noO noL Tryd.f75 [bA m a, bA n b] K
theorem goal_Sub_vc (m : Nat) (a : Nat) (n : Nat) (b : Nat) (K : AV → Prop) : goal_Sub m a n b K = (bif decide (cmpN m n<0) then K (AV.t [(false,[Ch.v (Value.string (ByteArray.mk (Array.mk [])))]),(false,[Ch.v (Value.int IntKind.i64 1)])]) else a≤1099511627776∧b≤1099511627776∧∃(ds:List Nat),∃(es:List Nat),W (fd 4294967296 (wl m) m)=W ds∧W (fd 4294967296 (wl n) n)=W es∧wl m=ds.length∧wl n=es.length∧(∀(d:Nat),d ∈ ds→d<4294967296)∧(∀(d:Nat),d ∈ es→d<4294967296)∧ds.length≤1099511627776∧es.length≤ds.length∧leNat 4294967296 es≤leNat 4294967296 ds∧∃(ds_1:List Nat),List.take (wl m) (List.drop 0 (W (fd 4294967296 ds.length (leNat 4294967296 ds-leNat 4294967296 es))))=W ds_1∧(∀(d:Nat),d ∈ ds_1→d<4294967296)∧ds_1.length≤1099511627776∧K (AV.t [(false,[Ch.b (leNat 4294967296 ds_1) (32*ds_1.length)]),(false,[Ch.v (Value.int IntKind.i64 0)])])) := by kernel_rfl
/-- A number and an error. -/
def NatErr (m n : Nat) (c : Int) (av : AV) : Prop := ∃ x, av = .t [(false, [x]), (false, [.v (.int .i64 c)])] ∧ NatIs m n (.x false [x])
theorem NatErr.conc {w : World} {O : Nat → Prop} {ρ : Env} {m n : Nat} {c : Int} {av : AV} {v : Value} (h : NatErr m n c av) (hc : ConcV w O ρ av v) : ConcV w O ρ (.t [(false, [.b m n]), (false, [.v (.int .i64 c)])]) v := by
 obtain ⟨x, rfl, hx⟩ := h
 obtain ⟨vs, h1, h2⟩ := hc
 cases h1 with
 | cons h1 h3 => exact ⟨_, .cons (hx.conc (av := .x false [x]) h1) h3, h2⟩
theorem spec_natErr {P : Program} {g : Nat} {tab : List Value} {f : Nat} {l : List AV} {m n : Nat} {c : Int} {K : AV → Prop} (h : Eng.Spec P g tab f l (NatErr m n c)) (hk : K (.t [(false, [.b m n]), (false, [.v (.int .i64 c)])])) : Eng.Spec P g tab f l K :=
 Eng.Spec.res h fun _ _ _ _ hn hc => ⟨_, hk, hn.conc hc⟩
theorem wl_mono {m n : Nat} (h : n ≤ m) : wl n ≤ wl m := by
 have h1 : (natBytes n).length ≤ (natBytes m).length := natBytes_len_iff.2 (Nat.lt_of_le_of_lt h (len_natBytes_lt m))
 unfold wl; omega
theorem g_Sub (m a n b : Nat) (ha : a ≤ 549755813888) (hb : b ≤ 549755813888) (hm : m < 2 ^ a) (_hn : n < 2 ^ b) : Holds (goal_Sub m a n b (NatErr (bif decide (m < n) then 0 else m - n) a (bif decide (m < n) then 1 else 0))) := by
 refine ⟨?_⟩
 rw [goal_Sub_vc]
 have hwm := wl_le hm
 have hpa : 0 < 2 ^ a := Nat.pow_pos (by omega)
 refine bif_mk (fun hp => ?_) (fun hp => ?_)
 ·have h : m < n := by
   unfold cmpN at hp
   rcases Nat.lt_or_ge m n with h | h
   ·exact h
   ·rw [if_neg (by omega)] at hp; split at hp <;> simp at hp
  simp only [h, decide_true, cond_true]
  exact ⟨_, rfl, hpa, .inr ⟨[], rfl, rfl⟩⟩
 ·have h : ¬ m < n := by
   intro h
   unfold cmpN at hp
   rw [if_pos h] at hp; simp at hp
  simp only [h, decide_false, cond_false]
  have hv : leNat 4294967296 (fd 4294967296 (wl m) (m - n)) = m - n := leNat_fd (Nat.lt_of_le_of_lt (Nat.sub_le _ _) (wl_pow m))
  refine ⟨by omega, by omega, _, _, rfl, rfl, by rw [fd_len], by rw [fd_len], Dig.fd (by omega), Dig.fd (by omega), by rw [fd_len]; omega, by rw [fd_len, fd_len]; exact wl_mono (by omega), by rw [leNat_fd (wl_pow m), leNat_fd (wl_pow n)]; omega, fd 4294967296 (wl m) (m - n), ?_, Dig.fd (by omega), by rw [fd_len]; omega, _, rfl, ?_⟩
  ·rw [leNat_fd (wl_pow m), leNat_fd (wl_pow n), fd_len, List.drop_zero, W_take, List.take_of_length_le (by rw [fd_len]; omega)]
  ·rw [hv]; exact .b (by omega)
def c_Sub : Ctr := fun as0 => match as0 with
 | [.x false [.b m a], .x false [.b n b]] => some fun K => (a ≤ 549755813888 ∧ b ≤ 549755813888) ∧ K (.t [(false, [.b (bif decide (m < n) then 0 else m - n) a]), (false, [.v (.int .i64 (bif decide (m < n) then 1 else 0))])])
 | _ => none
theorem ok_Sub {g : Nat} {tab : List Value} : CtrOK Tryd.prog g tab 75 c_Sub := by
 refine ⟨enters Tryd.func75 (by kernel_rfl), fun l T hT K hK => ?_⟩
 unfold c_Sub at hT
 split at hT
 ·rename_i m a n b
  cases hT
  exact spec_pre fun w O ρ vals hc => spec_natErr (spec_ofL T7ok mixed Tryd.func75 (by kernel_rfl) (by kernel_rfl) (by rfl) (g_Sub m a n b hK.1.1 hK.1.2 (conc_lt hc) (conc_lt2 hc))) hK.2
 ·cases hT
def L8 : List (Nat × Ctr) := (75, c_Sub) :: L7
noncomputable def T8 : Tabs := mkT L8 M7 X3
theorem L8ok {g : Nat} {tab : List Value} : CtrsOK Tryd.prog g tab L8 := .cons ok_Sub L7ok
theorem T8ok {g : Nat} {tab : List Value} : TabsOK Tryd.prog g tab T8 := mkTok L8ok M7ok X3ok
end Go.Proofs
/- Natural numbers, seventh part: Mul. -/
namespace Go.Proofs
open Go Go.Eng
structure MulX where
 out : List Nat
 i : Nat
structure MulI (xs ys : List Nat) (x : MulX) : Prop where
 dz : Dig 4294967296 x.out
 lz : x.out.length = xs.length + ys.length
 hi : x.i ≤ xs.length
 zero : x.out.drop (x.i + ys.length) = List.replicate (xs.length - x.i) 0
 inv : leNat 4294967296 (x.out.take (x.i + ys.length)) = leNat 4294967296 (xs.take x.i) * leNat 4294967296 ys
structure MulY where
 out : List Nat
 i : Nat
 carry : Nat
 k : Nat
structure MulJ (xs ys : List Nat) (x : MulY) : Prop where
 dz : Dig 4294967296 x.out
 lz : x.out.length = xs.length + ys.length
 hi : x.i < xs.length
 hk : x.k ≤ ys.length
 hc : x.carry < 4294967296
 zero : x.out.drop (x.i + ys.length) = List.replicate (xs.length - x.i) 0
 inv : leNat 4294967296 (x.out.take (x.i + ys.length)) + 4294967296 ^ (x.i + x.k) * x.carry = leNat 4294967296 (xs.take x.i) * leNat 4294967296 ys + 4294967296 ^ x.i * (xs.getD x.i 0 * leNat 4294967296 (ys.take x.k))
def mulT (xs ys : List Nat) (i : Nat) : List (Nat × AV) := [(5, wA 30 xs.length), (6, wA 32 ys.length), (7, wA 38 (xs.length + ys.length)), (39, wA 30 xs.length), (40, iA .i64 xs.length), (41, iA .i64 i)]
def mulH (xs ys out : List Nat) : List (Nat × Blk) := [(30, rowW xs), (32, rowW ys), (38, rowW out)]
def inv_Mul (xs ys : List Nat) : LI := fun id => bif id.beq 11 then .inv ⟨MulY, fun x => ⟨(8, iA .i64 x.i) :: (9, iA .u32 (xs.getD x.i 0 : Nat)) :: (10, iA .u64 x.carry) :: (46, wA 32 ys.length) :: (47, iA .i64 ys.length) :: (48, iA .i64 x.k) :: mulT xs ys x.i, mulH xs ys x.out⟩,
  MulJ xs ys, fun x => ys.length - x.k, fun x => xs.length - x.i⟩
 else .inv ⟨MulX, fun x => ⟨mulT xs ys x.i, mulH xs ys x.out⟩, MulI xs ys, fun x => xs.length - x.i, fun _ => 0⟩
def ot_Mul : OT := fun _ => ([], [])
def goal_Mul (m a n b : Nat) (K : AV → Prop) : Prop := goalL T8 ot_Mul (inv_Mul (fd 4294967296 (wl m) m) (fd 4294967296 (wl n) n)) Tryd.f20 [bA m a, bA n b] K
theorem goal_Mul_vc (m : Nat) (a : Nat) (n : Nat) (b : Nat) (K : AV → Prop) : goal_Mul m a n b K = (bif decide (IntKind.i64.wrap (Int.ofNat (natBytes m).length+Int.ofNat (natBytes n).length)≤8) then m<18446744073709551616∧n<18446744073709551616∧(0≤IntKind.u64.wrap (Int.ofNat m*Int.ofNat n)∧IntKind.u64.wrap (Int.ofNat m*Int.ofNat n)<18446744073709551616)∧K (AV.x false [Ch.b (IntKind.u64.wrap (Int.ofNat m*Int.ofNat n)).toNat 64]) else a≤1099511627776∧b≤1099511627776∧(0≤IntKind.i64.wrap (Int.ofNat (wl m)+Int.ofNat (wl n))∧IntKind.i64.wrap (Int.ofNat (wl m)+Int.ofNat (wl n))≤IntKind.i64.wrap (Int.ofNat (wl m)+Int.ofNat (wl n))∧4*IntKind.i64.wrap (Int.ofNat (wl m)+Int.ofNat (wl n))≤281474976710656∧IntKind.i64.wrap (Int.ofNat (wl m)+Int.ofNat (wl n))≤9223372036854775807)∧(∃(x:MulX),(MulI (fd 4294967296 (wl m) m) (fd 4294967296 (wl n) n) x∧OfNat.ofNat 0=0)∧0=0∧wl m=(fd 4294967296 (wl m) m).length∧0=0∧wl n=(fd 4294967296 (wl n) n).length∧0=0∧(IntKind.i64.wrap (Int.ofNat (wl m)+Int.ofNat (wl n))).toNat=(fd 4294967296 (wl m) m).length+(fd 4294967296 (wl n) n).length∧0=0∧wl m=(fd 4294967296 (wl m) m).length∧Int.ofNat (wl m)=Int.ofNat (fd 4294967296 (wl m) m).length∧0=Int.ofNat x.i∧86=86∧1=1∧(W (fd 4294967296 (wl m) m)=W (fd 4294967296 (wl m) m)∨RowLE (W (fd 4294967296 (wl m) m)) (W (fd 4294967296 (wl m) m)))∧86=86∧1=1∧(W (fd 4294967296 (wl n) n)=W (fd 4294967296 (wl n) n)∨RowLE (W (fd 4294967296 (wl n) n)) (W (fd 4294967296 (wl n) n)))∧86=86∧1=1∧(List.replicate (IntKind.i64.wrap (Int.ofNat (wl m)+Int.ofNat (wl n))).toNat [Ch.v (Value.int IntKind.u32 0)]=W x.out∨RowLE (List.replicate (IntKind.i64.wrap (Int.ofNat (wl m)+Int.ofNat (wl n))).toNat [Ch.v (Value.int IntKind.u32 0)]) (W x.out))∧True)∧∀(x:MulX),MulI (fd 4294967296 (wl m) m) (fd 4294967296 (wl n) n) x→OfNat.ofNat 0=0→bif decide (Int.ofNat x.i<Int.ofNat (fd 4294967296 (wl m) m).length) then (0≤Int.ofNat x.i∧Int.ofNat x.i<Int.ofNat (fd 4294967296 (wl m) m).length)∧∃(d:Int),ldE (W (fd 4294967296 (wl m) m)) (0+(Int.ofNat x.i).toNat) 0 1=some [Ch.v (Value.int IntKind.u32 d)]∧(∃(x_1:MulY),(MulJ (fd 4294967296 (wl m) m) (fd 4294967296 (wl n) n) x_1∧(fd 4294967296 (wl m) m).length-x_1.i=(fd 4294967296 (wl m) m).length-x.i)∧Int.ofNat x.i=Int.ofNat x_1.i∧d=Int.ofNat ((fd 4294967296 (wl m) m).getD x_1.i 0)∧0=Int.ofNat x_1.carry∧0=0∧(fd 4294967296 (wl n) n).length=(fd 4294967296 (wl n) n).length∧Int.ofNat (fd 4294967296 (wl n) n).length=Int.ofNat (fd 4294967296 (wl n) n).length∧0=Int.ofNat x_1.k∧0=0∧(fd 4294967296 (wl m) m).length=(fd 4294967296 (wl m) m).length∧0=0∧(fd 4294967296 (wl n) n).length=(fd 4294967296 (wl n) n).length∧0=0∧(fd 4294967296 (wl m) m).length+(fd 4294967296 (wl n) n).length=(fd 4294967296 (wl m) m).length+(fd 4294967296 (wl n) n).length∧0=0∧(fd 4294967296 (wl m) m).length=(fd 4294967296 (wl m) m).length∧Int.ofNat (fd 4294967296 (wl m) m).length=Int.ofNat (fd 4294967296 (wl m) m).length∧Int.ofNat x.i=Int.ofNat x_1.i∧86=86∧1=1∧(W (fd 4294967296 (wl m) m)=W (fd 4294967296 (wl m) m)∨RowLE (W (fd 4294967296 (wl m) m)) (W (fd 4294967296 (wl m) m)))∧86=86∧1=1∧(W (fd 4294967296 (wl n) n)=W (fd 4294967296 (wl n) n)∨RowLE (W (fd 4294967296 (wl n) n)) (W (fd 4294967296 (wl n) n)))∧86=86∧1=1∧(W x.out=W x_1.out∨RowLE (W x.out) (W x_1.out))∧True)∧∀(x_1:MulY),MulJ (fd 4294967296 (wl m) m) (fd 4294967296 (wl n) n) x_1→(fd 4294967296 (wl m) m).length-x_1.i=(fd 4294967296 (wl m) m).length-x.i→bif decide (Int.ofNat x_1.k<Int.ofNat (fd 4294967296 (wl n) n).length) then (0≤Int.ofNat x_1.k∧Int.ofNat x_1.k<Int.ofNat (fd 4294967296 (wl n) n).length)∧∃(d:Int),ldE (W (fd 4294967296 (wl n) n)) (0+(Int.ofNat x_1.k).toNat) 0 1=some [Ch.v (Value.int IntKind.u32 d)]∧(0≤IntKind.i64.wrap (Int.ofNat x_1.i+Int.ofNat x_1.k)∧IntKind.i64.wrap (Int.ofNat x_1.i+Int.ofNat x_1.k)<Int.ofNat ((fd 4294967296 (wl m) m).length+(fd 4294967296 (wl n) n).length))∧∃(d_1:Int),ldE (W x_1.out) (0+(IntKind.i64.wrap (Int.ofNat x_1.i+Int.ofNat x_1.k)).toNat) 0 1=some [Ch.v (Value.int IntKind.u32 d_1)]∧(0≤IntKind.i64.wrap (Int.ofNat x_1.i+Int.ofNat x_1.k)∧IntKind.i64.wrap (Int.ofNat x_1.i+Int.ofNat x_1.k)<Int.ofNat ((fd 4294967296 (wl m) m).length+(fd 4294967296 (wl n) n).length))∧0+(IntKind.i64.wrap (Int.ofNat x_1.i+Int.ofNat x_1.k)).toNat<(W x_1.out).length∧(0:Int)≤32∧∃(x':MulY),(MulJ (fd 4294967296 (wl m) m) (fd 4294967296 (wl n) n) x'∧(fd 4294967296 (wl m) m).length-x'.i=(fd 4294967296 (wl m) m).length-x.i∧(fd 4294967296 (wl n) n).length-x'.k<(fd 4294967296 (wl n) n).length-x_1.k)∧Int.ofNat x_1.i=Int.ofNat x'.i∧Int.ofNat ((fd 4294967296 (wl m) m).getD x_1.i 0)=Int.ofNat ((fd 4294967296 (wl m) m).getD x'.i 0)∧shrI IntKind.u64 (IntKind.u64.wrap (Int.ofNat x_1.carry+IntKind.u64.wrap (IntKind.u64.wrap (IntKind.u64.wrap (Int.ofNat ((fd 4294967296 (wl m) m).getD x_1.i 0))*IntKind.u64.wrap d)+IntKind.u64.wrap d_1))) 32=Int.ofNat x'.carry∧0=0∧(fd 4294967296 (wl n) n).length=(fd 4294967296 (wl n) n).length∧Int.ofNat (fd 4294967296 (wl n) n).length=Int.ofNat (fd 4294967296 (wl n) n).length∧IntKind.i64.wrap (Int.ofNat x_1.k+1)=Int.ofNat x'.k∧0=0∧(fd 4294967296 (wl m) m).length=(fd 4294967296 (wl m) m).length∧0=0∧(fd 4294967296 (wl n) n).length=(fd 4294967296 (wl n) n).length∧0=0∧(fd 4294967296 (wl m) m).length+(fd 4294967296 (wl n) n).length=(fd 4294967296 (wl m) m).length+(fd 4294967296 (wl n) n).length∧0=0∧(fd 4294967296 (wl m) m).length=(fd 4294967296 (wl m) m).length∧Int.ofNat (fd 4294967296 (wl m) m).length=Int.ofNat (fd 4294967296 (wl m) m).length∧Int.ofNat x_1.i=Int.ofNat x'.i∧86=86∧1=1∧(W (fd 4294967296 (wl m) m)=W (fd 4294967296 (wl m) m)∨RowLE (W (fd 4294967296 (wl m) m)) (W (fd 4294967296 (wl m) m)))∧86=86∧1=1∧(W (fd 4294967296 (wl n) n)=W (fd 4294967296 (wl n) n)∨RowLE (W (fd 4294967296 (wl n) n)) (W (fd 4294967296 (wl n) n)))∧86=86∧1=1∧((W x_1.out).set (0+(IntKind.i64.wrap (Int.ofNat x_1.i+Int.ofNat x_1.k)).toNat) [Ch.v (Value.int IntKind.u32 (IntKind.u32.wrap (IntKind.u64.wrap (Int.ofNat x_1.carry+IntKind.u64.wrap (IntKind.u64.wrap (IntKind.u64.wrap (Int.ofNat ((fd 4294967296 (wl m) m).getD x_1.i 0))*IntKind.u64.wrap d)+IntKind.u64.wrap d_1)))))]=W x'.out∨RowLE ((W x_1.out).set (0+(IntKind.i64.wrap (Int.ofNat x_1.i+Int.ofNat x_1.k)).toNat) [Ch.v (Value.int IntKind.u32 (IntKind.u32.wrap (IntKind.u64.wrap (Int.ofNat x_1.carry+IntKind.u64.wrap (IntKind.u64.wrap (IntKind.u64.wrap (Int.ofNat ((fd 4294967296 (wl m) m).getD x_1.i 0))*IntKind.u64.wrap d)+IntKind.u64.wrap d_1)))))]) (W x'.out))∧True else (0≤IntKind.i64.wrap (Int.ofNat x_1.i+Int.ofNat (fd 4294967296 (wl n) n).length)∧IntKind.i64.wrap (Int.ofNat x_1.i+Int.ofNat (fd 4294967296 (wl n) n).length)<Int.ofNat ((fd 4294967296 (wl m) m).length+(fd 4294967296 (wl n) n).length))∧0+(IntKind.i64.wrap (Int.ofNat x_1.i+Int.ofNat (fd 4294967296 (wl n) n).length)).toNat<(W x_1.out).length∧∃(x':MulX),(MulI (fd 4294967296 (wl m) m) (fd 4294967296 (wl n) n) x'∧OfNat.ofNat 0=0∧(fd 4294967296 (wl m) m).length-x'.i<(fd 4294967296 (wl m) m).length-x.i)∧0=0∧(fd 4294967296 (wl m) m).length=(fd 4294967296 (wl m) m).length∧0=0∧(fd 4294967296 (wl n) n).length=(fd 4294967296 (wl n) n).length∧0=0∧(fd 4294967296 (wl m) m).length+(fd 4294967296 (wl n) n).length=(fd 4294967296 (wl m) m).length+(fd 4294967296 (wl n) n).length∧0=0∧(fd 4294967296 (wl m) m).length=(fd 4294967296 (wl m) m).length∧Int.ofNat (fd 4294967296 (wl m) m).length=Int.ofNat (fd 4294967296 (wl m) m).length∧IntKind.i64.wrap (Int.ofNat x_1.i+1)=Int.ofNat x'.i∧86=86∧1=1∧(W (fd 4294967296 (wl m) m)=W (fd 4294967296 (wl m) m)∨RowLE (W (fd 4294967296 (wl m) m)) (W (fd 4294967296 (wl m) m)))∧86=86∧1=1∧(W (fd 4294967296 (wl n) n)=W (fd 4294967296 (wl n) n)∨RowLE (W (fd 4294967296 (wl n) n)) (W (fd 4294967296 (wl n) n)))∧86=86∧1=1∧((W x_1.out).set (0+(IntKind.i64.wrap (Int.ofNat x_1.i+Int.ofNat (fd 4294967296 (wl n) n).length)).toNat) [Ch.v (Value.int IntKind.u32 (IntKind.u32.wrap (Int.ofNat x_1.carry)))]=W x'.out∨RowLE ((W x_1.out).set (0+(IntKind.i64.wrap (Int.ofNat x_1.i+Int.ofNat (fd 4294967296 (wl n) n).length)).toNat) [Ch.v (Value.int IntKind.u32 (IntKind.u32.wrap (Int.ofNat x_1.carry)))]) (W x'.out))∧True else ∃(ds:List Nat),List.take ((fd 4294967296 (wl m) m).length+(fd 4294967296 (wl n) n).length) (List.drop 0 (W x.out))=W ds∧(∀(d:Nat),d ∈ ds→d<4294967296)∧ds.length≤1099511627776∧K (AV.x false [Ch.b (leNat 4294967296 ds) (32*ds.length)])) := by kernel_rfl
theorem MulJ.step {xs ys : List Nat} {x : MulY} (h : MulJ xs ys x) (dx : Dig 4294967296 xs) (dy : Dig 4294967296 ys) (hk : x.k < ys.length) {t : Nat} (ht : t = x.carry + (xs.getD x.i 0 * ys.getD x.k 0 + x.out.getD (x.i + x.k) 0)) :
  MulJ xs ys ⟨x.out.set (x.i + x.k) (t % 4294967296), x.i, t / 4294967296, x.k + 1⟩ := by
 obtain ⟨dz, lz, hi, _, hc, zero, inv⟩ := h
 have b1 := dx.getD (i := x.i) (by omega)
 have b2 := dy.getD (i := x.k) (by omega)
 have b3 := dz.getD (i := x.i + x.k) (by omega)
 have gz : (x.out.take (x.i + ys.length))[x.i + x.k]? = some (x.out.getD (x.i + x.k) 0) := by
  rw [List.getElem?_take, if_pos (by omega), List.getD_eq_getElem?_getD, List.getElem?_eq_getElem (by omega)]; rfl
 have gy : ys[x.k]? = some (ys.getD x.k 0) := by rw [List.getD_eq_getElem?_getD, List.getElem?_eq_getElem hk]; rfl
 have hs := leNat_set (B := 4294967296) (v := t % 4294967296) gz
 have ht2 : t < 4294967296 * 4294967296 := by
  have : xs.getD x.i 0 * ys.getD x.k 0 ≤ 4294967295 * 4294967295 := Nat.mul_le_mul (by omega) (by omega)
  omega
 refine ⟨dz.set (Nat.mod_lt _ (by omega)), by simpa using lz, hi, hk, Nat.div_lt_of_lt_mul ht2, ?_, ?_⟩
 ·simp only
  rw [List.drop_set_of_lt (by omega)]; exact zero
 ·simp only
  rw [List.take_set, leNat_take_succ gy, show x.i + (x.k + 1) = x.i + x.k + 1 by omega, Nat.pow_succ]
  have e3 : 4294967296 ^ (x.i + x.k) = 4294967296 ^ x.i * 4294967296 ^ x.k := Nat.pow_add _ _ _
  have e4 : 4294967296 ^ (x.i + x.k) * t = 4294967296 ^ (x.i + x.k) * x.carry + 4294967296 ^ (x.i + x.k) * (xs.getD x.i 0 * ys.getD x.k 0) + 4294967296 ^ (x.i + x.k) * x.out.getD (x.i + x.k) 0 := by
   rw [ht, Nat.mul_add, Nat.mul_add, Nat.add_assoc]
  have e5 : 4294967296 ^ (x.i + x.k) * t = 4294967296 ^ (x.i + x.k) * 4294967296 * (t / 4294967296) + 4294967296 ^ (x.i + x.k) * (t % 4294967296) := by
   conv => lhs; rw [← Nat.div_add_mod t 4294967296]
   rw [Nat.mul_add, Nat.mul_assoc]
  have e6 : 4294967296 ^ x.i * (xs.getD x.i 0 * (leNat 4294967296 (ys.take x.k) + 4294967296 ^ x.k * ys.getD x.k 0)) = 4294967296 ^ x.i * (xs.getD x.i 0 * leNat 4294967296 (ys.take x.k)) + 4294967296 ^ (x.i + x.k) * (xs.getD x.i 0 * ys.getD x.k 0) := by
   rw [e3]; grind
  rw [e6]
  omega
theorem MulJ.done {xs ys : List Nat} {x : MulY} (h : MulJ xs ys x) (hk : x.k = ys.length) : MulI xs ys ⟨x.out.set (x.i + ys.length) x.carry, x.i + 1⟩ := by
 obtain ⟨dz, lz, hi, _, hc, zero, inv⟩ := h
 rw [hk] at inv
 have gz : (x.out.set (x.i + ys.length) x.carry)[x.i + ys.length]? = some x.carry := by rw [List.getElem?_set]; simp; omega
 have gx : xs[x.i]? = some (xs.getD x.i 0) := by rw [List.getD_eq_getElem?_getD, List.getElem?_eq_getElem hi]; rfl
 refine ⟨dz.set hc, by simpa using lz, hi, ?_, ?_⟩
 ·simp only
  rw [List.drop_set_of_lt (by omega)]
  have := congrArg (List.drop 1) zero
  rw [List.drop_drop, List.drop_replicate] at this
  rw [show x.i + 1 + ys.length = x.i + ys.length + 1 by omega, this]
  congr 1
 ·simp only
  rw [show x.i + 1 + ys.length = x.i + ys.length + 1 by omega, leNat_take_succ gz, take_set_eq, leNat_take_succ gx, inv, leNat_take_all (Nat.le_refl _)]
  grind
theorem g_Mul (m a n b : Nat) (K : AV → Prop) (ha : a ≤ 274877906944) (hb : b ≤ 274877906944) (hm : m < 2 ^ a) (hn : n < 2 ^ b) (hK : ∀ av, NatIs (m * n) (a + b) av → K av) : Holds (goal_Mul m a n b K) := by
 refine ⟨?_⟩
 rw [goal_Mul_vc]
 have hlt : m * n < 2 ^ (a + b) := by rw [Nat.pow_add]; exact Nat.mul_lt_mul'' hm hn
 have hwm := wl_le hm
 have hwn := wl_le hn
 have lm := natBytes_len hm
 have ln := natBytes_len hn
 refine bif_mk (fun h1 => ?_) (fun h1 => ?_)
 ·have h1 := of_decide_eq_true h1
  simp only [Int.ofNat_eq_natCast] at h1 ⊢
  rw [w64 (by omega)] at h1
  have h1 : (natBytes m).length + (natBytes n).length ≤ 8 := by omega
  have k1 := len_natBytes_lt m
  have k2 := len_natBytes_lt n
  have k3 : m * n < 256 ^ ((natBytes m).length + (natBytes n).length) := by rw [Nat.pow_add]; exact Nat.mul_lt_mul'' k1 k2
  have k4 : (256 : Nat) ^ ((natBytes m).length + (natBytes n).length) ≤ 256 ^ 8 := Nat.pow_le_pow_right (by omega) h1
  have k5 : (256 : Nat) ^ (natBytes m).length ≤ 256 ^ 8 := Nat.pow_le_pow_right (by omega) (by omega)
  have k6 : (256 : Nat) ^ (natBytes n).length ≤ 256 ^ 8 := Nat.pow_le_pow_right (by omega) (by omega)
  have e1 : ((m : Int) * n) = ((m * n : Nat) : Int) := by simp
  rw [e1, wu64 (by omega), Int.toNat_natCast]
  exact ⟨by omega, by omega, by omega, hK _ (.b hlt)⟩
 ·have vx : leNat 4294967296 (fd 4294967296 (wl m) m) = m := leNat_fd (wl_pow m)
  have vy : leNat 4294967296 (fd 4294967296 (wl n) n) = n := leNat_fd (wl_pow n)
  have dx : Dig 4294967296 (fd 4294967296 (wl m) m) := Dig.fd (by omega)
  have dy : Dig 4294967296 (fd 4294967296 (wl n) n) := Dig.fd (by omega)
  have lx : (fd 4294967296 (wl m) m).length = wl m := fd_len
  have ly : (fd 4294967296 (wl n) n).length = wl n := fd_len
  generalize fd 4294967296 (wl m) m = xs at *
  generalize fd 4294967296 (wl n) n = ys at *
  simp only [Int.ofNat_eq_natCast, true_and, and_true, Nat.zero_add, true_implies, true_or]
  rw [w64 (by omega)]
  have e1 : ((wl m : Int) + wl n).toNat = xs.length + ys.length := by omega
  simp only [e1, lx, ly, true_and]
  rw [← lx, ← ly]
  refine ⟨by omega, by omega, ⟨by omega, by omega, by omega⟩, ⟨⟨List.replicate (xs.length + ys.length) 0, 0⟩, ⟨Dig.zeros (by omega), by simp, by simp, by simp, by simp [leNat, leNat_zeros, List.take_replicate]⟩, rfl, .inl (W_zeros _)⟩, fun x hx => bif_mk (fun hp => ?_) (fun hp => ?_)⟩
  ·obtain ⟨out, i⟩ := x
   have hp : i < xs.length := by simpa using hp
   obtain ⟨w, hw⟩ : ∃ w, xs[i]? = some w := ⟨_, List.getElem?_eq_getElem hp⟩
   simp only at hx ⊢
   refine ⟨by omega, w, by simpa using W_ldE hw, ⟨⟨out, i, 0, 0⟩, ⟨⟨hx.dz, hx.lz, hp, by simp, by simp, hx.zero, ?_⟩, rfl⟩, rfl, by simp only; rw [getD_of hw], rfl, rfl, rfl, .inl rfl⟩, fun y hy ht => bif_mk (fun hq => ?_) (fun hq => ?_)⟩
   ·have := hx.inv
    simp only at this ⊢
    rw [this]; simp [leNat]
   ·obtain ⟨out', i', carry, k⟩ := y
    have hq : k < ys.length := by simpa using hq
    obtain ⟨v, hv⟩ : ∃ v, ys[k]? = some v := ⟨_, List.getElem?_eq_getElem hq⟩
    have hs := fun t => hy.step dx dy hq (t := t)
    have b1 := dx.getD (i := i') (by omega)
    have b2 := dy.get hv
    have b3 := hy.dz.getD (i := i' + k) (by omega)
    have b4 := hy.hc
    have b5 := hy.hi
    have b6 := hy.lz
    have gz : out'[i' + k]? = some (out'.getD (i' + k) 0) := by rw [List.getD_eq_getElem?_getD, List.getElem?_eq_getElem (by simp only at b5 b6; omega)]; rfl
    simp only at hs b1 b2 b3 b4 b5 b6 ht ⊢
    rw [getD_of hv] at hs
    have f1 : IntKind.i64.wrap ((i' : Int) + k) = ((i' + k : Nat) : Int) := by rw [w64 (by omega)]; simp
    simp only [f1, Int.toNat_natCast]
    have hm1 : xs.getD i' 0 * v ≤ 4294967295 * 4294967295 := Nat.mul_le_mul (by omega) (by omega)
    have f2 : IntKind.u64.wrap ((carry : Int) + IntKind.u64.wrap (IntKind.u64.wrap (IntKind.u64.wrap ((xs.getD i' 0 : Nat) : Int) * IntKind.u64.wrap (v : Int)) + IntKind.u64.wrap ((out'.getD (i' + k) 0 : Nat) : Int))) = ((carry + (xs.getD i' 0 * v + out'.getD (i' + k) 0) : Nat) : Int) := by
     have e0 : (((xs.getD i' 0 : Nat) : Int) * (v : Int)) = ((xs.getD i' 0 * v : Nat) : Int) := by simp
     rw [wu64 (n := ((xs.getD i' 0 : Nat) : Int)) (by omega), wu64 (n := (v : Int)) (by omega), wu64 (n := ((out'.getD (i' + k) 0 : Nat) : Int)) (by omega), e0]
     generalize xs.getD i' 0 * v = p at hm1 ⊢
     rw [wu64 (n := (p : Int)) (by omega), wu64 (n := (p : Int) + _) (by omega), wu64 (by omega)]
     simp
    refine ⟨by omega, v, by simpa using W_ldE hv, by omega, _, W_ldE gz, by omega, by rw [W_len]; omega, by omega, _, ⟨hs _ rfl, ht, by simp only; omega⟩, ?_⟩
    rw [f2, shr_eq (by decide) (by omega), w64 (by omega)]
    generalize carry + (xs.getD i' 0 * v + out'.getD (i' + k) 0) = t
    have e2 : IntKind.u32.wrap (t : Int) = ((t % 4294967296 : Nat) : Int) := by rw [IntKind.wrap_u32]; simp
    rw [e2, W_set]
    refine ⟨rfl, rfl, ?_, by simp, rfl, .inl rfl⟩
    simp only [show (32 : Int).toNat = 32 from rfl]
    omega
   ·obtain ⟨out', i', carry, k⟩ := y
    have hq : ¬ k < ys.length := by simpa using hq
    have hk := hy.hk
    have b4 := hy.hc
    have b5 := hy.hi
    have b6 := hy.lz
    have hd := hy.done (by simp only at hk ⊢; omega)
    simp only at b4 b5 b6 ht hd ⊢
    have f1 : IntKind.i64.wrap ((i' : Int) + ys.length) = ((i' + ys.length : Nat) : Int) := by rw [w64 (by omega)]; simp
    simp only [f1, Int.toNat_natCast]
    refine ⟨by omega, by rw [W_len]; omega, _, ⟨hd, by simp only; omega⟩, ?_⟩
    rw [w64 (by omega), wu32 (by omega), W_set]
    exact ⟨by simp, .inl rfl⟩
  ·obtain ⟨out, i⟩ := x
   have hp : ¬ i < xs.length := by simpa using hp
   have hi := hx.hi
   have lz := hx.lz
   have inv := hx.inv
   simp only at hi lz inv ⊢
   have : i = xs.length := by omega
   subst this
   refine ⟨out, ?_, hx.dz, by omega, ?_⟩
   ·rw [List.drop_zero, W_take, List.take_of_length_le (by omega)]
   ·rw [leNat_take_all (l := out) (by omega), leNat_take_all (l := xs) (by omega), vx, vy] at inv
    rw [inv]
    exact hK _ (.b hlt)
def c_Mul : Ctr := fun as0 => match as0 with
 | [.x false [.b m a], .x false [.b n b]] => some fun K => (a ≤ 274877906944 ∧ b ≤ 274877906944) ∧ K (bA (m * n) (a + b))
 | _ => none
theorem ok_Mul {g : Nat} {tab : List Value} : CtrOK Tryd.prog g tab 20 c_Mul := by
 refine ⟨enters Tryd.func20 (by kernel_rfl), fun l T hT K hK => ?_⟩
 unfold c_Mul at hT
 split at hT
 ·rename_i m a n b
  cases hT
  exact spec_pre fun w O ρ vals hc => spec_nat (spec_ofL T8ok mixed Tryd.func20 (by kernel_rfl) (by kernel_rfl) (by rfl) (g_Mul m a n b _ hK.1.1 hK.1.2 (conc_lt hc) (conc_lt2 hc) fun _ h => h)) hK.2
 ·cases hT
def L9 : List (Nat × Ctr) := (20, c_Mul) :: L8
noncomputable def T9 : Tabs := mkT L9 M7 X3
theorem L9ok {g : Nat} {tab : List Value} : CtrsOK Tryd.prog g tab L9 := .cons ok_Mul L8ok
theorem T9ok {g : Nat} {tab : List Value} : TabsOK Tryd.prog g tab T9 := mkTok L9ok M7ok X3ok
end Go.Proofs
/- Natural numbers, eighth part: left. -/
namespace Go.Proofs
open Go Go.Eng
structure LeftX where
 out : List Nat
 i : Nat
structure LeftI (xs : List Nat) (s : Nat) (x : LeftX) : Prop where
 dz : Dig 4294967296 x.out
 lz : x.out.length = xs.length + 1
 hi : x.i ≤ xs.length
 top : x.out.getD x.i 0 < 2 ^ s
 zero : x.out.drop (x.i + 1) = List.replicate (xs.length - x.i) 0
 inv : leNat 4294967296 (x.out.take (x.i + 1)) = leNat 4294967296 (xs.take x.i) * 2 ^ s
def inv_left (xs : List Nat) (s : Nat) : LI := fun _ => .inv ⟨LeftX, fun x => ⟨[(1, iA .i64 s), (5, wA 12 (xs.length + 1)), (13, wA 1000 xs.length), (14, iA .i64 xs.length), (15, iA .i64 x.i)], [(1000, rowW xs), (12, rowW x.out)]⟩, LeftI xs s, fun x => xs.length - x.i, fun _ => 0⟩
def ot_left : OT := fun _ => ([], [])
def goal_left (xs : List Nat) (s : Nat) : Prop := goalM (X := Unit) T9 ot_left (inv_left xs s) Tryd.f61 [wA 1000 xs.length, iA .i64 s] [(1000, rowW xs)] (fun _ => True)
 (fun _ => ⟨[(4, wA 1001 (xs.length + 1))], [(1000, rowW xs), (1001, rowW (fd 4294967296 (xs.length + 1) (leNat 4294967296 xs * 2 ^ s)))]⟩)
theorem goal_left_vc (xs : List Nat) (s : Nat) : goal_left xs s = ((0≤IntKind.i64.wrap (Int.ofNat xs.length+1)∧IntKind.i64.wrap (Int.ofNat xs.length+1)≤IntKind.i64.wrap (Int.ofNat xs.length+1)∧4*IntKind.i64.wrap (Int.ofNat xs.length+1)≤281474976710656∧IntKind.i64.wrap (Int.ofNat xs.length+1)≤9223372036854775807)∧(∃(x:LeftX),(LeftI xs s x∧OfNat.ofNat 0=0)∧Int.ofNat s=Int.ofNat s∧0=0∧(IntKind.i64.wrap (Int.ofNat xs.length+1)).toNat=xs.length+1∧0=0∧xs.length=xs.length∧Int.ofNat xs.length=Int.ofNat xs.length∧0=Int.ofNat x.i∧86=86∧1=1∧(W xs=W xs∨RowLE (W xs) (W xs))∧86=86∧1=1∧(List.replicate (IntKind.i64.wrap (Int.ofNat xs.length+1)).toNat [Ch.v (Value.int IntKind.u32 0)]=W x.out∨RowLE (List.replicate (IntKind.i64.wrap (Int.ofNat xs.length+1)).toNat [Ch.v (Value.int IntKind.u32 0)]) (W x.out))∧True)∧∀(x:LeftX),LeftI xs s x→OfNat.ofNat 0=0→bif decide (Int.ofNat x.i<Int.ofNat xs.length) then (0≤Int.ofNat x.i∧Int.ofNat x.i<Int.ofNat xs.length)∧∃(d:Int),ldE (W xs) (0+(Int.ofNat x.i).toNat) 0 1=some [Ch.v (Value.int IntKind.u32 d)]∧0≤Int.ofNat s∧(0≤Int.ofNat x.i∧Int.ofNat x.i<Int.ofNat (xs.length+1))∧∃(d_1:Int),ldE (W x.out) (0+(Int.ofNat x.i).toNat) 0 1=some [Ch.v (Value.int IntKind.u32 d_1)]∧(0≤Int.ofNat x.i∧Int.ofNat x.i<Int.ofNat (xs.length+1))∧0+(Int.ofNat x.i).toNat<(W x.out).length∧(0:Int)≤32∧(0≤IntKind.i64.wrap (Int.ofNat x.i+1)∧IntKind.i64.wrap (Int.ofNat x.i+1)<Int.ofNat (xs.length+1))∧0+(IntKind.i64.wrap (Int.ofNat x.i+1)).toNat<((W x.out).set (0+(Int.ofNat x.i).toNat) [Ch.v (Value.int IntKind.u32 (orI IntKind.u32 d_1 (IntKind.u32.wrap (shlI IntKind.u64 (IntKind.u64.wrap d) (Int.ofNat s)))))]).length∧∃(x':LeftX),(LeftI xs s x'∧OfNat.ofNat 0=0∧xs.length-x'.i<xs.length-x.i)∧Int.ofNat s=Int.ofNat s∧0=0∧xs.length+1=xs.length+1∧0=0∧xs.length=xs.length∧Int.ofNat xs.length=Int.ofNat xs.length∧IntKind.i64.wrap (Int.ofNat x.i+1)=Int.ofNat x'.i∧86=86∧1=1∧(W xs=W xs∨RowLE (W xs) (W xs))∧86=86∧1=1∧(((W x.out).set (0+(Int.ofNat x.i).toNat) [Ch.v (Value.int IntKind.u32 (orI IntKind.u32 d_1 (IntKind.u32.wrap (shlI IntKind.u64 (IntKind.u64.wrap d) (Int.ofNat s)))))]).set (0+(IntKind.i64.wrap (Int.ofNat x.i+1)).toNat) [Ch.v (Value.int IntKind.u32 (IntKind.u32.wrap (shrI IntKind.u64 (shlI IntKind.u64 (IntKind.u64.wrap d) (Int.ofNat s)) 32)))]=W x'.out∨RowLE (((W x.out).set (0+(Int.ofNat x.i).toNat) [Ch.v (Value.int IntKind.u32 (orI IntKind.u32 d_1 (IntKind.u32.wrap (shlI IntKind.u64 (IntKind.u64.wrap d) (Int.ofNat s)))))]).set (0+(IntKind.i64.wrap (Int.ofNat x.i+1)).toNat) [Ch.v (Value.int IntKind.u32 (IntKind.u32.wrap (shrI IntKind.u64 (shlI IntKind.u64 (IntKind.u64.wrap d) (Int.ofNat s)) 32)))]) (W x'.out))∧True else ∃(x_1:Unit),True∧0=0∧xs.length+1=xs.length+1∧86=86∧1=1∧(W xs=W xs∨RowLE (W xs) (W xs))∧86=86∧1=1∧(W x.out=W (fd 4294967296 (xs.length+1) (leNat 4294967296 xs*2^s))∨RowLE (W x.out) (W (fd 4294967296 (xs.length+1) (leNat 4294967296 xs*2^s))))∧True) := by kernel_rfl
theorem LeftI.step {xs : List Nat} {s : Nat} {x : LeftX} (h : LeftI xs s x) (dx : Dig 4294967296 xs) (hs : s < 32) (hi : x.i < xs.length) {w : Nat} (hw : xs[x.i]? = some w) :
  orI .u32 (x.out.getD x.i 0 : Nat) (w * 2 ^ s % 4294967296 : Nat) = ((x.out.getD x.i 0 + w * 2 ^ s % 4294967296 : Nat) : Int) ∧
  LeftI xs s ⟨(x.out.set x.i (x.out.getD x.i 0 + w * 2 ^ s % 4294967296)).set (x.i + 1) (w * 2 ^ s / 4294967296), x.i + 1⟩ := by
 obtain ⟨dz, lz, _, top, zero, inv⟩ := h
 have dw := dx.get hw
 obtain ⟨p, hp⟩ : ∃ p, 2 ^ s = p := ⟨_, rfl⟩
 obtain ⟨q, hq⟩ : ∃ q, 2 ^ (32 - s) = q := ⟨_, rfl⟩
 have hpq : p * q = 4294967296 := by rw [← hp, ← hq, ← Nat.pow_add, show s + (32 - s) = 32 by omega]
 have hp0 : 0 < p := by rw [← hp]; exact Nat.pow_pos (by omega)
 have hq0 : 0 < q := by rw [← hq]; exact Nat.pow_pos (by omega)
 have e1 : w * p % 4294967296 = p * (w % q) := by rw [← hpq, Nat.mul_comm w p, Nat.mul_mod_mul_left]
 have e2 : w * p / 4294967296 = w / q := by rw [← hpq, Nat.mul_comm w p, Nat.mul_div_mul_left _ _ hp0]
 have e3 : p * (w % q) + p ≤ 4294967296 := by
  rw [← hpq]
  have : p * (w % q + 1) ≤ p * q := Nat.mul_le_mul_left _ (Nat.mod_lt _ hq0)
  rwa [Nat.mul_add, Nat.mul_one] at this
 have e4 : w / q < p := by
  apply Nat.div_lt_of_lt_mul
  rw [Nat.mul_comm, hpq]; exact dw
 have hple : p ≤ 4294967296 := by omega
 rw [hp] at top inv ⊢
 rw [e1, e2]
 have gi : x.out[x.i]? = some (x.out.getD x.i 0) := by rw [List.getD_eq_getElem?_getD, List.getElem?_eq_getElem (by omega)]; rfl
 refine ⟨?_, ?_⟩
 ·rw [orI_comm]
  have := orI_u32 (a := w % q) (b := x.out.getD x.i 0) (s := s) (by rw [hp]; exact top) (by rw [hp]; omega)
  rw [hp] at this
  rw [this, Nat.add_comm]
 ·refine ⟨(dz.set (by omega)).set (by omega), by simpa using lz, hi, ?_, ?_, ?_⟩
  ·simp only
   rw [getD_of (d := w / q) (by rw [List.getElem?_set]; simp; omega), hp]
   exact e4
  ·simp only
   rw [List.drop_set_of_lt (by omega), List.drop_set_of_lt (by omega)]
   have := congrArg (List.drop 1) zero
   rw [List.drop_drop, List.drop_replicate] at this
   rw [this]; congr 1
  ·simp only
   have g1 : ((x.out.set x.i (x.out.getD x.i 0 + p * (w % q))).set (x.i + 1) (w / q))[x.i + 1]? = some (w / q) := by rw [List.getElem?_set]; simp; omega
   rw [leNat_take_succ g1, take_set_eq, List.take_set, leNat_take_succ hw, Nat.add_mul, hp, ← inv]
   have g2 : (x.out.take (x.i + 1))[x.i]? = some (x.out.getD x.i 0) := by rw [List.getElem?_take, if_pos (by omega)]; exact gi
   have h3 := leNat_set (B := 4294967296) (v := x.out.getD x.i 0 + p * (w % q)) g2
   rw [Nat.mul_add] at h3
   rw [Nat.pow_succ]
   have e5 : 4294967296 ^ x.i * w * p = 4294967296 ^ x.i * (p * (w % q)) + 4294967296 ^ x.i * 4294967296 * (w / q) := by
    have : w * p = p * (w % q) + 4294967296 * (w / q) := by
     conv => lhs; rw [← Nat.div_add_mod w q]
     rw [← hpq]; grind
    rw [Nat.mul_assoc, this, Nat.mul_add, Nat.mul_assoc]
   omega
theorem g_left (xs : List Nat) (s : Nat) (dx : Dig 4294967296 xs) (hs : s < 32) (hl : xs.length ≤ 1099511627776) : Holds (goal_left xs s) := by
 refine ⟨?_⟩
 rw [goal_left_vc]
 simp only [Int.ofNat_eq_natCast, true_and, and_true, Nat.zero_add, true_implies, true_or]
 rw [w64 (by omega), show ((xs.length : Int) + 1).toNat = xs.length + 1 by omega]
 simp only [true_and]
 refine ⟨⟨by omega, by omega, by omega⟩, ⟨⟨List.replicate (xs.length + 1) 0, 0⟩, ⟨Dig.zeros (by omega), by simp, by simp, by simp [List.getD_eq_getElem?_getD]; exact Nat.pow_pos (by omega), by simp, by simp [leNat]⟩, rfl, .inl (W_zeros _)⟩, fun x hx => bif_mk (fun hp => ?_) (fun hp => ?_)⟩
 ·obtain ⟨out, i⟩ := x
  have hp : i < xs.length := by simpa using hp
  obtain ⟨w, hw⟩ : ∃ w, xs[i]? = some w := ⟨_, List.getElem?_eq_getElem hp⟩
  obtain ⟨h1, h2⟩ := hx.step dx hs hp hw
  have lz := hx.lz
  have dw := dx.get hw
  have gz : out[i]? = some (out.getD i 0) := by rw [List.getD_eq_getElem?_getD, List.getElem?_eq_getElem (by simp only at lz; omega)]; rfl
  simp only at h1 h2 lz ⊢
  have hp2 : (2 : Nat) ^ s ≤ 2 ^ 31 := Nat.pow_le_pow_right (by omega) (by omega)
  have hwp : w * 2 ^ s ≤ 4294967295 * 2 ^ 31 := Nat.mul_le_mul (by omega) hp2
  have f1 : shlI .u64 (IntKind.u64.wrap (w : Int)) (s : Int) = ((w * 2 ^ s : Nat) : Int) := by
   rw [wu64 (by omega), shl_eq (by simp [IntKind.bits]; omega), Int.toNat_natCast]
   have : (w : Int) * 2 ^ s = ((w * 2 ^ s : Nat) : Int) := by simp
   rw [this]
   exact wu64 (by omega)
  have f2 : IntKind.u32.wrap ((w * 2 ^ s : Nat) : Int) = ((w * 2 ^ s % 4294967296 : Nat) : Int) := by rw [IntKind.wrap_u32]; simp
  have f3 : IntKind.u32.wrap (shrI .u64 ((w * 2 ^ s : Nat) : Int) 32) = ((w * 2 ^ s / 4294967296 : Nat) : Int) := by
   rw [shr_eq (by decide) (by omega)]
   simp only [show (32 : Int).toNat = 32 from rfl]
   rw [wu32 (by omega)]; omega
  have f4 : IntKind.i64.wrap ((i : Int) + 1) = ((i + 1 : Nat) : Int) := by rw [w64 (by omega)]; simp
  simp only [f4, Int.toNat_natCast]
  refine ⟨by omega, w, W_ldE hw, by omega, by omega, _, W_ldE gz, by omega, by rw [W_len]; omega, by omega, by omega, by rw [List.length_set, W_len]; omega, _, ⟨h2, by simp only; omega⟩, rfl, .inl ?_⟩
  rw [f1, f2, f3, h1, W_set, W_set]
 ·obtain ⟨out, i⟩ := x
  have hp : ¬ i < xs.length := by simpa using hp
  have hi := hx.hi
  have lz := hx.lz
  have inv := hx.inv
  have dz := hx.dz
  simp only at hi lz inv dz ⊢
  have : i = xs.length := by omega
  subst this
  rw [leNat_take_all (l := out) (by omega), leNat_take_all (l := xs) (by omega)] at inv
  exact ⟨(), .inl (by rw [← inv, ← lz, fd_leNat dz (by omega)])⟩
def c_left : CtrM := fun as0 H d => match as0 with
 | [.x false [.w k 0 n], .x false [.v (.int .i64 s)]] => match H k, H d with
  | some (.row t 1 xs), none => bif t.beq 86 then
    some fun K => ∃ ds, xs = W ds ∧ n = ds.length ∧ Dig 4294967296 ds ∧ ds.length ≤ 1099511627776 ∧ (0 ≤ s ∧ s < 32) ∧
     K (wA d (ds.length + 1)) (backH [(1000, k), (1001, d)] (lookH [(1000, rowW ds), (1001, rowW (fd 4294967296 (ds.length + 1) (leNat 4294967296 ds * 2 ^ s.toNat)))]) H)
    else none
  | _, _ => none
 | _ => none
theorem ok_left {g : Nat} {tab : List Value} : CtrMOK Tryd.prog g tab 61 c_left := by
 refine ⟨enters Tryd.func61 (by kernel_rfl), fun l H d T hT K hK => ?_⟩
 unfold c_left at hT
 split at hT
 ·rename_i k n s
  split at hT
  ·rename_i t xs e1 e2
   cases hb : t.beq 86 with
   | false => rw [hb] at hT; cases hT
   | true =>
    rw [hb] at hT
    cases hT
    have ht := Nat.eq_of_beq_eq_true hb
    subst ht
    obtain ⟨ds, rfl, rfl, dd, hl, ⟨h0, h1⟩, hK⟩ := hK
    obtain ⟨s, rfl⟩ := Int.eq_ofNat_of_zero_le h0
    refine specM_of (R := [(1000, k)]) (N := [(1001, d)]) (Hl := [(1000, rowW ds)]) T9ok mixed Tryd.func61 (by kernel_rfl) (by kernel_rfl) (by rfl)
     (as0 := [wA 1000 ds.length, iA .i64 s]) ?_ (hand1 e1 rfl rfl) rfl (by simp) (by simp) (fun p hp => by simp at hp; subst hp; exact e2) (fun x => ⟨fun p hp => ?_, fun p hp b hb => ?_⟩) (g_left ds s dd (by omega) hl) (fun x _ => ?_)
    ·simp [renAs, renAV, renCh, lkB, wA, iA]
    ·simp at hp; subst hp
     exact fun h => by have h' : some (rowW _) = none := h; cases h'
    ·simp at hp
     rcases hp with rfl | rfl
     ·have h' : some (rowW _) = some b := hb; cases h'; rfl
     ·have h' : some (rowW _) = some b := hb; cases h'; rfl
    ·exact ⟨_, rfl, hK⟩
  ·cases hT
 ·cases hT
end Go.Proofs
/- Natural numbers, ninth part: takeAway, putBack. -/
namespace Go.Proofs
open Go Go.Eng
/-- Digits from o on are those of w. -/
def spl (us : List Nat) (o : Nat) (w : List Nat) : List Nat := us.take o ++ (w ++ us.drop (o + w.length))
def win (us : List Nat) (o n : Nat) : List Nat := (us.drop o).take n
structure TakeX where
 wd : List Nat
 carry : Nat
 b : Nat
 i : Nat
structure TakeI (wd0 vs : List Nat) (n d : Nat) (x : TakeX) : Prop where
 dw : Dig 4294967296 x.wd
 lw : x.wd.length = n + 1
 hi : x.i ≤ n
 hc : x.carry < 4294967296
 hb : x.b ≤ 1
 rest : x.wd.drop x.i = wd0.drop x.i
 inv : leNat 4294967296 (x.wd.take x.i) + d * leNat 4294967296 (vs.take x.i) = leNat 4294967296 (wd0.take x.i) + 4294967296 ^ x.i * (x.carry + x.b)
def wO (k o n : Nat) : AV := .x false [.w k o n]
def inv_takeAway (us vs : List Nat) (o n d : Nat) : LI := fun _ => .inv ⟨TakeX, fun x => ⟨[(0, wO 1000 o (n + 1)), (1, wA 1001 n), (2, iA .u64 d), (7, iA .u64 x.carry), (8, iA .u64 x.b), (13, wA 1001 n), (14, iA .i64 n), (15, iA .i64 x.i)],
 [(1000, rowW (spl us o x.wd)), (1001, rowW vs)]⟩, TakeI (win us o (n + 1)) vs n d, fun x => n - x.i, fun _ => 0⟩
def takenV (us vs : List Nat) (o n d : Nat) : Nat := (leNat 4294967296 (win us o (n + 1)) + 4294967296 ^ (n + 1) - d * leNat 4294967296 (vs.take n)) % 4294967296 ^ (n + 1)
def ot_takeAway : OT := fun _ => ([], [])
def goal_takeAway (us vs : List Nat) (o n d : Nat) : Prop := goalM (X := Unit) T9 ot_takeAway (inv_takeAway us vs o n d) Tryd.f62 [wO 1000 o (n + 1), wA 1001 n, iA .u64 d] [(1000, rowW us), (1001, rowW vs)] (fun _ => True)
 (fun _ => ⟨[(6, .x false [.v (.bool (decide (leNat 4294967296 (win us o (n + 1)) < d * leNat 4294967296 (vs.take n))))])], [(1000, rowW (spl us o (fd 4294967296 (n + 1) (takenV us vs o n d)))), (1001, rowW vs)]⟩)
theorem goal_takeAway_vc (us : List Nat) (vs : List Nat) (o : Nat) (n : Nat) (d : Nat) : goal_takeAway us vs o n d = ((∃(x:TakeX),(TakeI (win us o (n+1)) vs n d x∧OfNat.ofNat 0=0)∧o=o∧n+1=n+1∧0=0∧n=n∧Int.ofNat d=Int.ofNat d∧0=Int.ofNat x.carry∧0=Int.ofNat x.b∧0=0∧n=n∧Int.ofNat n=Int.ofNat n∧0=Int.ofNat x.i∧86=86∧1=1∧(W us=W (spl us o x.wd)∨RowLE (W us) (W (spl us o x.wd)))∧86=86∧1=1∧(W vs=W vs∨RowLE (W vs) (W vs))∧True)∧∀(x:TakeX),TakeI (win us o (n+1)) vs n d x→OfNat.ofNat 0=0→bif decide (Int.ofNat x.i<Int.ofNat n) then (0≤Int.ofNat x.i∧Int.ofNat x.i<Int.ofNat n)∧∃(d_1:Int),ldE (W vs) (0+(Int.ofNat x.i).toNat) 0 1=some [Ch.v (Value.int IntKind.u32 d_1)]∧(0≤Int.ofNat x.i∧Int.ofNat x.i<Int.ofNat (n+1))∧∃(d_2:Int),ldE (W (spl us o x.wd)) (o+(Int.ofNat x.i).toNat) 0 1=some [Ch.v (Value.int IntKind.u32 d_2)]∧(0:Int)≤63∧(0≤Int.ofNat x.i∧Int.ofNat x.i<Int.ofNat (n+1))∧o+(Int.ofNat x.i).toNat<(W (spl us o x.wd)).length∧(0:Int)≤32∧∃(x':TakeX),(TakeI (win us o (n+1)) vs n d x'∧OfNat.ofNat 0=0∧n-x'.i<n-x.i)∧o=o∧n+1=n+1∧0=0∧n=n∧Int.ofNat d=Int.ofNat d∧shrI IntKind.u64 (IntKind.u64.wrap (Int.ofNat x.carry+IntKind.u64.wrap (Int.ofNat d*IntKind.u64.wrap d_1))) 32=Int.ofNat x'.carry∧shrI IntKind.u64 (IntKind.u64.wrap (IntKind.u64.wrap (IntKind.u64.wrap d_2-IntKind.u64.wrap (IntKind.u32.wrap (IntKind.u64.wrap (Int.ofNat x.carry+IntKind.u64.wrap (Int.ofNat d*IntKind.u64.wrap d_1)))))-Int.ofNat x.b)) 63=Int.ofNat x'.b∧0=0∧n=n∧Int.ofNat n=Int.ofNat n∧IntKind.i64.wrap (Int.ofNat x.i+1)=Int.ofNat x'.i∧86=86∧1=1∧((W (spl us o x.wd)).set (o+(Int.ofNat x.i).toNat) [Ch.v (Value.int IntKind.u32 (IntKind.u32.wrap (IntKind.u64.wrap (IntKind.u64.wrap (IntKind.u64.wrap d_2-IntKind.u64.wrap (IntKind.u32.wrap (IntKind.u64.wrap (Int.ofNat x.carry+IntKind.u64.wrap (Int.ofNat d*IntKind.u64.wrap d_1)))))-Int.ofNat x.b))))]=W (spl us o x'.wd)∨RowLE ((W (spl us o x.wd)).set (o+(Int.ofNat x.i).toNat) [Ch.v (Value.int IntKind.u32 (IntKind.u32.wrap (IntKind.u64.wrap (IntKind.u64.wrap (IntKind.u64.wrap d_2-IntKind.u64.wrap (IntKind.u32.wrap (IntKind.u64.wrap (Int.ofNat x.carry+IntKind.u64.wrap (Int.ofNat d*IntKind.u64.wrap d_1)))))-Int.ofNat x.b))))]) (W (spl us o x'.wd)))∧86=86∧1=1∧(W vs=W vs∨RowLE (W vs) (W vs))∧True else (0≤Int.ofNat n∧Int.ofNat n<Int.ofNat (n+1))∧∃(d_1:Int),ldE (W (spl us o x.wd)) (o+(Int.ofNat n).toNat) 0 1=some [Ch.v (Value.int IntKind.u32 d_1)]∧(0≤Int.ofNat n∧Int.ofNat n<Int.ofNat (n+1))∧o+(Int.ofNat n).toNat<(W (spl us o x.wd)).length∧(0:Int)≤63∧∃(x_1:Unit),True∧decide (shrI IntKind.u64 (IntKind.u64.wrap (IntKind.u64.wrap (IntKind.u64.wrap d_1-Int.ofNat x.carry)-Int.ofNat x.b)) 63>0)=decide (leNat 4294967296 (win us o (n+1))<d*leNat 4294967296 (List.take n vs))∧86=86∧1=1∧((W (spl us o x.wd)).set (o+(Int.ofNat n).toNat) [Ch.v (Value.int IntKind.u32 (IntKind.u32.wrap (IntKind.u64.wrap (IntKind.u64.wrap (IntKind.u64.wrap d_1-Int.ofNat x.carry)-Int.ofNat x.b))))]=W (spl us o (fd 4294967296 (n+1) (takenV us vs o n d)))∨RowLE ((W (spl us o x.wd)).set (o+(Int.ofNat n).toNat) [Ch.v (Value.int IntKind.u32 (IntKind.u32.wrap (IntKind.u64.wrap (IntKind.u64.wrap (IntKind.u64.wrap d_1-Int.ofNat x.carry)-Int.ofNat x.b))))]) (W (spl us o (fd 4294967296 (n+1) (takenV us vs o n d)))))∧86=86∧1=1∧(W vs=W vs∨RowLE (W vs) (W vs))∧True) := by kernel_rfl
theorem spl_len {us w : List Nat} {o : Nat} (h : o + w.length ≤ us.length) : (spl us o w).length = us.length := by simp [spl]; omega
theorem spl_get {us w : List Nat} {o i : Nat} (h : o + w.length ≤ us.length) (hi : i < w.length) : (spl us o w)[o + i]? = w[i]? := by
 unfold spl
 rw [List.getElem?_append_right (by simp; omega), List.length_take, Nat.min_eq_left (by omega), show o + i - o = i by omega, List.getElem?_append_left hi]
theorem spl_set {us w : List Nat} {o i v : Nat} (h : o + w.length ≤ us.length) (hi : i < w.length) : (spl us o w).set (o + i) v = spl us o (w.set i v) := by
 unfold spl
 rw [List.set_append_right _ _ (by simp; omega), List.length_take, Nat.min_eq_left (by omega), show o + i - o = i by omega, List.set_append_left _ _ hi, List.length_set]
theorem win_len {us : List Nat} {o n : Nat} (h : o + n ≤ us.length) : (win us o n).length = n := by simp [win]; omega
theorem spl_win {us : List Nat} {o n : Nat} (h : o + n ≤ us.length) : spl us o (win us o n) = us := by
 unfold spl
 rw [win_len h]
 unfold win
 rw [← List.drop_drop, List.take_append_drop, List.take_append_drop]
theorem dig_win {B o n : Nat} {us : List Nat} (h : Dig B us) : Dig B (win us o n) := (h.drop).take
/-- A digit less. -/
theorem sub_digit {u c b : Nat} (hu : u < 4294967296) (hc : c ≤ 4294967296) (hb : b ≤ 1) (h : c + b ≤ 4294967296) : ∃ q e : Nat, q < 4294967296 ∧ e ≤ 1 ∧ q + c + b = u + 4294967296 * e ∧ (e = 1 ↔ u < c + b) ∧
    ((u : Int) - c - b) % 18446744073709551616 / 9223372036854775808 = e ∧ ((u : Int) - c - b) % 18446744073709551616 % 4294967296 = q := by
  by_cases h' : c + b ≤ u
  · exact ⟨u - c - b, 0, by omega, by omega, by omega, by omega, by omega, by omega⟩
  · exact ⟨u + 4294967296 - c - b, 1, by omega, by omega, by omega, by omega, by omega, by omega⟩
theorem TakeI.step {wd0 vs : List Nat} {n d : Nat} {x : TakeX} (h : TakeI wd0 vs n d x) (hi : x.i < n) (h0 : wd0.length = n + 1) {v : Nat} (hv : vs[x.i]? = some v) (hv2 : v < 4294967296) (hd : d < 4294967296) {u : Nat} (hu : wd0[x.i]? = some u) {t q e : Nat} (ht : t = x.carry + d * v) (hq : q < 4294967296) (he : e ≤ 1)
  (hs : q + t % 4294967296 + x.b = u + 4294967296 * e) : TakeI wd0 vs n d ⟨x.wd.set x.i q, t / 4294967296, e, x.i + 1⟩ := by
 obtain ⟨dw, lw, _, hc, hb, rest, inv⟩ := h
 have gz : (x.wd.set x.i q)[x.i]? = some q := by rw [List.getElem?_set]; simp; omega
 have ht2 : t < 4294967296 * 4294967296 := by
  have : d * v ≤ 4294967295 * 4294967295 := Nat.mul_le_mul (by omega) (by omega)
  omega
 refine ⟨dw.set hq, by simpa using lw, hi, Nat.div_lt_of_lt_mul ht2, he, ?_, ?_⟩
 ·simp only
  rw [List.drop_set_of_lt (by omega)]
  have := congrArg (List.drop 1) rest
  rwa [List.drop_drop, List.drop_drop] at this
 ·simp only
  rw [leNat_take_succ gz, take_set_eq, leNat_take_succ hv, leNat_take_succ hu, Nat.pow_succ]
  generalize (4294967296 : Nat) ^ x.i = p at inv ⊢
  have e1 : p * t = p * x.carry + p * (d * v) := by rw [ht, Nat.mul_add]
  have e2 : p * t = p * 4294967296 * (t / 4294967296) + p * (t % 4294967296) := by
   conv => lhs; rw [← Nat.div_add_mod t 4294967296]
   rw [Nat.mul_add, Nat.mul_assoc]
  have e3 : p * q + p * (t % 4294967296) + p * x.b = p * u + p * 4294967296 * e := by
   rw [← Nat.mul_add, ← Nat.mul_add, hs, Nat.mul_add, Nat.mul_assoc]
  have e4 : d * (leNat 4294967296 (vs.take x.i) + p * v) = d * leNat 4294967296 (vs.take x.i) + p * (d * v) := by rw [Nat.mul_add]; grind
  rw [e4, Nat.mul_add, Nat.mul_assoc] 
  rw [Nat.mul_add] at inv
  rw [Nat.mul_assoc] at e2 e3
  rw [Nat.mul_assoc] at *
  omega
theorem g_takeAway (us vs : List Nat) (o n d : Nat) (du : Dig 4294967296 us) (dv : Dig 4294967296 vs) (hd : d < 4294967296) (ho : o + (n + 1) ≤ us.length) (hn : n ≤ vs.length) (hl : us.length ≤ 2199023255552) : Holds (goal_takeAway us vs o n d) := by
 refine ⟨?_⟩
 rw [goal_takeAway_vc]
 have lw := win_len ho
 simp only [Int.ofNat_eq_natCast, true_and, and_true, Nat.zero_add, true_implies, true_or]
 have spI : ∀ w : List Nat, w.length = n + 1 → o + w.length ≤ us.length := fun w hw => by omega
 refine ⟨⟨⟨win us o (n + 1), 0, 0, 0⟩, ⟨dig_win du, lw, by simp, by simp, by simp, rfl, by simp [leNat]⟩, rfl, rfl, rfl, .inl (by simp only; rw [spl_win ho])⟩, fun x hx => bif_mk (fun hp => ?_) (fun hp => ?_)⟩
 ·obtain ⟨wd, carry, b, i⟩ := x
  have hp : i < n := by simpa using hp
  obtain ⟨v, hv⟩ : ∃ v, vs[i]? = some v := ⟨_, List.getElem?_eq_getElem (by omega)⟩
  obtain ⟨u, hu⟩ : ∃ u, (win us o (n + 1))[i]? = some u := ⟨_, List.getElem?_eq_getElem (by omega)⟩
  have dv2 := dv.get hv
  have du2 := (dig_win du).get hu
  have hc := hx.hc
  have hb := hx.hb
  have lwd := hx.lw
  have hcw : wd[i]? = some u := by
   have := congrArg (fun l : List Nat => l[0]?) hx.rest
   simpa [hu] using this
  have hs := fun t q e => hx.step hp lw hv dv2 hd hu (t := t) (q := q) (e := e)
  simp only at hc hb lwd hs ⊢
  have hm : d * v ≤ 4294967295 * 4294967295 := Nat.mul_le_mul (by omega) (by omega)
  have f0 : IntKind.u64.wrap ((carry : Int) + IntKind.u64.wrap ((d : Int) * IntKind.u64.wrap (v : Int))) = ((carry + d * v : Nat) : Int) := by
   rw [wu64 (n := (v : Int)) (by omega)]
   have : ((d : Int) * v) = ((d * v : Nat) : Int) := by simp
   rw [this]
   generalize d * v = p at hm ⊢
   rw [wu64 (n := (p : Int)) (by omega), wu64 (by omega)]; simp
  generalize ht : carry + d * v = t at hs f0
  have ht2 : t < 18446744073709551616 := by omega
  obtain ⟨q, e, hq, he, hqe, _, r1, r2⟩ := sub_digit (u := u) (c := t % 4294967296) (b := b) du2 (by omega) hb (by omega)
  have f1 : IntKind.u64.wrap (IntKind.u64.wrap (IntKind.u64.wrap (u : Int) - IntKind.u64.wrap (IntKind.u32.wrap (t : Int))) - b) = ((u : Int) - (t % 4294967296 : Nat) - b) % 18446744073709551616 := by
   rw [IntKind.wrap_u32]
   simp only [wrap_u64]
   omega
  have gs : (spl us o wd)[o + i]? = some u := by rw [spl_get (spI wd lwd) (by omega)]; exact hcw
  simp only [Int.toNat_natCast]
  refine ⟨by omega, v, W_ldE hv, by omega, u, W_ldE gs, by omega, by omega, by rw [W_len, spl_len (spI wd lwd)]; omega, by omega, _, ⟨hs t q e rfl hq he hqe, by simp only; omega⟩, ?_, ?_, ?_, ?_⟩
  ·rw [f0, shr_eq (by decide) (by omega)]
   simp only [show (32 : Int).toNat = 32 from rfl]
   omega
  ·rw [f0, f1, shr_eq (by decide) (by omega)]
   simp only [show (63 : Int).toNat = 63 from rfl]
   exact r1
  ·rw [w64 (by omega)]; simp
  ·rw [f0, f1, show IntKind.u32.wrap (((u : Int) - (t % 4294967296 : Nat) - b) % 18446744073709551616) = (q : Int) by rw [IntKind.wrap_u32]; exact r2, W_set, spl_set (spI wd lwd) (by omega)]
   exact .inl rfl
 ·obtain ⟨wd, carry, b, i⟩ := x
  have hp : ¬ i < n := by simpa using hp
  have hi := hx.hi
  have hc := hx.hc
  have hb := hx.hb
  have lwd := hx.lw
  have inv := hx.inv
  have dw := hx.dw
  have rest := hx.rest
  simp only at hi hc hb lwd inv dw rest ⊢
  have : i = n := by omega
  subst this
  obtain ⟨u, hu⟩ : ∃ u, (win us o (i + 1))[i]? = some u := ⟨_, List.getElem?_eq_getElem (by omega)⟩
  have du2 := (dig_win du).get hu
  have hcw : wd[i]? = some u := by
   have := congrArg (fun l : List Nat => l[0]?) rest
   simpa [hu] using this
  obtain ⟨q, e, hq, he, hqe, _, r1, r2⟩ := sub_digit (u := u) (c := carry) (b := b) du2 (by omega) hb (by omega)
  have f1 : IntKind.u64.wrap (IntKind.u64.wrap (IntKind.u64.wrap (u : Int) - carry) - b) = ((u : Int) - carry - b) % 18446744073709551616 := by
   simp only [wrap_u64]
   omega
  have gs : (spl us o wd)[o + i]? = some u := by rw [spl_get (spI wd lwd) (by omega)]; exact hcw
  -- the value
  have v0 := leNat_take_succ (B := 4294967296) hu
  rw [leNat_take_all (by omega)] at v0
  have gz : (wd.set i q)[i]? = some q := by rw [List.getElem?_set]; simp; omega
  have v1 := leNat_take_succ (B := 4294967296) gz
  rw [leNat_take_all (by simp; omega), take_set_eq] at v1
  have hlt := leNat_lt (dw.set (i := i) hq)
  rw [List.length_set, lwd] at hlt
  have key : leNat 4294967296 (wd.set i q) + d * leNat 4294967296 (vs.take i) = leNat 4294967296 (win us o (i + 1)) + 4294967296 ^ (i + 1) * e := by
   have h3 : 4294967296 ^ i * q + 4294967296 ^ i * (carry + b) = 4294967296 ^ i * u + 4294967296 ^ (i + 1) * e := by
    rw [← Nat.mul_add, show q + (carry + b) = u + 4294967296 * e by omega, Nat.mul_add, ← Nat.mul_assoc, ← Nat.pow_succ]
   omega
  have hwlt := leNat_lt (dig_win (o := o) (n := i + 1) du)
  rw [lw] at hwlt
  have hvv : leNat 4294967296 (wd.set i q) = takenV us vs o i d := by
   unfold takenV
   generalize d * leNat 4294967296 (vs.take i) = dv at key ⊢
   generalize (4294967296 : Nat) ^ (i + 1) = p at key hlt hwlt ⊢
   rcases Nat.le_one_iff_eq_zero_or_eq_one.1 he with h | h
   ·subst h
    rw [Nat.mul_zero, Nat.add_zero] at key
    rw [show leNat 4294967296 (win us o (i + 1)) + p - dv = leNat 4294967296 (wd.set i q) + p by omega, Nat.add_mod_right, Nat.mod_eq_of_lt hlt]
   ·subst h
    rw [Nat.mul_one] at key
    rw [show leNat 4294967296 (win us o (i + 1)) + p - dv = leNat 4294967296 (wd.set i q) by omega, Nat.mod_eq_of_lt hlt]
  simp only [Int.toNat_natCast]
  refine ⟨by omega, u, W_ldE gs, by omega, by rw [W_len, spl_len (spI wd lwd)]; omega, by omega, (), ?_, ?_⟩
  ·refine decide_eq_decide.2 ?_
   rw [f1, shr_eq (by decide) (by omega)]
   simp only [show (63 : Int).toNat = 63 from rfl]
   rw [show ((u : Int) - carry - b) % 18446744073709551616 / 2 ^ 63 = e from r1]
   generalize d * leNat 4294967296 (vs.take i) = dv at key ⊢
   generalize (4294967296 : Nat) ^ (i + 1) = p at key hlt hwlt
   rcases Nat.le_one_iff_eq_zero_or_eq_one.1 he with h | h
   ·subst h
    have : ¬ leNat 4294967296 (win us o (i + 1)) < dv := by omega
    simp [this]
   ·subst h
    have : leNat 4294967296 (win us o (i + 1)) < dv := by omega
    simp [this]
  ·rw [f1, show IntKind.u32.wrap (((u : Int) - carry - b) % 18446744073709551616) = (q : Int) by rw [IntKind.wrap_u32]; exact r2, W_set, spl_set (spI wd lwd) (by omega), ← hvv]
   have hl2 : (wd.set i q).length = i + 1 := by simpa using lwd
   rw [← hl2, fd_leNat (dw.set hq) (by omega)]
   exact .inl rfl
structure PutX where
 wd : List Nat
 carry : Nat
 i : Nat
structure PutI (wd0 vs : List Nat) (n : Nat) (x : PutX) : Prop where
 dw : Dig 4294967296 x.wd
 lw : x.wd.length = n + 1
 hi : x.i ≤ n
 hc : x.carry ≤ 1
 rest : x.wd.drop x.i = wd0.drop x.i
 inv : leNat 4294967296 (x.wd.take x.i) + 4294967296 ^ x.i * x.carry = leNat 4294967296 (wd0.take x.i) + leNat 4294967296 (vs.take x.i)
def inv_putBack (us vs : List Nat) (o n : Nat) : LI := fun _ => .inv ⟨PutX, fun x => ⟨[(0, wO 1000 o (n + 1)), (1, wA 1001 n), (4, iA .u64 x.carry), (7, wA 1001 n), (8, iA .i64 n), (9, iA .i64 x.i)],
 [(1000, rowW (spl us o x.wd)), (1001, rowW vs)]⟩, PutI (win us o (n + 1)) vs n, fun x => n - x.i, fun _ => 0⟩
def putV (us vs : List Nat) (o n : Nat) : Nat := (leNat 4294967296 (win us o (n + 1)) + leNat 4294967296 (vs.take n)) % 4294967296 ^ (n + 1)
def ot_putBack : OT := fun _ => ([], [])
def goal_putBack (us vs : List Nat) (o n : Nat) : Prop := goalM (X := Unit) T9 ot_putBack (inv_putBack us vs o n) Tryd.f63 [wO 1000 o (n + 1), wA 1001 n] [(1000, rowW us), (1001, rowW vs)] (fun _ => True)
 (fun _ => ⟨[], [(1000, rowW (spl us o (fd 4294967296 (n + 1) (putV us vs o n)))), (1001, rowW vs)]⟩)
theorem goal_putBack_vc (us : List Nat) (vs : List Nat) (o : Nat) (n : Nat) : goal_putBack us vs o n = ((∃(x:PutX),(PutI (win us o (n+1)) vs n x∧OfNat.ofNat 0=0)∧o=o∧n+1=n+1∧0=0∧n=n∧0=Int.ofNat x.carry∧0=0∧n=n∧Int.ofNat n=Int.ofNat n∧0=Int.ofNat x.i∧86=86∧1=1∧(W us=W (spl us o x.wd)∨RowLE (W us) (W (spl us o x.wd)))∧86=86∧1=1∧(W vs=W vs∨RowLE (W vs) (W vs))∧True)∧∀(x:PutX),PutI (win us o (n+1)) vs n x→OfNat.ofNat 0=0→bif decide (Int.ofNat x.i<Int.ofNat n) then (0≤Int.ofNat x.i∧Int.ofNat x.i<Int.ofNat n)∧∃(d:Int),ldE (W vs) (0+(Int.ofNat x.i).toNat) 0 1=some [Ch.v (Value.int IntKind.u32 d)]∧(0≤Int.ofNat x.i∧Int.ofNat x.i<Int.ofNat (n+1))∧∃(d_1:Int),ldE (W (spl us o x.wd)) (o+(Int.ofNat x.i).toNat) 0 1=some [Ch.v (Value.int IntKind.u32 d_1)]∧(0≤Int.ofNat x.i∧Int.ofNat x.i<Int.ofNat (n+1))∧o+(Int.ofNat x.i).toNat<(W (spl us o x.wd)).length∧(0:Int)≤32∧∃(x':PutX),(PutI (win us o (n+1)) vs n x'∧OfNat.ofNat 0=0∧n-x'.i<n-x.i)∧o=o∧n+1=n+1∧0=0∧n=n∧shrI IntKind.u64 (IntKind.u64.wrap (Int.ofNat x.carry+IntKind.u64.wrap (IntKind.u64.wrap d_1+IntKind.u64.wrap d))) 32=Int.ofNat x'.carry∧0=0∧n=n∧Int.ofNat n=Int.ofNat n∧IntKind.i64.wrap (Int.ofNat x.i+1)=Int.ofNat x'.i∧86=86∧1=1∧((W (spl us o x.wd)).set (o+(Int.ofNat x.i).toNat) [Ch.v (Value.int IntKind.u32 (IntKind.u32.wrap (IntKind.u64.wrap (Int.ofNat x.carry+IntKind.u64.wrap (IntKind.u64.wrap d_1+IntKind.u64.wrap d)))))]=W (spl us o x'.wd)∨RowLE ((W (spl us o x.wd)).set (o+(Int.ofNat x.i).toNat) [Ch.v (Value.int IntKind.u32 (IntKind.u32.wrap (IntKind.u64.wrap (Int.ofNat x.carry+IntKind.u64.wrap (IntKind.u64.wrap d_1+IntKind.u64.wrap d)))))]) (W (spl us o x'.wd)))∧86=86∧1=1∧(W vs=W vs∨RowLE (W vs) (W vs))∧True else (0≤Int.ofNat n∧Int.ofNat n<Int.ofNat (n+1))∧∃(d:Int),ldE (W (spl us o x.wd)) (o+(Int.ofNat n).toNat) 0 1=some [Ch.v (Value.int IntKind.u32 d)]∧(0≤Int.ofNat n∧Int.ofNat n<Int.ofNat (n+1))∧o+(Int.ofNat n).toNat<(W (spl us o x.wd)).length∧∃(x_1:Unit),True∧86=86∧1=1∧((W (spl us o x.wd)).set (o+(Int.ofNat n).toNat) [Ch.v (Value.int IntKind.u32 (IntKind.u32.wrap (d+IntKind.u32.wrap (Int.ofNat x.carry))))]=W (spl us o (fd 4294967296 (n+1) (putV us vs o n)))∨RowLE ((W (spl us o x.wd)).set (o+(Int.ofNat n).toNat) [Ch.v (Value.int IntKind.u32 (IntKind.u32.wrap (d+IntKind.u32.wrap (Int.ofNat x.carry))))]) (W (spl us o (fd 4294967296 (n+1) (putV us vs o n)))))∧86=86∧1=1∧(W vs=W vs∨RowLE (W vs) (W vs))∧True) := by kernel_rfl
theorem PutI.step {wd0 vs : List Nat} {n : Nat} {x : PutX} (h : PutI wd0 vs n x) (hi : x.i < n) (h0 : wd0.length = n + 1) {v : Nat} (hv : vs[x.i]? = some v) (hv2 : v < 4294967296) {u : Nat} (hu : wd0[x.i]? = some u) (hu2 : u < 4294967296) {t : Nat} (ht : t = x.carry + (u + v)) :
  PutI wd0 vs n ⟨x.wd.set x.i (t % 4294967296), t / 4294967296, x.i + 1⟩ := by
 obtain ⟨dw, lw, _, hc, rest, inv⟩ := h
 have gz : (x.wd.set x.i (t % 4294967296))[x.i]? = some (t % 4294967296) := by rw [List.getElem?_set]; simp; omega
 refine ⟨dw.set (Nat.mod_lt _ (by omega)), by simpa using lw, hi, by simp only; omega, ?_, ?_⟩
 ·simp only
  rw [List.drop_set_of_lt (by omega)]
  have := congrArg (List.drop 1) rest
  rwa [List.drop_drop, List.drop_drop] at this
 ·simp only
  rw [leNat_take_succ gz, take_set_eq, leNat_take_succ hv, leNat_take_succ hu, Nat.pow_succ]
  generalize (4294967296 : Nat) ^ x.i = p at inv ⊢
  have e1 : p * t = p * x.carry + (p * u + p * v) := by rw [ht, Nat.mul_add, Nat.mul_add]
  have e2 : p * t = p * 4294967296 * (t / 4294967296) + p * (t % 4294967296) := by
   conv => lhs; rw [← Nat.div_add_mod t 4294967296]
   rw [Nat.mul_add, Nat.mul_assoc]
  omega
theorem g_putBack (us vs : List Nat) (o n : Nat) (du : Dig 4294967296 us) (dv : Dig 4294967296 vs) (ho : o + (n + 1) ≤ us.length) (hn : n ≤ vs.length) (hl : us.length ≤ 2199023255552) : Holds (goal_putBack us vs o n) := by
 refine ⟨?_⟩
 rw [goal_putBack_vc]
 have lw := win_len ho
 simp only [Int.ofNat_eq_natCast, true_and, and_true, Nat.zero_add, true_implies, true_or]
 have spI : ∀ w : List Nat, w.length = n + 1 → o + w.length ≤ us.length := fun w hw => by omega
 refine ⟨⟨⟨win us o (n + 1), 0, 0⟩, ⟨dig_win du, lw, by simp, by simp, rfl, by simp [leNat]⟩, rfl, rfl, .inl (by simp only; rw [spl_win ho])⟩, fun x hx => bif_mk (fun hp => ?_) (fun hp => ?_)⟩
 ·obtain ⟨wd, carry, i⟩ := x
  have hp : i < n := by simpa using hp
  obtain ⟨v, hv⟩ : ∃ v, vs[i]? = some v := ⟨_, List.getElem?_eq_getElem (by omega)⟩
  obtain ⟨u, hu⟩ : ∃ u, (win us o (n + 1))[i]? = some u := ⟨_, List.getElem?_eq_getElem (by omega)⟩
  have dv2 := dv.get hv
  have du2 := (dig_win du).get hu
  have hc := hx.hc
  have lwd := hx.lw
  have hcw : wd[i]? = some u := by
   have := congrArg (fun l : List Nat => l[0]?) hx.rest
   simpa [hu] using this
  have hs := fun t => hx.step hp lw hv dv2 hu du2 (t := t)
  simp only at hc lwd hs ⊢
  have gs : (spl us o wd)[o + i]? = some u := by rw [spl_get (spI wd lwd) (by omega)]; exact hcw
  have f0 : IntKind.u64.wrap ((carry : Int) + IntKind.u64.wrap (IntKind.u64.wrap (u : Int) + IntKind.u64.wrap (v : Int))) = ((carry + (u + v) : Nat) : Int) := by
   simp only [wrap_u64]; omega
  generalize ht : carry + (u + v) = t at hs f0
  simp only [Int.toNat_natCast]
  refine ⟨by omega, v, W_ldE hv, by omega, u, W_ldE gs, by omega, by rw [W_len, spl_len (spI wd lwd)]; omega, by omega, _, ⟨hs t rfl, by simp only; omega⟩, ?_, ?_, ?_⟩
  ·rw [f0, shr_eq (by decide) (by omega)]
   simp only [show (32 : Int).toNat = 32 from rfl]
   omega
  ·rw [w64 (by omega)]; simp
  ·rw [f0, show IntKind.u32.wrap (t : Int) = ((t % 4294967296 : Nat) : Int) by rw [IntKind.wrap_u32]; simp, W_set, spl_set (spI wd lwd) (by omega)]
   exact .inl rfl
 ·obtain ⟨wd, carry, i⟩ := x
  have hp : ¬ i < n := by simpa using hp
  have hi := hx.hi
  have hc := hx.hc
  have lwd := hx.lw
  have inv := hx.inv
  have dw := hx.dw
  have rest := hx.rest
  simp only at hi hc lwd inv dw rest ⊢
  have : i = n := by omega
  subst this
  obtain ⟨u, hu⟩ : ∃ u, (win us o (i + 1))[i]? = some u := ⟨_, List.getElem?_eq_getElem (by omega)⟩
  have du2 := (dig_win du).get hu
  have hcw : wd[i]? = some u := by
   have := congrArg (fun l : List Nat => l[0]?) rest
   simpa [hu] using this
  have gs : (spl us o wd)[o + i]? = some u := by rw [spl_get (spI wd lwd) (by omega)]; exact hcw
  have v0 := leNat_take_succ (B := 4294967296) hu
  rw [leNat_take_all (by omega)] at v0
  obtain ⟨q, hq⟩ : ∃ q, (u + carry) % 4294967296 = q := ⟨_, rfl⟩
  have gz : (wd.set i q)[i]? = some q := by rw [List.getElem?_set]; simp; omega
  have v1 := leNat_take_succ (B := 4294967296) gz
  rw [leNat_take_all (by simp; omega), take_set_eq] at v1
  have dq := dw.set (i := i) (v := q) (by omega)
  have hlt := leNat_lt dq
  rw [List.length_set, lwd] at hlt
  have hvv : leNat 4294967296 (wd.set i q) = putV us vs o i := by
   unfold putV
   have h3 : leNat 4294967296 (win us o (i + 1)) + leNat 4294967296 (vs.take i) = leNat 4294967296 (wd.set i q) + 4294967296 ^ (i + 1) * ((u + carry) / 4294967296) := by
    have : 4294967296 ^ i * (u + carry) = 4294967296 ^ (i + 1) * ((u + carry) / 4294967296) + 4294967296 ^ i * q := by
     conv => lhs; rw [← Nat.div_add_mod (u + carry) 4294967296, hq]
     rw [Nat.mul_add, ← Nat.mul_assoc, ← Nat.pow_succ]
    rw [Nat.mul_add] at this
    omega
   rw [h3, Nat.add_mul_mod_self_left, Nat.mod_eq_of_lt hlt]
  simp only [Int.toNat_natCast]
  refine ⟨by omega, u, W_ldE gs, by omega, by rw [W_len, spl_len (spI wd lwd)]; omega, (), ?_⟩
  rw [show IntKind.u32.wrap ((u : Int) + IntKind.u32.wrap (carry : Int)) = (q : Int) by simp only [IntKind.wrap_u32]; omega, W_set, spl_set (spI wd lwd) (by omega), ← hvv]
  have hl2 : (wd.set i q).length = i + 1 := by simpa using lwd
  rw [← hl2, fd_leNat dq (by omega)]
  exact .inl rfl
def c_takeAway : CtrM := fun as0 H _ => match as0 with
 | [.x false [.w k o n1], .x false [.w k2 0 n2], .x false [.v (.int .u64 d)]] => match H k, H k2 with
  | some (.row t 1 xs), some (.row t2 1 ys) => bif t.beq 86 && t2.beq 86 && !(k.beq k2) then
    some fun K => ∃ us vs, xs = W us ∧ ys = W vs ∧ n1 = n2 + 1 ∧ Dig 4294967296 us ∧ Dig 4294967296 vs ∧ (0 ≤ d ∧ d < 4294967296) ∧ o + (n2 + 1) ≤ us.length ∧ n2 ≤ vs.length ∧ us.length ≤ 2199023255552 ∧
     K (.x false [.v (.bool (decide (leNat 4294967296 (win us o (n2 + 1)) < d.toNat * leNat 4294967296 (vs.take n2))))])
      (backH [(1000, k), (1001, k2)] (lookH [(1000, rowW (spl us o (fd 4294967296 (n2 + 1) (takenV us vs o n2 d.toNat)))), (1001, rowW vs)]) H)
    else none
  | _, _ => none
 | _ => none
def c_putBack : CtrM := fun as0 H _ => match as0 with
 | [.x false [.w k o n1], .x false [.w k2 0 n2]] => match H k, H k2 with
  | some (.row t 1 xs), some (.row t2 1 ys) => bif t.beq 86 && t2.beq 86 && !(k.beq k2) then
    some fun K => ∃ us vs, xs = W us ∧ ys = W vs ∧ n1 = n2 + 1 ∧ Dig 4294967296 us ∧ Dig 4294967296 vs ∧ o + (n2 + 1) ≤ us.length ∧ n2 ≤ vs.length ∧ us.length ≤ 2199023255552 ∧
     K (.t []) (backH [(1000, k), (1001, k2)] (lookH [(1000, rowW (spl us o (fd 4294967296 (n2 + 1) (putV us vs o n2)))), (1001, rowW vs)]) H)
    else none
  | _, _ => none
 | _ => none
theorem ok_takeAway {g : Nat} {tab : List Value} : CtrMOK Tryd.prog g tab 62 c_takeAway := by
 refine ⟨enters Tryd.func62 (by kernel_rfl), fun l H d T hT K hK => ?_⟩
 unfold c_takeAway at hT
 split at hT
 ·rename_i k o n1 k2 n2 d
  split at hT
  ·rename_i t xs t2 ys e1 e2
   cases hb : t.beq 86 && t2.beq 86 && !(k.beq k2) with
   | false => rw [hb] at hT; cases hT
   | true =>
    rw [hb] at hT
    cases hT
    simp only [Bool.and_eq_true, Bool.not_eq_true'] at hb
    obtain ⟨⟨ht, ht2⟩, hk⟩ := hb
    have ht := Nat.eq_of_beq_eq_true ht
    have ht2 := Nat.eq_of_beq_eq_true ht2
    have hk : k ≠ k2 := fun e => by subst e; simp at hk
    subst ht ht2
    obtain ⟨us, vs, rfl, rfl, rfl, du, dv, ⟨h0, h1⟩, ho, hn, hl, hK⟩ := hK
    obtain ⟨d, rfl⟩ := Int.eq_ofNat_of_zero_le h0
    refine specM_of (R := [(1000, k), (1001, k2)]) (N := []) (Hl := [(1000, rowW us), (1001, rowW vs)]) T9ok mixed Tryd.func62 (by kernel_rfl) (by kernel_rfl) (by rfl)
     (as0 := [wO 1000 o (n2 + 1), wA 1001 n2, iA .u64 d]) ?_ (hand2 e1 e2 hk rfl rfl rfl rfl) rfl (by simp) (by simp) (fun _ h => by cases h) (fun x => ⟨fun p hp => ?_, fun p hp b hb => ?_⟩) (g_takeAway us vs o n2 d du dv (by omega) ho hn hl) (fun x _ => ?_)
    ·simp [renAs, renAV, renCh, (lkB2 hk).1, (lkB2 hk).2, wA, wO, iA]
    ·simp at hp
     rcases hp with rfl | rfl
     ·exact fun h => by have h' : some (rowW _) = none := h; cases h'
     ·exact fun h => by have h' : some (rowW _) = none := h; cases h'
    ·simp at hp
     rcases hp with rfl | rfl
     ·have h' : some (rowW _) = some b := hb; cases h'; rfl
     ·have h' : some (rowW _) = some b := hb; cases h'; rfl
    ·exact ⟨_, rfl, hK⟩
  ·cases hT
 ·cases hT
theorem ok_putBack {g : Nat} {tab : List Value} : CtrMOK Tryd.prog g tab 63 c_putBack := by
 refine ⟨enters Tryd.func63 (by kernel_rfl), fun l H d T hT K hK => ?_⟩
 unfold c_putBack at hT
 split at hT
 ·rename_i k o n1 k2 n2
  split at hT
  ·rename_i t xs t2 ys e1 e2
   cases hb : t.beq 86 && t2.beq 86 && !(k.beq k2) with
   | false => rw [hb] at hT; cases hT
   | true =>
    rw [hb] at hT
    cases hT
    simp only [Bool.and_eq_true, Bool.not_eq_true'] at hb
    obtain ⟨⟨ht, ht2⟩, hk⟩ := hb
    have ht := Nat.eq_of_beq_eq_true ht
    have ht2 := Nat.eq_of_beq_eq_true ht2
    have hk : k ≠ k2 := fun e => by subst e; simp at hk
    subst ht ht2
    obtain ⟨us, vs, rfl, rfl, rfl, du, dv, ho, hn, hl, hK⟩ := hK
    refine specM_of (R := [(1000, k), (1001, k2)]) (N := []) (Hl := [(1000, rowW us), (1001, rowW vs)]) T9ok mixed Tryd.func63 (by kernel_rfl) (by kernel_rfl) (by rfl)
     (as0 := [wO 1000 o (n2 + 1), wA 1001 n2]) ?_ (hand2 e1 e2 hk rfl rfl rfl rfl) rfl (by simp) (by simp) (fun _ h => by cases h) (fun x => ⟨fun p hp => ?_, fun p hp b hb => ?_⟩) (g_putBack us vs o n2 du dv ho hn hl) (fun x _ => ?_)
    ·simp [renAs, renAV, renCh, (lkB2 hk).1, (lkB2 hk).2, wA, wO]
    ·simp at hp
     rcases hp with rfl | rfl
     ·exact fun h => by have h' : some (rowW _) = none := h; cases h'
     ·exact fun h => by have h' : some (rowW _) = none := h; cases h'
    ·simp at hp
     rcases hp with rfl | rfl
     ·have h' : some (rowW _) = some b := hb; cases h'; rfl
     ·have h' : some (rowW _) = some b := hb; cases h'; rfl
    ·exact ⟨_, rfl, hK⟩
  ·cases hT
 ·cases hT
end Go.Proofs
/- Natural numbers, tenth part: the length of a word in bits. -/
namespace Go.Proofs
open Go Go.Eng
def IsLen (x r : Nat) : Prop := r ≤ 32 ∧ x < 2 ^ r ∧ (x = 0 ∨ (1 ≤ r ∧ 2 ^ (r - 1) ≤ x))
def goal_Len32 (x : Nat) (K : AV → Prop) : Prop := goalL T9 noO noL Tryd.f69 [iA .u32 x] K
def tabLen : List UInt8 := (List.range 256).map fun x => UInt8.ofNat (if x = 0 then 0 else Nat.log2 x + 1)
def lenEnd (y n : Int) (K : AV → Prop) : Prop := ∃ b : UInt8, ((0 : Int) ≤ IntKind.u8.wrap y ∧ tabLen[(IntKind.u8.wrap y).toNat]? = some b) ∧ K (.x false [.v (.int .i64 (IntKind.i64.wrap (n + IntKind.i64.wrap (Int.ofNat b.toNat))))])
theorem goal_Len32_vc (x : Nat) (K : AV → Prop) : goal_Len32 x K = (bif decide (Int.ofNat x ≥ 65536) then (0 : Int) ≤ 16 ∧ (bif decide (shrI .u32 (Int.ofNat x) 16 ≥ 256) then (0 : Int) ≤ 8 ∧ lenEnd (shrI .u32 (shrI .u32 (Int.ofNat x) 16) 8) 24 K else lenEnd (shrI .u32 (Int.ofNat x) 16) 16 K)
 else (bif decide (Int.ofNat x ≥ 256) then (0 : Int) ≤ 8 ∧ lenEnd (shrI .u32 (Int.ofNat x) 8) 8 K else lenEnd (Int.ofNat x) 0 K)) := by kernel_rfl
theorem len_up {x r k : Nat} (h : IsLen (x / 2 ^ k) r) (hx : 2 ^ k ≤ x) (hr : r + k ≤ 32) : IsLen x (r + k) := by
 obtain ⟨_, h1, h2⟩ := h
 have hk : 0 < 2 ^ k := Nat.pow_pos (by omega)
 have h0 : x / 2 ^ k ≠ 0 := by have := Nat.div_pos hx hk; omega
 refine ⟨hr, ?_, .inr ?_⟩
 ·rw [Nat.pow_add]
  exact (Nat.div_lt_iff_lt_mul hk).1 h1
 ·rcases h2 with h2 | ⟨h2, h3⟩
  ·exact absurd h2 h0
  ·refine ⟨by omega, ?_⟩
   rw [show r + k - 1 = (r - 1) + k by omega, Nat.pow_add]
   exact (Nat.le_div_iff_mul_le hk).1 h3
theorem shr32 {x k : Nat} (hk : k ≤ 32) : shrI .u32 (x : Int) (k : Int) = ((x / 2 ^ k : Nat) : Int) := by
 rw [shr_eq (by simpa [IntKind.bits] using hk) (by simp), Int.toNat_natCast]
 simp
theorem tab_ok : (List.range 256).all (fun x => match tabLen[x]? with | some b => decide (b.toNat ≤ 8) && decide (x < 2 ^ b.toNat) && (decide (x = 0) || (decide (1 ≤ b.toNat) && decide (2 ^ (b.toNat - 1) ≤ x))) | none => false) = true := by kernel_rfl
theorem tab_get {x : Nat} (h : x < 256) : ∃ b : UInt8, tabLen[x]? = some b ∧ b.toNat ≤ 8 ∧ IsLen x b.toNat := by
 have := List.all_eq_true.1 tab_ok x (by simpa using h)
 split at this
 ·rename_i b hb
  simp only [Bool.and_eq_true, Bool.or_eq_true, decide_eq_true_eq] at this
  exact ⟨b, hb, this.1.1, by omega, this.1.2, this.2⟩
 ·cases this
theorem lenEnd_of {y n : Nat} {K : AV → Prop} (hy : y < 256) (hn : n ≤ 24) (h : ∀ r, r ≤ 8 → IsLen y r → K (iA .i64 (n + r : Nat))) : lenEnd (y : Int) (n : Int) K := by
 obtain ⟨b, h1, h2, h3⟩ := tab_get hy
 refine ⟨b, ⟨by rw [wu8 (by omega)]; omega, by rw [wu8 (by omega), Int.toNat_natCast]; exact h1⟩, ?_⟩
 have := h _ h2 h3
 simp only [Int.ofNat_eq_natCast]
 rw [w64 (n := (b.toNat : Int)) (by omega), w64 (by omega)]
 have e : (n : Int) + b.toNat = ((n + b.toNat : Nat) : Int) := by simp
 rw [e]; exact this
theorem g_Len32 (x : Nat) (hx : x < 4294967296) : Holds (goal_Len32 x fun av => ∃ r, IsLen x r ∧ av = iA .i64 r) := by
 refine ⟨?_⟩
 rw [goal_Len32_vc]
 simp only [Int.ofNat_eq_natCast]
 have s16 : shrI .u32 (x : Int) 16 = ((x / 65536 : Nat) : Int) := shr32 (k := 16) (by omega)
 have s8 : shrI .u32 (x : Int) 8 = ((x / 256 : Nat) : Int) := shr32 (k := 8) (by omega)
 have s24 : shrI .u32 ((x / 65536 : Nat) : Int) 8 = ((x / 65536 / 256 : Nat) : Int) := shr32 (k := 8) (by omega)
 simp only [s16, s8, s24]
 refine bif_mk (fun h1 => ⟨by omega, bif_mk (fun h2 => ⟨by omega, ?_⟩) (fun h2 => ?_)⟩) (fun h1 => bif_mk (fun h2 => ⟨by omega, ?_⟩) (fun h2 => ?_))
 ·have h1 := of_decide_eq_true h1
  have h2 := of_decide_eq_true h2
  refine lenEnd_of (n := 24) (by omega) (by omega) fun r hr hl => ⟨24 + r, ?_, rfl⟩
  rw [Nat.div_div_eq_div_mul] at hl
  rw [Nat.add_comm]
  exact len_up (k := 24) hl (by omega) (by omega)
 ·have h1 := of_decide_eq_true h1
  have h2 := of_decide_eq_false h2
  refine lenEnd_of (n := 16) (by omega) (by omega) fun r hr hl => ⟨16 + r, ?_, rfl⟩
  rw [Nat.add_comm]
  exact len_up (k := 16) hl (by omega) (by omega)
 ·have h1 := of_decide_eq_false h1
  have h2 := of_decide_eq_true h2
  refine lenEnd_of (n := 8) (by omega) (by omega) fun r hr hl => ⟨8 + r, ?_, rfl⟩
  rw [Nat.add_comm]
  exact len_up (k := 8) hl (by omega) (by omega)
 ·have h1 := of_decide_eq_false h1
  have h2 := of_decide_eq_false h2
  refine lenEnd_of (n := 0) (by omega) (by omega) fun r hr hl => ⟨0 + r, ?_, rfl⟩
  rw [Nat.zero_add]
  exact hl
def c_Len32 : Ctr := fun as0 => match as0 with
 | [.x false [.v (.int .u32 x)]] => some fun K => (0 ≤ x ∧ x < 4294967296) ∧ ∀ r, IsLen x.toNat r → K (iA .i64 r)
 | _ => none
def c_LZ32 : Ctr := fun as0 => match as0 with
 | [.x false [.v (.int .u32 x)]] => some fun K => (0 ≤ x ∧ x < 4294967296) ∧ ∀ r, IsLen x.toNat r → K (iA .i64 (32 - r : Nat))
 | _ => none
theorem ok_Len32 {g : Nat} {tab : List Value} : CtrOK Tryd.prog g tab 69 c_Len32 := by
 refine ⟨enters Tryd.func69 (by kernel_rfl), fun l T hT K hK => ?_⟩
 unfold c_Len32 at hT
 split at hT
 ·cases hT
  obtain ⟨⟨h0, h1⟩, hK⟩ := hK
  rename_i x
  obtain ⟨x, rfl⟩ := Int.eq_ofNat_of_zero_le h0
  refine Eng.Spec.res (spec_ofL T9ok mixed Tryd.func69 (by kernel_rfl) (by kernel_rfl) (by rfl) (g_Len32 x (by omega))) ?_
  rintro w O av v ⟨r, hr, rfl⟩ hc
  exact ⟨_, hK r hr, hc⟩
 ·cases hT
def L10 : List (Nat × Ctr) := (69, c_Len32) :: L9
def M10 : List (Nat × CtrM) := (61, c_left) :: (62, c_takeAway) :: (63, c_putBack) :: M7
noncomputable def T10 : Tabs := mkT L10 M10 X3
theorem L10ok {g : Nat} {tab : List Value} : CtrsOK Tryd.prog g tab L10 := .cons ok_Len32 L9ok
theorem M10ok {g : Nat} {tab : List Value} : CtrMsOK Tryd.prog g tab M10 := .cons ok_left (.cons ok_takeAway (.cons ok_putBack M7ok))
theorem T10ok {g : Nat} {tab : List Value} : TabsOK Tryd.prog g tab T10 := mkTok L10ok M10ok X3ok
def goal_LZ32 (x : Nat) (K : AV → Prop) : Prop := goalL T10 noO noL Tryd.f60 [iA .u32 x] K
theorem goal_LZ32_vc (x : Nat) (K : AV → Prop) : goal_LZ32 x K = ((0≤Int.ofNat x∧Int.ofNat x<4294967296)∧∀(r:Nat),r≤32∧(Int.ofNat x).toNat<2^r∧((Int.ofNat x).toNat=0∨1≤r∧2^(r-1)≤(Int.ofNat x).toNat)→K (AV.x false [Ch.v (Value.int IntKind.i64 (IntKind.i64.wrap (32-Int.ofNat r)))])) := by kernel_rfl
theorem g_LZ32 (x : Nat) (hx : x < 4294967296) : Holds (goal_LZ32 x fun av => ∃ r, IsLen x r ∧ av = iA .i64 (32 - r : Nat)) := by
 refine ⟨?_⟩
 rw [goal_LZ32_vc]
 simp only [Int.ofNat_eq_natCast, Int.toNat_natCast]
 refine ⟨by omega, fun r hr => ⟨r, hr, ?_⟩⟩
 have := hr.1
 rw [w64 (by omega), show (32 : Int) - r = ((32 - r : Nat) : Int) by omega]
 rfl
theorem ok_LZ32 {g : Nat} {tab : List Value} : CtrOK Tryd.prog g tab 60 c_LZ32 := by
 refine ⟨enters Tryd.func60 (by kernel_rfl), fun l T hT K hK => ?_⟩
 unfold c_LZ32 at hT
 split at hT
 ·cases hT
  obtain ⟨⟨h0, h1⟩, hK⟩ := hK
  rename_i x
  obtain ⟨x, rfl⟩ := Int.eq_ofNat_of_zero_le h0
  refine Eng.Spec.res (spec_ofL T10ok mixed Tryd.func60 (by kernel_rfl) (by kernel_rfl) (by rfl) (g_LZ32 x (by omega))) ?_
  rintro w O av v ⟨r, hr, rfl⟩ hc
  exact ⟨_, hK r hr, hc⟩
 ·cases hT
def L11 : List (Nat × Ctr) := (60, c_LZ32) :: L10
noncomputable def T11 : Tabs := mkT L11 M10 X3
theorem L11ok {g : Nat} {tab : List Value} : CtrsOK Tryd.prog g tab L11 := .cons ok_LZ32 L10ok
theorem T11ok {g : Nat} {tab : List Value} : TabsOK Tryd.prog g tab T11 := mkTok L11ok M10ok X3ok
end Go.Proofs
