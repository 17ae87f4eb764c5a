/- A part of a straight motion. -/
import Derived.Test.YtdkakhlabdoilaaDoorR1
import Derived.Test.YtdkakhlabdoilaaDoorS2
/- A part of a straight motion. -/
namespace Go.Proofs
open Go Go.Eng
def midV (f : Rat) (a b : List Rat) : List Rat := List.zipWith (fun p q => p + f * (q - p)) a b
theorem mid_get {f : Rat} {a b : List Rat} {i : Nat} {p q : Rat} (hp : a[i]? = some p) (hq : b[i]? = some q) : (midV f a b)[i]? = some (p + f * (q - p)) := by
 simp [midV, List.getElem?_zipWith, hp, hq]
end Go.Proofs
/- rat.Make, clear.Between, Plain of rows with mixed bounds, ShortHalves. -/
namespace Go.Proofs
open Go Go.Eng
def mxN (ns : List Nat) (w : List (List Rat)) : List (List Ch) := List.zipWith wEl ns w
def c_sPlainM : Ctr := fun as0 => match as0 with
 | [.x true xs, .x false [.s 1 ys]] => some fun K => ∃ (a : ArmV) (N : Nat) (ns : List Nat) (w : List (List Rat)), xs = armCh a ∧ ys = mxN ns w ∧ (GoodArm a ∧ WayOK w a.links.length ∧ N ≤ 100000 ∧ ns.length = w.length ∧ ∀ n ∈ ns, n ≤ N) ∧ K (.t [(false, [.s 1 (wN (N + 65) (plainV w))]), (false, [.v (.int .i64 0)])])
 | _ => none
theorem cc_widen {W : World} {O : Nat → Prop} {ρ : Env} {sz : Nat} {X Y : List (List Ch)} {vs : List Value} (hlen : X.length = Y.length) (hel : ∀ (i : Nat) (x y : List Ch), X[i]? = some x → Y[i]? = some y → ∀ f, CC W O (fun _ => none) x f → CC W O (fun _ => none) y f) (h : CC W O ρ [.s sz X] vs) : CC W O ρ [.s sz Y] vs := by
 cases h with
 | s0 h => rw [List.length_eq_zero_iff.1 hlen.symm]; exact .s0 h
 | s00 h => rw [List.length_eq_zero_iff.1 hlen.symm]; exact .s00 h
 | s hr hx hcap h =>
  have back : ∀ (i : Nat) (y : List Ch), Y[i]? = some y → ∃ x, X[i]? = some x := fun i y hy => ⟨_, List.getElem?_eq_getElem (by have := (List.getElem?_eq_some_iff.1 hy).1; omega)⟩
  rename_i f vs'
  rw [hlen] at hcap ⊢
  refine .s (f := f) ⟨hr.lt, hr.free, fun i y hy => ?_⟩ (fun i y hy => ?_) hcap h
  ·obtain ⟨x, hx'⟩ := back i y hy; exact hr.cell i x hx'
  ·obtain ⟨x, hx'⟩ := back i y hy; exact hel i x y hx' hy _ (hx i x hx')
theorem el_widen {W : World} {O : Nat → Prop} {n N : Nat} {q : List Rat} (h : n ≤ N) : ∀ f, CC W O (fun _ => none) (wEl n q) f → CC W O (fun _ => none) (wEl N q) f := fun f hf => by
 refine cc_widen (by rw [lR_len, lR_len]) (fun i x y hx hy g hg => ?_) hf
 simp only [lR, List.getElem?_map] at hx hy
 cases hq : q[i]? with
 | none => rw [hq] at hx; cases hx
 | some r =>
  rw [hq] at hx hy
  cases hx; cases hy
  cases hg with
  | r hb h' => exact .r (hb.mono h) h'
theorem mx_widen {W : World} {O : Nat → Prop} {ρ : Env} {N : Nat} {ns : List Nat} {w : List (List Rat)} (hl : ns.length = w.length) (hn : ∀ n ∈ ns, n ≤ N) {v : Value} (h : ConcV W O ρ (.x false [.s 1 (mxN ns w)]) v) : ConcV W O ρ (sW N w) v := by
 obtain ⟨vs, h1, h2⟩ := h
 refine ⟨vs, cc_widen (by simp [mxN, wN, hl]) (fun i x y hx hy => ?_) h1, h2⟩
 simp only [mxN, wN, List.getElem?_zipWith, List.getElem?_map] at hx hy
 cases hq : w[i]? with
 | none => rw [hq] at hy; cases hy
 | some q =>
  cases hn' : ns[i]? with
  | none => rw [hn'] at hx; cases hx
  | some n =>
   rw [hq] at hx hy
   rw [hn'] at hx
   cases hx; cases hy
   exact el_widen (hn n (List.mem_of_getElem? hn'))
theorem ok_sPlainM : CtrOK Tryd.prog tabG debT 39 c_sPlainM := by
 refine ⟨enters Tryd.func39 (by kernel_rfl), fun l T hT K hK => ?_⟩
 unfold c_sPlainM at hT
 split at hT
 ·cases hT
  obtain ⟨a, N, ns, w, rfl, rfl, ⟨h1, h2, h3, h4, h5⟩, hK⟩ := hK
  refine Spec.args (spec_ofL T103ok mixed Tryd.func39 (by kernel_rfl) (by kernel_rfl) (by rfl) (g_sPlain a N w ⟨h1, h2, h3⟩ K hK)) fun W O vals h => ?_
  cases h with
  | cons ha h =>
   cases h with
   | cons hb h => exact .cons ha (.cons (mx_widen h4 h5 hb) h)
 ·cases hT
def L119 : List (Nat × Ctr) := (39, c_sPlainM) :: L107
def T119 : Tabs := mkT L119 M99 X4
theorem L119ok : CtrsOK Tryd.prog tabG debT L119 := .cons ok_sPlainM L107ok
theorem T119ok : TabsOK Tryd.prog tabG debT T119 := mkTok L119ok M99ok X4ok
def ot_rMake : OT := fun _ => ([], [])
def goal_rMake (x : Int) (y : Int) (K : AV → Prop) : Prop := goalL T119 ot_rMake noL Tryd.f71 [iA .i64 x, iA .i64 y] K
theorem goal_rMake_vc (x : Int) (y : Int) (K : AV → Prop) : goal_rMake x y K = ((-9223372036854775808≤x∧x<9223372036854775808)∧(-9223372036854775808≤y∧y<9223372036854775808)∧128≤4294967296∧((↑y:Rat)≠OfNat.ofNat 0→K (AV.t [(true,[Ch.r ((↑x:Rat)/(↑y:Rat)) 128]),(false,[Ch.v (Value.int IntKind.i64 0)])]))∧((↑y:Rat)=OfNat.ofNat 0→K (AV.t [(true,[Ch.v (Value.bool false),Ch.v (Value.string (ByteArray.mk (Array.mk []))),Ch.v (Value.string (ByteArray.mk (Array.mk [])))]),(false,[Ch.v (Value.int IntKind.i64 12)])]))) := by kernel_rfl
theorem g_rMake (x : Int) (y : Int) (hc : ((-9223372036854775808 ≤ x ∧ x < 9223372036854775808) ∧ -9223372036854775808 ≤ y ∧ y < 9223372036854775808) ∧ ((y : Rat) ≠ 0)) (K : AV → Prop) (hK : K (.t [(true, [.r ((x : Rat) / (y : Rat)) 128]), (false, [.v (.int .i64 0)])])) : Holds (goal_rMake x y K) := by
 refine ⟨?_⟩
 rw [goal_rMake_vc]
 try simp only [Int.ofNat_eq_natCast, true_and, and_true, Nat.zero_add, Nat.le_refl, true_implies, true_or, or_true]
 exact ⟨hc.1.1, hc.1.2, by omega, fun _ => hK, fun h => absurd h hc.2⟩
def c_rMake : Ctr := fun as0 => match as0 with
 | [.x false [.v (.int .i64 x)], .x false [.v (.int .i64 y)]] => some fun K => (((-9223372036854775808 ≤ x ∧ x < 9223372036854775808) ∧ -9223372036854775808 ≤ y ∧ y < 9223372036854775808) ∧ ((y : Rat) ≠ 0)) ∧ (K (.t [(true, [.r ((x : Rat) / (y : Rat)) 128]), (false, [.v (.int .i64 0)])]))
 | _ => none
theorem ok_rMake : CtrOK Tryd.prog tabG debT 71 c_rMake := by
 refine ⟨enters Tryd.func71 (by kernel_rfl), fun l T hT K hK => ?_⟩
 unfold c_rMake at hT
 split at hT
 ·cases hT
  obtain ⟨hc, hK⟩ := hK
  exact spec_ofL T119ok mixed Tryd.func71 (by kernel_rfl) (by kernel_rfl) (by rfl) (g_rMake _ _ hc K hK)
 ·cases hT
def L120 : List (Nat × Ctr) := (71, c_rMake) :: L119
def T120 : Tabs := mkT L120 M99 X4
theorem L120ok : CtrsOK Tryd.prog tabG debT L120 := .cons ok_rMake L119ok
theorem T120ok : TabsOK Tryd.prog tabG debT T120 := mkTok L120ok M99ok X4ok
def ot_cBetween : OT := fun id => bif id.beq 6 then ([0, 1, 2, 3, 4, 5, 6, 7, 8, 9, 10, 11, 12, 13, 14, 15, 16, 17, 18, 19], [[], [], [], [1, 2], [3, 1, 2], [], [], [], [6, 7], [8, 6, 7], [], [], [10, 11], [12, 10, 11], [9, 8, 6, 7, 13, 12, 10, 11], [5, 14, 9, 8, 6, 7, 13, 12, 10, 11], [4, 3, 1, 2, 15, 5, 14, 9, 8, 6, 7, 13, 12, 10, 11], [16, 4, 3, 1, 2, 15, 5, 14, 9, 8, 6, 7, 13, 12, 10, 11], [0, 17, 16, 4, 3, 1, 2, 15, 5, 14, 9, 8, 6, 7, 13, 12, 10, 11], [18, 0, 17, 16, 4, 3, 1, 2, 15, 5, 14, 9, 8, 6, 7, 13, 12, 10, 11]]) else ([], [])
def goal_cBetween (d : Nat) (a : List Rat) (e : Nat) (b : List Rat) (x : Int) (y : Int) (K : AV → Prop) : Prop := goalL T120 ot_cBetween (fun _ => .inv ⟨Nat, fun k => ⟨[(0, sR d a), (1, sR e b), (9, .x false [.p 9 0]), (11, .x false [.w 500 0 k]), (23, iA .i64 a.length), (24, iA .i64 k)], [(9, .box 25 [.r ((x : Rat) / (y : Rat)) 128]), (500, rowR (2 * d + e + 130) ((midV ((x : Rat) / (y : Rat)) a b).take k))]⟩, fun k => k ≤ a.length, fun k => a.length - k, fun _ => 0⟩) Tryd.f42 [sR d a, sR e b, iA .i64 x, iA .i64 y] K
theorem goal_cBetween_vc (d : Nat) (a : List Rat) (e : Nat) (b : List Rat) (x : Int) (y : Int) (K : AV → Prop) : goal_cBetween d a e b x y K = ((((-9223372036854775808≤x∧x<9223372036854775808)∧ -9223372036854775808≤y∧y<9223372036854775808)∧(↑y:Rat)≠OfNat.ofNat 0)∧(∃(x_1:Nat),(x_1≤a.length∧OfNat.ofNat 0=0)∧3=3∧lR d a=lR d a∧3=3∧lR e b=lR e b∧0=0∧Value.slice none 0 0=Value.slice none 0 0∧0=0∧x_1=0∧(bif false then if Int.ofNat (lR e b).length>Int.ofNat (lR d a).length then Int.ofNat (lR e b).length else Int.ofNat (lR d a).length else if Int.ofNat (lR e b).length<Int.ofNat (lR d a).length then Int.ofNat (lR e b).length else Int.ofNat (lR d a).length)=Int.ofNat a.length∧0=Int.ofNat x_1∧25=25∧(↑x:Rat)/(↑y:Rat)=(↑x:Rat)/(↑y:Rat)∧128≤128∧List.map (fun(q:Rat)=>[Ch.r q (2*d+e+130)]) (List.take x_1 (midV ((↑x:Rat)/(↑y:Rat)) a b))=[]∧True)∧∀(x_1:Nat),x_1≤a.length→OfNat.ofNat 0=0→bif decide (Int.ofNat x_1<Int.ofNat a.length) then (0≤Int.ofNat x_1∧Int.ofNat x_1<Int.ofNat (lR d a).length)∧∃(q:Rat),∃(n:Nat),ldE (lR d a) (Int.ofNat x_1).toNat 0 3=some [Ch.r q n]∧(0≤Int.ofNat x_1∧Int.ofNat x_1<Int.ofNat (lR e b).length)∧∃(q_1:Rat),∃(n_1:Nat),ldE (lR e b) (Int.ofNat x_1).toNat 0 3=some [Ch.r q_1 n_1]∧(0≤Int.ofNat x_1∧Int.ofNat x_1<Int.ofNat (lR d a).length)∧∃(q_2:Rat),∃(n_2:Nat),ldE (lR d a) (Int.ofNat x_1).toNat 0 3=some [Ch.r q_2 n_2]∧n_1+n_2+1≤4294967296∧128+(n_1+n_2+1)≤4294967296∧n+(128+(n_1+n_2+1))+1≤4294967296∧((x_1+1)*40≤140737488355328∧x_1+1≤9223372036854775807)∧∃(x':Nat),(x'≤a.length∧OfNat.ofNat 0=0∧a.length-x'<a.length-x_1)∧3=3∧lR d a=lR d a∧3=3∧lR e b=lR e b∧0=0∧0=0∧x_1+1=x'∧Int.ofNat a.length=Int.ofNat a.length∧IntKind.i64.wrap (Int.ofNat x_1+1)=Int.ofNat x'∧25=25∧(↑x:Rat)/(↑y:Rat)=(↑x:Rat)/(↑y:Rat)∧128≤128∧25=25∧3=3∧(List.take x_1 (List.map (fun(q:Rat)=>[Ch.r q (2*d+e+130)]) (List.take x_1 (midV ((↑x:Rat)/(↑y:Rat)) a b)))++[[Ch.r (q+(↑x:Rat)/(↑y:Rat)*(q_1-q_2)) (n+(128+(n_1+n_2+1))+1)]]=List.map (fun(q:Rat)=>[Ch.r q (2*d+e+130)]) (List.take x' (midV ((↑x:Rat)/(↑y:Rat)) a b))∨RowLE (List.take x_1 (List.map (fun(q:Rat)=>[Ch.r q (2*d+e+130)]) (List.take x_1 (midV ((↑x:Rat)/(↑y:Rat)) a b)))++[[Ch.r (q+(↑x:Rat)/(↑y:Rat)*(q_1-q_2)) (n+(128+(n_1+n_2+1))+1)]]) (List.map (fun(q:Rat)=>[Ch.r q (2*d+e+130)]) (List.take x' (midV ((↑x:Rat)/(↑y:Rat)) a b))))∧True else K (AV.x false [Ch.s 3 (List.take x_1 (List.drop 0 (List.map (fun(q:Rat)=>[Ch.r q (2*d+e+130)]) (List.take x_1 (midV ((↑x:Rat)/(↑y:Rat)) a b)))))])) := by kernel_rfl
theorem g_cBetween (d : Nat) (a : List Rat) (e : Nat) (b : List Rat) (x : Int) (y : Int) (hc : (((-9223372036854775808 ≤ x ∧ x < 9223372036854775808) ∧ -9223372036854775808 ≤ y ∧ y < 9223372036854775808) ∧ (y : Rat) ≠ 0) ∧ (a.length = b.length ∧ a.length ≤ 1000000 ∧ d ≤ 1000000 ∧ e ≤ 1000000)) (K : AV → Prop) (hK : K (sR (2 * d + e + 130) (midV ((x : Rat) / (y : Rat)) a b))) : Holds (goal_cBetween d a e b x y K) := by
 refine ⟨?_⟩
 rw [goal_cBetween_vc]
 try simp only [Int.ofNat_eq_natCast, true_and, and_true, Nat.le_refl, true_implies]
 obtain ⟨⟨⟨hx, hy⟩, h0⟩, hl, hm, hd, he⟩ := hc
 simp only [lR_len]
 refine ⟨⟨⟨hx, hy⟩, h0⟩, ⟨0, by omega, rfl, by simp only [cond_false]; split <;> omega, rfl, by simp⟩, fun k hk => bif_mk (fun hp => ?_) (fun hp => ?_)⟩
 ·have hp : k < a.length := by have := of_decide_eq_true hp; omega
  obtain ⟨p, hpp⟩ : ∃ p, a[k]? = some p := ⟨_, List.getElem?_eq_getElem hp⟩
  obtain ⟨q, hq⟩ : ∃ q, b[k]? = some q := ⟨_, List.getElem?_eq_getElem (by omega)⟩
  have hmid : (midV ((x : Rat) / (y : Rat)) a b)[k]? = some (p + (x : Rat) / (y : Rat) * (q - p)) := by
   simp only [midV, List.getElem?_zipWith, hpp, hq]
  have hml : (midV ((x : Rat) / (y : Rat)) a b).length = a.length := by simp [midV, hl]
  refine ⟨by omega, p, d, lR_ld (by simpa using hpp), by omega, q, e, lR_ld (by simpa using hq), by omega, p, d, lR_ld (by simpa using hpp), by omega, by omega, by omega, by omega, k + 1, ⟨by omega, by omega⟩, rfl, by rw [w64 (by omega)]; simp, .inl ?_⟩
  rw [List.take_of_length_le (by rw [List.length_map, List.length_take]; omega), List.take_add_one, hmid, List.map_append]
  simp only [Option.toList, List.map_cons, List.map_nil]
  rw [show d + (128 + (e + d + 1)) + 1 = 2 * d + e + 130 by omega]
 ·have hp : k = a.length := by have := of_decide_eq_false hp; omega
  subst hp
  have hml : (midV ((x : Rat) / (y : Rat)) a b).length = a.length := by simp [midV, hl]
  rw [List.drop_zero, List.take_of_length_le (by rw [List.length_map, List.length_take]; omega), List.take_of_length_le (by omega)]
  exact hK
def c_cBetween : Ctr := fun as0 => match as0 with
 | [.x false [.s 3 xs], .x false [.s 3 ys], .x false [.v (.int .i64 x)], .x false [.v (.int .i64 y)]] => some fun K => ∃ (d : Nat) (a : List Rat) (e : Nat) (b : List Rat), xs = lR d a ∧ ys = lR e b ∧ ((((-9223372036854775808 ≤ x ∧ x < 9223372036854775808) ∧ -9223372036854775808 ≤ y ∧ y < 9223372036854775808) ∧ (y : Rat) ≠ 0) ∧ (a.length = b.length ∧ a.length ≤ 1000000 ∧ d ≤ 1000000 ∧ e ≤ 1000000)) ∧ (K (sR (2 * d + e + 130) (midV ((x : Rat) / (y : Rat)) a b)))
 | _ => none
theorem ok_cBetween : CtrOK Tryd.prog tabG debT 42 c_cBetween := by
 refine ⟨enters Tryd.func42 (by kernel_rfl), fun l T hT K hK => ?_⟩
 unfold c_cBetween at hT
 split at hT
 ·cases hT
  obtain ⟨d, a, e, b, rfl, rfl, hc, hK⟩ := hK
  exact spec_ofL T120ok mixed Tryd.func42 (by kernel_rfl) (by kernel_rfl) (by rfl) (g_cBetween _ _ _ _ _ _ hc K hK)
 ·cases hT
def L121 : List (Nat × Ctr) := (42, c_cBetween) :: L120
def T121 : Tabs := mkT L121 M99 X4
theorem L121ok : CtrsOK Tryd.prog tabG debT L121 := .cons ok_cBetween L120ok
theorem T121ok : TabsOK Tryd.prog tabG debT T121 := mkTok L121ok M99ok X4ok
def half : Rat := ((1 : Int) : Rat) / ((2 : Int) : Rat)
def hvL (w : List (List Rat)) : Nat → List (List Rat)
 | 0 => [w.getD 0 []]
 | k + 1 => hvL w k ++ [midV half (w.getD k []) (w.getD (k + 1) []), w.getD (k + 1) []]
def nsL : Nat → List Nat
 | 0 => [63]
 | k + 1 => nsL k ++ [319, 63]
structure HvX where
 a : ArmV
 w : List (List Rat)
 i : Nat
structure HvI (x : HvX) : Prop where
 good : GoodArm x.a
 ok : WayOK x.w x.a.links.length
 five : x.w.length ≤ 5
 i : 1 ≤ x.i ∧ x.i ≤ x.w.length
def inv_shh : LI := fun _ => .inv ⟨HvX, fun x => ⟨[(5, .x false [.p 5 0]), (6, sW 63 x.w), (7, .x false [.w 500 0 (2 * x.i - 1)]), (8, iA .i64 x.i)], [(5, .box 34 (armCh x.a)), (500, .row 45 1 (mxN (nsL (x.i - 1)) (hvL x.w (x.i - 1))))]⟩, HvI, fun x => x.w.length - x.i, fun _ => 0⟩
def ot_shh : OT := fun id => bif id.beq 9 then ([0, 1, 2, 3, 4, 5, 6, 7, 8, 9, 11, 12, 13, 14, 10, 15, 16, 17], [[], [], [], [2], [1, 3, 2], [4, 1, 3, 2], [], [], [6, 7], [8, 6, 7], [5, 4, 1, 3, 2, 9, 8, 6, 7], [], [], [11, 12], [13, 11, 12], [10, 5, 4, 1, 3, 2, 9, 8, 6, 7, 14, 13, 11, 12], [0, 15, 10, 5, 4, 1, 3, 2, 9, 8, 6, 7, 14, 13, 11, 12], [16, 0, 15, 10, 5, 4, 1, 3, 2, 9, 8, 6, 7, 14, 13, 11, 12]]) else bif id.beq 12 then ([0, 1, 2, 3, 4, 5, 6, 7, 8, 9, 10, 11, 12, 13, 14, 15, 16, 17, 18, 19, 20, 21, 22, 23, 24, 25, 26, 27, 28, 29, 30, 31, 32, 33, 34, 35, 36, 37, 38, 39, 40, 41, 42, 43, 44, 45, 46, 47, 48, 49], [[], [0], [1, 0], [2, 1, 0], [3, 2, 1, 0], [2, 1, 0, 4, 3], [5, 2, 1, 0, 4, 3], [6, 5, 2, 1, 0, 4, 3], [7, 6, 5, 2, 1, 0, 4, 3], [6, 5, 2, 1, 0, 4, 3], [9, 6, 5, 2, 1, 0, 4, 3], [8, 7, 6, 5, 2, 1, 0, 4, 3, 10, 9], [6, 5, 2, 1, 0, 4, 3, 11, 8, 7, 10, 9], [12, 6, 5, 2, 1, 0, 4, 3, 11, 8, 7, 10, 9], [13, 12, 6, 5, 2, 1, 0, 4, 3, 11, 8, 7, 10, 9], [14, 13, 12, 6, 5, 2, 1, 0, 4, 3, 11, 8, 7, 10, 9], [13, 12, 6, 5, 2, 1, 0, 4, 3, 11, 8, 7, 10, 9], [16, 13, 12, 6, 5, 2, 1, 0, 4, 3, 11, 8, 7, 10, 9], [15, 14, 13, 12, 6, 5, 2, 1, 0, 4, 3, 11, 8, 7, 10, 9, 17, 16], [13, 12, 6, 5, 2, 1, 0, 4, 3, 11, 8, 7, 10, 9, 18, 15, 14, 17, 16], [19, 13, 12, 6, 5, 2, 1, 0, 4, 3, 11, 8, 7, 10, 9, 18, 15, 14, 17, 16], [20, 19, 13, 12, 6, 5, 2, 1, 0, 4, 3, 11, 8, 7, 10, 9, 18, 15, 14, 17, 16], [21, 20, 19, 13, 12, 6, 5, 2, 1, 0, 4, 3, 11, 8, 7, 10, 9, 18, 15, 14, 17, 16], [22, 21, 20, 19, 13, 12, 6, 5, 2, 1, 0, 4, 3, 11, 8, 7, 10, 9, 18, 15, 14, 17, 16], [20, 19, 13, 12, 6, 5, 2, 1, 0, 4, 3, 11, 8, 7, 10, 9, 18, 15, 14, 17, 16, 23, 22, 21], [24, 20, 19, 13, 12, 6, 5, 2, 1, 0, 4, 3, 11, 8, 7, 10, 9, 18, 15, 14, 17, 16, 23, 22, 21], [25, 24, 20, 19, 13, 12, 6, 5, 2, 1, 0, 4, 3, 11, 8, 7, 10, 9, 18, 15, 14, 17, 16, 23, 22, 21], [26, 25, 24, 20, 19, 13, 12, 6, 5, 2, 1, 0, 4, 3, 11, 8, 7, 10, 9, 18, 15, 14, 17, 16, 23, 22, 21], [27, 26, 25, 24, 20, 19, 13, 12, 6, 5, 2, 1, 0, 4, 3, 11, 8, 7, 10, 9, 18, 15, 14, 17, 16, 23, 22, 21], [25, 24, 20, 19, 13, 12, 6, 5, 2, 1, 0, 4, 3, 11, 8, 7, 10, 9, 18, 15, 14, 17, 16, 23, 22, 21], [29, 25, 24, 20, 19, 13, 12, 6, 5, 2, 1, 0, 4, 3, 11, 8, 7, 10, 9, 18, 15, 14, 17, 16, 23, 22, 21], [30, 29, 25, 24, 20, 19, 13, 12, 6, 5, 2, 1, 0, 4, 3, 11, 8, 7, 10, 9, 18, 15, 14, 17, 16, 23, 22, 21], [28, 27, 26, 25, 24, 20, 19, 13, 12, 6, 5, 2, 1, 0, 4, 3, 11, 8, 7, 10, 9, 18, 15, 14, 17, 16, 23, 22, 21, 31, 30, 29], [25, 24, 20, 19, 13, 12, 6, 5, 2, 1, 0, 4, 3, 11, 8, 7, 10, 9, 18, 15, 14, 17, 16, 23, 22, 21, 32, 28, 27, 26, 31, 30, 29], [33, 25, 24, 20, 19, 13, 12, 6, 5, 2, 1, 0, 4, 3, 11, 8, 7, 10, 9, 18, 15, 14, 17, 16, 23, 22, 21, 32, 28, 27, 26, 31, 30, 29], [34, 33, 25, 24, 20, 19, 13, 12, 6, 5, 2, 1, 0, 4, 3, 11, 8, 7, 10, 9, 18, 15, 14, 17, 16, 23, 22, 21, 32, 28, 27, 26, 31, 30, 29], [34, 33, 25, 24, 20, 19, 13, 12, 6, 5, 2, 1, 0, 4, 3, 11, 8, 7, 10, 9, 18, 15, 14, 17, 16, 23, 22, 21, 32, 28, 27, 26, 31, 30, 29], [36, 34, 33, 25, 24, 20, 19, 13, 12, 6, 5, 2, 1, 0, 4, 3, 11, 8, 7, 10, 9, 18, 15, 14, 17, 16, 23, 22, 21, 32, 28, 27, 26, 31, 30, 29], [37, 36, 34, 33, 25, 24, 20, 19, 13, 12, 6, 5, 2, 1, 0, 4, 3, 11, 8, 7, 10, 9, 18, 15, 14, 17, 16, 23, 22, 21, 32, 28, 27, 26, 31, 30, 29], [35, 34, 33, 25, 24, 20, 19, 13, 12, 6, 5, 2, 1, 0, 4, 3, 11, 8, 7, 10, 9, 18, 15, 14, 17, 16, 23, 22, 21, 32, 28, 27, 26, 31, 30, 29, 38, 37, 36], [39, 35, 34, 33, 25, 24, 20, 19, 13, 12, 6, 5, 2, 1, 0, 4, 3, 11, 8, 7, 10, 9, 18, 15, 14, 17, 16, 23, 22, 21, 32, 28, 27, 26, 31, 30, 29, 38, 37, 36], [34, 33, 25, 24, 20, 19, 13, 12, 6, 5, 2, 1, 0, 4, 3, 11, 8, 7, 10, 9, 18, 15, 14, 17, 16, 23, 22, 21, 32, 28, 27, 26, 31, 30, 29], [34, 33, 25, 24, 20, 19, 13, 12, 6, 5, 2, 1, 0, 4, 3, 11, 8, 7, 10, 9, 18, 15, 14, 17, 16, 23, 22, 21, 32, 28, 27, 26, 31, 30, 29], [42, 34, 33, 25, 24, 20, 19, 13, 12, 6, 5, 2, 1, 0, 4, 3, 11, 8, 7, 10, 9, 18, 15, 14, 17, 16, 23, 22, 21, 32, 28, 27, 26, 31, 30, 29], [43, 42, 34, 33, 25, 24, 20, 19, 13, 12, 6, 5, 2, 1, 0, 4, 3, 11, 8, 7, 10, 9, 18, 15, 14, 17, 16, 23, 22, 21, 32, 28, 27, 26, 31, 30, 29], [41, 34, 33, 25, 24, 20, 19, 13, 12, 6, 5, 2, 1, 0, 4, 3, 11, 8, 7, 10, 9, 18, 15, 14, 17, 16, 23, 22, 21, 32, 28, 27, 26, 31, 30, 29, 44, 43, 42], [45, 41, 34, 33, 25, 24, 20, 19, 13, 12, 6, 5, 2, 1, 0, 4, 3, 11, 8, 7, 10, 9, 18, 15, 14, 17, 16, 23, 22, 21, 32, 28, 27, 26, 31, 30, 29, 44, 43, 42], [40, 39, 35, 34, 33, 25, 24, 20, 19, 13, 12, 6, 5, 2, 1, 0, 4, 3, 11, 8, 7, 10, 9, 18, 15, 14, 17, 16, 23, 22, 21, 32, 28, 27, 26, 31, 30, 29, 38, 37, 36, 46, 45, 41, 44, 43, 42], [34, 33, 25, 24, 20, 19, 13, 12, 6, 5, 2, 1, 0, 4, 3, 11, 8, 7, 10, 9, 18, 15, 14, 17, 16, 23, 22, 21, 32, 28, 27, 26, 31, 30, 29, 47, 40, 39, 35, 38, 37, 36, 46, 45, 41, 44, 43, 42], [48, 34, 33, 25, 24, 20, 19, 13, 12, 6, 5, 2, 1, 0, 4, 3, 11, 8, 7, 10, 9, 18, 15, 14, 17, 16, 23, 22, 21, 32, 28, 27, 26, 31, 30, 29, 47, 40, 39, 35, 38, 37, 36, 46, 45, 41, 44, 43, 42]]) else ([], [])
def goal_shh (l m : List Int) (K : AV → Prop) : Prop := goalL T121 ot_shh inv_shh Tryd.f8 [.x false [.s 1 (ints l)], .x false [.s 1 (ints m)]] K
theorem goal_shh_vc (l : List Int) (m : List Int) (K : AV → Prop) : goal_shh l m K = (True∧∃(l_1:List Int),ints l=ints l_1∧l_1.length≤9223372036854775807∧∀(a:ArmV),Made a∧1≤a.links.length→∃(a_2:ArmV),∃(l:List Int),[Ch.v (Value.string a.name),Ch.r a.x 63,Ch.r a.y 63,Ch.v (Value.bool a.half),Ch.r a.t 63,Ch.s 16 (List.map linkCh a.links)]=[Ch.v (Value.string a_2.name),Ch.r a_2.x 63,Ch.r a_2.y 63,Ch.v (Value.bool a_2.half),Ch.r a_2.t 63,Ch.s 16 (List.map linkCh a_2.links)]∧ints m=ints l∧(GoodArm a_2∧l.length≤9223372036854775807)∧∀(w:List (List Rat)),1≤w.length→w.length≤5→(∀(q:List Rat),q ∈ w→q.length=a_2.links.length)→((0:Int)≤0∧0<Int.ofNat (wN 63 w).length)∧∃(ys:List (List Ch)),ldE (wN 63 w) 0 0 1=some [Ch.s 3 ys]∧(∃(x:HvX),(HvI x∧OfNat.ofNat 0=0)∧0=0∧1=1∧wN 63 w=wN 63 x.w∧0=0∧1=2*x.i-1∧1=Int.ofNat x.i∧34=34∧a.name=x.a.name∧a.x=x.a.x∧63≤63∧a.y=x.a.y∧63≤63∧a.half=x.a.half∧a.t=x.a.t∧63≤63∧16=16∧List.map linkCh a.links=List.map linkCh x.a.links∧45=45∧1=1∧([[Ch.s 3 ys]]=mxN (nsL (x.i-1)) (hvL x.w (x.i-1))∨RowLE [[Ch.s 3 ys]] (mxN (nsL (x.i-1)) (hvL x.w (x.i-1))))∧True)∧∀(x:HvX),HvI x→OfNat.ofNat 0=0→bif decide (Int.ofNat x.i<Int.ofNat (wN 63 x.w).length) then (0≤IntKind.i64.wrap (Int.ofNat x.i-1)∧IntKind.i64.wrap (Int.ofNat x.i-1)<Int.ofNat (wN 63 x.w).length)∧∃(ys:List (List Ch)),ldE (wN 63 x.w) (IntKind.i64.wrap (Int.ofNat x.i-1)).toNat 0 1=some [Ch.s 3 ys]∧(0≤Int.ofNat x.i∧Int.ofNat x.i<Int.ofNat (wN 63 x.w).length)∧∃(ys_1:List (List Ch)),ldE (wN 63 x.w) (Int.ofNat x.i).toNat 0 1=some [Ch.s 3 ys_1]∧(0≤Int.ofNat x.i∧Int.ofNat x.i<Int.ofNat (wN 63 x.w).length)∧∃(ys_2:List (List Ch)),ldE (wN 63 x.w) (Int.ofNat x.i).toNat 0 1=some [Ch.s 3 ys_2]∧∃(d:Nat),∃(a:List Rat),∃(e:Nat),∃(b:List Rat),ys=lR d a∧ys_1=lR e b∧(((((-9223372036854775808:Int)≤1∧(1:Int)<9223372036854775808)∧(-9223372036854775808:Int)≤2∧(2:Int)<9223372036854775808)∧(↑(2:Int):Rat)≠OfNat.ofNat 0)∧a.length=b.length∧a.length≤1000000∧d≤1000000∧e≤1000000)∧((2*x.i-1+2)*24≤140737488355328∧2*x.i-1+2≤9223372036854775807)∧∃(x':HvX),(HvI x'∧OfNat.ofNat 0=0∧x'.w.length-x'.i<x.w.length-x.i)∧0=0∧1=1∧wN 63 x.w=wN 63 x'.w∧0=0∧2*x.i-1+2=2*x'.i-1∧IntKind.i64.wrap (Int.ofNat x.i+1)=Int.ofNat x'.i∧34=34∧x.a.name=x'.a.name∧x.a.x=x'.a.x∧63≤63∧x.a.y=x'.a.y∧63≤63∧x.a.half=x'.a.half∧x.a.t=x'.a.t∧63≤63∧16=16∧List.map linkCh x.a.links=List.map linkCh x'.a.links∧45=45∧1=1∧(List.take (2*x.i-1) (mxN (nsL (x.i-1)) (hvL x.w (x.i-1)))++[[Ch.s 3 (lR (2*d+e+130) (midV ((↑(1:Int):Rat)/(↑(2:Int):Rat)) a b))],[Ch.s 3 ys_2]]=mxN (nsL (x'.i-1)) (hvL x'.w (x'.i-1))∨RowLE (List.take (2*x.i-1) (mxN (nsL (x.i-1)) (hvL x.w (x.i-1)))++[[Ch.s 3 (lR (2*d+e+130) (midV ((↑(1:Int):Rat)/(↑(2:Int):Rat)) a b))],[Ch.s 3 ys_2]]) (mxN (nsL (x'.i-1)) (hvL x'.w (x'.i-1))))∧True else ∃(a:ArmV),∃(N:Nat),∃(ns:List Nat),∃(w:List (List Rat)),[Ch.v (Value.string x.a.name),Ch.r x.a.x 63,Ch.r x.a.y 63,Ch.v (Value.bool x.a.half),Ch.r x.a.t 63,Ch.s 16 (List.map linkCh x.a.links)]=[Ch.v (Value.string a.name),Ch.r a.x 63,Ch.r a.y 63,Ch.v (Value.bool a.half),Ch.r a.t 63,Ch.s 16 (List.map linkCh a.links)]∧wN 63 x.w=mxN ns w∧(GoodArm a∧WayOK w a.links.length∧N≤100000∧ns.length=w.length∧∀(n:Nat),n ∈ ns→n≤N)∧∃(a:ArmV),∃(N_1:Nat),∃(ns:List Nat),∃(w_1:List (List Rat)),[Ch.v (Value.string x.a.name),Ch.r x.a.x 63,Ch.r x.a.y 63,Ch.v (Value.bool x.a.half),Ch.r x.a.t 63,Ch.s 16 (List.map linkCh x.a.links)]=[Ch.v (Value.string a.name),Ch.r a.x 63,Ch.r a.y 63,Ch.v (Value.bool a.half),Ch.r a.t 63,Ch.s 16 (List.map linkCh a.links)]∧List.take (2*x.i-1) (List.drop 0 (mxN (nsL (x.i-1)) (hvL x.w (x.i-1))))=mxN ns w_1∧(GoodArm a∧WayOK w_1 a.links.length∧N_1≤100000∧ns.length=w_1.length∧∀(n:Nat),n ∈ ns→n≤N_1)∧bif decide (Int.ofNat (wN (N_1+65) (plainV w_1)).length≤Int.ofNat (wN 63 x.w).length) then bif decide (Int.ofNat (wN (N+65) (plainV w)).length≤Int.ofNat (wN 63 x.w).length) then bif decide (Int.ofNat (wN (N_1+65) (plainV w_1)).length>0) then ((0:Int)≤0∧0<Int.ofNat (wN (N_1+65) (plainV w_1)).length)∧∃(ys:List (List Ch)),ldE (wN (N_1+65) (plainV w_1)) 0 0 1=some [Ch.s 3 ys]∧((0:Int)≤0∧0<Int.ofNat (wN 63 x.w).length)∧∃(ys_1:List (List Ch)),ldE (wN 63 x.w) 0 0 1=some [Ch.s 3 ys_1]∧∃(a:Nat),∃(ps:List Rat),∃(b:Nat),∃(qs:List Rat),ys=lR a ps∧ys_1=lR b qs∧(ps.length≤1000000000∧qs.length≤1000000000)∧bif decide (ps=qs) then (0≤IntKind.i64.wrap (Int.ofNat (wN (N_1+65) (plainV w_1)).length-1)∧IntKind.i64.wrap (Int.ofNat (wN (N_1+65) (plainV w_1)).length-1)<Int.ofNat (wN (N_1+65) (plainV w_1)).length)∧∃(ys:List (List Ch)),ldE (wN (N_1+65) (plainV w_1)) (IntKind.i64.wrap (Int.ofNat (wN (N_1+65) (plainV w_1)).length-1)).toNat 0 1=some [Ch.s 3 ys]∧(0≤IntKind.i64.wrap (Int.ofNat (wN 63 x.w).length-1)∧IntKind.i64.wrap (Int.ofNat (wN 63 x.w).length-1)<Int.ofNat (wN 63 x.w).length)∧∃(ys_2:List (List Ch)),ldE (wN 63 x.w) (IntKind.i64.wrap (Int.ofNat (wN 63 x.w).length-1)).toNat 0 1=some [Ch.s 3 ys_2]∧∃(a:Nat),∃(ps:List Rat),∃(b:Nat),∃(qs:List Rat),ys=lR a ps∧ys_2=lR b qs∧(ps.length≤1000000000∧qs.length≤1000000000)∧K (AV.x false [Ch.v (Value.bool (decide (ps=qs)))]) else K (AV.x false [Ch.v (Value.bool false)]) else K (AV.x false [Ch.v (Value.bool false)]) else K (AV.x false [Ch.v (Value.bool false)]) else K (AV.x false [Ch.v (Value.bool false)])) := by kernel_rfl
def hv : List Rat → List (List Rat) → List (List Rat)
 | x, y :: r => midV half x y :: y :: hv y r
 | _, [] => []
theorem half2 : half + half = 1 := by decide +kernel
theorem mid_lenM {f : Rat} {a b : List Rat} {m : Nat} (ha : a.length = m) (hb : b.length = m) : (midV f a b).length = m := by simp [midV, ha, hb]
theorem mid_seg1 {x y : List Rat} : Seg x (midV half x y) y := by
 have h2 := half2
 refine ⟨half, by decide +kernel, by decide +kernel, fun j p q r hp hq hr => ?_⟩
 rw [mid_get hp hr] at hq
 cases hq; rfl
theorem mid_seg2 {m : Nat} {l x y : List Rat} (hx : x.length = m) (hl : l.length = m) (h : Seg l x (midV half x y)) : Seg l (midV half x y) y := by
 obtain ⟨t, t0, t1, ht⟩ := h
 have h2 := half2
 have hd : 2 - t ≠ 0 := by grind
 have e : 1 / (2 - t) * (2 - t) = 1 := Rat.div_mul_cancel hd
 refine ⟨1 / (2 - t), ?_, ?_, fun j p q r hp hq hr => ?_⟩
 ·generalize 1 / (2 - t) = s at e
  exact le_mul_cancel (by grind : 0 < 2 - t) (by grind)
 ·generalize 1 / (2 - t) = s at e
  have : 0 ≤ 1 - s := le_mul_cancel (by grind : 0 < 2 - t) (by grind)
  grind
 ·generalize 1 / (2 - t) = s at e
  obtain ⟨u, hu⟩ := get_of hx (lt_of hl hp)
  have e1 := ht j p u q hp hu hq
  rw [mid_get hu hr] at hq
  have e2 := Option.some.inj hq
  have e3 : r - u = 2 * (q - u) := by grind
  have e4 : r - p = (2 - t) * (q - p) := by grind
  rw [e4]
  grind
theorem hv_plain {m : Nat} : ∀ (r : List (List Rat)) (l x : List Rat), l.length = m → x.length = m → (∀ q ∈ r, q.length = m) → (l = x ∨ ∃ y r', r = y :: r' ∧ Seg l x (midV half x y)) → (plainR l (hv x r)).length ≤ r.length := by
 intro r
 induction r with
 | nil => intro l x _ _ _ _; simp [hv, plainR]
 | cons y r ih =>
  intro l x hl hx hr hC
  have hy := hr y (by simp)
  have hr' : ∀ q ∈ r, q.length = m := fun q hq => hr q (List.mem_cons_of_mem _ hq)
  have hseg : Seg l (midV half x y) y := by
   rcases hC with rfl | ⟨y', r', e, h⟩
   ·exact mid_seg1
   ·cases e; exact mid_seg2 hx hl h
  rw [hv, plainR, if_pos (of_seg hseg)]
  cases r with
  | nil => simp [hv, plainR]
  | cons y2 r =>
   have hy2 := hr' y2 (by simp)
   rw [hv, plainR]
   split
   ·rename_i hb
    have := ih l y hl hy hr' (.inr ⟨y2, r, rfl, seg_of hl hy (mid_lenM hy hy2) hb⟩)
    rw [hv] at this
    simp only [List.length_cons] at this ⊢; omega
   ·have := ih y y hy hy hr' (.inl rfl)
    rw [hv] at this
    simp only [List.length_cons] at this ⊢; omega
theorem plainR_last : ∀ (rest : List (List Rat)) (l : List Rat), rest ≠ [] → (plainR l rest).getLast? = rest.getLast? := by
 intro rest
 induction rest with
 | nil => intro l h; exact absurd rfl h
 | cons x r ih =>
  intro l _
  cases r with
  | nil => rw [plainR]
  | cons y r =>
   rw [plainR]
   split
   ·rw [ih l (by simp), List.getLast?_cons (a := x), List.getLast?_cons (a := y)]; rfl
   ·rw [List.getLast?_cons (a := x), ih x (by simp), List.getLast?_cons (a := x)]
theorem plainV_last (w : List (List Rat)) : (plainV w).getLast? = w.getLast? := by
 cases w with
 | nil => rfl
 | cons x r =>
  cases r with
  | nil => simp [plainV, plainR]
  | cons y r =>
   rw [plainV, List.getLast?_cons (a := x), plainR_last _ _ (by simp), List.getLast?_cons (a := x)]
theorem hvL_len (w : List (List Rat)) : ∀ k, (hvL w k).length = 2 * k + 1 := by
 intro k
 induction k with
 | zero => rfl
 | succ k ih => rw [hvL, List.length_append, ih]; simp; omega
theorem nsL_len : ∀ k, (nsL k).length = 2 * k + 1 ∧ ∀ n ∈ nsL k, n ≤ 319 := by
 intro k
 induction k with
 | zero => exact ⟨rfl, fun n hn => by simp [nsL] at hn; omega⟩
 | succ k ih =>
  refine ⟨by rw [nsL, List.length_append, ih.1]; simp; omega, fun n hn => ?_⟩
  rw [nsL] at hn
  rcases List.mem_append.1 hn with h | h
  ·exact ih.2 n h
  ·simp at h; omega
theorem hvL_all {m : Nat} {w : List (List Rat)} (hw : ∀ q ∈ w, q.length = m) : ∀ k, k < w.length → ∀ q ∈ hvL w k, q.length = m := by
 have hg : ∀ i, i < w.length → (w.getD i []).length = m := fun i hi => by
  rw [List.getD_eq_getElem?_getD, List.getElem?_eq_getElem hi]
  exact hw _ (List.getElem_mem hi)
 intro k
 induction k with
 | zero => intro h q hq; rw [hvL] at hq; rw [List.mem_singleton.1 hq]; exact hg 0 h
 | succ k ih =>
  intro h q hq
  rw [hvL] at hq
  rcases List.mem_append.1 hq with h' | h'
  ·exact ih (by omega) q h'
  ·simp only [List.mem_cons, List.not_mem_nil, or_false] at h'
   rcases h' with rfl | rfl
   ·exact mid_lenM (hg k (by omega)) (hg (k + 1) h)
   ·exact hg (k + 1) h
theorem hvL_hv (w : List (List Rat)) : ∀ k, k < w.length → hvL w k ++ hv (w.getD k []) (w.drop (k + 1)) = w.getD 0 [] :: hv (w.getD 0 []) (w.drop 1) := by
 intro k
 induction k with
 | zero => intro _; rfl
 | succ k ih =>
  intro h
  rw [← ih (by omega)]
  obtain ⟨q, hq⟩ : ∃ q, w[k + 1]? = some q := ⟨_, List.getElem?_eq_getElem h⟩
  rw [drop_of hq, hvL, wgetD hq, hv, List.append_assoc]
  rfl
theorem hvL_last (w : List (List Rat)) : ∀ k, (hvL w k).getLast? = some (w.getD k []) := by
 intro k
 cases k with
 | zero => rfl
 | succ k => rw [hvL, List.getLast?_append]; rfl
theorem wN_mx (n : Nat) (w : List (List Rat)) : wN n w = mxN (List.replicate w.length n) w := by
 induction w with
 | nil => rfl
 | cons x r ih => simp only [wN, mxN, List.map_cons, List.length_cons, List.replicate_succ, List.zipWith_cons_cons] at ih ⊢; rw [ih]
theorem mx_snoc (w : List (List Rat)) (k : Nat) : mxN (nsL (k + 1)) (hvL w (k + 1)) = mxN (nsL k) (hvL w k) ++ [wEl 319 (midV half (w.getD k []) (w.getD (k + 1) [])), wEl 63 (w.getD (k + 1) [])] := by
 simp only [mxN, nsL, hvL]
 rw [List.zipWith_append (by rw [hvL_len, (nsL_len k).1])]
 rfl
theorem g_shh (l m : List Int) (hl : l.length ≤ 9223372036854775807) (hm : m.length ≤ 9223372036854775807) (K : AV → Prop) (hK : K (.x false [.v (.bool true)])) : Holds (goal_shh l m K) := by
 refine ⟨?_⟩
 rw [goal_shh_vc]
 simp only [Int.ofNat_eq_natCast, true_and, and_true, Nat.le_refl, true_implies]
 refine ⟨l, rfl, hl, fun a ha => ⟨a, m, rfl, rfl, ⟨MadeA.good ha, hm⟩, fun w hw1 hw2 hwl => ?_⟩⟩
 have hg := MadeA.good ha
 have hn := hg.n
 have ok : WayOK w a.links.length := ⟨by omega, hwl, hn⟩
 have hlw : ∀ n (w : List (List Rat)), (wN n w).length = w.length := fun n w => by simp [wN]
 simp only [hlw]
 obtain ⟨q0, h0⟩ : ∃ q, w[0]? = some q := ⟨_, List.getElem?_eq_getElem (by omega)⟩
 refine ⟨by omega, _, way_ld h0, ⟨⟨a, w, 1⟩, ⟨hg, ok, hw2, by simp only; omega⟩, rfl, rfl, rfl, rfl, rfl, rfl, rfl, rfl, rfl, .inl ?_⟩, fun x ⟨xg, xok, x5, xi1, xi2⟩ => bif_mk (fun hp => ?_) (fun hp => ?_)⟩
 ·show [[Ch.s 3 (lR 63 q0)]] = mxN [63] [w.getD 0 []]
  rw [wgetD h0]; rfl
 ·have hp : x.i < x.w.length := by have := of_decide_eq_true hp; omega
  obtain ⟨q, hq⟩ : ∃ q, x.w[x.i]? = some q := ⟨_, List.getElem?_eq_getElem hp⟩
  obtain ⟨p, hpp⟩ : ∃ p, x.w[x.i - 1]? = some p := ⟨_, List.getElem?_eq_getElem (by omega)⟩
  have lq := xok.len q (List.mem_of_getElem? hq)
  have lp := xok.len p (List.mem_of_getElem? hpp)
  have hxn := xg.n
  rw [w64 (n := (x.i : Int) - 1) (by omega), show ((x.i : Int) - 1).toNat = x.i - 1 by omega]
  refine ⟨by omega, _, way_ld hpp, by omega, _, way_ld (by simpa using hq), by omega, _, way_ld (by simpa using hq), 63, p, 63, q, rfl, rfl, ⟨⟨by omega, by decide +kernel⟩, by omega⟩, by omega, ⟨x.a, x.w, x.i + 1⟩, ⟨⟨xg, xok, x5, by simp only; omega⟩, by simp only; omega⟩, rfl, by simp only; omega, by rw [w64 (by omega)]; simp, rfl, rfl, rfl, rfl, rfl, rfl, .inl ?_⟩
  simp only
  obtain ⟨k, hk⟩ : ∃ k, x.i = k + 1 := ⟨x.i - 1, by omega⟩
  rw [hk] at hq hpp ⊢
  rw [show k + 1 - 1 = k by omega] at hpp ⊢
  rw [show k + 1 + 1 - 1 = k + 1 by omega, mx_snoc, wgetD hq, wgetD hpp]
  rw [List.take_of_length_le (by simp [mxN, hvL_len, (nsL_len k).1]; omega)]
  rfl
 ·have hp : x.i = x.w.length := by have := of_decide_eq_false hp; omega
  have hxn := xg.n
  obtain ⟨q0, h0⟩ : ∃ q, x.w[0]? = some q := ⟨_, List.getElem?_eq_getElem (by omega)⟩
  obtain ⟨qe, he⟩ : ∃ q, x.w[x.w.length - 1]? = some q := ⟨_, List.getElem?_eq_getElem (by omega)⟩
  have l0 := xok.len q0 (List.mem_of_getElem? h0)
  have le := xok.len qe (List.mem_of_getElem? he)
  have hok2 : WayOK (hvL x.w (x.i - 1)) x.a.links.length := ⟨by rw [hvL_len]; omega, hvL_all xok.len _ (by omega), xok.m⟩
  have hH := hvL_hv x.w (x.i - 1) (by omega)
  rw [List.drop_eq_nil_of_le (by omega : x.w.length ≤ x.i - 1 + 1), show ∀ z, hv z [] = [] from fun z => by rw [hv], List.append_nil, wgetD h0] at hH
  have hlen : (plainV (hvL x.w (x.i - 1))).length ≤ x.w.length := by
   rw [hH, plainV]
   have := hv_plain (m := x.a.links.length) (x.w.drop 1) q0 q0 l0 l0 (fun q hq => xok.len q (List.mem_of_mem_drop hq)) (.inl rfl)
   rw [List.length_drop] at this
   rw [List.length_cons]; omega
  have hP0 : (plainV (hvL x.w (x.i - 1)))[0]? = some q0 := by rw [hH]; rfl
  have hPl : (plainV (hvL x.w (x.i - 1))).getLast? = some qe := by
   rw [plainV_last, hvL_last, hp, wgetD he]
  have hpos : 1 ≤ (plainV (hvL x.w (x.i - 1))).length := (plainV_ok hok2).1.n.1
  rw [List.getLast?_eq_getElem?] at hPl
  refine ⟨x.a, 63, List.replicate x.w.length 63, x.w, rfl, wN_mx 63 x.w, ⟨xg, xok, by omega, by simp, fun n hn => by have := List.eq_of_mem_replicate hn; omega⟩, x.a, 319, nsL (x.i - 1), hvL x.w (x.i - 1), rfl, ?_, ⟨xg, hok2, by omega, by rw [hvL_len, (nsL_len _).1], (nsL_len _).2⟩, ?_⟩
  ·rw [List.drop_zero, List.take_of_length_le (by simp [mxN, hvL_len, (nsL_len (x.i - 1)).1]; omega)]
  refine bif_mk (fun _ => bif_mk (fun _ => bif_mk (fun _ => ⟨by omega, _, way_ld hP0, by omega, _, way_ld h0, _, q0, _, q0, rfl, rfl, by omega, bif_mk (fun _ => ?_) (fun h => by simp at h)⟩) (fun h => ?_)) (fun h => ?_)) (fun h => ?_)
  ·rw [w64 (n := ((plainV (hvL x.w (x.i - 1))).length : Int) - 1) (by omega), w64 (n := (x.w.length : Int) - 1) (by omega)]
   rw [show (((plainV (hvL x.w (x.i - 1))).length : Int) - 1).toNat = (plainV (hvL x.w (x.i - 1))).length - 1 by omega, show ((x.w.length : Int) - 1).toNat = x.w.length - 1 by omega]
   refine ⟨by omega, _, way_ld hPl, by omega, _, way_ld he, _, qe, _, qe, rfl, rfl, by omega, ?_⟩
   rw [decide_eq_true rfl]; exact hK
  ·exact absurd (by omega) (of_decide_eq_false h)
  ·exact absurd (by have := (plainV_ok xok).2; omega) (of_decide_eq_false h)
  ·exact absurd (by omega) (of_decide_eq_false h)
theorem spec_shh (l m : List Int) (hl : l.length ≤ 9223372036854775807) (hm : m.length ≤ 9223372036854775807) : Eng.Spec Tryd.prog tabG debT 8 [.x false [.s 1 (ints l)], .x false [.s 1 (ints m)]] (fun av => av = .x false [.v (.bool true)]) :=
 spec_ofL T121ok mixed Tryd.func8 (by kernel_rfl) (by kernel_rfl) (by rfl) (g_shh l m hl hm _ rfl)
end Go.Proofs
