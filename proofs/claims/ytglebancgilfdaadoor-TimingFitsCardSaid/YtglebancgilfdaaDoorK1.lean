/- track: copied, At, Speed. -/
import Derived.Test.YtglebancgilfdaaDoorA1
import Derived.Test.YtglebancgilfdaaDoorTk
/- track: copied, At, Speed. -/
namespace Go.Proofs
open Go Go.Eng
def keyCh (k : KeyV) : List Ch := [.v (.int .i64 k.tick), .s 3 (lR k.n k.q)]
def trkA (ks : List KeyV) : AV := .x false [.s 2 (ks.map keyCh)]
def zKey : KeyV := ⟨0, 0, []⟩
theorem key_ld {l : List KeyV} {i : Nat} {k : KeyV} (h : l[i]? = some k) : ldE (l.map keyCh) i 0 2 = some [.v (.int .i64 k.tick), .s 3 (lR k.n k.q)] := by
 simp only [ldE, List.getElem?_map, h]; rfl
theorem key_ld0 {l : List KeyV} {i : Nat} {k : KeyV} (h : l[i]? = some k) : ldE (l.map keyCh) i 0 1 = some [.v (.int .i64 k.tick)] := by
 simp only [ldE, List.getElem?_map, h]; rfl
theorem key_ld1 {l : List KeyV} {i : Nat} {k : KeyV} (h : l[i]? = some k) : ldE (l.map keyCh) i 1 1 = some [.s 3 (lR k.n k.q)] := by
 simp only [ldE, List.getElem?_map, h]; rfl
theorem at_first {ks : List KeyV} {a : KeyV} {t : Int} (ha : ks[0]? = some a) (h : t ≤ a.tick) : atR ks t = (a.q, a.n + 65) := by
 match ks, ha with
 | b :: ks, ha => cases ha; rw [atR, if_pos h]
theorem at_later {ks : List KeyV} {a : KeyV} {t : Int} (ha : ks[0]? = some a) (h : ¬ t ≤ a.tick) : atR ks t = atGo (ks.getD (1 - 1) zKey) (ks.drop 1) t := by
 match ks, ha with
 | b :: ks, ha => cases ha; rw [atR, if_neg h]; rfl
def ot_tCopied : OT := fun id => bif id.beq 5 then ([0, 1, 2, 3, 4, 5, 6], [[], [], [], [1, 2], [3, 1, 2], [0, 4, 3, 1, 2], [5, 0, 4, 3, 1, 2]]) else ([], [])
def goal_tCopied (n : Nat) (qs : List Rat) (K : AV → Prop) : Prop := goalL T49 ot_tCopied (fun _ => .inv ⟨Nat, fun k => ⟨[(3, .x false [.w 500 0 k]), (6, sR n qs), (7, iA .i64 qs.length), (8, iA .i64 k)], [(500, rowR (n + 65) (qs.take k))]⟩, fun k => k ≤ qs.length, fun k => qs.length - k, fun _ => 0⟩) Tryd.f39 [sR n qs] K
theorem goal_tCopied_vc (n : Nat) (qs : List Rat) (K : AV → Prop) : goal_tCopied n qs K = ((∃(x:Nat),(x≤qs.length∧OfNat.ofNat 0=0)∧Value.slice none 0 0=Value.slice none 0 0∧0=0∧x=0∧3=3∧lR n qs=lR n qs∧Int.ofNat (lR n qs).length=Int.ofNat qs.length∧0=Int.ofNat x∧List.map (fun(q:Rat)=>[Ch.r q (n+65)]) (List.take x qs)=[]∧True)∧∀(x:Nat),x≤qs.length→OfNat.ofNat 0=0→bif decide (Int.ofNat x<Int.ofNat qs.length) then (0≤Int.ofNat x∧Int.ofNat x<Int.ofNat (lR n qs).length)∧∃(q:Rat),∃(n_1:Nat),ldE (lR n qs) (Int.ofNat x).toNat 0 3=some [Ch.r q n_1]∧((-9223372036854775808:Int)≤0∧(0:Int)<9223372036854775808)∧n_1+64+1≤4294967296∧((x+1)*40≤140737488355328∧x+1≤9223372036854775807)∧∃(x':Nat),(x'≤qs.length∧OfNat.ofNat 0=0∧qs.length-x'<qs.length-x)∧0=0∧x+1=x'∧3=3∧lR n qs=lR n qs∧Int.ofNat qs.length=Int.ofNat qs.length∧IntKind.i64.wrap (Int.ofNat x+1)=Int.ofNat x'∧25=25∧3=3∧(List.take x (List.map (fun(q:Rat)=>[Ch.r q (n+65)]) (List.take x qs))++[[Ch.r (q+↑(0:Int)) (n_1+64+1)]]=List.map (fun(q:Rat)=>[Ch.r q (n+65)]) (List.take x' qs)∨RowLE (List.take x (List.map (fun(q:Rat)=>[Ch.r q (n+65)]) (List.take x qs))++[[Ch.r (q+↑(0:Int)) (n_1+64+1)]]) (List.map (fun(q:Rat)=>[Ch.r q (n+65)]) (List.take x' qs)))∧True else K (AV.x false [Ch.s 3 (List.take x (List.drop 0 (List.map (fun(q:Rat)=>[Ch.r q (n+65)]) (List.take x qs))))])) := by kernel_rfl
theorem g_tCopied (n : Nat) (qs : List Rat) (hc : (n ≤ 1000000 ∧ qs.length ≤ 1000000)) (K : AV → Prop) (hK : K (sR (n + 65) qs)) : Holds (goal_tCopied n qs K) := by
 refine ⟨?_⟩
 rw [goal_tCopied_vc]
 try simp only [Int.ofNat_eq_natCast, true_and, and_true, Nat.zero_add, Nat.le_refl, true_implies, true_or, or_true]
 refine ⟨⟨0, by omega, rfl, by rw [lR_len], rfl, by simp⟩, fun x hx => bif_mk (fun hp => ?_) (fun hp => ?_)⟩
 ·have hp : x < qs.length := by have := of_decide_eq_true hp; omega
  obtain ⟨q, hq⟩ : ∃ q, qs[x]? = some q := ⟨_, List.getElem?_eq_getElem hp⟩
  refine ⟨by rw [lR_len]; omega, _, _, lR_ld (by simpa using hq), by omega, by omega, by omega, x + 1, ⟨by omega, by omega⟩, rfl, by rw [w64 (by omega)]; simp, .inl ?_⟩
  rw [List.take_of_length_le (by rw [List.length_map, List.length_take]; omega), List.take_add_one, hq, List.map_append]
  simp only [Option.toList, List.map_cons, List.map_nil]
  rw [show q + ((0 : Int) : Rat) = q by rw [Rat.intCast_zero, Rat.add_zero]]
 ·have hp : x = qs.length := by have := of_decide_eq_false hp; omega
  subst hp
  rw [List.drop_zero, List.take_length, List.take_of_length_le (by rw [List.length_map]; exact Nat.le_refl _)]
  exact hK
def c_tCopied : Ctr := fun as0 => match as0 with
 | [.x false [.s 3 xs]] => some fun K => ∃ (n : Nat) (qs : List Rat), xs = lR n qs ∧ ((n ≤ 1000000 ∧ qs.length ≤ 1000000)) ∧ (K (sR (n + 65) qs))
 | _ => none
theorem ok_tCopied : CtrOK Tryd.prog tabG debT 39 c_tCopied := by
 refine ⟨enters Tryd.func39 (by kernel_rfl), fun l T hT K hK => ?_⟩
 unfold c_tCopied at hT
 split at hT
 ·cases hT
  obtain ⟨n, qs, rfl, hc, hK⟩ := hK
  exact spec_ofL T49ok mixed Tryd.func39 (by kernel_rfl) (by kernel_rfl) (by rfl) (g_tCopied _ _ hc K hK)
 ·cases hT
def L50t : List (Nat × Ctr) := (39, c_tCopied) :: L49
def T50t : Tabs := mkT L50t M48 X4
theorem L50tok : CtrsOK Tryd.prog tabG debT L50t := .cons ok_tCopied L49ok
theorem T50tok : TabsOK Tryd.prog tabG debT T50t := mkTok L50tok M48ok X4ok
def ot_tAt : OT := fun id => bif id.beq 9 then ([0, 1, 2, 3, 4, 5, 6, 7, 8, 9, 10, 11, 12], [[], [], [1], [0, 2, 1], [3, 0, 2, 1], [], [], [5, 6], [7, 5, 6], [], [], [9, 4, 3, 0, 2, 1, 10], [10, 8, 7, 5, 6, 11, 9, 4, 3, 0, 2, 1]]) else bif id.beq 11 then ([0, 2, 4, 5, 7, 13, 1, 3, 6, 8, 9, 10, 11, 12, 14, 15], [[], [0], [], [1, 0, 2], [], [4], [5, 4, 3, 1, 0, 2], [], [6, 5, 4, 3, 1, 0, 2, 7], [3, 1, 0, 2, 8, 6, 5, 4, 7], [9, 3, 1, 0, 2, 8, 6, 5, 4, 7], [10, 9, 3, 1, 0, 2, 8, 6, 5, 4, 7], [10, 9, 3, 1, 0, 2, 8, 6, 5, 4, 7], [], [13, 11, 10, 9, 3, 1, 0, 2, 8, 6, 5, 4, 7], [12, 10, 9, 3, 1, 0, 2, 8, 6, 5, 4, 7, 14, 13, 11]]) else bif id.beq 16 then ([0, 1, 2, 3, 4, 5, 6, 7, 8, 9, 10, 11, 12, 13, 14, 15, 16, 17, 18, 19, 20, 21, 22], [[], [], [1], [], [2, 1, 3], [4, 2, 1, 3], [], [], [7], [], [8, 7, 9], [10, 8, 7, 9], [], [12], [], [13, 12, 14], [15, 13, 12, 14], [11, 10, 8, 7, 9, 16, 15, 13, 12, 14], [6, 17, 11, 10, 8, 7, 9, 16, 15, 13, 12, 14], [5, 4, 2, 1, 3, 18, 6, 17, 11, 10, 8, 7, 9, 16, 15, 13, 12, 14], [19, 5, 4, 2, 1, 3, 18, 6, 17, 11, 10, 8, 7, 9, 16, 15, 13, 12, 14], [0, 20, 19, 5, 4, 2, 1, 3, 18, 6, 17, 11, 10, 8, 7, 9, 16, 15, 13, 12, 14], [21, 0, 20, 19, 5, 4, 2, 1, 3, 18, 6, 17, 11, 10, 8, 7, 9, 16, 15, 13, 12, 14]]) else ([], [])
def goal_tAt (ks : List KeyV) (m : Nat) (N : Nat) (t : Int) (K : AV → Prop) : Prop := goalL T50t ot_tAt (fun id => bif id.beq 6 then .inv ⟨Nat, fun i => ⟨[(0, trkA ks), (1, iA .i64 t), (5, iA .i64 i)], []⟩, fun i => (1 ≤ i ∧ i ≤ ks.length) ∧ atR ks t = atGo (ks.getD (i - 1) zKey) (ks.drop i) t, fun i => ks.length - i, fun _ => 0⟩ else .inv ⟨Nat × Nat, fun x => ⟨[(6, .x false [.p 6 0]), (7, .x false [.p 7 0]), (9, .x false [.p 9 0]), (11, .x false [.w 500 0 x.2]), (71, iA .i64 m), (72, iA .i64 x.2)], [(6, .box 47 (keyCh (ks.getD (x.1 - 1) zKey))), (7, .box 47 (keyCh (ks.getD x.1 zKey))), (9, .box 25 [.r (fracT (ks.getD (x.1 - 1) zKey) (ks.getD x.1 zKey) t) 258]), (500, rowR (2 * (ks.getD (x.1 - 1) zKey).n + (ks.getD x.1 zKey).n + 260) ((interp (ks.getD (x.1 - 1) zKey) (ks.getD x.1 zKey) t).take x.2))]⟩, fun x => ((1 ≤ x.1 ∧ x.1 < ks.length) ∧ atR ks t = (interp (ks.getD (x.1 - 1) zKey) (ks.getD x.1 zKey) t, 2 * (ks.getD (x.1 - 1) zKey).n + (ks.getD x.1 zKey).n + 260)) ∧ x.2 ≤ m, fun x => m - x.2, fun x => ks.length - x.1⟩) Tryd.f12 [trkA ks, iA .i64 t] K
theorem goal_tAt_vc (ks : List KeyV) (m : Nat) (N : Nat) (t : Int) (K : AV → Prop) : goal_tAt ks m N t K = (bif Int.ofNat (List.map keyCh ks).length==0 then K (AV.x false [Ch.v (Value.slice none 0 0)]) else ((0:Int)≤0∧0<Int.ofNat (List.map keyCh ks).length)∧∃(d:Int),ldE (List.map keyCh ks) 0 0 1=some [Ch.v (Value.int IntKind.i64 d)]∧bif decide (t≤d) then ((0:Int)≤0∧0<Int.ofNat (List.map keyCh ks).length)∧∃(ys:List (List Ch)),ldE (List.map keyCh ks) 0 1 1=some [Ch.s 3 ys]∧∃(n:Nat),∃(qs:List Rat),ys=lR n qs∧(n≤1000000∧qs.length≤1000000)∧K (AV.x false [Ch.s 3 (lR (n+65) qs)]) else (∃(x:Nat),(((1≤x∧x≤ks.length)∧atR ks t=atGo (ks.getD (x-1) zKey) (List.drop x ks) t)∧OfNat.ofNat 0=0)∧2=2∧List.map keyCh ks=List.map keyCh ks∧t=t∧1=Int.ofNat x∧True)∧∀(x:Nat),(1≤x∧x≤ks.length)∧atR ks t=atGo (ks.getD (x-1) zKey) (List.drop x ks) t→OfNat.ofNat 0=0→bif decide (Int.ofNat x<Int.ofNat (List.map keyCh ks).length) then (0≤Int.ofNat x∧Int.ofNat x<Int.ofNat (List.map keyCh ks).length)∧∃(d:Int),ldE (List.map keyCh ks) (Int.ofNat x).toNat 0 1=some [Ch.v (Value.int IntKind.i64 d)]∧bif decide (d≤t) then ∃(x':Nat),(((1≤x'∧x'≤ks.length)∧atR ks t=atGo (ks.getD (x'-1) zKey) (List.drop x' ks) t)∧OfNat.ofNat 0=0∧ks.length-x'<ks.length-x)∧2=2∧List.map keyCh ks=List.map keyCh ks∧t=t∧IntKind.i64.wrap (Int.ofNat x+1)=Int.ofNat x'∧True else (0≤IntKind.i64.wrap (Int.ofNat x-1)∧IntKind.i64.wrap (Int.ofNat x-1)<Int.ofNat (List.map keyCh ks).length)∧∃(d:Int),∃(ys:List (List Ch)),ldE (List.map keyCh ks) (IntKind.i64.wrap (Int.ofNat x-1)).toNat 0 2=some [Ch.v (Value.int IntKind.i64 d),Ch.s 3 ys]∧(0≤Int.ofNat x∧Int.ofNat x<Int.ofNat (List.map keyCh ks).length)∧∃(d_1:Int),∃(ys_1:List (List Ch)),ldE (List.map keyCh ks) (Int.ofNat x).toNat 0 2=some [Ch.v (Value.int IntKind.i64 d_1),Ch.s 3 ys_1]∧(-9223372036854775808≤d∧d<9223372036854775808)∧(-9223372036854775808≤t∧t<9223372036854775808)∧129≤4294967296∧(-9223372036854775808≤d_1∧d_1<9223372036854775808)∧129≤4294967296∧258≤4294967296∧((↑d_1:Rat)-(↑d:Rat)≠OfNat.ofNat 0→(∃(x_1:Nat × Nat),((((1≤x_1.fst∧x_1.fst<ks.length)∧atR ks t=(interp (ks.getD (x_1.fst-1) zKey) (ks.getD x_1.fst zKey) t,2*(ks.getD (x_1.fst-1) zKey).n+(ks.getD x_1.fst zKey).n+260))∧x_1.snd≤m)∧ks.length-x_1.fst=ks.length-x)∧0=0∧0=0∧0=0∧Value.slice none 0 0=Value.slice none 0 0∧0=0∧x_1.snd=0∧(bif false then if Int.ofNat ys_1.length>Int.ofNat ys.length then Int.ofNat ys_1.length else Int.ofNat ys.length else if Int.ofNat ys_1.length<Int.ofNat ys.length then Int.ofNat ys_1.length else Int.ofNat ys.length)=Int.ofNat m∧0=Int.ofNat x_1.snd∧47=47∧d=(ks.getD (x_1.fst-1) zKey).tick∧3=3∧ys=lR (ks.getD (x_1.fst-1) zKey).n (ks.getD (x_1.fst-1) zKey).q∧47=47∧d_1=(ks.getD x_1.fst zKey).tick∧3=3∧ys_1=lR (ks.getD x_1.fst zKey).n (ks.getD x_1.fst zKey).q∧25=25∧((↑t:Rat)-(↑d:Rat))/((↑d_1:Rat)-(↑d:Rat))=fracT (ks.getD (x_1.fst-1) zKey) (ks.getD x_1.fst zKey) t∧258≤258∧List.map (fun(q:Rat)=>[Ch.r q (2*(ks.getD (x_1.fst-1) zKey).n+(ks.getD x_1.fst zKey).n+260)]) (List.take x_1.snd (interp (ks.getD (x_1.fst-1) zKey) (ks.getD x_1.fst zKey) t))=[]∧True)∧∀(x_1:Nat × Nat),((1≤x_1.fst∧x_1.fst<ks.length)∧atR ks t=(interp (ks.getD (x_1.fst-1) zKey) (ks.getD x_1.fst zKey) t,2*(ks.getD (x_1.fst-1) zKey).n+(ks.getD x_1.fst zKey).n+260))∧x_1.snd≤m→ks.length-x_1.fst=ks.length-x→bif decide (Int.ofNat x_1.snd<Int.ofNat m) then (0≤Int.ofNat x_1.snd∧Int.ofNat x_1.snd<Int.ofNat (lR (ks.getD (x_1.fst-1) zKey).n (ks.getD (x_1.fst-1) zKey).q).length)∧∃(q:Rat),∃(n:Nat),ldE (lR (ks.getD (x_1.fst-1) zKey).n (ks.getD (x_1.fst-1) zKey).q) (Int.ofNat x_1.snd).toNat 0 3=some [Ch.r q n]∧(0≤Int.ofNat x_1.snd∧Int.ofNat x_1.snd<Int.ofNat (lR (ks.getD x_1.fst zKey).n (ks.getD x_1.fst zKey).q).length)∧∃(q_1:Rat),∃(n_1:Nat),ldE (lR (ks.getD x_1.fst zKey).n (ks.getD x_1.fst zKey).q) (Int.ofNat x_1.snd).toNat 0 3=some [Ch.r q_1 n_1]∧(0≤Int.ofNat x_1.snd∧Int.ofNat x_1.snd<Int.ofNat (lR (ks.getD (x_1.fst-1) zKey).n (ks.getD (x_1.fst-1) zKey).q).length)∧∃(q_2:Rat),∃(n_2:Nat),ldE (lR (ks.getD (x_1.fst-1) zKey).n (ks.getD (x_1.fst-1) zKey).q) (Int.ofNat x_1.snd).toNat 0 3=some [Ch.r q_2 n_2]∧n_1+n_2+1≤4294967296∧258+(n_1+n_2+1)≤4294967296∧n+(258+(n_1+n_2+1))+1≤4294967296∧((x_1.snd+1)*40≤140737488355328∧x_1.snd+1≤9223372036854775807)∧∃(x':Nat × Nat),((((1≤x'.fst∧x'.fst<ks.length)∧atR ks t=(interp (ks.getD (x'.fst-1) zKey) (ks.getD x'.fst zKey) t,2*(ks.getD (x'.fst-1) zKey).n+(ks.getD x'.fst zKey).n+260))∧x'.snd≤m)∧ks.length-x'.fst=ks.length-x∧m-x'.snd<m-x_1.snd)∧0=0∧0=0∧0=0∧0=0∧x_1.snd+1=x'.snd∧Int.ofNat m=Int.ofNat m∧IntKind.i64.wrap (Int.ofNat x_1.snd+1)=Int.ofNat x'.snd∧47=47∧(ks.getD (x_1.fst-1) zKey).tick=(ks.getD (x'.fst-1) zKey).tick∧3=3∧lR (ks.getD (x_1.fst-1) zKey).n (ks.getD (x_1.fst-1) zKey).q=lR (ks.getD (x'.fst-1) zKey).n (ks.getD (x'.fst-1) zKey).q∧47=47∧(ks.getD x_1.fst zKey).tick=(ks.getD x'.fst zKey).tick∧3=3∧lR (ks.getD x_1.fst zKey).n (ks.getD x_1.fst zKey).q=lR (ks.getD x'.fst zKey).n (ks.getD x'.fst zKey).q∧25=25∧fracT (ks.getD (x_1.fst-1) zKey) (ks.getD x_1.fst zKey) t=fracT (ks.getD (x'.fst-1) zKey) (ks.getD x'.fst zKey) t∧258≤258∧25=25∧3=3∧(List.take x_1.snd (List.map (fun(q:Rat)=>[Ch.r q (2*(ks.getD (x_1.fst-1) zKey).n+(ks.getD x_1.fst zKey).n+260)]) (List.take x_1.snd (interp (ks.getD (x_1.fst-1) zKey) (ks.getD x_1.fst zKey) t)))++[[Ch.r (q+fracT (ks.getD (x_1.fst-1) zKey) (ks.getD x_1.fst zKey) t*(q_1-q_2)) (n+(258+(n_1+n_2+1))+1)]]=List.map (fun(q:Rat)=>[Ch.r q (2*(ks.getD (x'.fst-1) zKey).n+(ks.getD x'.fst zKey).n+260)]) (List.take x'.snd (interp (ks.getD (x'.fst-1) zKey) (ks.getD x'.fst zKey) t))∨RowLE (List.take x_1.snd (List.map (fun(q:Rat)=>[Ch.r q (2*(ks.getD (x_1.fst-1) zKey).n+(ks.getD x_1.fst zKey).n+260)]) (List.take x_1.snd (interp (ks.getD (x_1.fst-1) zKey) (ks.getD x_1.fst zKey) t)))++[[Ch.r (q+fracT (ks.getD (x_1.fst-1) zKey) (ks.getD x_1.fst zKey) t*(q_1-q_2)) (n+(258+(n_1+n_2+1))+1)]]) (List.map (fun(q:Rat)=>[Ch.r q (2*(ks.getD (x'.fst-1) zKey).n+(ks.getD x'.fst zKey).n+260)]) (List.take x'.snd (interp (ks.getD (x'.fst-1) zKey) (ks.getD x'.fst zKey) t))))∧True else K (AV.x false [Ch.s 3 (List.take x_1.snd (List.drop 0 (List.map (fun(q:Rat)=>[Ch.r q (2*(ks.getD (x_1.fst-1) zKey).n+(ks.getD x_1.fst zKey).n+260)]) (List.take x_1.snd (interp (ks.getD (x_1.fst-1) zKey) (ks.getD x_1.fst zKey) t)))))]))∧((↑d_1:Rat)-(↑d:Rat)=OfNat.ofNat 0→(∃(x_1:Nat × Nat),((((1≤x_1.fst∧x_1.fst<ks.length)∧atR ks t=(interp (ks.getD (x_1.fst-1) zKey) (ks.getD x_1.fst zKey) t,2*(ks.getD (x_1.fst-1) zKey).n+(ks.getD x_1.fst zKey).n+260))∧x_1.snd≤m)∧ks.length-x_1.fst=ks.length-x)∧0=0∧0=0∧0=0∧Value.slice none 0 0=Value.slice none 0 0∧0=0∧x_1.snd=0∧(bif false then if Int.ofNat ys_1.length>Int.ofNat ys.length then Int.ofNat ys_1.length else Int.ofNat ys.length else if Int.ofNat ys_1.length<Int.ofNat ys.length then Int.ofNat ys_1.length else Int.ofNat ys.length)=Int.ofNat m∧0=Int.ofNat x_1.snd∧47=47∧d=(ks.getD (x_1.fst-1) zKey).tick∧3=3∧ys=lR (ks.getD (x_1.fst-1) zKey).n (ks.getD (x_1.fst-1) zKey).q∧47=47∧d_1=(ks.getD x_1.fst zKey).tick∧3=3∧ys_1=lR (ks.getD x_1.fst zKey).n (ks.getD x_1.fst zKey).q∧25=25∧False)∧∀(x_1:Nat × Nat),((1≤x_1.fst∧x_1.fst<ks.length)∧atR ks t=(interp (ks.getD (x_1.fst-1) zKey) (ks.getD x_1.fst zKey) t,2*(ks.getD (x_1.fst-1) zKey).n+(ks.getD x_1.fst zKey).n+260))∧x_1.snd≤m→ks.length-x_1.fst=ks.length-x→bif decide (Int.ofNat x_1.snd<Int.ofNat m) then (0≤Int.ofNat x_1.snd∧Int.ofNat x_1.snd<Int.ofNat (lR (ks.getD (x_1.fst-1) zKey).n (ks.getD (x_1.fst-1) zKey).q).length)∧∃(q:Rat),∃(n:Nat),ldE (lR (ks.getD (x_1.fst-1) zKey).n (ks.getD (x_1.fst-1) zKey).q) (Int.ofNat x_1.snd).toNat 0 3=some [Ch.r q n]∧(0≤Int.ofNat x_1.snd∧Int.ofNat x_1.snd<Int.ofNat (lR (ks.getD x_1.fst zKey).n (ks.getD x_1.fst zKey).q).length)∧∃(q_1:Rat),∃(n_1:Nat),ldE (lR (ks.getD x_1.fst zKey).n (ks.getD x_1.fst zKey).q) (Int.ofNat x_1.snd).toNat 0 3=some [Ch.r q_1 n_1]∧(0≤Int.ofNat x_1.snd∧Int.ofNat x_1.snd<Int.ofNat (lR (ks.getD (x_1.fst-1) zKey).n (ks.getD (x_1.fst-1) zKey).q).length)∧∃(q_2:Rat),∃(n_2:Nat),ldE (lR (ks.getD (x_1.fst-1) zKey).n (ks.getD (x_1.fst-1) zKey).q) (Int.ofNat x_1.snd).toNat 0 3=some [Ch.r q_2 n_2]∧n_1+n_2+1≤4294967296∧258+(n_1+n_2+1)≤4294967296∧n+(258+(n_1+n_2+1))+1≤4294967296∧((x_1.snd+1)*40≤140737488355328∧x_1.snd+1≤9223372036854775807)∧∃(x':Nat × Nat),((((1≤x'.fst∧x'.fst<ks.length)∧atR ks t=(interp (ks.getD (x'.fst-1) zKey) (ks.getD x'.fst zKey) t,2*(ks.getD (x'.fst-1) zKey).n+(ks.getD x'.fst zKey).n+260))∧x'.snd≤m)∧ks.length-x'.fst=ks.length-x∧m-x'.snd<m-x_1.snd)∧0=0∧0=0∧0=0∧0=0∧x_1.snd+1=x'.snd∧Int.ofNat m=Int.ofNat m∧IntKind.i64.wrap (Int.ofNat x_1.snd+1)=Int.ofNat x'.snd∧47=47∧(ks.getD (x_1.fst-1) zKey).tick=(ks.getD (x'.fst-1) zKey).tick∧3=3∧lR (ks.getD (x_1.fst-1) zKey).n (ks.getD (x_1.fst-1) zKey).q=lR (ks.getD (x'.fst-1) zKey).n (ks.getD (x'.fst-1) zKey).q∧47=47∧(ks.getD x_1.fst zKey).tick=(ks.getD x'.fst zKey).tick∧3=3∧lR (ks.getD x_1.fst zKey).n (ks.getD x_1.fst zKey).q=lR (ks.getD x'.fst zKey).n (ks.getD x'.fst zKey).q∧25=25∧fracT (ks.getD (x_1.fst-1) zKey) (ks.getD x_1.fst zKey) t=fracT (ks.getD (x'.fst-1) zKey) (ks.getD x'.fst zKey) t∧258≤258∧25=25∧3=3∧(List.take x_1.snd (List.map (fun(q:Rat)=>[Ch.r q (2*(ks.getD (x_1.fst-1) zKey).n+(ks.getD x_1.fst zKey).n+260)]) (List.take x_1.snd (interp (ks.getD (x_1.fst-1) zKey) (ks.getD x_1.fst zKey) t)))++[[Ch.r (q+fracT (ks.getD (x_1.fst-1) zKey) (ks.getD x_1.fst zKey) t*(q_1-q_2)) (n+(258+(n_1+n_2+1))+1)]]=List.map (fun(q:Rat)=>[Ch.r q (2*(ks.getD (x'.fst-1) zKey).n+(ks.getD x'.fst zKey).n+260)]) (List.take x'.snd (interp (ks.getD (x'.fst-1) zKey) (ks.getD x'.fst zKey) t))∨RowLE (List.take x_1.snd (List.map (fun(q:Rat)=>[Ch.r q (2*(ks.getD (x_1.fst-1) zKey).n+(ks.getD x_1.fst zKey).n+260)]) (List.take x_1.snd (interp (ks.getD (x_1.fst-1) zKey) (ks.getD x_1.fst zKey) t)))++[[Ch.r (q+fracT (ks.getD (x_1.fst-1) zKey) (ks.getD x_1.fst zKey) t*(q_1-q_2)) (n+(258+(n_1+n_2+1))+1)]]) (List.map (fun(q:Rat)=>[Ch.r q (2*(ks.getD (x'.fst-1) zKey).n+(ks.getD x'.fst zKey).n+260)]) (List.take x'.snd (interp (ks.getD (x'.fst-1) zKey) (ks.getD x'.fst zKey) t))))∧True else K (AV.x false [Ch.s 3 (List.take x_1.snd (List.drop 0 (List.map (fun(q:Rat)=>[Ch.r q (2*(ks.getD (x_1.fst-1) zKey).n+(ks.getD x_1.fst zKey).n+260)]) (List.take x_1.snd (interp (ks.getD (x_1.fst-1) zKey) (ks.getD x_1.fst zKey) t)))))])) else (0≤IntKind.i64.wrap (Int.ofNat (List.map keyCh ks).length-1)∧IntKind.i64.wrap (Int.ofNat (List.map keyCh ks).length-1)<Int.ofNat (List.map keyCh ks).length)∧∃(ys:List (List Ch)),ldE (List.map keyCh ks) (IntKind.i64.wrap (Int.ofNat (List.map keyCh ks).length-1)).toNat 1 1=some [Ch.s 3 ys]∧∃(n:Nat),∃(qs:List Rat),ys=lR n qs∧(n≤1000000∧qs.length≤1000000)∧K (AV.x false [Ch.s 3 (lR (n+65) qs)])) := by kernel_rfl
theorem g_tAt (ks : List KeyV) (m : Nat) (N : Nat) (t : Int) (hc : (KeysOK ks m N) ∧ ((N ≤ 10000 ∧ m ≤ 100000 ∧ 1 ≤ ks.length ∧ ks.length ≤ 100000) ∧ -4611686018427387904 ≤ t ∧ t < 4611686018427387904)) (K : AV → Prop) (hK : K (sR (atR ks t).2 (atR ks t).1)) : Holds (goal_tAt ks m N t K) := by
 refine ⟨?_⟩
 rw [goal_tAt_vc]
 try simp only [Int.ofNat_eq_natCast, true_and, and_true, Nat.zero_add, Nat.le_refl, true_implies, true_or, or_true]
 obtain ⟨hk, ⟨hN, hm, hn, hn2⟩, ht⟩ := hc
 obtain ⟨a, ha⟩ : ∃ a, ks[0]? = some a := ⟨_, List.getElem?_eq_getElem (by omega)⟩
 have ma := List.mem_of_getElem? ha
 simp only [List.length_map]
 refine bif_mk (fun h => by simp only [beq_iff_eq] at h; omega) (fun _ => ⟨by omega, _, key_ld0 ha, bif_mk (fun h => ⟨by omega, _, key_ld1 ha, a.n, a.q, rfl, ⟨by have := hk.n a ma; omega, by rw [hk.len a ma]; omega⟩, ?_⟩) (fun h => ⟨⟨1, ⟨by omega, ?_⟩, rfl⟩, fun x hx => bif_mk (fun hp => ?_) (fun hp => ?_)⟩)⟩)
 ·have e : atR ks t = (a.q, a.n + 65) := at_first ha (of_decide_eq_true h)
  rw [e] at hK
  exact hK
 ·exact at_later ha (of_decide_eq_false h)
 ·obtain ⟨⟨hx1, hx2⟩, he⟩ := hx
  have hp : x < ks.length := by have := of_decide_eq_true hp; omega
  obtain ⟨y, hy⟩ : ∃ y, ks[x]? = some y := ⟨_, List.getElem?_eq_getElem hp⟩
  have my := List.mem_of_getElem? hy
  have hd : ks.drop x = y :: ks.drop (x + 1) := by
   rw [List.drop_eq_getElem_cons hp]
   rw [List.getElem?_eq_getElem hp] at hy
   rw [Option.some.inj hy]
  have hyt := hk.tick y my
  have hgy : ks.getD x zKey = y := by rw [List.getD_eq_getElem?_getD, hy]; rfl
  rw [hd] at he
  refine ⟨by omega, _, key_ld0 (by simpa using hy), bif_mk (fun hle => ?_) (fun hle => ?_)⟩
  ·have hle := of_decide_eq_true hle
   refine ⟨x + 1, ⟨⟨⟨by omega, by omega⟩, ?_⟩, by omega⟩, by rw [w64 (by omega)]; simp⟩
   rw [he, atGo, if_pos hle, show x + 1 - 1 = x by omega, hgy]
  ·have hle := of_decide_eq_false hle
   obtain ⟨w, hw⟩ : ∃ w, ks[x - 1]? = some w := ⟨_, List.getElem?_eq_getElem (by omega)⟩
   have mw := List.mem_of_getElem? hw
   have hgw : ks.getD (x - 1) zKey = w := by rw [List.getD_eq_getElem?_getD, hw]; rfl
   have hwt := hk.tick w mw
   have hinc := hk.inc (x - 1) w y hw (by rw [show x - 1 + 1 = x by omega]; exact hy)
   rw [atGo, if_neg hle, hgw] at he
   have e1 : IntKind.i64.wrap ((x : Int) - 1) = ((x - 1 : Nat) : Int) := by rw [w64 (by omega)]; omega
   rw [e1, Int.toNat_natCast]
   refine ⟨by omega, _, _, key_ld hw, by omega, _, _, key_ld (by simpa using hy), by omega, by omega, by omega, by omega, by omega, by omega, fun hne => ?_, fun h0 => ?_⟩
   ·have lw := hk.len w mw
    have ly := hk.len y my
    have nw := hk.n w mw
    have ny := hk.n y my
    have li : (interp w y t).length = m := by unfold interp; rw [mix_len (by omega), lw]
    refine ⟨⟨(x, 0), ?_⟩, fun z hz htie => ?_⟩
    ·simp only [hgw, hgy, lR_len, lw, ly]
     exact ⟨⟨⟨⟨⟨hx1, hp⟩, he⟩, by omega⟩, trivial⟩, trivial, by simp, rfl, trivial, trivial, trivial, trivial, rfl, by simp⟩
    ·obtain ⟨i, k⟩ := z
     have hi : i = x := by simp only at hz htie; omega
     subst hi
     simp only [hgw, hgy, lR_len, lw, ly] at hz ⊢
     refine bif_mk (fun hkm => ?_) (fun hkm => ?_)
     ·have hkm : k < m := by have := of_decide_eq_true hkm; omega
      obtain ⟨p, hpp⟩ : ∃ p, w.q[k]? = some p := ⟨_, List.getElem?_eq_getElem (by omega)⟩
      obtain ⟨r, hr⟩ : ∃ r, y.q[k]? = some r := ⟨_, List.getElem?_eq_getElem (by omega)⟩
      refine ⟨by omega, p, w.n, lR_ld (by simpa using hpp), by omega, r, y.n, lR_ld (by simpa using hr), by omega, p, w.n, lR_ld (by simpa using hpp), by omega, by omega, by omega, by omega, (i, k + 1), ?_⟩
      simp only [hgw, hgy]
      refine ⟨⟨⟨⟨⟨hx1, hp⟩, he⟩, by omega⟩, trivial, by omega⟩, trivial, by rw [w64 (by omega)]; simp, trivial, trivial, trivial, trivial, trivial, .inl ?_⟩
      rw [List.take_of_length_le (by rw [List.length_map, List.length_take]; omega), List.take_add_one, show (interp w y t)[k]? = some _ from mix_get hpp hr, List.map_append]
      simp only [Option.toList, List.map_cons, List.map_nil]
      rw [show w.n + (258 + (y.n + w.n + 1)) + 1 = 2 * w.n + y.n + 260 by omega]
     ·have hkm : k = m := by have := of_decide_eq_false hkm; omega
      subst hkm
      rw [List.drop_zero, List.take_of_length_le (by rw [List.length_map, List.length_take]; omega), List.take_of_length_le (by omega)]
      rw [he] at hK
      exact hK
   ·exfalso
    have := tick_lt hinc
    have h0 : (y.tick : Rat) - (w.tick : Rat) = 0 := h0
    grind
 ·obtain ⟨⟨hx1, hx2⟩, he⟩ := hx
  have hp : x = ks.length := by have := of_decide_eq_false hp; omega
  subst hp
  obtain ⟨z, hz⟩ : ∃ z, ks[ks.length - 1]? = some z := ⟨_, List.getElem?_eq_getElem (by omega)⟩
  have mz := List.mem_of_getElem? hz
  rw [List.drop_length, show ks.getD (ks.length - 1) zKey = z by rw [List.getD_eq_getElem?_getD, hz]; rfl, atGo] at he
  rw [he] at hK
  have e1 : IntKind.i64.wrap ((ks.length : Int) - 1) = ((ks.length - 1 : Nat) : Int) := by rw [w64 (by omega)]; omega
  rw [e1, Int.toNat_natCast]
  exact ⟨by omega, _, key_ld1 hz, z.n, z.q, rfl, ⟨by have := hk.n z mz; omega, by rw [hk.len z mz]; omega⟩, hK⟩
def c_tAt : Ctr := fun as0 => match as0 with
 | [.x false [.s 2 xs], .x false [.v (.int .i64 t)]] => some fun K => ∃ (ks : List KeyV) (m : Nat) (N : Nat), xs = ks.map keyCh ∧ ((KeysOK ks m N) ∧ ((N ≤ 10000 ∧ m ≤ 100000 ∧ 1 ≤ ks.length ∧ ks.length ≤ 100000) ∧ -4611686018427387904 ≤ t ∧ t < 4611686018427387904)) ∧ (K (sR (atR ks t).2 (atR ks t).1))
 | _ => none
theorem ok_tAt : CtrOK Tryd.prog tabG debT 12 c_tAt := by
 refine ⟨enters Tryd.func12 (by kernel_rfl), fun l T hT K hK => ?_⟩
 unfold c_tAt at hT
 split at hT
 ·cases hT
  obtain ⟨ks, m, N, rfl, hc, hK⟩ := hK
  exact spec_ofL T50tok mixed Tryd.func12 (by kernel_rfl) (by kernel_rfl) (by rfl) (g_tAt _ _ _ _ hc K hK)
 ·cases hT
def L51t : List (Nat × Ctr) := (12, c_tAt) :: L50t
def T51t : Tabs := mkT L51t M48 X4
theorem L51tok : CtrsOK Tryd.prog tabG debT L51t := .cons ok_tAt L50tok
end Go.Proofs
/- track: Speed, slow, Check. -/
namespace Go.Proofs
open Go Go.Eng
def SlowR (a : ArmV) (x y : KeyV) : Prop := ∀ (i : Nat) (L : LinkV) (p q : Rat), a.links[i]? = some L → x.q[i]? = some p → y.q[i]? = some q → absR (q - p) ≤ L.sp * ((y.tick - x.tick : Int) : Rat)
structure TrackOK (a : ArmV) (ks : List KeyV) : Prop where
 arm : GoodArm a
 ne : 1 ≤ ks.length ∧ ks.length ≤ 60
 keys : ∃ N, N ≤ 10000 ∧ KeysOK ks a.links.length N
 fit : ∀ k ∈ ks, Fit a k.q
 slow : ∀ (i : Nat) (x y : KeyV), ks[i]? = some x → ks[i + 1]? = some y → SlowR a x y
def L52t : List (Nat × Ctr) := L51t
def T52t : Tabs := mkT L52t M48 X4
theorem L52tok : CtrsOK Tryd.prog tabG debT L52t := L51tok
theorem T52tok : TabsOK Tryd.prog tabG debT T52t := mkTok L52tok M48ok X4ok
def ot_tSlow : OT := fun id => bif id.beq 5 then ([0, 1, 2, 3, 4, 5, 6, 7, 8, 9, 12, 13, 14, 10, 11, 15, 16, 17], [[], [0], [], [1, 0, 2], [3, 1, 0, 2], [], [5], [], [6, 5, 7], [8, 6, 5, 7], [4, 3, 1, 0, 2, 9, 8, 6, 5, 7], [10, 4, 3, 1, 0, 2, 9, 8, 6, 5, 7], [], [12], [], [13, 12, 14, 11, 10, 4, 3, 1, 0, 2, 9, 8, 6, 5, 7], [11, 10, 4, 3, 1, 0, 2, 9, 8, 6, 5, 7, 15, 13, 12, 14], [16, 11, 10, 4, 3, 1, 0, 2, 9, 8, 6, 5, 7, 15, 13, 12, 14]]) else ([], [])
def goal_tSlow (a : ArmV) (x : KeyV) (y : KeyV) (K : AV → Prop) : Prop := goalL T52t ot_tSlow (fun _ => .inv ⟨Nat, fun i => ⟨[(4, .x false [.p 4 0]), (5, .x false [.p 5 0]), (7, .x false [.p 7 0]), (17, .x false [.s 16 (a.links.map linkCh)]), (18, iA .i64 a.links.length), (19, iA .i64 i)], [(4, .box 47 (keyCh x)), (5, .box 47 (keyCh y)), (7, .box 25 [.r ((y.tick - x.tick : Int) : Rat) 64])]⟩, fun i => i ≤ a.links.length ∧ ∀ j L p q, j < i → a.links[j]? = some L → x.q[j]? = some p → y.q[j]? = some q → absR (q - p) ≤ L.sp * ((y.tick - x.tick : Int) : Rat), fun i => a.links.length - i, fun _ => 0⟩) Tryd.f61 [armA a, .x true (keyCh x), .x true (keyCh y)] K
theorem goal_tSlow_vc (a : ArmV) (x : KeyV) (y : KeyV) (K : AV → Prop) : goal_tSlow a x y K = ((-9223372036854775808≤IntKind.i64.wrap (y.tick-x.tick)∧IntKind.i64.wrap (y.tick-x.tick)<9223372036854775808)∧(∃(x_1:Nat),((x_1≤a.links.length∧∀(j:Nat) (L:LinkV) (p q:Rat),j<x_1→a.links[j]?=some L→x.q[j]?=some p→y.q[j]?=some q→absR (q-p)≤L.sp*↑(y.tick-x.tick))∧OfNat.ofNat 0=0)∧0=0∧0=0∧0=0∧16=16∧List.map linkCh a.links=List.map linkCh a.links∧Int.ofNat (List.map linkCh a.links).length=Int.ofNat a.links.length∧0=Int.ofNat x_1∧47=47∧x.tick=x.tick∧3=3∧lR x.n x.q=lR x.n x.q∧47=47∧y.tick=y.tick∧3=3∧lR y.n y.q=lR y.n y.q∧25=25∧(↑(IntKind.i64.wrap (y.tick-x.tick)):Rat)=(↑(y.tick-x.tick):Rat)∧64≤64∧True)∧∀(x_1:Nat),(x_1≤a.links.length∧∀(j:Nat) (L:LinkV) (p q:Rat),j<x_1→a.links[j]?=some L→x.q[j]?=some p→y.q[j]?=some q→absR (q-p)≤L.sp*↑(y.tick-x.tick))→OfNat.ofNat 0=0→bif decide (Int.ofNat x_1<Int.ofNat a.links.length) then (0≤Int.ofNat x_1∧Int.ofNat x_1<Int.ofNat (List.map linkCh a.links).length)∧∃(q:Rat),∃(n:Nat),∃(q_1:Rat),∃(n_1:Nat),∃(q_2:Rat),∃(n_2:Nat),∃(q_3:Rat),∃(n_3:Nat),∃(q_4:Rat),∃(n_4:Nat),∃(ys:List (List Ch)),ldE (List.map linkCh a.links) (Int.ofNat x_1).toNat 0 16=some [Ch.r q n,Ch.r q_1 n_1,Ch.r q_2 n_2,Ch.r q_3 n_3,Ch.r q_4 n_4,Ch.s 6 ys]∧(0≤Int.ofNat x_1∧Int.ofNat x_1<Int.ofNat (lR y.n y.q).length)∧∃(q:Rat),∃(n:Nat),ldE (lR y.n y.q) (Int.ofNat x_1).toNat 0 3=some [Ch.r q n]∧(0≤Int.ofNat x_1∧Int.ofNat x_1<Int.ofNat (lR x.n x.q).length)∧∃(q_5:Rat),∃(n_5:Nat),ldE (lR x.n x.q) (Int.ofNat x_1).toNat 0 3=some [Ch.r q_5 n_5]∧n+n_5+1≤4294967296∧n+n_5+1≤4294967296∧n_3+64≤4294967296∧n+n_5+1+(n_3+64)≤4294967296∧bif decide (cmpR (absR (q-q_5)) (q_3*↑(y.tick-x.tick))>0) then K (AV.x false [Ch.v (Value.bool false)]) else ∃(x':Nat),((x'≤a.links.length∧∀(j:Nat) (L:LinkV) (p q:Rat),j<x'→a.links[j]?=some L→x.q[j]?=some p→y.q[j]?=some q→absR (q-p)≤L.sp*↑(y.tick-x.tick))∧OfNat.ofNat 0=0∧a.links.length-x'<a.links.length-x_1)∧0=0∧0=0∧0=0∧16=16∧List.map linkCh a.links=List.map linkCh a.links∧Int.ofNat a.links.length=Int.ofNat a.links.length∧IntKind.i64.wrap (Int.ofNat x_1+1)=Int.ofNat x'∧47=47∧x.tick=x.tick∧3=3∧lR x.n x.q=lR x.n x.q∧47=47∧y.tick=y.tick∧3=3∧lR y.n y.q=lR y.n y.q∧25=25∧(↑(y.tick-x.tick):Rat)=(↑(y.tick-x.tick):Rat)∧64≤64∧True else K (AV.x false [Ch.v (Value.bool true)])) := by kernel_rfl
theorem g_tSlow (a : ArmV) (x : KeyV) (y : KeyV) (hc : (a.links.length ≤ 3 ∧ x.q.length = a.links.length ∧ y.q.length = a.links.length) ∧ (x.n ≤ 100000 ∧ y.n ≤ 100000) ∧ ((-1000000 ≤ x.tick ∧ x.tick ≤ 1000000) ∧ (-1000000 ≤ y.tick ∧ y.tick ≤ 1000000))) (K : AV → Prop) (hK : (SlowR a x y → K (.x false [.v (.bool true)])) ∧ (¬ SlowR a x y → K (.x false [.v (.bool false)]))) : Holds (goal_tSlow a x y K) := by
 refine ⟨?_⟩
 rw [goal_tSlow_vc]
 try simp only [Int.ofNat_eq_natCast, true_and, and_true, Nat.zero_add, Nat.le_refl, true_implies, true_or, or_true]
 obtain ⟨⟨h0, h1, h2⟩, ⟨h3, h4⟩, h5⟩ := hc
 obtain ⟨k1, k2⟩ := hK
 have e1 : IntKind.i64.wrap (y.tick - x.tick) = y.tick - x.tick := w64 (by omega)
 simp only [e1, List.length_map, lR_len]
 refine ⟨by omega, ⟨0, ⟨by omega, fun j L p q hj => by omega⟩, trivial, rfl, trivial⟩, fun i hi => bif_mk (fun hp => ?_) (fun hp => k1 fun j L p q hL hpp hq => hi.2 j L p q ?_ hL hpp hq)⟩
 ·have hp : i < a.links.length := by have := of_decide_eq_true hp; omega
  obtain ⟨L, hL⟩ : ∃ L, a.links[i]? = some L := ⟨_, List.getElem?_eq_getElem hp⟩
  obtain ⟨q, hq⟩ : ∃ q, y.q[i]? = some q := ⟨_, List.getElem?_eq_getElem (by omega)⟩
  obtain ⟨p, hpp⟩ : ∃ p, x.q[i]? = some p := ⟨_, List.getElem?_eq_getElem (by omega)⟩
  refine ⟨by omega, _, _, _, _, _, _, _, _, _, _, _, link_ld (by simpa using hL), by omega, _, _, lR_ld (by simpa using hq), by omega, _, _, lR_ld (by simpa using hpp), by omega, by omega, by omega, by omega, bif_mk (fun h => k2 fun hs => ?_) (fun h => ⟨i + 1, ⟨⟨by omega, fun j M p' q' hj hM hp' hq' => ?_⟩, by omega⟩, by rw [w64 (by omega)]; simp⟩)⟩
  ·have := (cmp_le _ _).2 (hs i L p q hL hpp hq)
   have := of_decide_eq_true h
   omega
  ·by_cases e : j = i
   ·subst e
    rw [hL] at hM; cases hM
    rw [hpp] at hp'; cases hp'
    rw [hq] at hq'; cases hq'
    exact (cmp_le _ _).1 (by have := of_decide_eq_false h; omega)
   ·exact hi.2 j M p' q' (by omega) hM hp' hq'
 ·have hp := of_decide_eq_false hp
  have := (List.getElem?_eq_some_iff.1 hL).1
  omega
def c_tSlow : Ctr := fun as0 => match as0 with
 | [.x true xs, .x true xk, .x true yk] => some fun K => ∃ (a : ArmV) (x : KeyV) (y : KeyV), xs = armCh a ∧ xk = keyCh x ∧ yk = keyCh y ∧ ((a.links.length ≤ 3 ∧ x.q.length = a.links.length ∧ y.q.length = a.links.length) ∧ (x.n ≤ 100000 ∧ y.n ≤ 100000) ∧ ((-1000000 ≤ x.tick ∧ x.tick ≤ 1000000) ∧ (-1000000 ≤ y.tick ∧ y.tick ≤ 1000000))) ∧ ((SlowR a x y → K (.x false [.v (.bool true)])) ∧ (¬ SlowR a x y → K (.x false [.v (.bool false)])))
 | _ => none
theorem ok_tSlow : CtrOK Tryd.prog tabG debT 61 c_tSlow := by
 refine ⟨enters Tryd.func61 (by kernel_rfl), fun l T hT K hK => ?_⟩
 unfold c_tSlow at hT
 split at hT
 ·cases hT
  obtain ⟨a, x, y, rfl, rfl, rfl, hc, hK⟩ := hK
  exact spec_ofL T52tok mixed Tryd.func61 (by kernel_rfl) (by kernel_rfl) (by rfl) (g_tSlow _ _ _ hc K hK)
 ·cases hT
def L53t : List (Nat × Ctr) := (61, c_tSlow) :: L52t
def T53t : Tabs := mkT L53t M48 X4
theorem L53tok : CtrsOK Tryd.prog tabG debT L53t := .cons ok_tSlow L52tok
theorem T53tok : TabsOK Tryd.prog tabG debT T53t := mkTok L53tok M48ok X4ok
def ot_tCheck : OT := fun id => bif id.beq 17 then ([0, 1, 2, 3, 4, 5, 6, 7, 8], [[], [0], [], [], [3], [2, 4, 3], [5, 2, 4, 3], [6, 5, 2, 4, 3], [1, 0, 7, 6, 5, 2, 4, 3]]) else bif id.beq 19 then ([0, 1, 2, 3, 4, 5, 6, 7, 8], [[], [], [], [2], [1, 3, 2], [4, 1, 3, 2], [], [0, 5, 4, 1, 3, 2, 6], [7, 0, 5, 4, 1, 3, 2, 6]]) else ([], [])
def goal_tCheck (a : ArmV) (ks : List KeyV) (K : AV → Prop) : Prop := goalL T53t ot_tCheck (fun _ => .inv ⟨Nat, fun i => ⟨[(1, trkA ks), (2, .x false [.p 2 0]), (20, trkA ks), (21, iA .i64 ks.length), (22, iA .i64 i)], [(2, .box 34 (armCh a))]⟩, fun i => i ≤ ks.length, fun i => ks.length - i, fun _ => 0⟩) Tryd.f33 [armA a, trkA ks] K
theorem goal_tCheck_vc (a : ArmV) (ks : List KeyV) (K : AV → Prop) : goal_tCheck a ks K = (∃(a_1:ArmV),[Ch.v (Value.string a.name),Ch.r a.x 63,Ch.r a.y 63,Ch.v (Value.bool a.half),Ch.r a.t 63,Ch.s 16 (List.map linkCh a.links)]=[Ch.v (Value.string a_1.name),Ch.r a_1.x 63,Ch.r a_1.y 63,Ch.v (Value.bool a_1.half),Ch.r a_1.t 63,Ch.s 16 (List.map linkCh a_1.links)]∧GoodArm a_1∧bif Int.ofNat (List.map keyCh ks).length==0 then K (AV.x false [Ch.v (Value.int IntKind.i64 14)]) else bif decide (Int.ofNat (List.map keyCh ks).length>60) then K (AV.x false [Ch.v (Value.int IntKind.i64 2)]) else (∃(x:Nat),(x≤ks.length∧OfNat.ofNat 0=0)∧2=2∧List.map keyCh ks=List.map keyCh ks∧0=0∧2=2∧List.map keyCh ks=List.map keyCh ks∧Int.ofNat (List.map keyCh ks).length=Int.ofNat ks.length∧0=Int.ofNat x∧34=34∧a.name=a.name∧a.x=a.x∧63≤63∧a.y=a.y∧63≤63∧a.half=a.half∧a.t=a.t∧63≤63∧16=16∧List.map linkCh a.links=List.map linkCh a.links∧True)∧∀(x:Nat),x≤ks.length→OfNat.ofNat 0=0→bif decide (Int.ofNat x<Int.ofNat ks.length) then (0≤Int.ofNat x∧Int.ofNat x<Int.ofNat (List.map keyCh ks).length)∧∃(d:Int),∃(ys:List (List Ch)),ldE (List.map keyCh ks) (Int.ofNat x).toNat 0 2=some [Ch.v (Value.int IntKind.i64 d),Ch.s 3 ys]∧bif decide (d<0) then K (AV.x false [Ch.v (Value.int IntKind.i64 1)]) else bif decide (d>2000) then K (AV.x false [Ch.v (Value.int IntKind.i64 1)]) else ∃(a_4:ArmV),∃(n:Nat),∃(qs:List Rat),[Ch.v (Value.string a.name),Ch.r a.x 63,Ch.r a.y 63,Ch.v (Value.bool a.half),Ch.r a.t 63,Ch.s 16 (List.map linkCh a.links)]=[Ch.v (Value.string a_4.name),Ch.r a_4.x 63,Ch.r a_4.y 63,Ch.v (Value.bool a_4.half),Ch.r a_4.t 63,Ch.s 16 (List.map linkCh a_4.links)]∧ys=lR n qs∧(GoodArm a_4∧n≤1000000∧qs.length=a_4.links.length)∧((∀(i:Nat) (L:LinkV) (q:Rat),a_4.links[i]?=some L→qs[i]?=some q→L.lo≤q∧q≤L.hi)→bif Int.ofNat x==0 then ∃(x':Nat),(x'≤ks.length∧OfNat.ofNat 0=0∧ks.length-x'<ks.length-x)∧2=2∧List.map keyCh ks=List.map keyCh ks∧0=0∧2=2∧List.map keyCh ks=List.map keyCh ks∧Int.ofNat ks.length=Int.ofNat ks.length∧IntKind.i64.wrap (Int.ofNat x+1)=Int.ofNat x'∧34=34∧a.name=a.name∧a.x=a.x∧63≤63∧a.y=a.y∧63≤63∧a.half=a.half∧a.t=a.t∧63≤63∧16=16∧List.map linkCh a.links=List.map linkCh a.links∧True else (0≤IntKind.i64.wrap (Int.ofNat x-1)∧IntKind.i64.wrap (Int.ofNat x-1)<Int.ofNat (List.map keyCh ks).length)∧∃(d_1:Int),ldE (List.map keyCh ks) (IntKind.i64.wrap (Int.ofNat x-1)).toNat 0 1=some [Ch.v (Value.int IntKind.i64 d_1)]∧bif decide (d≤d_1) then K (AV.x false [Ch.v (Value.int IntKind.i64 9)]) else (0≤IntKind.i64.wrap (Int.ofNat x-1)∧IntKind.i64.wrap (Int.ofNat x-1)<Int.ofNat (List.map keyCh ks).length)∧∃(d_2:Int),∃(ys_1:List (List Ch)),ldE (List.map keyCh ks) (IntKind.i64.wrap (Int.ofNat x-1)).toNat 0 2=some [Ch.v (Value.int IntKind.i64 d_2),Ch.s 3 ys_1]∧∃(a_6:ArmV),∃(x_1:KeyV),∃(y:KeyV),[Ch.v (Value.string a.name),Ch.r a.x 63,Ch.r a.y 63,Ch.v (Value.bool a.half),Ch.r a.t 63,Ch.s 16 (List.map linkCh a.links)]=[Ch.v (Value.string a_6.name),Ch.r a_6.x 63,Ch.r a_6.y 63,Ch.v (Value.bool a_6.half),Ch.r a_6.t 63,Ch.s 16 (List.map linkCh a_6.links)]∧[Ch.v (Value.int IntKind.i64 d_2),Ch.s 3 ys_1]=[Ch.v (Value.int IntKind.i64 x_1.tick),Ch.s 3 (lR x_1.n x_1.q)]∧[Ch.v (Value.int IntKind.i64 d),Ch.s 3 ys]=[Ch.v (Value.int IntKind.i64 y.tick),Ch.s 3 (lR y.n y.q)]∧((a_6.links.length≤3∧x_1.q.length=a_6.links.length∧y.q.length=a_6.links.length)∧(x_1.n≤100000∧y.n≤100000)∧(-1000000≤x_1.tick∧x_1.tick≤1000000)∧ -1000000≤y.tick∧y.tick≤1000000)∧((∀(i:Nat) (L:LinkV) (p q:Rat),a_6.links[i]?=some L→x_1.q[i]?=some p→y.q[i]?=some q→absR (q-p)≤L.sp*↑(y.tick-x_1.tick))→∃(x':Nat),(x'≤ks.length∧OfNat.ofNat 0=0∧ks.length-x'<ks.length-x)∧2=2∧List.map keyCh ks=List.map keyCh ks∧0=0∧2=2∧List.map keyCh ks=List.map keyCh ks∧Int.ofNat ks.length=Int.ofNat ks.length∧IntKind.i64.wrap (Int.ofNat x+1)=Int.ofNat x'∧34=34∧a.name=a.name∧a.x=a.x∧63≤63∧a.y=a.y∧63≤63∧a.half=a.half∧a.t=a.t∧63≤63∧16=16∧List.map linkCh a.links=List.map linkCh a.links∧True)∧(¬SlowR a_6 x_1 y→K (AV.x false [Ch.v (Value.int IntKind.i64 19)])))∧(¬Fit a_4 qs→K (AV.x false [Ch.v (Value.int IntKind.i64 17)])) else K (AV.x false [Ch.v (Value.int IntKind.i64 0)])) := by kernel_rfl
theorem g_tCheck (a : ArmV) (ks : List KeyV) (hc : (TrackOK a ks)) (K : AV → Prop) (hK : K (iA .i64 0)) : Holds (goal_tCheck a ks K) := by
 refine ⟨?_⟩
 rw [goal_tCheck_vc]
 try simp only [Int.ofNat_eq_natCast, true_and, and_true, Nat.zero_add, Nat.le_refl, true_implies, true_or, or_true]
 obtain ⟨hg, hn, ⟨N, hN, hk⟩, hf, hs⟩ := hc
 have hl := hg.n
 simp only [List.length_map]
 refine ⟨a, rfl, hg, bif_mk (fun h => by simp only [beq_iff_eq] at h; omega) (fun _ => bif_mk (fun h => by have := of_decide_eq_true h; omega) (fun _ => ⟨⟨0, by omega, trivial, rfl⟩, fun x hx => bif_mk (fun hp => ?_) (fun _ => hK)⟩))⟩
 have hp : x < ks.length := by have := of_decide_eq_true hp; omega
 obtain ⟨y, hy⟩ : ∃ y, ks[x]? = some y := ⟨_, List.getElem?_eq_getElem hp⟩
 have my := List.mem_of_getElem? hy
 have ht := hk.tick y my
 have hny := hk.n y my
 have hly := hk.len y my
 refine ⟨by omega, _, _, key_ld (by simpa using hy), bif_mk (fun h => by have := of_decide_eq_true h; omega) (fun _ => bif_mk (fun h => by have := of_decide_eq_true h; omega) (fun _ => ⟨a, y.n, y.q, rfl, rfl, ⟨hg, by omega, hly⟩, fun _ => bif_mk (fun h0 => ⟨x + 1, ⟨by omega, by omega⟩, by rw [w64 (by omega)]; simp⟩) (fun h0 => ?_), fun h => absurd (hf y my) h⟩))⟩
 have h0 : x ≠ 0 := fun e => by subst e; simp at h0
 obtain ⟨w, hw⟩ : ∃ w, ks[x - 1]? = some w := ⟨_, List.getElem?_eq_getElem (by omega)⟩
 have mw := List.mem_of_getElem? hw
 have hinc := hk.inc (x - 1) w y hw (by rw [show x - 1 + 1 = x by omega]; exact hy)
 have hsl := hs (x - 1) w y hw (by rw [show x - 1 + 1 = x by omega]; exact hy)
 have hwt := hk.tick w mw
 have hnw := hk.n w mw
 have hlw := hk.len w mw
 have e1 : IntKind.i64.wrap ((x : Int) - 1) = ((x - 1 : Nat) : Int) := by rw [w64 (by omega)]; omega
 rw [e1, Int.toNat_natCast]
 refine ⟨by omega, _, key_ld0 hw, bif_mk (fun h => by have := of_decide_eq_true h; omega) (fun _ => ⟨by omega, _, _, key_ld hw, a, w, y, rfl, rfl, rfl, ⟨⟨by omega, hlw, hly⟩, ⟨by omega, by omega⟩, ⟨by omega, by omega⟩, by omega, by omega⟩, fun _ => ⟨x + 1, ⟨by omega, by omega⟩, by rw [w64 (by omega)]; simp⟩, fun h => absurd hsl h⟩)⟩
def c_tCheck : Ctr := fun as0 => match as0 with
 | [.x true xs, .x false [.s 2 ys]] => some fun K => ∃ (a : ArmV) (ks : List KeyV), xs = armCh a ∧ ys = ks.map keyCh ∧ ((TrackOK a ks)) ∧ (K (iA .i64 0))
 | _ => none
theorem ok_tCheck : CtrOK Tryd.prog tabG debT 33 c_tCheck := by
 refine ⟨enters Tryd.func33 (by kernel_rfl), fun l T hT K hK => ?_⟩
 unfold c_tCheck at hT
 split at hT
 ·cases hT
  obtain ⟨a, ks, rfl, rfl, hc, hK⟩ := hK
  exact spec_ofL T53tok mixed Tryd.func33 (by kernel_rfl) (by kernel_rfl) (by rfl) (g_tCheck _ _ hc K hK)
 ·cases hT
def L54t : List (Nat × Ctr) := (33, c_tCheck) :: L53t
def T54t : Tabs := mkT L54t M48 X4
end Go.Proofs
