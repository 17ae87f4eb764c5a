/- track: copied, At, Speed. -/
import Derived.Test.YtglebancgilfdaaDoorA1
import Derived.Test.YtglebancgilfdaaDoorTk
/- track: copied, At, Speed. -/
namespace Go.Proofs
open Go Go.Eng
def keyCh (k : KeyV) : List Ch := [.v (.int .i64 k.tick), .s 3 (lR k.n k.q)]
def trkA (ks : List KeyV) : AV := .x false [.s 2 (ks.map keyCh)]
def zKey : KeyV := ⟨0, 0, []⟩
theorem key_ld {l : List KeyV} {i : Nat} {k : KeyV} (h : l[i]? = some k) : ldE (l.map keyCh) i 0 2 = some [.v (.int .i64 k.tick), .s 3 (lR k.n k.q)] := by
 simp only [ldE, List.getElem?_map, h]; rfl
theorem key_ld0 {l : List KeyV} {i : Nat} {k : KeyV} (h : l[i]? = some k) : ldE (l.map keyCh) i 0 1 = some [.v (.int .i64 k.tick)] := by
 simp only [ldE, List.getElem?_map, h]; rfl
theorem key_ld1 {l : List KeyV} {i : Nat} {k : KeyV} (h : l[i]? = some k) : ldE (l.map keyCh) i 1 1 = some [.s 3 (lR k.n k.q)] := by
 simp only [ldE, List.getElem?_map, h]; rfl
theorem at_first {ks : List KeyV} {a : KeyV} {t : Int} (ha : ks[0]? = some a) (h : t ≤ a.tick) : atR ks t = (a.q, a.n + 65) := by
 match ks, ha with
 | b :: ks, ha => cases ha; rw [atR, if_pos h]
theorem at_later {ks : List KeyV} {a : KeyV} {t : Int} (ha : ks[0]? = some a) (h : ¬ t ≤ a.tick) : atR ks t = atGo (ks.getD (1 - 1) zKey) (ks.drop 1) t := by
 match ks, ha with
 | b :: ks, ha => cases ha; rw [atR, if_neg h]; rfl
def ot_tCopied : OT := fun id => bif id.beq 5 then ([0, 1, 2, 3, 4, 5, 6], [[], [], [], [1, 2], [3, 1, 2], [0, 4, 3, 1, 2], [5, 0, 4, 3, 1, 2]]) else ([], [])
def goal_tCopied (n : Nat) (qs : List Rat) (K : AV → Prop) : Prop := goalL T49 ot_tCopied (fun _ => .inv ⟨Nat, fun k => ⟨[(3, .x false [.w 500 0 k]), (6, sR n qs), (7, iA .i64 qs.length), (8, iA .i64 k)], [(500, rowR (n + 65) (qs.take k))]⟩, fun k => k ≤ qs.length, fun k => qs.length - k, fun _ => 0⟩) Tryd.f39 [sR n qs] K
theorem goal_tCopied_vc (n : Nat) (qs : List Rat) (K : AV → Prop) : goal_tCopied n qs K = ((∃(x:Nat),(x≤qs.length∧OfNat.ofNat 0=0)∧Value.slice none 0 0=Value.slice none 0 0∧0=0∧x=0∧3=3∧lR n qs=lR n qs∧Int.ofNat (lR n qs).length=Int.ofNat qs.length∧0=Int.ofNat x∧List.map (fun(q:Rat)=>[Ch.r q (n+65)]) (List.take x qs)=[]∧True)∧∀(x:Nat),x≤qs.length→OfNat.ofNat 0=0→bif decide (Int.ofNat x<Int.ofNat qs.length) then (0≤Int.ofNat x∧Int.ofNat x<Int.ofNat (lR n qs).length)∧∃(q:Rat),∃(n_1:Nat),ldE (lR n qs) (Int.ofNat x).toNat 0 3=some [Ch.r q n_1]∧((-9223372036854775808:Int)≤0∧(0:Int)<9223372036854775808)∧n_1+64+1≤4294967296∧((x+1)*40≤140737488355328∧x+1≤9223372036854775807)∧∃(x':Nat),(x'≤qs.length∧OfNat.ofNat 0=0∧qs.length-x'<qs.length-x)∧0=0∧x+1=x'∧3=3∧lR n qs=lR n qs∧Int.ofNat qs.length=Int.ofNat qs.length∧IntKind.i64.wrap (Int.ofNat x+1)=Int.ofNat x'∧25=25∧3=3∧(List.take x (List.map (fun(q:Rat)=>[Ch.r q (n+65)]) (List.take x qs))++[[Ch.r (q+↑(0:Int)) (n_1+64+1)]]=List.map (fun(q:Rat)=>[Ch.r q (n+65)]) (List.take x' qs)∨RowLE (List.take x (List.map (fun(q:Rat)=>[Ch.r q (n+65)]) (List.take x qs))++[[Ch.r (q+↑(0:Int)) (n_1+64+1)]]) (List.map (fun(q:Rat)=>[Ch.r q (n+65)]) (List.take x' qs)))∧True else K (AV.x false [Ch.s 3 (List.take x (List.drop 0 (List.map (fun(q:Rat)=>[Ch.r q (n+65)]) (List.take x qs))))])) := by kernel_rfl
theorem g_tCopied (n : Nat) (qs : List Rat) (hc : (n ≤ 1000000 ∧ qs.length ≤ 1000000)) (K : AV → Prop) (hK : K (sR (n + 65) qs)) : Holds (goal_tCopied n qs K) := by
 refine ⟨?_⟩
 rw [goal_tCopied_vc]
 try simp only [Int.ofNat_eq_natCast, true_and, and_true, Nat.zero_add, Nat.le_refl, true_implies, true_or, or_true]
 refine ⟨⟨0, by omega, rfl, by rw [lR_len], rfl, by simp⟩, fun x hx => bif_mk (fun hp => ?_) (fun hp => ?_)⟩
 ·have hp : x < qs.length := by have := of_decide_eq_true hp; omega
  obtain ⟨q, hq⟩ : ∃ q, qs[x]? = some q := ⟨_, List.getElem?_eq_getElem hp⟩
  refine ⟨by rw [lR_len]; omega, _, _, lR_ld (by simpa using hq), by omega, by omega, by omega, x + 1, ⟨by omega, by omega⟩, rfl, by rw [w64 (by omega)]; simp, .inl ?_⟩
  rw [List.take_of_length_le (by rw [List.length_map, List.length_take]; omega), List.take_add_one, hq, List.map_append]
  simp only [Option.toList, List.map_cons, List.map_nil]
  rw [show q + ((0 : Int) : Rat) = q by rw [Rat.intCast_zero, Rat.add_zero]]
 ·have hp : x = qs.length := by have := of_decide_eq_false hp; omega
  subst hp
  rw [List.drop_zero, List.take_length, List.take_of_length_le (by rw [List.length_map]; exact Nat.le_refl _)]
  exact hK
def c_tCopied : Ctr := fun as0 => match as0 with
 | [.x false [.s 3 xs]] => some fun K => ∃ (n : Nat) (qs : List Rat), xs = lR n qs ∧ ((n ≤ 1000000 ∧ qs.length ≤ 1000000)) ∧ (K (sR (n + 65) qs))
 | _ => none
theorem ok_tCopied : CtrOK Tryd.prog tabG debT 39 c_tCopied := by
 refine ⟨enters Tryd.func39 (by kernel_rfl), fun l T hT K hK => ?_⟩
 unfold c_tCopied at hT
 split at hT
 ·cases hT
  obtain ⟨n, qs, rfl, hc, hK⟩ := hK
  exact spec_ofL T49ok mixed Tryd.func39 (by kernel_rfl) (by kernel_rfl) (by rfl) (g_tCopied _ _ hc K hK)
 ·cases hT
def L50t : List (Nat × Ctr) := (39, c_tCopied) :: L49
noncomputable def T50t : Tabs := mkT L50t M48 X4
theorem L50tok : CtrsOK Tryd.prog tabG debT L50t := .cons ok_tCopied L49ok
theorem T50tok : TabsOK Tryd.prog tabG debT T50t := mkTok L50tok M48ok X4ok
def ot_tAt : OT := fun id => bif id.beq 9 then ([0, 1, 2, 3, 4, 5, 6, 7, 8, 9, 10, 11, 12], [[], [], [1], [0, 2, 1], [3, 0, 2, 1], [], [], [5, 6], [7, 5, 6], [], [], [9, 4, 3, 0, 2, 1, 10], [10, 8, 7, 5, 6, 11, 9, 4, 3, 0, 2, 1]]) else bif id.beq 11 then ([0, 2, 4, 5, 7, 13, 1, 3, 6, 8, 9, 10, 11, 12, 14, 15], [[], [0], [], [1, 0, 2], [], [4], [5, 4, 3, 1, 0, 2], [], [6, 5, 4, 3, 1, 0, 2, 7], [3, 1, 0, 2, 8, 6, 5, 4, 7], [9, 3, 1, 0, 2, 8, 6, 5, 4, 7], [10, 9, 3, 1, 0, 2, 8, 6, 5, 4, 7], [10, 9, 3, 1, 0, 2, 8, 6, 5, 4, 7], [], [13, 11, 10, 9, 3, 1, 0, 2, 8, 6, 5, 4, 7], [12, 10, 9, 3, 1, 0, 2, 8, 6, 5, 4, 7, 14, 13, 11]]) else bif id.beq 16 then ([0, 1, 2, 3, 4, 5, 6, 7, 8, 9, 10, 11, 12, 13, 14, 15, 16, 17, 18, 19, 20, 21, 22], [[], [], [1], [], [2, 1, 3], [4, 2, 1, 3], [], [], [7], [], [8, 7, 9], [10, 8, 7, 9], [], [12], [], [13, 12, 14], [15, 13, 12, 14], [11, 10, 8, 7, 9, 16, 15, 13, 12, 14], [6, 17, 11, 10, 8, 7, 9, 16, 15, 13, 12, 14], [5, 4, 2, 1, 3, 18, 6, 17, 11, 10, 8, 7, 9, 16, 15, 13, 12, 14], [19, 5, 4, 2, 1, 3, 18, 6, 17, 11, 10, 8, 7, 9, 16, 15, 13, 12, 14], [0, 20, 19, 5, 4, 2, 1, 3, 18, 6, 17, 11, 10, 8, 7, 9, 16, 15, 13, 12, 14], [21, 0, 20, 19, 5, 4, 2, 1, 3, 18, 6, 17, 11, 10, 8, 7, 9, 16, 15, 13, 12, 14]]) else ([], [])
def goal_tAt (ks : List KeyV) (m : Nat) (N : Nat) (t : Int) (K : AV → Prop) : Prop := goalL T50t ot_tAt (fun id => bif id.beq 6 then .inv ⟨Nat, fun i => ⟨[(0, trkA ks), (1, iA .i64 t), (5, iA .i64 i)], []⟩, fun i => (1 ≤ i ∧ i ≤ ks.length) ∧ atR ks t = atGo (ks.getD (i - 1) zKey) (ks.drop i) t, fun i => ks.length - i, fun _ => 0⟩ else .inv ⟨Nat × Nat, fun x => ⟨[(6, .x false [.p 6 0]), (7, .x false [.p 7 0]), (9, .x false [.p 9 0]), (11, .x false [.w 500 0 x.2]), (71, iA .i64 m), (72, iA .i64 x.2)], [(6, .box 47 (keyCh (ks.getD (x.1 - 1) zKey))), (7, .box 47 (keyCh (ks.getD x.1 zKey))), (9, .box 25 [.r (fracT (ks.getD (x.1 - 1) zKey) (ks.getD x.1 zKey) t) 258]), (500, rowR (2 * (ks.getD (x.1 - 1) zKey).n + (ks.getD x.1 zKey).n + 260) ((interp (ks.getD (x.1 - 1) zKey) (ks.getD x.1 zKey) t).take x.2))]⟩, fun x => ((1 ≤ x.1 ∧ x.1 < ks.length) ∧ atR ks t = (interp (ks.getD (x.1 - 1) zKey) (ks.getD x.1 zKey) t, 2 * (ks.getD (x.1 - 1) zKey).n + (ks.getD x.1 zKey).n + 260)) ∧ x.2 ≤ m, fun x => m - x.2, fun x => ks.length - x.1⟩) Tryd.f12 [trkA ks, iA .i64 t] K
theorem goal_tAt_vc (ks : List KeyV) (m : Nat) (N : Nat) (t : Int) (K : AV → Prop) : goal_tAt ks m N t K = (bif Int.ofNat (List.map keyCh ks).length==0 then K (AV.x false [Ch.v (Value.slice none 0 0)]) else ((0:Int)≤0∧0<Int.ofNat (List.map keyCh ks).length)∧∃(d:Int),ldE (List.map keyCh ks) 0 0 1=some [Ch.v (Value.int IntKind.i64 d)]∧bif decide (t≤d) then ((0:Int)≤0∧0<Int.ofNat (List.map keyCh ks).length)∧∃(ys:List (List Ch)),ldE (List.map keyCh ks) 0 1 1=some [Ch.s 3 ys]∧∃(n:Nat),∃(qs:List Rat),ys=lR n qs∧(n≤1000000∧qs.length≤1000000)∧K (AV.x false [Ch.s 3 (lR (n+65) qs)]) else (∃(x:Nat),(((1≤x∧x≤ks.length)∧atR ks t=atGo (ks.getD (x-1) zKey) (List.drop x ks) t)∧OfNat.ofNat 0=0)∧2=2∧List.map keyCh ks=List.map keyCh ks∧t=t∧1=Int.ofNat x∧True)∧∀(x:Nat),(1≤x∧x≤ks.length)∧atR ks t=atGo (ks.getD (x-1) zKey) (List.drop x ks) t→OfNat.ofNat 0=0→bif decide (Int.ofNat x<Int.ofNat (List.map keyCh ks).length) then (0≤Int.ofNat x∧Int.ofNat x<Int.ofNat (List.map keyCh ks).length)∧∃(d:Int),ldE (List.map keyCh ks) (Int.ofNat x).toNat 0 1=some [Ch.v (Value.int IntKind.i64 d)]∧bif decide (d≤t) then ∃(x':Nat),(((1≤x'∧x'≤ks.length)∧atR ks t=atGo (ks.getD (x'-1) zKey) (List.drop x' ks) t)∧OfNat.ofNat 0=0∧ks.length-x'<ks.length-x)∧2=2∧List.map keyCh ks=List.map keyCh ks∧t=t∧IntKind.i64.wrap (Int.ofNat x+1)=Int.ofNat x'∧True else (0≤IntKind.i64.wrap (Int.ofNat x-1)∧IntKind.i64.wrap (Int.ofNat x-1)<Int.ofNat (List.map keyCh ks).length)∧∃(d:Int),∃(ys:List (List Ch)),ldE (List.map keyCh ks) (IntKind.i64.wrap (Int.ofNat x-1)).toNat 0 2=some [Ch.v (Value.int IntKind.i64 d),Ch.s 3 ys]∧(0≤Int.ofNat x∧Int.ofNat x<Int.ofNat (List.map keyCh ks).length)∧∃(d_1:Int),∃(ys_1:List (List Ch)),ldE (List.map keyCh ks) (Int.ofNat x).toNat 0 2=some [Ch.v (Value.int IntKind.i64 d_1),Ch.s 3 ys_1]∧(-9223372036854775808≤d∧d<9223372036854775808)∧(-9223372036854775808≤t∧t<9223372036854775808)∧129≤4294967296∧(-9223372036854775808≤d_1∧d_1<9223372036854775808)∧129≤4294967296∧258≤4294967296∧((↑d_1:Rat)-(↑d:Rat)≠OfNat.ofNat 0→(∃(x_1:Nat × Nat),((((1≤x_1.fst∧x_1.fst<ks.length)∧atR ks t=(interp (ks.getD (x_1.fst-1) zKey) (ks.getD x_1.fst zKey) t,2*(ks.getD (x_1.fst-1) zKey).n+(ks.getD x_1.fst zKey).n+260))∧x_1.snd≤m)∧ks.length-x_1.fst=ks.length-x)∧0=0∧0=0∧0=0∧Value.slice none 0 0=Value.slice none 0 0∧0=0∧x_1.snd=0∧(bif false then if Int.ofNat ys_1.length>Int.ofNat ys.length then Int.ofNat ys_1.length else Int.ofNat ys.length else if Int.ofNat ys_1.length<Int.ofNat ys.length then Int.ofNat ys_1.length else Int.ofNat ys.length)=Int.ofNat m∧0=Int.ofNat x_1.snd∧47=47∧d=(ks.getD (x_1.fst-1) zKey).tick∧3=3∧ys=lR (ks.getD (x_1.fst-1) zKey).n (ks.getD (x_1.fst-1) zKey).q∧47=47∧d_1=(ks.getD x_1.fst zKey).tick∧3=3∧ys_1=lR (ks.getD x_1.fst zKey).n (ks.getD x_1.fst zKey).q∧25=25∧((↑t:Rat)-(↑d:Rat))/((↑d_1:Rat)-(↑d:Rat))=fracT (ks.getD (x_1.fst-1) zKey) (ks.getD x_1.fst zKey) t∧258≤258∧List.map (fun(q:Rat)=>[Ch.r q (2*(ks.getD (x_1.fst-1) zKey).n+(ks.getD x_1.fst zKey).n+260)]) (List.take x_1.snd (interp (ks.getD (x_1.fst-1) zKey) (ks.getD x_1.fst zKey) t))=[]∧True)∧∀(x_1:Nat × Nat),((1≤x_1.fst∧x_1.fst<ks.length)∧atR ks t=(interp (ks.getD (x_1.fst-1) zKey) (ks.getD x_1.fst zKey) t,2*(ks.getD (x_1.fst-1) zKey).n+(ks.getD x_1.fst zKey).n+260))∧x_1.snd≤m→ks.length-x_1.fst=ks.length-x→bif decide (Int.ofNat x_1.snd<Int.ofNat m) then (0≤Int.ofNat x_1.snd∧Int.ofNat x_1.snd<Int.ofNat (lR (ks.getD (x_1.fst-1) zKey).n (ks.getD (x_1.fst-1) zKey).q).length)∧∃(q:Rat),∃(n:Nat),ldE (lR (ks.getD (x_1.fst-1) zKey).n (ks.getD (x_1.fst-1) zKey).q) (Int.ofNat x_1.snd).toNat 0 3=some [Ch.r q n]∧(0≤Int.ofNat x_1.snd∧Int.ofNat x_1.snd<Int.ofNat (lR (ks.getD x_1.fst zKey).n (ks.getD x_1.fst zKey).q).length)∧∃(q_1:Rat),∃(n_1:Nat),ldE (lR (ks.getD x_1.fst zKey).n (ks.getD x_1.fst zKey).q) (Int.ofNat x_1.snd).toNat 0 3=some [Ch.r q_1 n_1]∧(0≤Int.ofNat x_1.snd∧Int.ofNat x_1.snd<Int.ofNat (lR (ks.getD (x_1.fst-1) zKey).n (ks.getD (x_1.fst-1) zKey).q).length)∧∃(q_2:Rat),∃(n_2:Nat),ldE (lR (ks.getD (x_1.fst-1) zKey).n (ks.getD (x_1.fst-1) zKey).q) (Int.ofNat x_1.snd).toNat 0 3=some [Ch.r q_2 n_2]∧n_1+n_2+1≤4294967296∧258+(n_1+n_2+1)≤4294967296∧n+(258+(n_1+n_2+1))+1≤4294967296∧((x_1.snd+1)*40≤140737488355328∧x_1.snd+1≤9223372036854775807)∧∃(x':Nat × Nat),((((1≤x'.fst∧x'.fst<ks.length)∧atR ks t=(interp (ks.getD (x'.fst-1) zKey) (ks.getD x'.fst zKey) t,2*(ks.getD (x'.fst-1) zKey).n+(ks.getD x'.fst zKey).n+260))∧x'.snd≤m)∧ks.length-x'.fst=ks.length-x∧m-x'.snd<m-x_1.snd)∧0=0∧0=0∧0=0∧0=0∧x_1.snd+1=x'.snd∧Int.ofNat m=Int.ofNat m∧IntKind.i64.wrap (Int.ofNat x_1.snd+1)=Int.ofNat x'.snd∧47=47∧(ks.getD (x_1.fst-1) zKey).tick=(ks.getD (x'.fst-1) zKey).tick∧3=3∧lR (ks.getD (x_1.fst-1) zKey).n (ks.getD (x_1.fst-1) zKey).q=lR (ks.getD (x'.fst-1) zKey).n (ks.getD (x'.fst-1) zKey).q∧47=47∧(ks.getD x_1.fst zKey).tick=(ks.getD x'.fst zKey).tick∧3=3∧lR (ks.getD x_1.fst zKey).n (ks.getD x_1.fst zKey).q=lR (ks.getD x'.fst zKey).n (ks.getD x'.fst zKey).q∧25=25∧fracT (ks.getD (x_1.fst-1) zKey) (ks.getD x_1.fst zKey) t=fracT (ks.getD (x'.fst-1) zKey) (ks.getD x'.fst zKey) t∧258≤258∧25=25∧3=3∧(List.take x_1.snd (List.map (fun(q:Rat)=>[Ch.r q (2*(ks.getD (x_1.fst-1) zKey).n+(ks.getD x_1.fst zKey).n+260)]) (List.take x_1.snd (interp (ks.getD (x_1.fst-1) zKey) (ks.getD x_1.fst zKey) t)))++[[Ch.r (q+fracT (ks.getD (x_1.fst-1) zKey) (ks.getD x_1.fst zKey) t*(q_1-q_2)) (n+(258+(n_1+n_2+1))+1)]]=List.map (fun(q:Rat)=>[Ch.r q (2*(ks.getD (x'.fst-1) zKey).n+(ks.getD x'.fst zKey).n+260)]) (List.take x'.snd (interp (ks.getD (x'.fst-1) zKey) (ks.getD x'.fst zKey) t))∨RowLE (List.take x_1.snd (List.map (fun(q:Rat)=>[Ch.r q (2*(ks.getD (x_1.fst-1) zKey).n+(ks.getD x_1.fst zKey).n+260)]) (List.take x_1.snd (interp (ks.getD (x_1.fst-1) zKey) (ks.getD x_1.fst zKey) t)))++[[Ch.r (q+fracT (ks.getD (x_1.fst-1) zKey) (ks.getD x_1.fst zKey) t*(q_1-q_2)) (n+(258+(n_1+n_2+1))+1)]]) (List.map (fun(q:Rat)=>[Ch.r q (2*(ks.getD (x'.fst-1) zKey).n+(ks.getD x'.fst zKey).n+260)]) (List.take x'.snd (interp (ks.getD (x'.fst-1) zKey) (ks.getD x'.fst zKey) t))))∧True else K (AV.x false [Ch.s 3 (List.take x_1.snd (List.drop 0 (List.map (fun(q:Rat)=>[Ch.r q (2*(ks.getD (x_1.fst-1) zKey).n+(ks.getD x_1.fst zKey).n+260)]) (List.take x_1.snd (interp (ks.getD (x_1.fst-1) zKey) (ks.getD x_1.fst zKey) t)))))]))∧((↑d_1:Rat)-(↑d:Rat)=OfNat.ofNat 0→(∃(x_1:Nat × Nat),((((1≤x_1.fst∧x_1.fst<ks.length)∧atR ks t=(interp (ks.getD (x_1.fst-1) zKey) (ks.getD x_1.fst zKey) t,2*(ks.getD (x_1.fst-1) zKey).n+(ks.getD x_1.fst zKey).n+260))∧x_1.snd≤m)∧ks.length-x_1.fst=ks.length-x)∧0=0∧0=0∧0=0∧Value.slice none 0 0=Value.slice none 0 0∧0=0∧x_1.snd=0∧(bif false then if Int.ofNat ys_1.length>Int.ofNat ys.length then Int.ofNat ys_1.length else Int.ofNat ys.length else if Int.ofNat ys_1.length<Int.ofNat ys.length then Int.ofNat ys_1.length else Int.ofNat ys.length)=Int.ofNat m∧0=Int.ofNat x_1.snd∧47=47∧d=(ks.getD (x_1.fst-1) zKey).tick∧3=3∧ys=lR (ks.getD (x_1.fst-1) zKey).n (ks.getD (x_1.fst-1) zKey).q∧47=47∧d_1=(ks.getD x_1.fst zKey).tick∧3=3∧ys_1=lR (ks.getD x_1.fst zKey).n (ks.getD x_1.fst zKey).q∧25=25∧False)∧∀(x_1:Nat × Nat),((1≤x_1.fst∧x_1.fst<ks.length)∧atR ks t=(interp (ks.getD (x_1.fst-1) zKey) (ks.getD x_1.fst zKey) t,2*(ks.getD (x_1.fst-1) zKey).n+(ks.getD x_1.fst zKey).n+260))∧x_1.snd≤m→ks.length-x_1.fst=ks.length-x→bif decide (Int.ofNat x_1.snd<Int.ofNat m) then (0≤Int.ofNat x_1.snd∧Int.ofNat x_1.snd<Int.ofNat (lR (ks.getD (x_1.fst-1) zKey).n (ks.getD (x_1.fst-1) zKey).q).length)∧∃(q:Rat),∃(n:Nat),ldE (lR (ks.getD (x_1.fst-1) zKey).n (ks.getD (x_1.fst-1) zKey).q) (Int.ofNat x_1.snd).toNat 0 3=some [Ch.r q n]∧(0≤Int.ofNat x_1.snd∧Int.ofNat x_1.snd<Int.ofNat (lR (ks.getD x_1.fst zKey).n (ks.getD x_1.fst zKey).q).length)∧∃(q_1:Rat),∃(n_1:Nat),ldE (lR (ks.getD x_1.fst zKey).n (ks.getD x_1.fst zKey).q) (Int.ofNat x_1.snd).toNat 0 3=some [Ch.r q_1 n_1]∧(0≤Int.ofNat x_1.snd∧Int.ofNat x_1.snd<Int.ofNat (lR (ks.getD (x_1.fst-1) zKey).n (ks.getD (x_1.fst-1) zKey).q).length)∧∃(q_2:Rat),∃(n_2:Nat),ldE (lR (ks.getD (x_1.fst-1) zKey).n (ks.getD (x_1.fst-1) zKey).q) (Int.ofNat x_1.snd).toNat 0 3=some [Ch.r q_2 n_2]∧n_1+n_2+1≤4294967296∧258+(n_1+n_2+1)≤4294967296∧n+(258+(n_1+n_2+1))+1≤4294967296∧((x_1.snd+1)*40≤140737488355328∧x_1.snd+1≤9223372036854775807)∧∃(x':Nat × Nat),((((1≤x'.fst∧x'.fst<ks.length)∧atR ks t=(interp (ks.getD (x'.fst-1) zKey) (ks.getD x'.fst zKey) t,2*(ks.getD (x'.fst-1) zKey).n+(ks.getD x'.fst zKey).n+260))∧x'.snd≤m)∧ks.length-x'.fst=ks.length-x∧m-x'.snd<m-x_1.snd)∧0=0∧0=0∧0=0∧0=0∧x_1.snd+1=x'.snd∧Int.ofNat m=Int.ofNat m∧IntKind.i64.wrap (Int.ofNat x_1.snd+1)=Int.ofNat x'.snd∧47=47∧(ks.getD (x_1.fst-1) zKey).tick=(ks.getD (x'.fst-1) zKey).tick∧3=3∧lR (ks.getD (x_1.fst-1) zKey).n (ks.getD (x_1.fst-1) zKey).q=lR (ks.getD (x'.fst-1) zKey).n (ks.getD (x'.fst-1) zKey).q∧47=47∧(ks.getD x_1.fst zKey).tick=(ks.getD x'.fst zKey).tick∧3=3∧lR (ks.getD x_1.fst zKey).n (ks.getD x_1.fst zKey).q=lR (ks.getD x'.fst zKey).n (ks.getD x'.fst zKey).q∧25=25∧fracT (ks.getD (x_1.fst-1) zKey) (ks.getD x_1.fst zKey) t=fracT (ks.getD (x'.fst-1) zKey) (ks.getD x'.fst zKey) t∧258≤258∧25=25∧3=3∧(List.take x_1.snd (List.map (fun(q:Rat)=>[Ch.r q (2*(ks.getD (x_1.fst-1) zKey).n+(ks.getD x_1.fst zKey).n+260)]) (List.take x_1.snd (interp (ks.getD (x_1.fst-1) zKey) (ks.getD x_1.fst zKey) t)))++[[Ch.r (q+fracT (ks.getD (x_1.fst-1) zKey) (ks.getD x_1.fst zKey) t*(q_1-q_2)) (n+(258+(n_1+n_2+1))+1)]]=List.map (fun(q:Rat)=>[Ch.r q (2*(ks.getD (x'.fst-1) zKey).n+(ks.getD x'.fst zKey).n+260)]) (List.take x'.snd (interp (ks.getD (x'.fst-1) zKey) (ks.getD x'.fst zKey) t))∨RowLE (List.take x_1.snd (List.map (fun(q:Rat)=>[Ch.r q (2*(ks.getD (x_1.fst-1) zKey).n+(ks.getD x_1.fst zKey).n+260)]) (List.take x_1.snd (interp (ks.getD (x_1.fst-1) zKey) (ks.getD x_1.fst zKey) t)))++[[Ch.r (q+fracT (ks.getD (x_1.fst-1) zKey) (ks.getD x_1.fst zKey) t*(q_1-q_2)) (n+(258+(n_1+n_2+1))+1)]]) (List.map (fun(q:Rat)=>[Ch.r q (2*(ks.getD (x'.fst-1) zKey).n+(ks.getD x'.fst zKey).n+260)]) (List.take x'.snd (interp (ks.getD (x'.fst-1) zKey) (ks.getD x'.fst zKey) t))))∧True else K (AV.x false [Ch.s 3 (List.take x_1.snd (List.drop 0 (List.map (fun(q:Rat)=>[Ch.r q (2*(ks.getD (x_1.fst-1) zKey).n+(ks.getD x_1.fst zKey).n+260)]) (List.take x_1.snd (interp (ks.getD (x_1.fst-1) zKey) (ks.getD x_1.fst zKey) t)))))])) else (0≤IntKind.i64.wrap (Int.ofNat (List.map keyCh ks).length-1)∧IntKind.i64.wrap (Int.ofNat (List.map keyCh ks).length-1)<Int.ofNat (List.map keyCh ks).length)∧∃(ys:List (List Ch)),ldE (List.map keyCh ks) (IntKind.i64.wrap (Int.ofNat (List.map keyCh ks).length-1)).toNat 1 1=some [Ch.s 3 ys]∧∃(n:Nat),∃(qs:List Rat),ys=lR n qs∧(n≤1000000∧qs.length≤1000000)∧K (AV.x false [Ch.s 3 (lR (n+65) qs)])) := by kernel_rfl
theorem g_tAt (ks : List KeyV) (m : Nat) (N : Nat) (t : Int) (hc : (KeysOK ks m N) ∧ ((N ≤ 10000 ∧ m ≤ 100000 ∧ 1 ≤ ks.length ∧ ks.length ≤ 100000) ∧ -4611686018427387904 ≤ t ∧ t < 4611686018427387904)) (K : AV → Prop) (hK : K (sR (atR ks t).2 (atR ks t).1)) : Holds (goal_tAt ks m N t K) := by
 refine ⟨?_⟩
 rw [goal_tAt_vc]
 try simp only [Int.ofNat_eq_natCast, true_and, and_true, Nat.zero_add, Nat.le_refl, true_implies, true_or, or_true]
 obtain ⟨hk, ⟨hN, hm, hn, hn2⟩, ht⟩ := hc
 obtain ⟨a, ha⟩ : ∃ a, ks[0]? = some a := ⟨_, List.getElem?_eq_getElem (by omega)⟩
 have ma := List.mem_of_getElem? ha
 simp only [List.length_map]
 refine bif_mk (fun h => by simp only [beq_iff_eq] at h; omega) (fun _ => ⟨by omega, _, key_ld0 ha, bif_mk (fun h => ⟨by omega, _, key_ld1 ha, a.n, a.q, rfl, ⟨by have := hk.n a ma; omega, by rw [hk.len a ma]; omega⟩, ?_⟩) (fun h => ⟨⟨1, ⟨by omega, ?_⟩, rfl⟩, fun x hx => bif_mk (fun hp => ?_) (fun hp => ?_)⟩)⟩)
 ·have e : atR ks t = (a.q, a.n + 65) := at_first ha (of_decide_eq_true h)
  rw [e] at hK
  exact hK
 ·exact at_later ha (of_decide_eq_false h)
 ·obtain ⟨⟨hx1, hx2⟩, he⟩ := hx
  have hp : x < ks.length := by have := of_decide_eq_true hp; omega
  obtain ⟨y, hy⟩ : ∃ y, ks[x]? = some y := ⟨_, List.getElem?_eq_getElem hp⟩
  have my := List.mem_of_getElem? hy
  have hd : ks.drop x = y :: ks.drop (x + 1) := by
   rw [List.drop_eq_getElem_cons hp]
   rw [List.getElem?_eq_getElem hp] at hy
   rw [Option.some.inj hy]
  have hyt := hk.tick y my
  have hgy : ks.getD x zKey = y := by rw [List.getD_eq_getElem?_getD, hy]; rfl
  rw [hd] at he
  refine ⟨by omega, _, key_ld0 (by simpa using hy), bif_mk (fun hle => ?_) (fun hle => ?_)⟩
  ·have hle := of_decide_eq_true hle
   refine ⟨x + 1, ⟨⟨⟨by omega, by omega⟩, ?_⟩, by omega⟩, by rw [w64 (by omega)]; simp⟩
   rw [he, atGo, if_pos hle, show x + 1 - 1 = x by omega, hgy]
  ·have hle := of_decide_eq_false hle
   obtain ⟨w, hw⟩ : ∃ w, ks[x - 1]? = some w := ⟨_, List.getElem?_eq_getElem (by omega)⟩
   have mw := List.mem_of_getElem? hw
   have hgw : ks.getD (x - 1) zKey = w := by rw [List.getD_eq_getElem?_getD, hw]; rfl
   have hwt := hk.tick w mw
   have hinc := hk.inc (x - 1) w y hw (by rw [show x - 1 + 1 = x by omega]; exact hy)
   rw [atGo, if_neg hle, hgw] at he
   have e1 : IntKind.i64.wrap ((x : Int) - 1) = ((x - 1 : Nat) : Int) := by rw [w64 (by omega)]; omega
   rw [e1, Int.toNat_natCast]
   refine ⟨by omega, _, _, key_ld hw, by omega, _, _, key_ld (by simpa using hy), by omega, by omega, by omega, by omega, by omega, by omega, fun hne => ?_, fun h0 => ?_⟩
   ·have lw := hk.len w mw
    have ly := hk.len y my
    have nw := hk.n w mw
    have ny := hk.n y my
    have li : (interp w y t).length = m := by unfold interp; rw [mix_len (by omega), lw]
    refine ⟨⟨(x, 0), ?_⟩, fun z hz htie => ?_⟩
    ·simp only [hgw, hgy, lR_len, lw, ly]
     exact ⟨⟨⟨⟨⟨hx1, hp⟩, he⟩, by omega⟩, trivial⟩, trivial, by simp, rfl, trivial, trivial, trivial, trivial, rfl, by simp⟩
    ·obtain ⟨i, k⟩ := z
     have hi : i = x := by simp only at hz htie; omega
     subst hi
     simp only [hgw, hgy, lR_len, lw, ly] at hz ⊢
     refine bif_mk (fun hkm => ?_) (fun hkm => ?_)
     ·have hkm : k < m := by have := of_decide_eq_true hkm; omega
      obtain ⟨p, hpp⟩ : ∃ p, w.q[k]? = some p := ⟨_, List.getElem?_eq_getElem (by omega)⟩
      obtain ⟨r, hr⟩ : ∃ r, y.q[k]? = some r := ⟨_, List.getElem?_eq_getElem (by omega)⟩
      refine ⟨by omega, p, w.n, lR_ld (by simpa using hpp), by omega, r, y.n, lR_ld (by simpa using hr), by omega, p, w.n, lR_ld (by simpa using hpp), by omega, by omega, by omega, by omega, (i, k + 1), ?_⟩
      simp only [hgw, hgy]
      refine ⟨⟨⟨⟨⟨hx1, hp⟩, he⟩, by omega⟩, trivial, by omega⟩, trivial, by rw [w64 (by omega)]; simp, trivial, trivial, trivial, trivial, trivial, .inl ?_⟩
      rw [List.take_of_length_le (by rw [List.length_map, List.length_take]; omega), List.take_add_one, show (interp w y t)[k]? = some _ from mix_get hpp hr, List.map_append]
      simp only [Option.toList, List.map_cons, List.map_nil]
      rw [show w.n + (258 + (y.n + w.n + 1)) + 1 = 2 * w.n + y.n + 260 by omega]
     ·have hkm : k = m := by have := of_decide_eq_false hkm; omega
      subst hkm
      rw [List.drop_zero, List.take_of_length_le (by rw [List.length_map, List.length_take]; omega), List.take_of_length_le (by omega)]
      rw [he] at hK
      exact hK
   ·exfalso
    have := tick_lt hinc
    have h0 : (y.tick : Rat) - (w.tick : Rat) = 0 := h0
    grind
 ·obtain ⟨⟨hx1, hx2⟩, he⟩ := hx
  have hp : x = ks.length := by have := of_decide_eq_false hp; omega
  subst hp
  obtain ⟨z, hz⟩ : ∃ z, ks[ks.length - 1]? = some z := ⟨_, List.getElem?_eq_getElem (by omega)⟩
  have mz := List.mem_of_getElem? hz
  rw [List.drop_length, show ks.getD (ks.length - 1) zKey = z by rw [List.getD_eq_getElem?_getD, hz]; rfl, atGo] at he
  rw [he] at hK
  have e1 : IntKind.i64.wrap ((ks.length : Int) - 1) = ((ks.length - 1 : Nat) : Int) := by rw [w64 (by omega)]; omega
  rw [e1, Int.toNat_natCast]
  exact ⟨by omega, _, key_ld1 hz, z.n, z.q, rfl, ⟨by have := hk.n z mz; omega, by rw [hk.len z mz]; omega⟩, hK⟩
def c_tAt : Ctr := fun as0 => match as0 with
 | [.x false [.s 2 xs], .x false [.v (.int .i64 t)]] => some fun K => ∃ (ks : List KeyV) (m : Nat) (N : Nat), xs = ks.map keyCh ∧ ((KeysOK ks m N) ∧ ((N ≤ 10000 ∧ m ≤ 100000 ∧ 1 ≤ ks.length ∧ ks.length ≤ 100000) ∧ -4611686018427387904 ≤ t ∧ t < 4611686018427387904)) ∧ (K (sR (atR ks t).2 (atR ks t).1))
 | _ => none
theorem ok_tAt : CtrOK Tryd.prog tabG debT 12 c_tAt := by
 refine ⟨enters Tryd.func12 (by kernel_rfl), fun l T hT K hK => ?_⟩
 unfold c_tAt at hT
 split at hT
 ·cases hT
  obtain ⟨ks, m, N, rfl, hc, hK⟩ := hK
  exact spec_ofL T50tok mixed Tryd.func12 (by kernel_rfl) (by kernel_rfl) (by rfl) (g_tAt _ _ _ _ hc K hK)
 ·cases hT
def L51t : List (Nat × Ctr) := (12, c_tAt) :: L50t
noncomputable def T51t : Tabs := mkT L51t M48 X4
theorem L51tok : CtrsOK Tryd.prog tabG debT L51t := .cons ok_tAt L50tok
theorem T51tok : TabsOK Tryd.prog tabG debT T51t := mkTok L51tok M48ok X4ok
end Go.Proofs
/- track: Speed, slow, Check. -/
namespace Go.Proofs
open Go Go.Eng
def spdR (ks : List KeyV) (t : Int) : List Rat := List.zipWith (fun x y => y - x) (atR ks t).1 (atR ks (t + 1)).1
def ot_tSpeed : OT := fun id => bif id.beq 9 then ([0, 1, 2, 3, 4, 5, 6, 7, 8, 9, 10, 11, 12], [[], [], [], [1, 2], [3, 1, 2], [], [], [5, 6], [7, 5, 6], [4, 3, 1, 2, 8, 7, 5, 6], [9, 4, 3, 1, 2, 8, 7, 5, 6], [0, 10, 9, 4, 3, 1, 2, 8, 7, 5, 6], [11, 0, 10, 9, 4, 3, 1, 2, 8, 7, 5, 6]]) else ([], [])
def goal_tSpeed (ks : List KeyV) (m : Nat) (N : Nat) (t : Int) (K : AV → Prop) : Prop := goalL T51t ot_tSpeed (fun _ => .inv ⟨Nat, fun k => ⟨[(5, sR (atR ks t).2 (atR ks t).1), (6, sR (atR ks (t + 1)).2 (atR ks (t + 1)).1), (7, .x false [.w 500 0 k]), (23, iA .i64 m), (24, iA .i64 k)], [(500, rowR ((atR ks (t + 1)).2 + (atR ks t).2 + 1) ((spdR ks t).take k))]⟩, fun k => k ≤ m, fun k => m - k, fun _ => 0⟩) Tryd.f15 [trkA ks, iA .i64 t] K
theorem goal_tSpeed_vc (ks : List KeyV) (m : Nat) (N : Nat) (t : Int) (K : AV → Prop) : goal_tSpeed ks m N t K = (∃(ks_1:List KeyV),∃(m_1:Nat),∃(N:Nat),List.map keyCh ks=List.map keyCh ks_1∧(KeysOK ks_1 m_1 N∧(N≤10000∧m_1≤100000∧1≤ks_1.length∧ks_1.length≤100000)∧ -4611686018427387904≤t∧t<4611686018427387904)∧bif decide (t<9223372036854775807) then ∃(ks_2:List KeyV),∃(m_2:Nat),∃(N:Nat),List.map keyCh ks=List.map keyCh ks_2∧(KeysOK ks_2 m_2 N∧(N≤10000∧m_2≤100000∧1≤ks_2.length∧ks_2.length≤100000)∧ -4611686018427387904≤IntKind.i64.wrap (t+1)∧IntKind.i64.wrap (t+1)<4611686018427387904)∧(∃(x:Nat),(x≤m∧OfNat.ofNat 0=0)∧3=3∧lR (atR ks_1 t).snd (atR ks_1 t).fst=lR (atR ks t).snd (atR ks t).fst∧3=3∧lR (atR ks_2 (IntKind.i64.wrap (t+1))).snd (atR ks_2 (IntKind.i64.wrap (t+1))).fst=lR (atR ks (t+1)).snd (atR ks (t+1)).fst∧Value.slice none 0 0=Value.slice none 0 0∧0=0∧x=0∧(bif false then if Int.ofNat (lR (atR ks_2 (IntKind.i64.wrap (t+1))).snd (atR ks_2 (IntKind.i64.wrap (t+1))).fst).length>Int.ofNat (lR (atR ks_1 t).snd (atR ks_1 t).fst).length then Int.ofNat (lR (atR ks_2 (IntKind.i64.wrap (t+1))).snd (atR ks_2 (IntKind.i64.wrap (t+1))).fst).length else Int.ofNat (lR (atR ks_1 t).snd (atR ks_1 t).fst).length else if Int.ofNat (lR (atR ks_2 (IntKind.i64.wrap (t+1))).snd (atR ks_2 (IntKind.i64.wrap (t+1))).fst).length<Int.ofNat (lR (atR ks_1 t).snd (atR ks_1 t).fst).length then Int.ofNat (lR (atR ks_2 (IntKind.i64.wrap (t+1))).snd (atR ks_2 (IntKind.i64.wrap (t+1))).fst).length else Int.ofNat (lR (atR ks_1 t).snd (atR ks_1 t).fst).length)=Int.ofNat m∧0=Int.ofNat x∧List.map (fun(q:Rat)=>[Ch.r q ((atR ks (t+1)).snd+(atR ks t).snd+1)]) (List.take x (spdR ks t))=[]∧True)∧∀(x:Nat),x≤m→OfNat.ofNat 0=0→bif decide (Int.ofNat x<Int.ofNat m) then (0≤Int.ofNat x∧Int.ofNat x<Int.ofNat (lR (atR ks (t+1)).snd (atR ks (t+1)).fst).length)∧∃(q:Rat),∃(n:Nat),ldE (lR (atR ks (t+1)).snd (atR ks (t+1)).fst) (Int.ofNat x).toNat 0 3=some [Ch.r q n]∧(0≤Int.ofNat x∧Int.ofNat x<Int.ofNat (lR (atR ks t).snd (atR ks t).fst).length)∧∃(q_1:Rat),∃(n_1:Nat),ldE (lR (atR ks t).snd (atR ks t).fst) (Int.ofNat x).toNat 0 3=some [Ch.r q_1 n_1]∧n+n_1+1≤4294967296∧((x+1)*40≤140737488355328∧x+1≤9223372036854775807)∧∃(x':Nat),(x'≤m∧OfNat.ofNat 0=0∧m-x'<m-x)∧3=3∧lR (atR ks t).snd (atR ks t).fst=lR (atR ks t).snd (atR ks t).fst∧3=3∧lR (atR ks (t+1)).snd (atR ks (t+1)).fst=lR (atR ks (t+1)).snd (atR ks (t+1)).fst∧0=0∧x+1=x'∧Int.ofNat m=Int.ofNat m∧IntKind.i64.wrap (Int.ofNat x+1)=Int.ofNat x'∧25=25∧3=3∧(List.take x (List.map (fun(q:Rat)=>[Ch.r q ((atR ks (t+1)).snd+(atR ks t).snd+1)]) (List.take x (spdR ks t)))++[[Ch.r (q-q_1) (n+n_1+1)]]=List.map (fun(q:Rat)=>[Ch.r q ((atR ks (t+1)).snd+(atR ks t).snd+1)]) (List.take x' (spdR ks t))∨RowLE (List.take x (List.map (fun(q:Rat)=>[Ch.r q ((atR ks (t+1)).snd+(atR ks t).snd+1)]) (List.take x (spdR ks t)))++[[Ch.r (q-q_1) (n+n_1+1)]]) (List.map (fun(q:Rat)=>[Ch.r q ((atR ks (t+1)).snd+(atR ks t).snd+1)]) (List.take x' (spdR ks t))))∧True else K (AV.x false [Ch.s 3 (List.take x (List.drop 0 (List.map (fun(q:Rat)=>[Ch.r q ((atR ks (t+1)).snd+(atR ks t).snd+1)]) (List.take x (spdR ks t)))))]) else (∃(x:Nat),(x≤m∧OfNat.ofNat 0=0)∧3=3∧lR (atR ks_1 t).snd (atR ks_1 t).fst=lR (atR ks t).snd (atR ks t).fst∧3=3∧lR (atR ks_1 t).snd (atR ks_1 t).fst=lR (atR ks (t+1)).snd (atR ks (t+1)).fst∧Value.slice none 0 0=Value.slice none 0 0∧0=0∧x=0∧(bif false then if Int.ofNat (lR (atR ks_1 t).snd (atR ks_1 t).fst).length>Int.ofNat (lR (atR ks_1 t).snd (atR ks_1 t).fst).length then Int.ofNat (lR (atR ks_1 t).snd (atR ks_1 t).fst).length else Int.ofNat (lR (atR ks_1 t).snd (atR ks_1 t).fst).length else if Int.ofNat (lR (atR ks_1 t).snd (atR ks_1 t).fst).length<Int.ofNat (lR (atR ks_1 t).snd (atR ks_1 t).fst).length then Int.ofNat (lR (atR ks_1 t).snd (atR ks_1 t).fst).length else Int.ofNat (lR (atR ks_1 t).snd (atR ks_1 t).fst).length)=Int.ofNat m∧0=Int.ofNat x∧List.map (fun(q:Rat)=>[Ch.r q ((atR ks (t+1)).snd+(atR ks t).snd+1)]) (List.take x (spdR ks t))=[]∧True)∧∀(x:Nat),x≤m→OfNat.ofNat 0=0→bif decide (Int.ofNat x<Int.ofNat m) then (0≤Int.ofNat x∧Int.ofNat x<Int.ofNat (lR (atR ks (t+1)).snd (atR ks (t+1)).fst).length)∧∃(q:Rat),∃(n:Nat),ldE (lR (atR ks (t+1)).snd (atR ks (t+1)).fst) (Int.ofNat x).toNat 0 3=some [Ch.r q n]∧(0≤Int.ofNat x∧Int.ofNat x<Int.ofNat (lR (atR ks t).snd (atR ks t).fst).length)∧∃(q_1:Rat),∃(n_1:Nat),ldE (lR (atR ks t).snd (atR ks t).fst) (Int.ofNat x).toNat 0 3=some [Ch.r q_1 n_1]∧n+n_1+1≤4294967296∧((x+1)*40≤140737488355328∧x+1≤9223372036854775807)∧∃(x':Nat),(x'≤m∧OfNat.ofNat 0=0∧m-x'<m-x)∧3=3∧lR (atR ks t).snd (atR ks t).fst=lR (atR ks t).snd (atR ks t).fst∧3=3∧lR (atR ks (t+1)).snd (atR ks (t+1)).fst=lR (atR ks (t+1)).snd (atR ks (t+1)).fst∧0=0∧x+1=x'∧Int.ofNat m=Int.ofNat m∧IntKind.i64.wrap (Int.ofNat x+1)=Int.ofNat x'∧25=25∧3=3∧(List.take x (List.map (fun(q:Rat)=>[Ch.r q ((atR ks (t+1)).snd+(atR ks t).snd+1)]) (List.take x (spdR ks t)))++[[Ch.r (q-q_1) (n+n_1+1)]]=List.map (fun(q:Rat)=>[Ch.r q ((atR ks (t+1)).snd+(atR ks t).snd+1)]) (List.take x' (spdR ks t))∨RowLE (List.take x (List.map (fun(q:Rat)=>[Ch.r q ((atR ks (t+1)).snd+(atR ks t).snd+1)]) (List.take x (spdR ks t)))++[[Ch.r (q-q_1) (n+n_1+1)]]) (List.map (fun(q:Rat)=>[Ch.r q ((atR ks (t+1)).snd+(atR ks t).snd+1)]) (List.take x' (spdR ks t))))∧True else K (AV.x false [Ch.s 3 (List.take x (List.drop 0 (List.map (fun(q:Rat)=>[Ch.r q ((atR ks (t+1)).snd+(atR ks t).snd+1)]) (List.take x (spdR ks t)))))])) := by kernel_rfl
theorem g_tSpeed (ks : List KeyV) (m : Nat) (N : Nat) (t : Int) (hc : (KeysOK ks m N) ∧ ((N ≤ 10000 ∧ m ≤ 100000 ∧ 1 ≤ ks.length ∧ ks.length ≤ 100000) ∧ -4611686018427387904 ≤ t ∧ t + 1 < 4611686018427387904)) (K : AV → Prop) (hK : K (sR ((atR ks (t + 1)).2 + (atR ks t).2 + 1) (spdR ks t))) : Holds (goal_tSpeed ks m N t K) := by
 refine ⟨?_⟩
 rw [goal_tSpeed_vc]
 try simp only [Int.ofNat_eq_natCast, true_and, and_true, Nat.zero_add, Nat.le_refl, true_implies, true_or, or_true]
 obtain ⟨hk, ⟨hN, hm, hn, hn2⟩, ht⟩ := hc
 have hne : ks ≠ [] := fun e => by rw [e] at hn; simp at hn
 obtain ⟨b0, l0⟩ := at_bound (t := t) hk hne
 obtain ⟨b1, l1⟩ := at_bound (t := t + 1) hk hne
 have e1 : IntKind.i64.wrap (t + 1) = t + 1 := w64 (by omega)
 simp only [e1]
 have lz : (spdR ks t).length = m := by simp [spdR, l0, l1]
 refine ⟨ks, m, N, rfl, ⟨hk, ⟨hN, hm, hn, hn2⟩, by omega, by omega⟩, bif_mk (fun _ => ⟨ks, m, N, rfl, ⟨hk, ⟨hN, hm, hn, hn2⟩, by omega, by omega⟩, ⟨0, by omega, rfl, rfl, rfl, by simp [lR_len, l0, l1], rfl, by simp⟩, fun x hx => bif_mk (fun hp => ?_) (fun hp => ?_)⟩) (fun h => ?_)⟩
 ·have hp : x < m := by have := of_decide_eq_true hp; omega
  obtain ⟨p, hpp⟩ : ∃ p, (atR ks t).1[x]? = some p := ⟨_, List.getElem?_eq_getElem (by omega)⟩
  obtain ⟨r, hr⟩ : ∃ r, (atR ks (t + 1)).1[x]? = some r := ⟨_, List.getElem?_eq_getElem (by omega)⟩
  refine ⟨by rw [lR_len]; omega, _, _, lR_ld (by simpa using hr), by rw [lR_len]; omega, _, _, lR_ld (by simpa using hpp), by omega, by omega, x + 1, ⟨by omega, by omega⟩, rfl, by rw [w64 (by omega)]; simp, .inl ?_⟩
  have hg : (spdR ks t)[x]? = some (r - p) := by simp [spdR, List.getElem?_zipWith, hpp, hr]
  rw [List.take_of_length_le (by rw [List.length_map, List.length_take]; omega), List.take_add_one, hg, List.map_append]
  rfl
 ·have hp : x = m := by have := of_decide_eq_false hp; omega
  subst hp
  rw [List.drop_zero, List.take_of_length_le (by rw [List.length_map, List.length_take]; omega), List.take_of_length_le (by omega)]
  exact hK
 ·have := of_decide_eq_false h; omega
def c_tSpeed : Ctr := fun as0 => match as0 with
 | [.x false [.s 2 xs], .x false [.v (.int .i64 t)]] => some fun K => ∃ (ks : List KeyV) (m : Nat) (N : Nat), xs = ks.map keyCh ∧ ((KeysOK ks m N) ∧ ((N ≤ 10000 ∧ m ≤ 100000 ∧ 1 ≤ ks.length ∧ ks.length ≤ 100000) ∧ -4611686018427387904 ≤ t ∧ t + 1 < 4611686018427387904)) ∧ (K (sR ((atR ks (t + 1)).2 + (atR ks t).2 + 1) (spdR ks t)))
 | _ => none
theorem ok_tSpeed : CtrOK Tryd.prog tabG debT 15 c_tSpeed := by
 refine ⟨enters Tryd.func15 (by kernel_rfl), fun l T hT K hK => ?_⟩
 unfold c_tSpeed at hT
 split at hT
 ·cases hT
  obtain ⟨ks, m, N, rfl, hc, hK⟩ := hK
  exact spec_ofL T51tok mixed Tryd.func15 (by kernel_rfl) (by kernel_rfl) (by rfl) (g_tSpeed _ _ _ _ hc K hK)
 ·cases hT
def L52t : List (Nat × Ctr) := (15, c_tSpeed) :: L51t
theorem L52tok : CtrsOK Tryd.prog tabG debT L52t := .cons ok_tSpeed L51tok
def L53t : List (Nat × Ctr) := L52t
theorem L53tok : CtrsOK Tryd.prog tabG debT L53t := L52tok
def L54t : List (Nat × Ctr) := L53t
noncomputable def T54t : Tabs := mkT L54t M48 X4
theorem L54tok : CtrsOK Tryd.prog tabG debT L54t := L53tok
theorem T54tok : TabsOK Tryd.prog tabG debT T54t := mkTok L54tok M48ok X4ok
end Go.Proofs
/- gantmake.Track, tracks. -/
namespace Go.Proofs
open Go Go.Eng
structure MadeT (a : ArmV) (ks : List KeyV) : Prop where
 n : ∀ k ∈ ks, k.n = 63
 len : ∀ k ∈ ks, k.q.length = a.links.length
 fit : ∀ k ∈ ks, Fit a k.q
 tick : ∀ k ∈ ks, 0 ≤ k.tick ∧ k.tick ≤ 300
 inc : ∀ (i : Nat) (x y : KeyV), ks[i]? = some x → ks[i + 1]? = some y → x.tick + 48 ≤ y.tick
structure TkX where
 ks : List KeyV
 l : List Int
 n : Nat
 tick : Int
structure TkI (a : ArmV) (l : List Int) (x : TkX) : Prop where
 made : MadeT a x.ks
 last : ∀ k, x.ks[x.ks.length - 1]? = some k → k.tick = x.tick
 hl : x.l.length ≤ l.length
 hn : x.ks.length ≤ x.n ∧ 1 ≤ x.n ∧ x.n ≤ 4
 ht : 0 ≤ x.tick ∧ x.tick ≤ 10 + 67 * x.ks.length
theorem TkI.add {a : ArmV} {l : List Int} {x : TkX} (h : TkI a l x) (hlt : x.ks.length < x.n) {t : Int} (ht : (x.ks.length = 0 ∧ t = x.tick) ∨ (x.tick + 48 ≤ t ∧ t ≤ x.tick + 67)) {qs : List Rat} (hf : Fit a qs) (hq : qs.length = a.links.length) {l' : List Int} (hl : l'.length ≤ l.length) : TkI a l ⟨x.ks ++ [⟨t, 63, qs⟩], l', x.n, t⟩ := by
 obtain ⟨⟨m1, m2, m3, m4, m5⟩, last, _, hn, h2⟩ := h
 have both : ∀ {p : KeyV → Prop}, (∀ k ∈ x.ks, p k) → p ⟨t, 63, qs⟩ → ∀ k ∈ x.ks ++ [⟨t, 63, qs⟩], p k := fun h1 h2 k hk => by
  rcases List.mem_append.1 hk with hk | hk
  ·exact h1 k hk
  ·rw [List.mem_singleton.1 hk]; exact h2
 refine ⟨⟨both m1 rfl, both m2 hq, both m3 hf, both m4 ⟨by simp only; omega, by simp only; omega⟩, fun i u v hu hv => ?_⟩, fun k hk => ?_, hl, by simp only [List.length_append, List.length_cons, List.length_nil]; omega, by simp only [List.length_append, List.length_cons, List.length_nil]; omega⟩
 ·have hiv := (List.getElem?_eq_some_iff.1 hv).1
  simp only [List.length_append, List.length_cons, List.length_nil] at hiv
  rw [List.getElem?_append_left (by omega)] at hu
  by_cases e : i + 1 < x.ks.length
  ·rw [List.getElem?_append_left e] at hv
   exact m5 i u v hu hv
  ·have e : i = x.ks.length - 1 := by omega
   have := last u (e ▸ hu)
   rw [List.getElem?_append_right (by omega), show i + 1 - x.ks.length = 0 by omega] at hv
   cases hv
   simp only
   omega
 ·simp only [List.length_append, List.length_cons, List.length_nil] at hk
  rw [List.getElem?_append_right (by omega), show x.ks.length + (0 + 1) - 1 - x.ks.length = 0 by omega] at hk
  cases hk; rfl
def rowK (ks : List KeyV) : Blk := .row 47 2 (ks.map keyCh)
def inv_mTrack (a : ArmV) (l : List Int) : LI := fun _ => .inv ⟨TkX, fun x => ⟨[(2, .x false [.p 2 0]), (5, .x false [.p 11 0]), (6, .x false [.w 500 0 x.ks.length]), (7, iA .i64 x.tick), (16, iA .i64 x.n), (17, iA .i64 x.ks.length)], [(2, .box 34 (armCh a)), (11, stB x.l), (500, rowK x.ks)]⟩, TkI a l, fun x => x.n - x.ks.length, fun _ => 0⟩
def ot_mTrack : OT := fun _ => ([], [])
def goal_mTrack (a : ArmV) (l : List Int) (K : AV → Prop) : Prop := goalL T54t ot_mTrack (inv_mTrack a l) Tryd.f11 [armA a, .x false [.s 1 (ints l)]] K
theorem goal_mTrack_vc (a : ArmV) (l : List Int) (K : AV → Prop) : goal_mTrack a l K = (∃(l_1:List Int),ints l=ints l_1∧((1:Int)≤10∧(10:Int)<9223372036854775808)∧l_1.length≤9223372036854775807∧∀(r:Int) (l':List Int),0≤r∧r<10→l'.length≤l_1.length→∃(l_2:List Int),ints l'=ints l_2∧((1:Int)≤4∧(4:Int)<9223372036854775808)∧l_2.length≤9223372036854775807∧∀(r_1:Int) (l':List Int),0≤r_1∧r_1<4→l'.length≤l_2.length→(∃(x:TkX),(TkI a l x∧OfNat.ofNat 0=0)∧0=0∧0=0∧Value.slice none 0 0=Value.slice none 0 0∧0=0∧x.ks.length=0∧r=x.tick∧IntKind.i64.wrap (1+r_1)=Int.ofNat x.n∧0=Int.ofNat x.ks.length∧34=34∧a.name=a.name∧a.x=a.x∧63≤63∧a.y=a.y∧63≤63∧a.half=a.half∧a.t=a.t∧63≤63∧16=16∧List.map linkCh a.links=List.map linkCh a.links∧55=55∧1=1∧ints l'=ints x.l∧List.map keyCh x.ks=[]∧True)∧∀(x:TkX),TkI a l x→OfNat.ofNat 0=0→bif decide (Int.ofNat x.ks.length<Int.ofNat x.n) then bif decide (Int.ofNat x.ks.length>0) then ∃(l_3:List Int),ints x.l=ints l_3∧((1:Int)≤20∧(20:Int)<9223372036854775808)∧l_3.length≤9223372036854775807∧∀(r:Int) (l':List Int),0≤r∧r<20→l'.length≤l_3.length→∃(a_9:ArmV),∃(l_4:List Int),[Ch.v (Value.string a.name),Ch.r a.x 63,Ch.r a.y 63,Ch.v (Value.bool a.half),Ch.r a.t 63,Ch.s 16 (List.map linkCh a.links)]=[Ch.v (Value.string a_9.name),Ch.r a_9.x 63,Ch.r a_9.y 63,Ch.v (Value.bool a_9.half),Ch.r a_9.t 63,Ch.s 16 (List.map linkCh a_9.links)]∧ints l'=ints l_4∧GoodArm a_9∧l_4.length≤9223372036854775807∧∀(qs:List Rat) (l':List Int),(∀(i:Nat) (L:LinkV) (q:Rat),a_9.links[i]?=some L→qs[i]?=some q→L.lo≤q∧q≤L.hi)→qs.length=a_9.links.length→l'.length≤l_4.length→((x.ks.length+1)*32≤140737488355328∧x.ks.length+1≤9223372036854775807)∧∃(x':TkX),(TkI a l x'∧OfNat.ofNat 0=0∧x'.n-x'.ks.length<x.n-x.ks.length)∧0=0∧0=0∧0=0∧x.ks.length+1=x'.ks.length∧IntKind.i64.wrap (x.tick+IntKind.i64.wrap (48+r))=x'.tick∧Int.ofNat x.n=Int.ofNat x'.n∧IntKind.i64.wrap (Int.ofNat x.ks.length+1)=Int.ofNat x'.ks.length∧34=34∧a.name=a.name∧a.x=a.x∧63≤63∧a.y=a.y∧63≤63∧a.half=a.half∧a.t=a.t∧63≤63∧16=16∧List.map linkCh a.links=List.map linkCh a.links∧55=55∧1=1∧ints l'=ints x'.l∧47=47∧2=2∧(List.take x.ks.length (List.map keyCh x.ks)++[[Ch.v (Value.int IntKind.i64 (IntKind.i64.wrap (x.tick+IntKind.i64.wrap (48+r)))),Ch.s 3 (List.take qs.length (List.drop 0 (List.map (fun(q:Rat)=>[Ch.r q 63]) qs)))]]=List.map keyCh x'.ks∨RowLE (List.take x.ks.length (List.map keyCh x.ks)++[[Ch.v (Value.int IntKind.i64 (IntKind.i64.wrap (x.tick+IntKind.i64.wrap (48+r)))),Ch.s 3 (List.take qs.length (List.drop 0 (List.map (fun(q:Rat)=>[Ch.r q 63]) qs)))]]) (List.map keyCh x'.ks))∧True else ∃(a_7:ArmV),∃(l_3:List Int),[Ch.v (Value.string a.name),Ch.r a.x 63,Ch.r a.y 63,Ch.v (Value.bool a.half),Ch.r a.t 63,Ch.s 16 (List.map linkCh a.links)]=[Ch.v (Value.string a_7.name),Ch.r a_7.x 63,Ch.r a_7.y 63,Ch.v (Value.bool a_7.half),Ch.r a_7.t 63,Ch.s 16 (List.map linkCh a_7.links)]∧ints x.l=ints l_3∧GoodArm a_7∧l_3.length≤9223372036854775807∧∀(qs:List Rat) (l':List Int),(∀(i:Nat) (L:LinkV) (q:Rat),a_7.links[i]?=some L→qs[i]?=some q→L.lo≤q∧q≤L.hi)→qs.length=a_7.links.length→l'.length≤l_3.length→((x.ks.length+1)*32≤140737488355328∧x.ks.length+1≤9223372036854775807)∧∃(x':TkX),(TkI a l x'∧OfNat.ofNat 0=0∧x'.n-x'.ks.length<x.n-x.ks.length)∧0=0∧0=0∧0=0∧x.ks.length+1=x'.ks.length∧x.tick=x'.tick∧Int.ofNat x.n=Int.ofNat x'.n∧IntKind.i64.wrap (Int.ofNat x.ks.length+1)=Int.ofNat x'.ks.length∧34=34∧a.name=a.name∧a.x=a.x∧63≤63∧a.y=a.y∧63≤63∧a.half=a.half∧a.t=a.t∧63≤63∧16=16∧List.map linkCh a.links=List.map linkCh a.links∧55=55∧1=1∧ints l'=ints x'.l∧47=47∧2=2∧(List.take x.ks.length (List.map keyCh x.ks)++[[Ch.v (Value.int IntKind.i64 x.tick),Ch.s 3 (List.take qs.length (List.drop 0 (List.map (fun(q:Rat)=>[Ch.r q 63]) qs)))]]=List.map keyCh x'.ks∨RowLE (List.take x.ks.length (List.map keyCh x.ks)++[[Ch.v (Value.int IntKind.i64 x.tick),Ch.s 3 (List.take qs.length (List.drop 0 (List.map (fun(q:Rat)=>[Ch.r q 63]) qs)))]]) (List.map keyCh x'.ks))∧True else K (AV.x false [Ch.s 2 (List.take x.ks.length (List.drop 0 (List.map keyCh x.ks)))])) := by kernel_rfl
theorem g_mTrack (a : ArmV) (l : List Int) (hc : (GoodArm a) ∧ (l.length ≤ 9223372036854775807)) (K : AV → Prop) (hK : ∀ ks : List KeyV, MadeT a ks → 1 ≤ ks.length → ks.length ≤ 4 → K (trkA ks)) : Holds (goal_mTrack a l K) := by
 refine ⟨?_⟩
 rw [goal_mTrack_vc]
 try simp only [Int.ofNat_eq_natCast, true_and, and_true, Nat.zero_add, Nat.le_refl, true_implies, true_or, or_true]
 refine ⟨l, rfl, by omega, hc.2, fun r l1 hr h1 => ⟨l1, rfl, by omega, by omega, fun r2 l2 hr2 h2 => ?_⟩⟩
 rw [w64 (n := 1 + r2) (by omega)]
 have add : ∀ (x : TkX) (t : Int) (qs : List Rat), (List.take x.ks.length (List.map keyCh x.ks) ++ [keyCh ⟨t, 63, qs⟩]) = List.map keyCh (x.ks ++ [⟨t, 63, qs⟩]) := fun x t qs => by
  rw [List.take_of_length_le (by rw [List.length_map]; exact Nat.le_refl _), List.map_append]; rfl
 refine ⟨⟨⟨[], l2, (1 + r2).toNat, r⟩, ⟨⟨by simp, by simp, by simp, by simp, by simp⟩, by simp, by simp only; omega, by simp only [List.length_nil]; omega, by simp only; omega⟩, rfl, rfl, by simp only; omega, rfl, rfl, rfl⟩, fun x hx => bif_mk (fun hp => ?_) (fun hp => ?_)⟩
 ·have hp := of_decide_eq_true hp
  have hn := hx.hn
  have ht := hx.ht
  have hl := hx.hl
  refine bif_mk (fun h0 => ⟨x.l, rfl, by omega, by omega, fun r l1 hr hl1 => ⟨a, l1, rfl, rfl, hc.1, by omega, fun qs l' hf hq hl' => ⟨by omega, ⟨x.ks ++ [⟨x.tick + (48 + r), 63, List.take qs.length (List.drop 0 qs)⟩], l', x.n, x.tick + (48 + r)⟩, ?_⟩⟩⟩) (fun h0 => ⟨a, x.l, rfl, rfl, hc.1, by omega, fun qs l' hf hq hl' => ⟨by omega, ⟨x.ks ++ [⟨x.tick, 63, List.take qs.length (List.drop 0 qs)⟩], l', x.n, x.tick⟩, ?_⟩⟩)
  ·have h0 := of_decide_eq_true h0
   have e : List.take qs.length (List.drop 0 qs) = qs := by rw [List.drop_zero, List.take_length]
   simp only [e]
   rw [w64 (n := 48 + r) (by omega), w64 (n := x.tick + (48 + r)) (by omega)]
   refine ⟨⟨hx.add (by omega) (.inr ⟨by omega, by omega⟩) hf hq (by omega), by simp only [List.length_append, List.length_cons, List.length_nil]; omega⟩, by simp, by first | rfl | trivial, by first | rfl | trivial, by rw [w64 (by omega)]; simp, by first | rfl | trivial, .inl ?_⟩
   rw [show List.take qs.length (List.drop 0 (List.map (fun q => [Ch.r q 63]) qs)) = lR 63 qs by rw [List.drop_zero, List.take_of_length_le (by rw [List.length_map]; exact Nat.le_refl _)]; rfl]
   exact add x _ qs
  ·have h0 := of_decide_eq_false h0
   have e : List.take qs.length (List.drop 0 qs) = qs := by rw [List.drop_zero, List.take_length]
   simp only [e]
   refine ⟨⟨hx.add (by omega) (.inl ⟨by omega, rfl⟩) hf hq (by omega), by simp only [List.length_append, List.length_cons, List.length_nil]; omega⟩, by simp, by first | rfl | trivial, by first | rfl | trivial, by rw [w64 (by omega)]; simp, by first | rfl | trivial, .inl ?_⟩
   rw [show List.take qs.length (List.drop 0 (List.map (fun q => [Ch.r q 63]) qs)) = lR 63 qs by rw [List.drop_zero, List.take_of_length_le (by rw [List.length_map]; exact Nat.le_refl _)]; rfl]
   exact add x _ qs
 ·have hp := of_decide_eq_false hp
  have hn := hx.hn
  rw [List.drop_zero, List.take_of_length_le (by rw [List.length_map]; exact Nat.le_refl _)]
  exact hK x.ks hx.made (by omega) (by omega)
def c_mTrack : Ctr := fun as0 => match as0 with
 | [.x true xs, .x false [.s 1 ys]] => some fun K => ∃ (a : ArmV) (l : List Int), xs = armCh a ∧ ys = ints l ∧ ((GoodArm a) ∧ (l.length ≤ 9223372036854775807)) ∧ (∀ ks : List KeyV, MadeT a ks → 1 ≤ ks.length → ks.length ≤ 4 → K (trkA ks))
 | _ => none
theorem ok_mTrack : CtrOK Tryd.prog tabG debT 11 c_mTrack := by
 refine ⟨enters Tryd.func11 (by kernel_rfl), fun l T hT K hK => ?_⟩
 unfold c_mTrack at hT
 split at hT
 ·cases hT
  obtain ⟨a, l, rfl, rfl, hc, hK⟩ := hK
  exact spec_ofL T54tok mixed Tryd.func11 (by kernel_rfl) (by kernel_rfl) (by rfl) (g_mTrack _ _ hc K hK)
 ·cases hT
def L55t : List (Nat × Ctr) := (11, c_mTrack) :: L54t
noncomputable def T55t : Tabs := mkT L55t M48 X4
theorem L55tok : CtrsOK Tryd.prog tabG debT L55t := .cons ok_mTrack L54tok
theorem T55tok : TabsOK Tryd.prog tabG debT T55t := mkTok L55tok M48ok X4ok
def ot_kTracks : OT := fun id => bif id.beq 3 then ([0, 1, 2, 3, 4, 5, 6, 7, 8, 9, 10], [[], [0], [1, 0], [2, 1, 0], [3, 2, 1, 0], [4, 3, 2, 1, 0], [5, 4, 3, 2, 1, 0], [3, 2, 1, 0], [6, 5, 4, 3, 2, 1, 0, 7], [3, 2, 1, 0, 8, 6, 5, 4, 7], [9, 3, 2, 1, 0, 8, 6, 5, 4, 7]]) else ([], [])
def goal_kTracks  (K : AV → Prop) : Prop := goalL T55t ot_kTracks noL Tryd.f9 [] K
theorem goal_kTracks_vc (K : AV → Prop) : goal_kTracks K = ((((-9223372036854775808:Int)<0∧(0:Int)<9223372036854775808)∧(0:Int)<1∧(1:Int)<9223372036854775808)∧(((-9223372036854775808:Int)<1∧(1:Int)<9223372036854775808)∧(0:Int)<1∧(1:Int)<9223372036854775808)∧∃(ks:List KeyV),∃(m:Nat),∃(N:Nat),[[Ch.v (Value.int IntKind.i64 10),Ch.s 3 [[Ch.r (mkRat 0 1) 63]]],[Ch.v (Value.int IntKind.i64 20),Ch.s 3 [[Ch.r (mkRat 1 1) 63]]]]=List.map keyCh ks∧(KeysOK ks m N∧(N≤10000∧m≤100000∧1≤ks.length∧ks.length≤100000)∧(-4611686018427387904:Int)≤15∧(15:Int)<4611686018427387904)∧bif Int.ofNat (lR (atR ks 15).snd (atR ks 15).fst).length==1 then ((0:Int)≤0∧0<Int.ofNat (lR (atR ks 15).snd (atR ks 15).fst).length)∧∃(q:Rat),∃(n:Nat),ldE (lR (atR ks 15).snd (atR ks 15).fst) 0 0 3=some [Ch.r q n]∧(((-9223372036854775808:Int)<1∧(1:Int)<9223372036854775808)∧(0:Int)<2∧(2:Int)<9223372036854775808)∧K (AV.x false [Ch.v (Value.bool (decide (q=mkRat 1 (Int.toNat 2))&&true))]) else K (AV.x false [Ch.v (Value.bool false)])) := by kernel_rfl
theorem g_kTracks  (hc : True) (K : AV → Prop) (hK : K (.x false [.v (.bool true)])) : Holds (goal_kTracks  K) := by
 refine ⟨?_⟩
 rw [goal_kTracks_vc]
 try simp only [Int.ofNat_eq_natCast, true_and, and_true, Nat.zero_add, Nat.le_refl, true_implies, true_or, or_true]
 have e : (atR [⟨10, 63, [mkRat 0 1]⟩, ⟨20, 63, [mkRat 1 1]⟩] 15).1 = [mkRat 1 2] := by decide +kernel
 refine ⟨by omega, by omega, [⟨10, 63, [mkRat 0 1]⟩, ⟨20, 63, [mkRat 1 1]⟩], 1, 63, rfl, ⟨⟨?_, ?_, ?_, ?_⟩, by simp, by omega, by omega⟩, ?_⟩
 ·intro k hk; simp at hk; rcases hk with rfl | rfl <;> rfl
 ·intro k hk; simp at hk; rcases hk with rfl | rfl <;> simp
 ·intro k hk; simp at hk; rcases hk with rfl | rfl <;> simp
 ·intro i x y hx hy
  match i, hx, hy with
  | 0, hx, hy => cases hx; cases hy; simp
  | i + 1, hx, hy => cases hy
 ·rw [e]
  refine bif_mk (fun _ => ⟨by rw [lR_len]; simp, _, _, rfl, by omega, ?_⟩) (fun h => ?_)
  ·simpa using hK
  ·rw [lR_len] at h; simp at h
def c_kTracks : Ctr := fun as0 => match as0 with
 | [] => some fun K => (True) ∧ (K (.x false [.v (.bool true)]))
 | _ => none
theorem ok_kTracks : CtrOK Tryd.prog tabG debT 9 c_kTracks := by
 refine ⟨enters Tryd.func9 (by kernel_rfl), fun l T hT K hK => ?_⟩
 unfold c_kTracks at hT
 split at hT
 ·cases hT
  obtain ⟨hc, hK⟩ := hK
  exact spec_ofL T55tok mixed Tryd.func9 (by kernel_rfl) (by kernel_rfl) (by rfl) (g_kTracks  hc K hK)
 ·cases hT
def L56t : List (Nat × Ctr) := (9, c_kTracks) :: L55t
noncomputable def T56t : Tabs := mkT L56t M48 X4
theorem L56tok : CtrsOK Tryd.prog tabG debT L56t := .cons ok_kTracks L55tok
end Go.Proofs
