/- track: copied and At with a row of their own; Each. -/
import Derived.Test.YtglebancgilfdaaDoorK1
/- track: copied and At with a row of their own; Each. -/
namespace Go.Proofs
open Go Go.Eng
def ot_tCopM : OT := fun id => bif id.beq 5 then ([0, 1, 2, 3, 4, 5, 6], [[], [], [], [1, 2], [3, 1, 2], [0, 4, 3, 1, 2], [5, 0, 4, 3, 1, 2]]) else ([], [])
def goal_tCopM (n : Nat) (qs : List Rat) : Prop := goalM (X := Unit) T49 ot_tCopM (fun _ => .inv ⟨Nat, fun k => ⟨[(3, .x false [.w 500 0 k]), (6, sR n qs), (7, iA .i64 qs.length), (8, iA .i64 k)], [(500, rowR (n + 65) (qs.take k))]⟩, fun k => k ≤ qs.length, fun k => qs.length - k, fun _ => 0⟩) Tryd.f39 [sR n qs] [] (fun _ => True) (fun _ => ⟨[(2, .x false [.w 0 0 qs.length])], [(0, rowR (n + 65) qs)]⟩)
theorem goal_tCopM_vc (n : Nat) (qs : List Rat) : goal_tCopM n qs = ((∃(x:Nat),(x≤qs.length∧OfNat.ofNat 0=0)∧Value.slice none 0 0=Value.slice none 0 0∧0=0∧x=0∧3=3∧lR n qs=lR n qs∧Int.ofNat (lR n qs).length=Int.ofNat qs.length∧0=Int.ofNat x∧List.map (fun(q:Rat)=>[Ch.r q (n+65)]) (List.take x qs)=[]∧True)∧∀(x:Nat),x≤qs.length→OfNat.ofNat 0=0→bif decide (Int.ofNat x<Int.ofNat qs.length) then (0≤Int.ofNat x∧Int.ofNat x<Int.ofNat (lR n qs).length)∧∃(q:Rat),∃(n_1:Nat),ldE (lR n qs) (Int.ofNat x).toNat 0 3=some [Ch.r q n_1]∧((-9223372036854775808:Int)≤0∧(0:Int)<9223372036854775808)∧n_1+64+1≤4294967296∧((x+1)*40≤140737488355328∧x+1≤9223372036854775807)∧∃(x':Nat),(x'≤qs.length∧OfNat.ofNat 0=0∧qs.length-x'<qs.length-x)∧0=0∧x+1=x'∧3=3∧lR n qs=lR n qs∧Int.ofNat qs.length=Int.ofNat qs.length∧IntKind.i64.wrap (Int.ofNat x+1)=Int.ofNat x'∧25=25∧3=3∧(List.take x (List.map (fun(q:Rat)=>[Ch.r q (n+65)]) (List.take x qs))++[[Ch.r (q+↑(0:Int)) (n_1+64+1)]]=List.map (fun(q:Rat)=>[Ch.r q (n+65)]) (List.take x' qs)∨RowLE (List.take x (List.map (fun(q:Rat)=>[Ch.r q (n+65)]) (List.take x qs))++[[Ch.r (q+↑(0:Int)) (n_1+64+1)]]) (List.map (fun(q:Rat)=>[Ch.r q (n+65)]) (List.take x' qs)))∧True else ∃(x_1:Unit),True∧0=0∧x=qs.length∧25=25∧3=3∧(List.map (fun(q:Rat)=>[Ch.r q (n+65)]) (List.take x qs)=List.map (fun(q:Rat)=>[Ch.r q (n+65)]) qs∨RowLE (List.map (fun(q:Rat)=>[Ch.r q (n+65)]) (List.take x qs)) (List.map (fun(q:Rat)=>[Ch.r q (n+65)]) qs))∧True) := by kernel_rfl
theorem g_tCopM (n : Nat) (qs : List Rat) (hc : n ≤ 1000000 ∧ qs.length ≤ 1000000) : Holds (goal_tCopM n qs) := by
 refine ⟨?_⟩
 rw [goal_tCopM_vc]
 simp only [Int.ofNat_eq_natCast, true_and, and_true, Nat.zero_add, Nat.le_refl, true_implies, true_or, or_true]
 refine ⟨⟨0, by omega, rfl, by rw [lR_len], rfl, by simp⟩, fun x hx => bif_mk (fun hp => ?_) (fun hp => ?_)⟩
 ·have hp : x < qs.length := by have := of_decide_eq_true hp; omega
  obtain ⟨q, hq⟩ : ∃ q, qs[x]? = some q := ⟨_, List.getElem?_eq_getElem hp⟩
  refine ⟨by rw [lR_len]; omega, _, _, lR_ld (by simpa using hq), by omega, by omega, by omega, x + 1, ⟨by omega, by omega⟩, rfl, by rw [w64 (by omega)]; simp, .inl ?_⟩
  rw [List.take_of_length_le (by rw [List.length_map, List.length_take]; omega), List.take_add_one, hq, List.map_append]
  simp only [Option.toList, List.map_cons, List.map_nil]
  rw [show q + ((0 : Int) : Rat) = q by rw [Rat.intCast_zero, Rat.add_zero]]
 ·have hp : x = qs.length := by have := of_decide_eq_false hp; omega
  subst hp
  exact ⟨(), rfl, .inl (by rw [List.take_length])⟩
def cm_tCop : CtrM := fun as0 H d => match as0 with
 | [.x false [.s 3 xs]] => match H d with
  | none => some fun K => ∃ n qs, xs = lR n qs ∧ (n ≤ 1000000 ∧ qs.length ≤ 1000000) ∧ K (.x false [.w d 0 qs.length]) (backH [(0, d)] (lookH [(0, rowR (n + 65) qs)]) H)
  | some _ => none
 | _ => none
theorem okm_tCop : CtrMOK Tryd.prog tabG debT 39 cm_tCop := by
 refine ⟨enters Tryd.func39 (by kernel_rfl), fun l H d T hT K hK => ?_⟩
 unfold cm_tCop at hT
 split at hT
 ·split at hT
  ·rename_i hd
   cases hT
   obtain ⟨n, qs, rfl, hc, hK⟩ := hK
   exact specM_new T49ok mixed Tryd.func39 (by kernel_rfl) (by kernel_rfl) (by rfl) (by rfl) hd (by kernel_rfl) (g_tCopM n qs hc) hK
  ·cases hT
 ·cases hT
def M49t : List (Nat × CtrM) := (39, cm_tCop) :: M48
noncomputable def T49m : Tabs := mkT L49 M49t X4
theorem M49tok : CtrMsOK Tryd.prog tabG debT M49t := .cons okm_tCop M48ok
theorem T49mok : TabsOK Tryd.prog tabG debT T49m := mkTok L49ok M49tok X4ok
def inv_tAtM (ks : List KeyV) (m : Nat) (t : Int) : LI := fun id => bif id.beq 6 then .inv ⟨Nat, fun i => ⟨[(0, trkA ks), (1, iA .i64 t), (5, iA .i64 i)], []⟩, fun i => (1 ≤ i ∧ i ≤ ks.length) ∧ atR ks t = atGo (ks.getD (i - 1) zKey) (ks.drop i) t, fun i => ks.length - i, fun _ => 0⟩ else .inv ⟨Nat × Nat, fun x => ⟨[(6, .x false [.p 6 0]), (7, .x false [.p 7 0]), (9, .x false [.p 9 0]), (11, .x false [.w 500 0 x.2]), (71, iA .i64 m), (72, iA .i64 x.2)], [(6, .box 47 (keyCh (ks.getD (x.1 - 1) zKey))), (7, .box 47 (keyCh (ks.getD x.1 zKey))), (9, .box 25 [.r (fracT (ks.getD (x.1 - 1) zKey) (ks.getD x.1 zKey) t) 258]), (500, rowR (2 * (ks.getD (x.1 - 1) zKey).n + (ks.getD x.1 zKey).n + 260) ((interp (ks.getD (x.1 - 1) zKey) (ks.getD x.1 zKey) t).take x.2))]⟩, fun x => ((1 ≤ x.1 ∧ x.1 < ks.length) ∧ atR ks t = (interp (ks.getD (x.1 - 1) zKey) (ks.getD x.1 zKey) t, 2 * (ks.getD (x.1 - 1) zKey).n + (ks.getD x.1 zKey).n + 260)) ∧ x.2 ≤ m, fun x => m - x.2, fun x => ks.length - x.1⟩
def ot_tAtM : OT := fun id => bif id.beq 9 then ([0, 1, 2, 3, 4, 5, 6, 7, 8, 9, 10, 11, 12], [[], [], [1], [0, 2, 1], [3, 0, 2, 1], [], [], [5, 6], [7, 5, 6], [], [], [9, 4, 3, 0, 2, 1, 10], [10, 8, 7, 5, 6, 11, 9, 4, 3, 0, 2, 1]]) else bif id.beq 11 then ([0, 2, 4, 5, 7, 13, 1, 3, 6, 8, 9, 10, 11, 12, 14, 15], [[], [0], [], [1, 0, 2], [], [4], [5, 4, 3, 1, 0, 2], [], [6, 5, 4, 3, 1, 0, 2, 7], [3, 1, 0, 2, 8, 6, 5, 4, 7], [9, 3, 1, 0, 2, 8, 6, 5, 4, 7], [10, 9, 3, 1, 0, 2, 8, 6, 5, 4, 7], [10, 9, 3, 1, 0, 2, 8, 6, 5, 4, 7], [], [13, 11, 10, 9, 3, 1, 0, 2, 8, 6, 5, 4, 7], [12, 10, 9, 3, 1, 0, 2, 8, 6, 5, 4, 7, 14, 13, 11]]) else bif id.beq 16 then ([0, 1, 2, 3, 4, 5, 6, 7, 8, 9, 10, 11, 12, 13, 14, 15, 16, 17, 18, 19, 20, 21, 22], [[], [], [1], [], [2, 1, 3], [4, 2, 1, 3], [], [], [7], [], [8, 7, 9], [10, 8, 7, 9], [], [12], [], [13, 12, 14], [15, 13, 12, 14], [11, 10, 8, 7, 9, 16, 15, 13, 12, 14], [6, 17, 11, 10, 8, 7, 9, 16, 15, 13, 12, 14], [5, 4, 2, 1, 3, 18, 6, 17, 11, 10, 8, 7, 9, 16, 15, 13, 12, 14], [19, 5, 4, 2, 1, 3, 18, 6, 17, 11, 10, 8, 7, 9, 16, 15, 13, 12, 14], [0, 20, 19, 5, 4, 2, 1, 3, 18, 6, 17, 11, 10, 8, 7, 9, 16, 15, 13, 12, 14], [21, 0, 20, 19, 5, 4, 2, 1, 3, 18, 6, 17, 11, 10, 8, 7, 9, 16, 15, 13, 12, 14]]) else ([], [])
def goal_tAtM (ks : List KeyV) (m : Nat) (t : Int) : Prop := goalM (X := Unit) T49m ot_tAtM (inv_tAtM ks m t) Tryd.f12 [trkA ks, iA .i64 t] [] (fun _ => True) (fun _ => ⟨[(4, .x false [.w 0 0 m])], [(0, rowR (atR ks t).2 (atR ks t).1)]⟩)
theorem goal_tAtM_vc (ks : List KeyV) (m : Nat) (t : Int) : goal_tAtM ks m t = (bif Int.ofNat (List.map keyCh ks).length==0 then ∃(x:Unit),True∧Value.slice none 0 0=Value.slice none 0 0∧0=0∧m=0∧List.map (fun(q:Rat)=>[Ch.r q (atR ks t).snd]) (atR ks t).fst=[]∧True else ((0:Int)≤0∧0<Int.ofNat (List.map keyCh ks).length)∧∃(d:Int),ldE (List.map keyCh ks) 0 0 1=some [Ch.v (Value.int IntKind.i64 d)]∧bif decide (t≤d) then ((0:Int)≤0∧0<Int.ofNat (List.map keyCh ks).length)∧∃(ys:List (List Ch)),ldE (List.map keyCh ks) 0 1 1=some [Ch.s 3 ys]∧∃(n:Nat),∃(qs:List Rat),ys=lR n qs∧(n≤1000000∧qs.length≤1000000)∧∃(x:Unit),True∧0=0∧qs.length=m∧25=25∧3=3∧(List.map (fun(q:Rat)=>[Ch.r q (n+65)]) qs=List.map (fun(q:Rat)=>[Ch.r q (atR ks t).snd]) (atR ks t).fst∨RowLE (List.map (fun(q:Rat)=>[Ch.r q (n+65)]) qs) (List.map (fun(q:Rat)=>[Ch.r q (atR ks t).snd]) (atR ks t).fst))∧True else (∃(x:Nat),(((1≤x∧x≤ks.length)∧atR ks t=atGo (ks.getD (x-1) zKey) (List.drop x ks) t)∧OfNat.ofNat 0=0)∧2=2∧List.map keyCh ks=List.map keyCh ks∧t=t∧1=Int.ofNat x∧True)∧∀(x:Nat),(1≤x∧x≤ks.length)∧atR ks t=atGo (ks.getD (x-1) zKey) (List.drop x ks) t→OfNat.ofNat 0=0→bif decide (Int.ofNat x<Int.ofNat (List.map keyCh ks).length) then (0≤Int.ofNat x∧Int.ofNat x<Int.ofNat (List.map keyCh ks).length)∧∃(d:Int),ldE (List.map keyCh ks) (Int.ofNat x).toNat 0 1=some [Ch.v (Value.int IntKind.i64 d)]∧bif decide (d≤t) then ∃(x':Nat),(((1≤x'∧x'≤ks.length)∧atR ks t=atGo (ks.getD (x'-1) zKey) (List.drop x' ks) t)∧OfNat.ofNat 0=0∧ks.length-x'<ks.length-x)∧2=2∧List.map keyCh ks=List.map keyCh ks∧t=t∧IntKind.i64.wrap (Int.ofNat x+1)=Int.ofNat x'∧True else (0≤IntKind.i64.wrap (Int.ofNat x-1)∧IntKind.i64.wrap (Int.ofNat x-1)<Int.ofNat (List.map keyCh ks).length)∧∃(d:Int),∃(ys:List (List Ch)),ldE (List.map keyCh ks) (IntKind.i64.wrap (Int.ofNat x-1)).toNat 0 2=some [Ch.v (Value.int IntKind.i64 d),Ch.s 3 ys]∧(0≤Int.ofNat x∧Int.ofNat x<Int.ofNat (List.map keyCh ks).length)∧∃(d_1:Int),∃(ys_1:List (List Ch)),ldE (List.map keyCh ks) (Int.ofNat x).toNat 0 2=some [Ch.v (Value.int IntKind.i64 d_1),Ch.s 3 ys_1]∧(-9223372036854775808≤d∧d<9223372036854775808)∧(-9223372036854775808≤t∧t<9223372036854775808)∧129≤4294967296∧(-9223372036854775808≤d_1∧d_1<9223372036854775808)∧129≤4294967296∧258≤4294967296∧((↑d_1:Rat)-(↑d:Rat)≠OfNat.ofNat 0→(∃(x_1:Nat × Nat),((((1≤x_1.fst∧x_1.fst<ks.length)∧atR ks t=(interp (ks.getD (x_1.fst-1) zKey) (ks.getD x_1.fst zKey) t,2*(ks.getD (x_1.fst-1) zKey).n+(ks.getD x_1.fst zKey).n+260))∧x_1.snd≤m)∧ks.length-x_1.fst=ks.length-x)∧0=0∧0=0∧0=0∧Value.slice none 0 0=Value.slice none 0 0∧0=0∧x_1.snd=0∧(bif false then if Int.ofNat ys_1.length>Int.ofNat ys.length then Int.ofNat ys_1.length else Int.ofNat ys.length else if Int.ofNat ys_1.length<Int.ofNat ys.length then Int.ofNat ys_1.length else Int.ofNat ys.length)=Int.ofNat m∧0=Int.ofNat x_1.snd∧47=47∧d=(ks.getD (x_1.fst-1) zKey).tick∧3=3∧ys=lR (ks.getD (x_1.fst-1) zKey).n (ks.getD (x_1.fst-1) zKey).q∧47=47∧d_1=(ks.getD x_1.fst zKey).tick∧3=3∧ys_1=lR (ks.getD x_1.fst zKey).n (ks.getD x_1.fst zKey).q∧25=25∧((↑t:Rat)-(↑d:Rat))/((↑d_1:Rat)-(↑d:Rat))=fracT (ks.getD (x_1.fst-1) zKey) (ks.getD x_1.fst zKey) t∧258≤258∧List.map (fun(q:Rat)=>[Ch.r q (2*(ks.getD (x_1.fst-1) zKey).n+(ks.getD x_1.fst zKey).n+260)]) (List.take x_1.snd (interp (ks.getD (x_1.fst-1) zKey) (ks.getD x_1.fst zKey) t))=[]∧True)∧∀(x_1:Nat × Nat),((1≤x_1.fst∧x_1.fst<ks.length)∧atR ks t=(interp (ks.getD (x_1.fst-1) zKey) (ks.getD x_1.fst zKey) t,2*(ks.getD (x_1.fst-1) zKey).n+(ks.getD x_1.fst zKey).n+260))∧x_1.snd≤m→ks.length-x_1.fst=ks.length-x→bif decide (Int.ofNat x_1.snd<Int.ofNat m) then (0≤Int.ofNat x_1.snd∧Int.ofNat x_1.snd<Int.ofNat (lR (ks.getD (x_1.fst-1) zKey).n (ks.getD (x_1.fst-1) zKey).q).length)∧∃(q:Rat),∃(n:Nat),ldE (lR (ks.getD (x_1.fst-1) zKey).n (ks.getD (x_1.fst-1) zKey).q) (Int.ofNat x_1.snd).toNat 0 3=some [Ch.r q n]∧(0≤Int.ofNat x_1.snd∧Int.ofNat x_1.snd<Int.ofNat (lR (ks.getD x_1.fst zKey).n (ks.getD x_1.fst zKey).q).length)∧∃(q_1:Rat),∃(n_1:Nat),ldE (lR (ks.getD x_1.fst zKey).n (ks.getD x_1.fst zKey).q) (Int.ofNat x_1.snd).toNat 0 3=some [Ch.r q_1 n_1]∧(0≤Int.ofNat x_1.snd∧Int.ofNat x_1.snd<Int.ofNat (lR (ks.getD (x_1.fst-1) zKey).n (ks.getD (x_1.fst-1) zKey).q).length)∧∃(q_2:Rat),∃(n_2:Nat),ldE (lR (ks.getD (x_1.fst-1) zKey).n (ks.getD (x_1.fst-1) zKey).q) (Int.ofNat x_1.snd).toNat 0 3=some [Ch.r q_2 n_2]∧n_1+n_2+1≤4294967296∧258+(n_1+n_2+1)≤4294967296∧n+(258+(n_1+n_2+1))+1≤4294967296∧((x_1.snd+1)*40≤140737488355328∧x_1.snd+1≤9223372036854775807)∧∃(x':Nat × Nat),((((1≤x'.fst∧x'.fst<ks.length)∧atR ks t=(interp (ks.getD (x'.fst-1) zKey) (ks.getD x'.fst zKey) t,2*(ks.getD (x'.fst-1) zKey).n+(ks.getD x'.fst zKey).n+260))∧x'.snd≤m)∧ks.length-x'.fst=ks.length-x∧m-x'.snd<m-x_1.snd)∧0=0∧0=0∧0=0∧0=0∧x_1.snd+1=x'.snd∧Int.ofNat m=Int.ofNat m∧IntKind.i64.wrap (Int.ofNat x_1.snd+1)=Int.ofNat x'.snd∧47=47∧(ks.getD (x_1.fst-1) zKey).tick=(ks.getD (x'.fst-1) zKey).tick∧3=3∧lR (ks.getD (x_1.fst-1) zKey).n (ks.getD (x_1.fst-1) zKey).q=lR (ks.getD (x'.fst-1) zKey).n (ks.getD (x'.fst-1) zKey).q∧47=47∧(ks.getD x_1.fst zKey).tick=(ks.getD x'.fst zKey).tick∧3=3∧lR (ks.getD x_1.fst zKey).n (ks.getD x_1.fst zKey).q=lR (ks.getD x'.fst zKey).n (ks.getD x'.fst zKey).q∧25=25∧fracT (ks.getD (x_1.fst-1) zKey) (ks.getD x_1.fst zKey) t=fracT (ks.getD (x'.fst-1) zKey) (ks.getD x'.fst zKey) t∧258≤258∧25=25∧3=3∧(List.take x_1.snd (List.map (fun(q:Rat)=>[Ch.r q (2*(ks.getD (x_1.fst-1) zKey).n+(ks.getD x_1.fst zKey).n+260)]) (List.take x_1.snd (interp (ks.getD (x_1.fst-1) zKey) (ks.getD x_1.fst zKey) t)))++[[Ch.r (q+fracT (ks.getD (x_1.fst-1) zKey) (ks.getD x_1.fst zKey) t*(q_1-q_2)) (n+(258+(n_1+n_2+1))+1)]]=List.map (fun(q:Rat)=>[Ch.r q (2*(ks.getD (x'.fst-1) zKey).n+(ks.getD x'.fst zKey).n+260)]) (List.take x'.snd (interp (ks.getD (x'.fst-1) zKey) (ks.getD x'.fst zKey) t))∨RowLE (List.take x_1.snd (List.map (fun(q:Rat)=>[Ch.r q (2*(ks.getD (x_1.fst-1) zKey).n+(ks.getD x_1.fst zKey).n+260)]) (List.take x_1.snd (interp (ks.getD (x_1.fst-1) zKey) (ks.getD x_1.fst zKey) t)))++[[Ch.r (q+fracT (ks.getD (x_1.fst-1) zKey) (ks.getD x_1.fst zKey) t*(q_1-q_2)) (n+(258+(n_1+n_2+1))+1)]]) (List.map (fun(q:Rat)=>[Ch.r q (2*(ks.getD (x'.fst-1) zKey).n+(ks.getD x'.fst zKey).n+260)]) (List.take x'.snd (interp (ks.getD (x'.fst-1) zKey) (ks.getD x'.fst zKey) t))))∧True else ∃(x:Unit),True∧0=0∧x_1.snd=m∧25=25∧3=3∧(List.map (fun(q:Rat)=>[Ch.r q (2*(ks.getD (x_1.fst-1) zKey).n+(ks.getD x_1.fst zKey).n+260)]) (List.take x_1.snd (interp (ks.getD (x_1.fst-1) zKey) (ks.getD x_1.fst zKey) t))=List.map (fun(q:Rat)=>[Ch.r q (atR ks t).snd]) (atR ks t).fst∨RowLE (List.map (fun(q:Rat)=>[Ch.r q (2*(ks.getD (x_1.fst-1) zKey).n+(ks.getD x_1.fst zKey).n+260)]) (List.take x_1.snd (interp (ks.getD (x_1.fst-1) zKey) (ks.getD x_1.fst zKey) t))) (List.map (fun(q:Rat)=>[Ch.r q (atR ks t).snd]) (atR ks t).fst))∧True)∧((↑d_1:Rat)-(↑d:Rat)=OfNat.ofNat 0→(∃(x_1:Nat × Nat),((((1≤x_1.fst∧x_1.fst<ks.length)∧atR ks t=(interp (ks.getD (x_1.fst-1) zKey) (ks.getD x_1.fst zKey) t,2*(ks.getD (x_1.fst-1) zKey).n+(ks.getD x_1.fst zKey).n+260))∧x_1.snd≤m)∧ks.length-x_1.fst=ks.length-x)∧0=0∧0=0∧0=0∧Value.slice none 0 0=Value.slice none 0 0∧0=0∧x_1.snd=0∧(bif false then if Int.ofNat ys_1.length>Int.ofNat ys.length then Int.ofNat ys_1.length else Int.ofNat ys.length else if Int.ofNat ys_1.length<Int.ofNat ys.length then Int.ofNat ys_1.length else Int.ofNat ys.length)=Int.ofNat m∧0=Int.ofNat x_1.snd∧47=47∧d=(ks.getD (x_1.fst-1) zKey).tick∧3=3∧ys=lR (ks.getD (x_1.fst-1) zKey).n (ks.getD (x_1.fst-1) zKey).q∧47=47∧d_1=(ks.getD x_1.fst zKey).tick∧3=3∧ys_1=lR (ks.getD x_1.fst zKey).n (ks.getD x_1.fst zKey).q∧25=25∧False)∧∀(x_1:Nat × Nat),((1≤x_1.fst∧x_1.fst<ks.length)∧atR ks t=(interp (ks.getD (x_1.fst-1) zKey) (ks.getD x_1.fst zKey) t,2*(ks.getD (x_1.fst-1) zKey).n+(ks.getD x_1.fst zKey).n+260))∧x_1.snd≤m→ks.length-x_1.fst=ks.length-x→bif decide (Int.ofNat x_1.snd<Int.ofNat m) then (0≤Int.ofNat x_1.snd∧Int.ofNat x_1.snd<Int.ofNat (lR (ks.getD (x_1.fst-1) zKey).n (ks.getD (x_1.fst-1) zKey).q).length)∧∃(q:Rat),∃(n:Nat),ldE (lR (ks.getD (x_1.fst-1) zKey).n (ks.getD (x_1.fst-1) zKey).q) (Int.ofNat x_1.snd).toNat 0 3=some [Ch.r q n]∧(0≤Int.ofNat x_1.snd∧Int.ofNat x_1.snd<Int.ofNat (lR (ks.getD x_1.fst zKey).n (ks.getD x_1.fst zKey).q).length)∧∃(q_1:Rat),∃(n_1:Nat),ldE (lR (ks.getD x_1.fst zKey).n (ks.getD x_1.fst zKey).q) (Int.ofNat x_1.snd).toNat 0 3=some [Ch.r q_1 n_1]∧(0≤Int.ofNat x_1.snd∧Int.ofNat x_1.snd<Int.ofNat (lR (ks.getD (x_1.fst-1) zKey).n (ks.getD (x_1.fst-1) zKey).q).length)∧∃(q_2:Rat),∃(n_2:Nat),ldE (lR (ks.getD (x_1.fst-1) zKey).n (ks.getD (x_1.fst-1) zKey).q) (Int.ofNat x_1.snd).toNat 0 3=some [Ch.r q_2 n_2]∧n_1+n_2+1≤4294967296∧258+(n_1+n_2+1)≤4294967296∧n+(258+(n_1+n_2+1))+1≤4294967296∧((x_1.snd+1)*40≤140737488355328∧x_1.snd+1≤9223372036854775807)∧∃(x':Nat × Nat),((((1≤x'.fst∧x'.fst<ks.length)∧atR ks t=(interp (ks.getD (x'.fst-1) zKey) (ks.getD x'.fst zKey) t,2*(ks.getD (x'.fst-1) zKey).n+(ks.getD x'.fst zKey).n+260))∧x'.snd≤m)∧ks.length-x'.fst=ks.length-x∧m-x'.snd<m-x_1.snd)∧0=0∧0=0∧0=0∧0=0∧x_1.snd+1=x'.snd∧Int.ofNat m=Int.ofNat m∧IntKind.i64.wrap (Int.ofNat x_1.snd+1)=Int.ofNat x'.snd∧47=47∧(ks.getD (x_1.fst-1) zKey).tick=(ks.getD (x'.fst-1) zKey).tick∧3=3∧lR (ks.getD (x_1.fst-1) zKey).n (ks.getD (x_1.fst-1) zKey).q=lR (ks.getD (x'.fst-1) zKey).n (ks.getD (x'.fst-1) zKey).q∧47=47∧(ks.getD x_1.fst zKey).tick=(ks.getD x'.fst zKey).tick∧3=3∧lR (ks.getD x_1.fst zKey).n (ks.getD x_1.fst zKey).q=lR (ks.getD x'.fst zKey).n (ks.getD x'.fst zKey).q∧25=25∧fracT (ks.getD (x_1.fst-1) zKey) (ks.getD x_1.fst zKey) t=fracT (ks.getD (x'.fst-1) zKey) (ks.getD x'.fst zKey) t∧258≤258∧25=25∧3=3∧(List.take x_1.snd (List.map (fun(q:Rat)=>[Ch.r q (2*(ks.getD (x_1.fst-1) zKey).n+(ks.getD x_1.fst zKey).n+260)]) (List.take x_1.snd (interp (ks.getD (x_1.fst-1) zKey) (ks.getD x_1.fst zKey) t)))++[[Ch.r (q+fracT (ks.getD (x_1.fst-1) zKey) (ks.getD x_1.fst zKey) t*(q_1-q_2)) (n+(258+(n_1+n_2+1))+1)]]=List.map (fun(q:Rat)=>[Ch.r q (2*(ks.getD (x'.fst-1) zKey).n+(ks.getD x'.fst zKey).n+260)]) (List.take x'.snd (interp (ks.getD (x'.fst-1) zKey) (ks.getD x'.fst zKey) t))∨RowLE (List.take x_1.snd (List.map (fun(q:Rat)=>[Ch.r q (2*(ks.getD (x_1.fst-1) zKey).n+(ks.getD x_1.fst zKey).n+260)]) (List.take x_1.snd (interp (ks.getD (x_1.fst-1) zKey) (ks.getD x_1.fst zKey) t)))++[[Ch.r (q+fracT (ks.getD (x_1.fst-1) zKey) (ks.getD x_1.fst zKey) t*(q_1-q_2)) (n+(258+(n_1+n_2+1))+1)]]) (List.map (fun(q:Rat)=>[Ch.r q (2*(ks.getD (x'.fst-1) zKey).n+(ks.getD x'.fst zKey).n+260)]) (List.take x'.snd (interp (ks.getD (x'.fst-1) zKey) (ks.getD x'.fst zKey) t))))∧True else ∃(x:Unit),True∧0=0∧x_1.snd=m∧25=25∧3=3∧(List.map (fun(q:Rat)=>[Ch.r q (2*(ks.getD (x_1.fst-1) zKey).n+(ks.getD x_1.fst zKey).n+260)]) (List.take x_1.snd (interp (ks.getD (x_1.fst-1) zKey) (ks.getD x_1.fst zKey) t))=List.map (fun(q:Rat)=>[Ch.r q (atR ks t).snd]) (atR ks t).fst∨RowLE (List.map (fun(q:Rat)=>[Ch.r q (2*(ks.getD (x_1.fst-1) zKey).n+(ks.getD x_1.fst zKey).n+260)]) (List.take x_1.snd (interp (ks.getD (x_1.fst-1) zKey) (ks.getD x_1.fst zKey) t))) (List.map (fun(q:Rat)=>[Ch.r q (atR ks t).snd]) (atR ks t).fst))∧True) else (0≤IntKind.i64.wrap (Int.ofNat (List.map keyCh ks).length-1)∧IntKind.i64.wrap (Int.ofNat (List.map keyCh ks).length-1)<Int.ofNat (List.map keyCh ks).length)∧∃(ys:List (List Ch)),ldE (List.map keyCh ks) (IntKind.i64.wrap (Int.ofNat (List.map keyCh ks).length-1)).toNat 1 1=some [Ch.s 3 ys]∧∃(n:Nat),∃(qs:List Rat),ys=lR n qs∧(n≤1000000∧qs.length≤1000000)∧∃(x:Unit),True∧0=0∧qs.length=m∧25=25∧3=3∧(List.map (fun(q:Rat)=>[Ch.r q (n+65)]) qs=List.map (fun(q:Rat)=>[Ch.r q (atR ks t).snd]) (atR ks t).fst∨RowLE (List.map (fun(q:Rat)=>[Ch.r q (n+65)]) qs) (List.map (fun(q:Rat)=>[Ch.r q (atR ks t).snd]) (atR ks t).fst))∧True) := by kernel_rfl
theorem g_tAtM (ks : List KeyV) (m N : Nat) (t : Int) (hk : KeysOK ks m N) (h1 : N ≤ 10000 ∧ m ≤ 100000 ∧ 1 ≤ ks.length ∧ ks.length ≤ 100000) (ht : -4611686018427387904 ≤ t ∧ t < 4611686018427387904) : Holds (goal_tAtM ks m t) := by
 obtain ⟨hN, hm, hn, hn2⟩ := h1
 refine ⟨?_⟩
 rw [goal_tAtM_vc]
 simp only [Int.ofNat_eq_natCast, true_and, and_true, Nat.zero_add, Nat.le_refl, true_implies, true_or, or_true]
 obtain ⟨a, ha⟩ : ∃ a, ks[0]? = some a := ⟨_, List.getElem?_eq_getElem (by omega)⟩
 have ma := List.mem_of_getElem? ha
 simp only [List.length_map]
 refine bif_mk (fun h => by simp only [beq_iff_eq] at h; omega) (fun _ => ⟨by omega, _, key_ld0 ha, bif_mk (fun h => ⟨by omega, _, key_ld1 ha, a.n, a.q, rfl, ⟨by have := hk.n a ma; omega, by rw [hk.len a ma]; omega⟩, ?_⟩) (fun h => ⟨⟨1, ⟨by omega, ?_⟩, rfl⟩, fun x hx => bif_mk (fun hp => ?_) (fun hp => ?_)⟩)⟩)
 ·have e : atR ks t = (a.q, a.n + 65) := at_first ha (of_decide_eq_true h)
  simp only [e]
  exact ⟨(), hk.len a ma, .inl trivial⟩
 ·exact at_later ha (of_decide_eq_false h)
 ·obtain ⟨⟨hx1, hx2⟩, he⟩ := hx
  have hp : x < ks.length := by have := of_decide_eq_true hp; omega
  obtain ⟨y, hy⟩ : ∃ y, ks[x]? = some y := ⟨_, List.getElem?_eq_getElem hp⟩
  have my := List.mem_of_getElem? hy
  have hd : ks.drop x = y :: ks.drop (x + 1) := by
   rw [List.drop_eq_getElem_cons hp]
   rw [List.getElem?_eq_getElem hp] at hy
   rw [Option.some.inj hy]
  have hyt := hk.tick y my
  have hgy : ks.getD x zKey = y := by rw [List.getD_eq_getElem?_getD, hy]; rfl
  rw [hd] at he
  refine ⟨by omega, _, key_ld0 (by simpa using hy), bif_mk (fun hle => ?_) (fun hle => ?_)⟩
  ·have hle := of_decide_eq_true hle
   refine ⟨x + 1, ⟨⟨⟨by omega, by omega⟩, ?_⟩, by omega⟩, by rw [w64 (by omega)]; simp⟩
   rw [he, atGo, if_pos hle, show x + 1 - 1 = x by omega, hgy]
  ·have hle := of_decide_eq_false hle
   obtain ⟨w, hw⟩ : ∃ w, ks[x - 1]? = some w := ⟨_, List.getElem?_eq_getElem (by omega)⟩
   have mw := List.mem_of_getElem? hw
   have hgw : ks.getD (x - 1) zKey = w := by rw [List.getD_eq_getElem?_getD, hw]; rfl
   have hwt := hk.tick w mw
   have hinc := hk.inc (x - 1) w y hw (by rw [show x - 1 + 1 = x by omega]; exact hy)
   rw [atGo, if_neg hle, hgw] at he
   have e1 : IntKind.i64.wrap ((x : Int) - 1) = ((x - 1 : Nat) : Int) := by rw [w64 (by omega)]; omega
   rw [e1, Int.toNat_natCast]
   refine ⟨by omega, _, _, key_ld hw, by omega, _, _, key_ld (by simpa using hy), by omega, by omega, by omega, by omega, by omega, by omega, fun hne => ?_, fun h0 => ?_⟩
   ·have lw := hk.len w mw
    have ly := hk.len y my
    have nw := hk.n w mw
    have ny := hk.n y my
    have li : (interp w y t).length = m := by unfold interp; rw [mix_len (by omega), lw]
    refine ⟨⟨(x, 0), ?_⟩, fun z hz htie => ?_⟩
    ·simp only [hgw, hgy, lR_len, lw, ly]
     exact ⟨⟨⟨⟨⟨hx1, hp⟩, he⟩, by omega⟩, trivial⟩, trivial, by simp, rfl, trivial, trivial, trivial, trivial, rfl, by simp⟩
    ·obtain ⟨i, k⟩ := z
     have hi : i = x := by simp only at hz htie; omega
     subst hi
     simp only [hgw, hgy, lR_len, lw, ly] at hz ⊢
     refine bif_mk (fun hkm => ?_) (fun hkm => ?_)
     ·have hkm : k < m := by have := of_decide_eq_true hkm; omega
      obtain ⟨p, hpp⟩ : ∃ p, w.q[k]? = some p := ⟨_, List.getElem?_eq_getElem (by omega)⟩
      obtain ⟨r, hr⟩ : ∃ r, y.q[k]? = some r := ⟨_, List.getElem?_eq_getElem (by omega)⟩
      refine ⟨by omega, p, w.n, lR_ld (by simpa using hpp), by omega, r, y.n, lR_ld (by simpa using hr), by omega, p, w.n, lR_ld (by simpa using hpp), by omega, by omega, by omega, by omega, (i, k + 1), ?_⟩
      simp only [hgw, hgy]
      refine ⟨⟨⟨⟨⟨hx1, hp⟩, he⟩, by omega⟩, trivial, by omega⟩, trivial, by rw [w64 (by omega)]; simp, trivial, trivial, trivial, trivial, trivial, .inl ?_⟩
      rw [List.take_of_length_le (by rw [List.length_map, List.length_take]; omega), List.take_add_one, show (interp w y t)[k]? = some _ from mix_get hpp hr, List.map_append]
      simp only [Option.toList, List.map_cons, List.map_nil]
      rw [show w.n + (258 + (y.n + w.n + 1)) + 1 = 2 * w.n + y.n + 260 by omega]
     ·have hkm : k = m := by have := of_decide_eq_false hkm; omega
      subst hkm
      simp only [he]
      exact ⟨(), trivial, .inl (by rw [List.take_of_length_le (by omega)])⟩
   ·exfalso
    have := tick_lt hinc
    have h0 : (y.tick : Rat) - (w.tick : Rat) = 0 := h0
    grind
 ·obtain ⟨⟨hx1, hx2⟩, he⟩ := hx
  have hp : x = ks.length := by have := of_decide_eq_false hp; omega
  subst hp
  obtain ⟨z, hz⟩ : ∃ z, ks[ks.length - 1]? = some z := ⟨_, List.getElem?_eq_getElem (by omega)⟩
  have mz := List.mem_of_getElem? hz
  rw [List.drop_length, show ks.getD (ks.length - 1) zKey = z by rw [List.getD_eq_getElem?_getD, hz]; rfl, atGo] at he
  simp only [he]
  have e1 : IntKind.i64.wrap ((ks.length : Int) - 1) = ((ks.length - 1 : Nat) : Int) := by rw [w64 (by omega)]; omega
  rw [e1, Int.toNat_natCast]
  exact ⟨by omega, _, key_ld1 hz, z.n, z.q, rfl, ⟨by have := hk.n z mz; omega, by rw [hk.len z mz]; omega⟩, (), hk.len z mz, .inl rfl⟩
def cm_tAt : CtrM := fun as0 H d => match as0 with
 | [.x false [.s 2 xs], .x false [.v (.int .i64 t)]] => match H d with
  | none => some fun K => ∃ ks m N, xs = ks.map keyCh ∧ KeysOK ks m N ∧ ((N ≤ 10000 ∧ m ≤ 100000 ∧ 1 ≤ ks.length ∧ ks.length ≤ 100000) ∧ -4611686018427387904 ≤ t ∧ t < 4611686018427387904) ∧ K (.x false [.w d 0 m]) (backH [(0, d)] (lookH [(0, rowR (atR ks t).2 (atR ks t).1)]) H)
  | some _ => none
 | _ => none
theorem okm_tAt : CtrMOK Tryd.prog tabG debT 12 cm_tAt := by
 refine ⟨enters Tryd.func12 (by kernel_rfl), fun l H d T hT K hK => ?_⟩
 unfold cm_tAt at hT
 split at hT
 ·split at hT
  ·rename_i hd
   cases hT
   obtain ⟨ks, m, N, rfl, hk, ⟨h1, h2⟩, hK⟩ := hK
   exact specM_new T49mok mixed Tryd.func12 (by kernel_rfl) (by kernel_rfl) (by rfl) (by rfl) hd (by kernel_rfl) (g_tAtM ks m N _ hk h1 h2) hK
  ·cases hT
 ·cases hT
def goal_tEach (ks : List KeyV) : Prop := goalM (X := Unit) T49 noO noL Tryd.f13 [trkA ks] [] (fun _ => True) (fun _ => ⟨[(2, .x false [.f 43 [1]])], [(1, .box 37 [.s 2 (ks.map keyCh)])]⟩)
theorem goal_tEach_vc (ks : List KeyV) : goal_tEach ks = (∃(x:Unit),True∧43=43∧37=37∧2=2∧List.map keyCh ks=List.map keyCh ks∧True) := by kernel_rfl
theorem g_tEach (ks : List KeyV) : Holds (goal_tEach ks) := by
 refine ⟨?_⟩
 rw [goal_tEach_vc]
 simp only [Int.ofNat_eq_natCast, true_and, and_true, Nat.zero_add, Nat.le_refl, true_implies, true_or, or_true]
 exact ⟨(), trivial⟩
def cm_tEach : CtrM := fun as0 H d => match as0 with
 | [.x false [.s 2 xs]] => match H d with
  | none => some fun K => ∃ ks : List KeyV, xs = ks.map keyCh ∧ K (.x false [.f 43 [d]]) (backH [(1, d)] (lookH [(1, .box 37 [.s 2 (ks.map keyCh)])]) H)
  | some _ => none
 | _ => none
theorem okm_tEach : CtrMOK Tryd.prog tabG debT 13 cm_tEach := by
 refine ⟨enters Tryd.func13 (by kernel_rfl), fun l H d T hT K hK => ?_⟩
 unfold cm_tEach at hT
 split at hT
 ·split at hT
  ·rename_i hd
   cases hT
   obtain ⟨ks, rfl, hK⟩ := hK
   refine specM_of (R := []) (N := [(1, d)]) (Hl := []) T49ok mixed Tryd.func13 (by kernel_rfl) (by kernel_rfl) (by rfl)
    (as0 := [trkA ks]) ?_ .nil rfl (by simp) (by simp) (fun p hp => by simp at hp; subst hp; exact hd) (fun x => ⟨(fun _ h => by cases h), fun p hp b hb => ?_⟩) (g_tEach ks) (fun x hx => ?_)
   ·simp [renAs, renAV, renCh, trkA]
   ·simp at hp
    subst hp
    have h' : some (Blk.box _ _) = some b := hb; cases h'; rfl
   ·exact ⟨_, rfl, hK⟩
  ·cases hT
 ·cases hT
end Go.Proofs
/- TrackSums. -/
namespace Go.Proofs
open Go Go.Eng
structure TsX where
 ks : List KeyV
 m : Nat
 k : Nat
 i : Nat
def tsF (x : TsX) : Int := (x.ks.getD 0 zKey).tick
def tsE (x : TsX) : Int := (x.ks.getD (x.ks.length - 1) zKey).tick
def tsN (x : TsX) : Nat := (tsE x + 1 - tsF x).toNat
def tsQ (x : TsX) (k : Nat) : List Rat := (atR x.ks (tsF x + k)).1
def tsL (x : TsX) (k : Nat) : Int := bif k.beq 0 then -1 else tsF x + k - 1
def tsB (k : Nat) : Nat := 1000 * (k + 1)
structure TsI (x : TsX) : Prop where
 keys : KeysOK x.ks x.m 63
 ne : 1 ≤ x.ks.length ∧ x.ks.length ≤ 2
 m : x.m ≤ 100
 k : x.k ≤ tsN x
 i : x.i ≤ x.m
def tsH (x : TsX) (r : Blk) : List (Nat × Blk) := [(4, .box 4 [.v (.bool false)]), (6, .box 37 [.s 2 (x.ks.map keyCh)]), (7, .box 39 [.w 500 0 x.m]), (8, .box 3 [.v (.int .i64 (tsL x x.k))]), (500, r), (28, .box 37 [.s 2 (x.ks.map keyCh)])]
def tsR (x : TsX) : Blk := rowR (tsB x.k) (tsQ x x.k)
def tsM (x : TsX) : Blk := .row 25 3 (lR (tsB (x.k + 1)) ((tsQ x (x.k + 1)).take x.i) ++ lR (tsB x.k) ((tsQ x x.k).drop x.i))
def tsT : List (Nat × AV) := [(4, .x false [.p 4 0]), (6, .x false [.p 6 0]), (7, .x false [.p 7 0]), (8, .x false [.p 8 0])]
def tsIt : Inv := ⟨TsX, fun x => ⟨[(0, .x false [.yl 900]), (1, .x false [.p 28 0]), (3, iA .i64 (tsF x + x.k))], (900, .lp 0) :: tsH x (tsR x)⟩, fun x => TsI x ∧ x.i = 0, fun x => 5000 - (tsF x + x.k).toNat, fun _ => 0⟩
def tsIn : Inv := ⟨TsX, fun x => ⟨(9, iA .i64 (tsF x + x.k)) :: (47, sR ((atR x.ks (tsF x + x.k + 1)).2 + (atR x.ks (tsF x + x.k)).2 + 1) (spdR x.ks (tsF x + x.k))) :: (48, iA .i64 x.m) :: (49, iA .i64 x.i) :: tsT, (900, .lp 1) :: tsH x (tsM x)⟩, fun x => TsI x ∧ x.k < tsN x, fun x => x.m - x.i, fun x => 5000 - (tsF x + x.k).toNat⟩
def tsSt : Inv := ⟨TsX, fun x => ⟨(28, .x false [.f 43 [28]]) :: tsT, tsH x (tsR x)⟩, fun x => TsI x ∧ x.k = 0 ∧ x.i = 0, fun _ => 0, fun _ => 0⟩
def inv_sums : LI := fun id => bif id.beq 9 then .it tsSt [] 900 [0, 1, 3] (fun _ _ => .inv tsIt) else .inv tsIn
def M56s : List (Nat × CtrM) := (13, cm_tEach) :: (12, cm_tAt) :: M48
def L56s : List (Nat × Ctr) := (14, c_equalR) :: L56t
noncomputable def T56s : Tabs := mkT L56s M56s X4
theorem M56sok : CtrMsOK Tryd.prog tabG debT M56s := .cons okm_tEach (.cons okm_tAt M48ok)
theorem L56sok : CtrsOK Tryd.prog tabG debT L56s := .cons ok_equalR L56tok
theorem T56sok : TabsOK Tryd.prog tabG debT T56s := mkTok L56sok M56sok X4ok
theorem MadeT.keys' {a : ArmV} {ks : List KeyV} (h : MadeT a ks) : KeysOK ks a.links.length 63 :=
 ⟨h.len, fun k hk => by rw [h.n k hk]; exact Nat.le_refl _, fun k hk => by have := h.tick k hk; omega, fun i x y hx hy => by have := h.inc i x y hx hy; omega⟩
theorem KeysOK.take {ks : List KeyV} {m N : Nat} (h : KeysOK ks m N) (n : Nat) : KeysOK (ks.take n) m N :=
 ⟨fun k hk => h.len k (List.mem_of_mem_take hk), fun k hk => h.n k (List.mem_of_mem_take hk), fun k hk => h.tick k (List.mem_of_mem_take hk), fun i x y hx hy => by
  have g : ∀ {j : Nat} {z : KeyV}, (ks.take n)[j]? = some z → ks[j]? = some z := fun {j z} hz => by
   rw [List.getElem?_take] at hz
   split at hz
   ·exact hz
   ·cases hz
  exact h.inc i x y (g hx) (g hy)⟩
theorem at_end {m N : Nat} {ks : List KeyV} {t : Int} {z : KeyV} (h : KeysOK ks m N) (hne : ks ≠ []) (hz : ks[ks.length - 1]? = some z) (ht : z.tick ≤ t) : (atR ks t).1 = z.q := by
 have hl : 0 < ks.length := by cases ks with | nil => exact absurd rfl hne | cons => simp
 rcases at_three h hne t with ⟨a, ha, h1, _⟩ | ⟨i, x, y, hx, hy, h1, h2, _⟩ | ⟨w, hw, _, h2, _⟩
 ·have := h.mono (Nat.zero_le _) ha hz; omega
 ·have := h.mono (i := i + 1) (j := ks.length - 1) (by have := (List.getElem?_eq_some_iff.1 hy).1; omega) hy hz; omega
 ·rw [hz] at hw; cases hw; exact h2
theorem at_start {ks : List KeyV} {a : KeyV} {t : Int} (ha : ks[0]? = some a) (h : t ≤ a.tick) : (atR ks t).1 = a.q := by
 rw [at_first ha h]
structure TsG (x : TsX) : Prop where
 fe : 0 ≤ tsF x ∧ tsF x ≤ tsE x ∧ tsE x ≤ 2000
 len : ∀ k, (tsQ x k).length = x.m
 bit : ∀ t, (atR x.ks t).2 ≤ 449
 end_ : ∃ z, x.ks[x.ks.length - 1]? = some z ∧ z.tick = tsE x ∧ z.n ≤ 63 ∧ tsQ x (tsN x) = z.q
 first : ∃ z, x.ks[0]? = some z ∧ z.tick = tsF x ∧ tsQ x 0 = (atR x.ks 0).1
theorem TsI.g {x : TsX} (h : TsI x) : TsG x := by
 have hl := h.ne
 have hne : x.ks ≠ [] := fun e => by rw [e] at hl; simp at hl
 obtain ⟨a, ha⟩ : ∃ a, x.ks[0]? = some a := ⟨_, List.getElem?_eq_getElem (by omega)⟩
 obtain ⟨z, hz⟩ : ∃ z, x.ks[x.ks.length - 1]? = some z := ⟨_, List.getElem?_eq_getElem (by omega)⟩
 have ta := h.keys.tick a (List.mem_of_getElem? ha)
 have tz := h.keys.tick z (List.mem_of_getElem? hz)
 have nz := h.keys.n z (List.mem_of_getElem? hz)
 have az := h.keys.mono (Nat.zero_le _) ha hz
 have ef : tsF x = a.tick := by unfold tsF; rw [List.getD_eq_getElem?_getD, ha]; rfl
 have ee : tsE x = z.tick := by unfold tsE; rw [List.getD_eq_getElem?_getD, hz]; rfl
 refine ⟨by omega, fun k => (at_bound h.keys hne).2, fun t => by have := (at_bound (t := t) h.keys hne).1; omega, ⟨z, hz, ee.symm, nz, ?_⟩, ⟨a, ha, ef.symm, ?_⟩⟩
 ·exact at_end h.keys hne hz (by unfold tsN; omega)
 ·unfold tsQ
  rw [ef, at_start (t := 0) ha (by omega), at_start ha (by omega)]
theorem bif_two {a b : Bool} {p r : Prop} (h : a = true → b = false) (hr : r) : bif a then (bif b then p else r) else r := by
 cases a with
 | false => exact hr
 | true => rw [h rfl]; exact hr
theorem row_le_of {xs ys : List (List Ch)} (h : xs.length = ys.length) (hp : ∀ i, i < xs.length → ∃ q n N, xs[i]? = some [Ch.r q n] ∧ ys[i]? = some [Ch.r q N] ∧ n ≤ N) : RowLE xs ys := by
 refine ⟨h, fun i x y hx hy => ?_⟩
 obtain ⟨q, n, N, h1, h2, h3⟩ := hp i (List.getElem?_eq_some_iff.1 hx).1
 rw [h1] at hx
 rw [h2] at hy
 cases hx
 cases hy
 exact ⟨.r h3 .nil, rfl⟩
theorem lR_at {n : Nat} {qs : List Rat} {i : Nat} (h : i < qs.length) : (lR n qs)[i]? = some [Ch.r (qs.getD i 0) n] := by
 simp only [lR, List.getElem?_map, List.getD_eq_getElem?_getD, List.getElem?_eq_getElem h, Option.map_some, Option.getD_some]
theorem lR_le {n N : Nat} (qs : List Rat) (h : n ≤ N) : RowLE (lR n qs) (lR N qs) :=
 row_le_of (by rw [lR_len, lR_len]) fun i hi => by rw [lR_len] at hi; exact ⟨_, n, N, lR_at hi, lR_at hi, h⟩
theorem mixM_get {Q Q' : List Rat} {B B' i j m : Nat} (hQ : Q.length = m) (hQ' : Q'.length = m) (hi : i ≤ m) (hj : j < m) : (lR B' (Q'.take i) ++ lR B (Q.drop i))[j]? = some (if j < i then [Ch.r (Q'.getD j 0) B'] else [Ch.r (Q.getD j 0) B]) := by
 have l1 : (lR B' (Q'.take i)).length = i := by rw [lR_len, List.length_take]; omega
 split
 ·rename_i h
  rw [List.getElem?_append_left (by omega), lR_at (by rw [List.length_take]; omega)]
  simp only [List.getD_eq_getElem?_getD, List.getElem?_take, if_pos h]
 ·rename_i h
  rw [List.getElem?_append_right (by omega), l1, lR_at (by rw [List.length_drop]; omega)]
  simp only [List.getD_eq_getElem?_getD, List.getElem?_drop]
  rw [show i + (j - i) = j by omega]
theorem mixM_len {Q Q' : List Rat} {B B' i m : Nat} (hQ : Q.length = m) (hQ' : Q'.length = m) (hi : i ≤ m) : (lR B' (Q'.take i) ++ lR B (Q.drop i)).length = m := by
 rw [List.length_append, lR_len, lR_len, List.length_take, List.length_drop]; omega
theorem mixM_set {Q Q' : List Rat} {B B' i m b : Nat} {q : Rat} (hQ : Q.length = m) (hQ' : Q'.length = m) (hi : i < m) (hq : q = Q'.getD i 0) (hb : b ≤ B') : RowLE ((lR B' (Q'.take i) ++ lR B (Q.drop i)).set i [Ch.r q b]) (lR B' (Q'.take (i + 1)) ++ lR B (Q.drop (i + 1))) := by
 refine row_le_of (by rw [List.length_set, mixM_len hQ hQ' (by omega), mixM_len hQ hQ' (by omega)]) fun j hj => ?_
 rw [List.length_set, mixM_len hQ hQ' (by omega)] at hj
 rw [mixM_get hQ hQ' (by omega) hj]
 by_cases h : j = i
 ·subst h
  rw [List.getElem?_set, if_pos rfl, if_pos (by rw [mixM_len hQ hQ' (by omega)]; omega), if_pos (by omega)]
  exact ⟨q, b, B', rfl, by rw [hq], hb⟩
 ·rw [List.getElem?_set_ne (by omega), mixM_get hQ hQ' (by omega) hj]
  by_cases h2 : j < i
  ·rw [if_pos h2, if_pos (by omega)]; exact ⟨_, _, _, rfl, rfl, Nat.le_refl _⟩
  ·rw [if_neg h2, if_neg (by omega)]; exact ⟨_, _, _, rfl, rfl, Nat.le_refl _⟩
def ot_kSums : OT := fun id => bif id.beq 18 then ([0, 1, 2, 3, 4, 5, 6, 7, 8, 9], [[], [], [], [], [2, 3], [4, 2, 3], [], [5, 4, 2, 3, 6], [0, 1, 2, 3, 4, 5, 6, 7], [8, 0, 1, 2, 3, 4, 5, 6, 7]]) else bif id.beq 21 then ([0, 1, 2, 3, 4, 5, 6, 7, 8, 9, 10, 11, 12, 13, 14, 15, 16, 17, 18, 19, 20, 21, 22, 23, 24, 25], [[], [0], [1, 0], [2, 1, 0], [3, 2, 1, 0], [3, 2, 1, 0], [3, 2, 1, 0], [6, 3, 2, 1, 0], [7, 6, 3, 2, 1, 0], [5, 3, 2, 1, 0, 8, 7, 6], [9, 5, 3, 2, 1, 0, 8, 7, 6], [10, 9, 5, 3, 2, 1, 0, 8, 7, 6], [4, 3, 2, 1, 0, 11, 10, 9, 5, 8, 7, 6], [3, 2, 1, 0, 12, 4, 11, 10, 9, 5, 8, 7, 6], [13, 3, 2, 1, 0, 12, 4, 11, 10, 9, 5, 8, 7, 6], [14, 13, 3, 2, 1, 0, 12, 4, 11, 10, 9, 5, 8, 7, 6], [14, 13, 3, 2, 1, 0, 12, 4, 11, 10, 9, 5, 8, 7, 6], [14, 13, 3, 2, 1, 0, 12, 4, 11, 10, 9, 5, 8, 7, 6], [17, 14, 13, 3, 2, 1, 0, 12, 4, 11, 10, 9, 5, 8, 7, 6], [18, 17, 14, 13, 3, 2, 1, 0, 12, 4, 11, 10, 9, 5, 8, 7, 6], [16, 14, 13, 3, 2, 1, 0, 12, 4, 11, 10, 9, 5, 8, 7, 6, 19, 18, 17], [20, 16, 14, 13, 3, 2, 1, 0, 12, 4, 11, 10, 9, 5, 8, 7, 6, 19, 18, 17], [21, 20, 16, 14, 13, 3, 2, 1, 0, 12, 4, 11, 10, 9, 5, 8, 7, 6, 19, 18, 17], [15, 14, 13, 3, 2, 1, 0, 12, 4, 11, 10, 9, 5, 8, 7, 6, 22, 21, 20, 16, 19, 18, 17], [14, 13, 3, 2, 1, 0, 12, 4, 11, 10, 9, 5, 8, 7, 6, 23, 15, 22, 21, 20, 16, 19, 18, 17], [24, 14, 13, 3, 2, 1, 0, 12, 4, 11, 10, 9, 5, 8, 7, 6, 23, 15, 22, 21, 20, 16, 19, 18, 17]]) else ([], [])
def goal_kSums (l : List Int) (m : List Int) (K : AV → Prop) : Prop := goalL T56s ot_kSums (inv_sums) Tryd.f3 [.x false [.s 1 (ints l)], .x false [.s 1 (ints m)]] K
theorem goal_kSums_vc (l : List Int) (m : List Int) (K : AV → Prop) : goal_kSums l m K = (True∧∃(l_1:List Int),ints l=ints l_1∧l_1.length≤9223372036854775807∧∀(a:ArmV),Made a∧1≤a.links.length→∃(a_2:ArmV),∃(l:List Int),[Ch.v (Value.string a.name),Ch.r a.x 63,Ch.r a.y 63,Ch.v (Value.bool a.half),Ch.r a.t 63,Ch.s 16 (List.map linkCh a.links)]=[Ch.v (Value.string a_2.name),Ch.r a_2.x 63,Ch.r a_2.y 63,Ch.v (Value.bool a_2.half),Ch.r a_2.t 63,Ch.s 16 (List.map linkCh a_2.links)]∧ints m=ints l∧(GoodArm a_2∧l.length≤9223372036854775807)∧∀(ks:List KeyV),MadeT a_2 ks→1≤ks.length→ks.length≤4→((0:Int)≤0∧(0≤bif false then if 2>Int.ofNat (List.map keyCh ks).length then 2 else Int.ofNat (List.map keyCh ks).length else if 2<Int.ofNat (List.map keyCh ks).length then 2 else Int.ofNat (List.map keyCh ks).length)∧(bif false then if 2>Int.ofNat (List.map keyCh ks).length then 2 else Int.ofNat (List.map keyCh ks).length else if 2<Int.ofNat (List.map keyCh ks).length then 2 else Int.ofNat (List.map keyCh ks).length)≤Int.ofNat (List.map keyCh ks).length)∧∃(ks_1:List KeyV),∃(m:Nat),∃(N:Nat),List.take ((bif false then if 2>Int.ofNat (List.map keyCh ks).length then 2 else Int.ofNat (List.map keyCh ks).length else if 2<Int.ofNat (List.map keyCh ks).length then 2 else Int.ofNat (List.map keyCh ks).length).toNat-0) (List.drop 0 (List.map keyCh ks))=List.map keyCh ks_1∧KeysOK ks_1 m N∧((N≤10000∧m≤100000∧1≤ks_1.length∧ks_1.length≤100000)∧(-4611686018427387904:Int)≤0∧(0:Int)<4611686018427387904)∧∃(ks_2:List KeyV),List.take ((bif false then if 2>Int.ofNat (List.map keyCh ks).length then 2 else Int.ofNat (List.map keyCh ks).length else if 2<Int.ofNat (List.map keyCh ks).length then 2 else Int.ofNat (List.map keyCh ks).length).toNat-0) (List.drop 0 (List.map keyCh ks))=List.map keyCh ks_2∧(∃(x:TsX),((TsI x∧x.k=0∧x.i=0)∧OfNat.ofNat 0=0)∧43=43∧0=0∧0=0∧0=0∧0=0∧4=4∧false=false∧37=37∧2=2∧List.take ((bif false then if 2>Int.ofNat (List.map keyCh ks).length then 2 else Int.ofNat (List.map keyCh ks).length else if 2<Int.ofNat (List.map keyCh ks).length then 2 else Int.ofNat (List.map keyCh ks).length).toNat-0) (List.drop 0 (List.map keyCh ks))=List.map keyCh x.ks∧39=39∧0=0∧m=x.m∧3=3∧ -1=tsL x x.k∧25=25∧3=3∧(List.map (fun(q:Rat)=>[Ch.r q (atR ks_1 0).snd]) (atR ks_1 0).fst=List.map (fun(q:Rat)=>[Ch.r q (tsB x.k)]) (tsQ x x.k)∨RowLE (List.map (fun(q:Rat)=>[Ch.r q (atR ks_1 0).snd]) (atR ks_1 0).fst) (List.map (fun(q:Rat)=>[Ch.r q (tsB x.k)]) (tsQ x x.k)))∧37=37∧2=2∧List.map keyCh ks_2=List.map keyCh x.ks∧True)∧∀(x:TsX),TsI x∧x.k=0∧x.i=0→OfNat.ofNat 0=0→bif Int.ofNat (List.map keyCh x.ks).length==0 then bif decide (Int.ofNat (List.map keyCh x.ks).length>0) then (0≤IntKind.i64.wrap (Int.ofNat (List.map keyCh x.ks).length-1)∧IntKind.i64.wrap (Int.ofNat (List.map keyCh x.ks).length-1)<Int.ofNat (List.map keyCh x.ks).length)∧∃(d:Int),ldE (List.map keyCh x.ks) (IntKind.i64.wrap (Int.ofNat (List.map keyCh x.ks).length-1)).toNat 0 1=some [Ch.v (Value.int IntKind.i64 d)]∧bif tsL x x.k==d then (0≤IntKind.i64.wrap (Int.ofNat (List.map keyCh x.ks).length-1)∧IntKind.i64.wrap (Int.ofNat (List.map keyCh x.ks).length-1)<Int.ofNat (List.map keyCh x.ks).length)∧∃(ys:List (List Ch)),ldE (List.map keyCh x.ks) (IntKind.i64.wrap (Int.ofNat (List.map keyCh x.ks).length-1)).toNat 1 1=some [Ch.s 3 ys]∧∃(a:Nat),∃(ps:List Rat),∃(b:Nat),∃(qs:List Rat),List.take x.m (List.drop 0 (List.map (fun(q:Rat)=>[Ch.r q (tsB x.k)]) (tsQ x x.k)))=lR a ps∧ys=lR b qs∧(ps.length≤1000000000∧qs.length≤1000000000)∧K (AV.x false [Ch.v (Value.bool (decide (ps=qs)))]) else K (AV.x false [Ch.v (Value.bool false)]) else K (AV.x false [Ch.v (Value.bool false)]) else ((0:Int)≤0∧0<Int.ofNat (List.map keyCh x.ks).length)∧∃(d:Int),ldE (List.map keyCh x.ks) 0 0 1=some [Ch.v (Value.int IntKind.i64 d)]∧(∃(x_1:TsX),((TsI x_1∧x_1.i=0)∧OfNat.ofNat 0=OfNat.ofNat 0)∧0=0∧d=tsF x_1+Int.ofNat x_1.k∧0=0∧4=4∧false=false∧37=37∧2=2∧List.map keyCh x.ks=List.map keyCh x_1.ks∧39=39∧0=0∧x.m=x_1.m∧3=3∧tsL x x.k=tsL x_1 x_1.k∧25=25∧3=3∧(List.map (fun(q:Rat)=>[Ch.r q (tsB x.k)]) (tsQ x x.k)=List.map (fun(q:Rat)=>[Ch.r q (tsB x_1.k)]) (tsQ x_1 x_1.k)∨RowLE (List.map (fun(q:Rat)=>[Ch.r q (tsB x.k)]) (tsQ x x.k)) (List.map (fun(q:Rat)=>[Ch.r q (tsB x_1.k)]) (tsQ x_1 x_1.k)))∧37=37∧2=2∧List.map keyCh x.ks=List.map keyCh x_1.ks∧True)∧∀(x:TsX),TsI x∧x.i=0→OfNat.ofNat 0=OfNat.ofNat 0→(0≤IntKind.i64.wrap (Int.ofNat (List.map keyCh x.ks).length-1)∧IntKind.i64.wrap (Int.ofNat (List.map keyCh x.ks).length-1)<Int.ofNat (List.map keyCh x.ks).length)∧∃(d:Int),ldE (List.map keyCh x.ks) (IntKind.i64.wrap (Int.ofNat (List.map keyCh x.ks).length-1)).toNat 0 1=some [Ch.v (Value.int IntKind.i64 d)]∧bif decide (tsF x+Int.ofNat x.k≤d) then ∃(ks:List KeyV),∃(m:Nat),∃(N:Nat),List.map keyCh x.ks=List.map keyCh ks∧KeysOK ks m N∧((N≤10000∧m≤100000∧1≤ks.length∧ks.length≤100000)∧ -4611686018427387904≤tsF x+Int.ofNat x.k∧tsF x+Int.ofNat x.k<4611686018427387904)∧bif decide (tsL x x.k≥0) then bif tsF x+Int.ofNat x.k != IntKind.i64.wrap (tsL x x.k+1) then K (AV.x false [Ch.v (Value.bool false)]) else ∃(a:Nat),∃(ps:List Rat),∃(b:Nat),∃(qs:List Rat),List.take m (List.drop 0 (List.map (fun(q:Rat)=>[Ch.r q (atR ks (tsF x+Int.ofNat x.k)).snd]) (atR ks (tsF x+Int.ofNat x.k)).fst))=lR a ps∧List.take x.m (List.drop 0 (List.map (fun(q:Rat)=>[Ch.r q (tsB x.k)]) (tsQ x x.k)))=lR b qs∧(ps.length≤1000000000∧qs.length≤1000000000)∧bif !decide (ps=qs) then K (AV.x false [Ch.v (Value.bool false)]) else ∃(ks:List KeyV),∃(m:Nat),∃(N:Nat),List.map keyCh x.ks=List.map keyCh ks∧(KeysOK ks m N∧(N≤10000∧m≤100000∧1≤ks.length∧ks.length≤100000)∧ -4611686018427387904≤tsF x+Int.ofNat x.k∧tsF x+Int.ofNat x.k+1<4611686018427387904)∧(∃(x_1:TsX),((TsI x_1∧x_1.k<tsN x_1)∧5000-(tsF x_1+Int.ofNat x_1.k).toNat=5000-(tsF x+Int.ofNat x.k).toNat)∧tsF x+Int.ofNat x.k=tsF x_1+Int.ofNat x_1.k∧3=3∧lR ((atR ks (tsF x+Int.ofNat x.k+1)).snd+(atR ks (tsF x+Int.ofNat x.k)).snd+1) (spdR ks (tsF x+Int.ofNat x.k))=lR ((atR x_1.ks (tsF x_1+Int.ofNat x_1.k+1)).snd+(atR x_1.ks (tsF x_1+Int.ofNat x_1.k)).snd+1) (spdR x_1.ks (tsF x_1+Int.ofNat x_1.k))∧Int.ofNat (lR ((atR ks (tsF x+Int.ofNat x.k+1)).snd+(atR ks (tsF x+Int.ofNat x.k)).snd+1) (spdR ks (tsF x+Int.ofNat x.k))).length=Int.ofNat x_1.m∧0=Int.ofNat x_1.i∧0=0∧0=0∧0=0∧0=0∧1=1∧4=4∧false=false∧37=37∧2=2∧List.map keyCh x.ks=List.map keyCh x_1.ks∧39=39∧0=0∧x.m=x_1.m∧3=3∧tsL x x.k=tsL x_1 x_1.k∧25=25∧3=3∧(List.map (fun(q:Rat)=>[Ch.r q (tsB x.k)]) (tsQ x x.k)=lR (tsB (x_1.k+1)) (List.take x_1.i (tsQ x_1 (x_1.k+1)))++lR (tsB x_1.k) (List.drop x_1.i (tsQ x_1 x_1.k))∨RowLE (List.map (fun(q:Rat)=>[Ch.r q (tsB x.k)]) (tsQ x x.k)) (lR (tsB (x_1.k+1)) (List.take x_1.i (tsQ x_1 (x_1.k+1)))++lR (tsB x_1.k) (List.drop x_1.i (tsQ x_1 x_1.k))))∧37=37∧2=2∧List.map keyCh x.ks=List.map keyCh x_1.ks∧True)∧∀(x_1:TsX),TsI x_1∧x_1.k<tsN x_1→5000-(tsF x_1+Int.ofNat x_1.k).toNat=5000-(tsF x+Int.ofNat x.k).toNat→bif decide (Int.ofNat x_1.i<Int.ofNat x_1.m) then (0≤Int.ofNat x_1.i∧Int.ofNat x_1.i<Int.ofNat (lR ((atR x_1.ks (tsF x_1+Int.ofNat x_1.k+1)).snd+(atR x_1.ks (tsF x_1+Int.ofNat x_1.k)).snd+1) (spdR x_1.ks (tsF x_1+Int.ofNat x_1.k))).length)∧∃(q:Rat),∃(n:Nat),ldE (lR ((atR x_1.ks (tsF x_1+Int.ofNat x_1.k+1)).snd+(atR x_1.ks (tsF x_1+Int.ofNat x_1.k)).snd+1) (spdR x_1.ks (tsF x_1+Int.ofNat x_1.k))) (Int.ofNat x_1.i).toNat 0 3=some [Ch.r q n]∧bif decide (Int.ofNat x_1.i≥Int.ofNat x_1.m) then K (AV.x false [Ch.v (Value.bool false)]) else (0≤Int.ofNat x_1.i∧Int.ofNat x_1.i<Int.ofNat x_1.m)∧∃(q_1:Rat),∃(n_1:Nat),ldE (lR (tsB (x_1.k+1)) (List.take x_1.i (tsQ x_1 (x_1.k+1)))++lR (tsB x_1.k) (List.drop x_1.i (tsQ x_1 x_1.k))) (0+(Int.ofNat x_1.i).toNat) 0 3=some [Ch.r q_1 n_1]∧n_1+n+1≤4294967296∧(0≤Int.ofNat x_1.i∧Int.ofNat x_1.i<Int.ofNat x_1.m)∧0+(Int.ofNat x_1.i).toNat<(lR (tsB (x_1.k+1)) (List.take x_1.i (tsQ x_1 (x_1.k+1)))++lR (tsB x_1.k) (List.drop x_1.i (tsQ x_1 x_1.k))).length∧∃(x':TsX),((TsI x'∧x'.k<tsN x')∧5000-(tsF x'+Int.ofNat x'.k).toNat=5000-(tsF x+Int.ofNat x.k).toNat∧x'.m-x'.i<x_1.m-x_1.i)∧tsF x_1+Int.ofNat x_1.k=tsF x'+Int.ofNat x'.k∧3=3∧lR ((atR x_1.ks (tsF x_1+Int.ofNat x_1.k+1)).snd+(atR x_1.ks (tsF x_1+Int.ofNat x_1.k)).snd+1) (spdR x_1.ks (tsF x_1+Int.ofNat x_1.k))=lR ((atR x'.ks (tsF x'+Int.ofNat x'.k+1)).snd+(atR x'.ks (tsF x'+Int.ofNat x'.k)).snd+1) (spdR x'.ks (tsF x'+Int.ofNat x'.k))∧Int.ofNat x_1.m=Int.ofNat x'.m∧IntKind.i64.wrap (Int.ofNat x_1.i+1)=Int.ofNat x'.i∧0=0∧0=0∧0=0∧0=0∧1=1∧4=4∧false=false∧37=37∧2=2∧List.map keyCh x_1.ks=List.map keyCh x'.ks∧39=39∧0=0∧x_1.m=x'.m∧3=3∧tsL x_1 x_1.k=tsL x' x'.k∧25=25∧3=3∧((lR (tsB (x_1.k+1)) (List.take x_1.i (tsQ x_1 (x_1.k+1)))++lR (tsB x_1.k) (List.drop x_1.i (tsQ x_1 x_1.k))).set (0+(Int.ofNat x_1.i).toNat) [Ch.r (q_1+q) (n_1+n+1)]=lR (tsB (x'.k+1)) (List.take x'.i (tsQ x' (x'.k+1)))++lR (tsB x'.k) (List.drop x'.i (tsQ x' x'.k))∨RowLE ((lR (tsB (x_1.k+1)) (List.take x_1.i (tsQ x_1 (x_1.k+1)))++lR (tsB x_1.k) (List.drop x_1.i (tsQ x_1 x_1.k))).set (0+(Int.ofNat x_1.i).toNat) [Ch.r (q_1+q) (n_1+n+1)]) (lR (tsB (x'.k+1)) (List.take x'.i (tsQ x' (x'.k+1)))++lR (tsB x'.k) (List.drop x'.i (tsQ x' x'.k))))∧37=37∧2=2∧List.map keyCh x_1.ks=List.map keyCh x'.ks∧True else bif tsF x+Int.ofNat x.k==9223372036854775807 then bif decide (Int.ofNat (List.map keyCh x_1.ks).length>0) then (0≤IntKind.i64.wrap (Int.ofNat (List.map keyCh x_1.ks).length-1)∧IntKind.i64.wrap (Int.ofNat (List.map keyCh x_1.ks).length-1)<Int.ofNat (List.map keyCh x_1.ks).length)∧∃(d:Int),ldE (List.map keyCh x_1.ks) (IntKind.i64.wrap (Int.ofNat (List.map keyCh x_1.ks).length-1)).toNat 0 1=some [Ch.v (Value.int IntKind.i64 d)]∧bif tsF x_1+Int.ofNat x_1.k==d then (0≤IntKind.i64.wrap (Int.ofNat (List.map keyCh x_1.ks).length-1)∧IntKind.i64.wrap (Int.ofNat (List.map keyCh x_1.ks).length-1)<Int.ofNat (List.map keyCh x_1.ks).length)∧∃(ys:List (List Ch)),ldE (List.map keyCh x_1.ks) (IntKind.i64.wrap (Int.ofNat (List.map keyCh x_1.ks).length-1)).toNat 1 1=some [Ch.s 3 ys]∧∃(a:Nat),∃(ps:List Rat),∃(b:Nat),∃(qs:List Rat),List.take x_1.m (List.drop 0 (lR (tsB (x_1.k+1)) (List.take x_1.i (tsQ x_1 (x_1.k+1)))++lR (tsB x_1.k) (List.drop x_1.i (tsQ x_1 x_1.k))))=lR a ps∧ys=lR b qs∧(ps.length≤1000000000∧qs.length≤1000000000)∧K (AV.x false [Ch.v (Value.bool (decide (ps=qs)))]) else K (AV.x false [Ch.v (Value.bool false)]) else K (AV.x false [Ch.v (Value.bool false)]) else ∃(x':TsX),((TsI x'∧x'.i=0)∧OfNat.ofNat 0=OfNat.ofNat 0∧5000-(tsF x'+Int.ofNat x'.k).toNat<5000-(tsF x+Int.ofNat x.k).toNat)∧0=0∧IntKind.i64.wrap (tsF x+Int.ofNat x.k+1)=tsF x'+Int.ofNat x'.k∧0=0∧4=4∧false=false∧37=37∧2=2∧List.map keyCh x_1.ks=List.map keyCh x'.ks∧39=39∧0=0∧x_1.m=x'.m∧3=3∧tsF x_1+Int.ofNat x_1.k=tsL x' x'.k∧25=25∧3=3∧(lR (tsB (x_1.k+1)) (List.take x_1.i (tsQ x_1 (x_1.k+1)))++lR (tsB x_1.k) (List.drop x_1.i (tsQ x_1 x_1.k))=List.map (fun(q:Rat)=>[Ch.r q (tsB x'.k)]) (tsQ x' x'.k)∨RowLE (lR (tsB (x_1.k+1)) (List.take x_1.i (tsQ x_1 (x_1.k+1)))++lR (tsB x_1.k) (List.drop x_1.i (tsQ x_1 x_1.k))) (List.map (fun(q:Rat)=>[Ch.r q (tsB x'.k)]) (tsQ x' x'.k)))∧37=37∧2=2∧List.map keyCh x_1.ks=List.map keyCh x'.ks∧True else ∃(a:Nat),∃(ps:List Rat),∃(b:Nat),∃(qs:List Rat),List.take m (List.drop 0 (List.map (fun(q:Rat)=>[Ch.r q (atR ks (tsF x+Int.ofNat x.k)).snd]) (atR ks (tsF x+Int.ofNat x.k)).fst))=lR a ps∧List.take x.m (List.drop 0 (List.map (fun(q:Rat)=>[Ch.r q (tsB x.k)]) (tsQ x x.k)))=lR b qs∧(ps.length≤1000000000∧qs.length≤1000000000)∧bif !decide (ps=qs) then K (AV.x false [Ch.v (Value.bool false)]) else ∃(ks:List KeyV),∃(m:Nat),∃(N:Nat),List.map keyCh x.ks=List.map keyCh ks∧(KeysOK ks m N∧(N≤10000∧m≤100000∧1≤ks.length∧ks.length≤100000)∧ -4611686018427387904≤tsF x+Int.ofNat x.k∧tsF x+Int.ofNat x.k+1<4611686018427387904)∧(∃(x_1:TsX),((TsI x_1∧x_1.k<tsN x_1)∧5000-(tsF x_1+Int.ofNat x_1.k).toNat=5000-(tsF x+Int.ofNat x.k).toNat)∧tsF x+Int.ofNat x.k=tsF x_1+Int.ofNat x_1.k∧3=3∧lR ((atR ks (tsF x+Int.ofNat x.k+1)).snd+(atR ks (tsF x+Int.ofNat x.k)).snd+1) (spdR ks (tsF x+Int.ofNat x.k))=lR ((atR x_1.ks (tsF x_1+Int.ofNat x_1.k+1)).snd+(atR x_1.ks (tsF x_1+Int.ofNat x_1.k)).snd+1) (spdR x_1.ks (tsF x_1+Int.ofNat x_1.k))∧Int.ofNat (lR ((atR ks (tsF x+Int.ofNat x.k+1)).snd+(atR ks (tsF x+Int.ofNat x.k)).snd+1) (spdR ks (tsF x+Int.ofNat x.k))).length=Int.ofNat x_1.m∧0=Int.ofNat x_1.i∧0=0∧0=0∧0=0∧0=0∧1=1∧4=4∧false=false∧37=37∧2=2∧List.map keyCh x.ks=List.map keyCh x_1.ks∧39=39∧0=0∧x.m=x_1.m∧3=3∧tsL x x.k=tsL x_1 x_1.k∧25=25∧3=3∧(List.map (fun(q:Rat)=>[Ch.r q (tsB x.k)]) (tsQ x x.k)=lR (tsB (x_1.k+1)) (List.take x_1.i (tsQ x_1 (x_1.k+1)))++lR (tsB x_1.k) (List.drop x_1.i (tsQ x_1 x_1.k))∨RowLE (List.map (fun(q:Rat)=>[Ch.r q (tsB x.k)]) (tsQ x x.k)) (lR (tsB (x_1.k+1)) (List.take x_1.i (tsQ x_1 (x_1.k+1)))++lR (tsB x_1.k) (List.drop x_1.i (tsQ x_1 x_1.k))))∧37=37∧2=2∧List.map keyCh x.ks=List.map keyCh x_1.ks∧True)∧∀(x_1:TsX),TsI x_1∧x_1.k<tsN x_1→5000-(tsF x_1+Int.ofNat x_1.k).toNat=5000-(tsF x+Int.ofNat x.k).toNat→bif decide (Int.ofNat x_1.i<Int.ofNat x_1.m) then (0≤Int.ofNat x_1.i∧Int.ofNat x_1.i<Int.ofNat (lR ((atR x_1.ks (tsF x_1+Int.ofNat x_1.k+1)).snd+(atR x_1.ks (tsF x_1+Int.ofNat x_1.k)).snd+1) (spdR x_1.ks (tsF x_1+Int.ofNat x_1.k))).length)∧∃(q:Rat),∃(n:Nat),ldE (lR ((atR x_1.ks (tsF x_1+Int.ofNat x_1.k+1)).snd+(atR x_1.ks (tsF x_1+Int.ofNat x_1.k)).snd+1) (spdR x_1.ks (tsF x_1+Int.ofNat x_1.k))) (Int.ofNat x_1.i).toNat 0 3=some [Ch.r q n]∧bif decide (Int.ofNat x_1.i≥Int.ofNat x_1.m) then K (AV.x false [Ch.v (Value.bool false)]) else (0≤Int.ofNat x_1.i∧Int.ofNat x_1.i<Int.ofNat x_1.m)∧∃(q_1:Rat),∃(n_1:Nat),ldE (lR (tsB (x_1.k+1)) (List.take x_1.i (tsQ x_1 (x_1.k+1)))++lR (tsB x_1.k) (List.drop x_1.i (tsQ x_1 x_1.k))) (0+(Int.ofNat x_1.i).toNat) 0 3=some [Ch.r q_1 n_1]∧n_1+n+1≤4294967296∧(0≤Int.ofNat x_1.i∧Int.ofNat x_1.i<Int.ofNat x_1.m)∧0+(Int.ofNat x_1.i).toNat<(lR (tsB (x_1.k+1)) (List.take x_1.i (tsQ x_1 (x_1.k+1)))++lR (tsB x_1.k) (List.drop x_1.i (tsQ x_1 x_1.k))).length∧∃(x':TsX),((TsI x'∧x'.k<tsN x')∧5000-(tsF x'+Int.ofNat x'.k).toNat=5000-(tsF x+Int.ofNat x.k).toNat∧x'.m-x'.i<x_1.m-x_1.i)∧tsF x_1+Int.ofNat x_1.k=tsF x'+Int.ofNat x'.k∧3=3∧lR ((atR x_1.ks (tsF x_1+Int.ofNat x_1.k+1)).snd+(atR x_1.ks (tsF x_1+Int.ofNat x_1.k)).snd+1) (spdR x_1.ks (tsF x_1+Int.ofNat x_1.k))=lR ((atR x'.ks (tsF x'+Int.ofNat x'.k+1)).snd+(atR x'.ks (tsF x'+Int.ofNat x'.k)).snd+1) (spdR x'.ks (tsF x'+Int.ofNat x'.k))∧Int.ofNat x_1.m=Int.ofNat x'.m∧IntKind.i64.wrap (Int.ofNat x_1.i+1)=Int.ofNat x'.i∧0=0∧0=0∧0=0∧0=0∧1=1∧4=4∧false=false∧37=37∧2=2∧List.map keyCh x_1.ks=List.map keyCh x'.ks∧39=39∧0=0∧x_1.m=x'.m∧3=3∧tsL x_1 x_1.k=tsL x' x'.k∧25=25∧3=3∧((lR (tsB (x_1.k+1)) (List.take x_1.i (tsQ x_1 (x_1.k+1)))++lR (tsB x_1.k) (List.drop x_1.i (tsQ x_1 x_1.k))).set (0+(Int.ofNat x_1.i).toNat) [Ch.r (q_1+q) (n_1+n+1)]=lR (tsB (x'.k+1)) (List.take x'.i (tsQ x' (x'.k+1)))++lR (tsB x'.k) (List.drop x'.i (tsQ x' x'.k))∨RowLE ((lR (tsB (x_1.k+1)) (List.take x_1.i (tsQ x_1 (x_1.k+1)))++lR (tsB x_1.k) (List.drop x_1.i (tsQ x_1 x_1.k))).set (0+(Int.ofNat x_1.i).toNat) [Ch.r (q_1+q) (n_1+n+1)]) (lR (tsB (x'.k+1)) (List.take x'.i (tsQ x' (x'.k+1)))++lR (tsB x'.k) (List.drop x'.i (tsQ x' x'.k))))∧37=37∧2=2∧List.map keyCh x_1.ks=List.map keyCh x'.ks∧True else bif tsF x+Int.ofNat x.k==9223372036854775807 then bif decide (Int.ofNat (List.map keyCh x_1.ks).length>0) then (0≤IntKind.i64.wrap (Int.ofNat (List.map keyCh x_1.ks).length-1)∧IntKind.i64.wrap (Int.ofNat (List.map keyCh x_1.ks).length-1)<Int.ofNat (List.map keyCh x_1.ks).length)∧∃(d:Int),ldE (List.map keyCh x_1.ks) (IntKind.i64.wrap (Int.ofNat (List.map keyCh x_1.ks).length-1)).toNat 0 1=some [Ch.v (Value.int IntKind.i64 d)]∧bif tsF x_1+Int.ofNat x_1.k==d then (0≤IntKind.i64.wrap (Int.ofNat (List.map keyCh x_1.ks).length-1)∧IntKind.i64.wrap (Int.ofNat (List.map keyCh x_1.ks).length-1)<Int.ofNat (List.map keyCh x_1.ks).length)∧∃(ys:List (List Ch)),ldE (List.map keyCh x_1.ks) (IntKind.i64.wrap (Int.ofNat (List.map keyCh x_1.ks).length-1)).toNat 1 1=some [Ch.s 3 ys]∧∃(a:Nat),∃(ps:List Rat),∃(b:Nat),∃(qs:List Rat),List.take x_1.m (List.drop 0 (lR (tsB (x_1.k+1)) (List.take x_1.i (tsQ x_1 (x_1.k+1)))++lR (tsB x_1.k) (List.drop x_1.i (tsQ x_1 x_1.k))))=lR a ps∧ys=lR b qs∧(ps.length≤1000000000∧qs.length≤1000000000)∧K (AV.x false [Ch.v (Value.bool (decide (ps=qs)))]) else K (AV.x false [Ch.v (Value.bool false)]) else K (AV.x false [Ch.v (Value.bool false)]) else ∃(x':TsX),((TsI x'∧x'.i=0)∧OfNat.ofNat 0=OfNat.ofNat 0∧5000-(tsF x'+Int.ofNat x'.k).toNat<5000-(tsF x+Int.ofNat x.k).toNat)∧0=0∧IntKind.i64.wrap (tsF x+Int.ofNat x.k+1)=tsF x'+Int.ofNat x'.k∧0=0∧4=4∧false=false∧37=37∧2=2∧List.map keyCh x_1.ks=List.map keyCh x'.ks∧39=39∧0=0∧x_1.m=x'.m∧3=3∧tsF x_1+Int.ofNat x_1.k=tsL x' x'.k∧25=25∧3=3∧(lR (tsB (x_1.k+1)) (List.take x_1.i (tsQ x_1 (x_1.k+1)))++lR (tsB x_1.k) (List.drop x_1.i (tsQ x_1 x_1.k))=List.map (fun(q:Rat)=>[Ch.r q (tsB x'.k)]) (tsQ x' x'.k)∨RowLE (lR (tsB (x_1.k+1)) (List.take x_1.i (tsQ x_1 (x_1.k+1)))++lR (tsB x_1.k) (List.drop x_1.i (tsQ x_1 x_1.k))) (List.map (fun(q:Rat)=>[Ch.r q (tsB x'.k)]) (tsQ x' x'.k)))∧37=37∧2=2∧List.map keyCh x_1.ks=List.map keyCh x'.ks∧True else bif decide (Int.ofNat (List.map keyCh x.ks).length>0) then (0≤IntKind.i64.wrap (Int.ofNat (List.map keyCh x.ks).length-1)∧IntKind.i64.wrap (Int.ofNat (List.map keyCh x.ks).length-1)<Int.ofNat (List.map keyCh x.ks).length)∧∃(d:Int),ldE (List.map keyCh x.ks) (IntKind.i64.wrap (Int.ofNat (List.map keyCh x.ks).length-1)).toNat 0 1=some [Ch.v (Value.int IntKind.i64 d)]∧bif tsL x x.k==d then (0≤IntKind.i64.wrap (Int.ofNat (List.map keyCh x.ks).length-1)∧IntKind.i64.wrap (Int.ofNat (List.map keyCh x.ks).length-1)<Int.ofNat (List.map keyCh x.ks).length)∧∃(ys:List (List Ch)),ldE (List.map keyCh x.ks) (IntKind.i64.wrap (Int.ofNat (List.map keyCh x.ks).length-1)).toNat 1 1=some [Ch.s 3 ys]∧∃(a:Nat),∃(ps:List Rat),∃(b:Nat),∃(qs:List Rat),List.take x.m (List.drop 0 (List.map (fun(q:Rat)=>[Ch.r q (tsB x.k)]) (tsQ x x.k)))=lR a ps∧ys=lR b qs∧(ps.length≤1000000000∧qs.length≤1000000000)∧K (AV.x false [Ch.v (Value.bool (decide (ps=qs)))]) else K (AV.x false [Ch.v (Value.bool false)]) else K (AV.x false [Ch.v (Value.bool false)])) := by kernel_rfl
theorem g_kSums (l : List Int) (m : List Int) (hc : (l.length ≤ 9223372036854775807) ∧ (m.length ≤ 9223372036854775807)) (K : AV → Prop) (hK : K (.x false [.v (.bool true)])) : Holds (goal_kSums l m K) := by
 refine ⟨?_⟩
 rw [goal_kSums_vc]
 try simp only [Int.ofNat_eq_natCast, true_and, and_true, Nat.zero_add, Nat.le_refl, true_implies, true_or, or_true]
 obtain ⟨hl, hm⟩ := hc
 refine ⟨l, rfl, hl, fun a ha => ⟨a, m, rfl, rfl, ⟨MadeA.good ha, hm⟩, fun ks hks h1 h4 => ?_⟩⟩
 have hal := (MadeA.good ha).n
 have hm2 : (bif false then if (2 : Int) > ((ks.map keyCh).length : Int) then 2 else ((ks.map keyCh).length : Int) else if (2 : Int) < ((ks.map keyCh).length : Int) then 2 else ((ks.map keyCh).length : Int)) = ((min 2 ks.length : Nat) : Int) := by
  rw [List.length_map, cond_false]; split <;> omega
 rw [hm2]
 have hk : List.take (((min 2 ks.length : Nat) : Int).toNat - 0) (List.drop 0 (ks.map keyCh)) = (ks.take (min 2 ks.length)).map keyCh := by
  rw [Int.toNat_natCast, Nat.sub_zero, List.drop_zero, List.map_take]
 rw [hk]
 have hk2 := hks.keys'.take (min 2 ks.length)
 have l2 : 1 ≤ (ks.take (min 2 ks.length)).length ∧ (ks.take (min 2 ks.length)).length ≤ 2 := by rw [List.length_take]; omega
 simp only [List.length_map]
 generalize ks.take (min 2 ks.length) = k2 at *
 have hI : TsI ⟨k2, a.links.length, 0, 0⟩ := ⟨hk2, l2, by simp only; omega, Nat.zero_le _, Nat.zero_le _⟩
 refine ⟨⟨by omega, by omega, by omega⟩, k2, a.links.length, 63, rfl, hk2, ⟨⟨by omega, by omega, l2.1, by omega⟩, by omega, by omega⟩, k2, rfl, ⟨⟨k2, a.links.length, 0, 0⟩, ⟨hI, rfl, rfl⟩, rfl, rfl, rfl, .inr ?_, rfl⟩, fun x hx => ?_⟩
 ·obtain ⟨_, _, _, e0⟩ := hI.g.first
  have b0 := hI.g.bit 0
  simp only at e0 b0
  show RowLE (lR (atR k2 0).2 (atR k2 0).1) (lR (tsB 0) (tsQ ⟨k2, a.links.length, 0, 0⟩ 0))
  rw [e0]
  exact lR_le _ (by unfold tsB; omega)
 obtain ⟨hx, hk0, hi0⟩ := hx
 have hne := hx.ne
 obtain ⟨z0, hz0, hzt0, _⟩ := hx.g.first
 refine bif_mk (fun h => by simp only [beq_iff_eq] at h; omega) (fun _ => ⟨⟨by omega, by omega⟩, z0.tick, key_ld0 hz0, ⟨x, ⟨hx, hi0⟩, by rw [hzt0, hk0]; simp, rfl, rfl, rfl, .inl rfl, rfl⟩, fun x hx => ?_⟩)
 clear hzt0 hz0 z0 hk0 hi0 hne hI
 rename_i _ x0 hx0 _
 clear hx0
 obtain ⟨hx, hi0⟩ := hx
 have G := hx.g
 have hne := hx.ne
 have hk := hx.k
 have hxm := hx.m
 obtain ⟨z, hz, hzt, hzn, hzq⟩ := G.end_
 have hfe := G.fe
 have e1 : IntKind.i64.wrap ((x.ks.length : Int) - 1) = ((x.ks.length - 1 : Nat) : Int) := by rw [w64 (by omega)]; omega
 rw [e1, Int.toNat_natCast]
 refine ⟨⟨by omega, by omega⟩, z.tick, key_ld0 hz, bif_mk (fun hp => ?_) (fun hp => ?_)⟩
 ·have hp := of_decide_eq_true hp
  have hkN : x.k < tsN x := by unfold tsN; omega
  have ew : IntKind.i64.wrap (tsF x + x.k + 1) = tsF x + x.k + 1 := w64 (by omega)
  have lq := G.len x.k
  have lq1 := G.len (x.k + 1)
  have cs : ∀ y : TsX, tsQ y (y.k + 1) = (atR y.ks (tsF y + y.k + 1)).1 := fun y => by
   unfold tsQ; rw [show tsF y + ((y.k + 1 : Nat) : Int) = tsF y + y.k + 1 by omega]
  refine ⟨x.ks, x.m, 63, rfl, hx.keys, ⟨⟨by omega, by omega, by omega, by omega⟩, by omega, by omega⟩, bif_two (fun h => ?_) ?_⟩
  ·have h := of_decide_eq_true h
   have hL : tsL x x.k = tsF x + x.k - 1 := by
    unfold tsL at *
    cases hb : x.k.beq 0 with
    | true => rw [hb] at h; simp at h
    | false => rfl
   rw [hL, w64 (by omega)]
   simp
  ·refine ⟨(atR x.ks (tsF x + x.k)).2, (atR x.ks (tsF x + x.k)).1, tsB x.k, tsQ x x.k, ?_, ?_, ⟨?_, ?_⟩, bif_mk (fun h => ?_) (fun _ => ⟨x.ks, x.m, 63, rfl, ⟨hx.keys, ⟨by omega, by omega, by omega, by omega⟩, by omega, by omega⟩, ⟨x, ⟨⟨hx, hkN⟩, rfl⟩, rfl, rfl, ?_, by rw [hi0]; rfl, rfl, rfl, rfl, .inl ?_, rfl⟩, fun y hy hty => ?_⟩)⟩
   ·rw [List.drop_zero, List.take_of_length_le (by rw [List.length_map]; exact Nat.le_of_eq lq)]; rfl
   ·rw [List.drop_zero, List.take_of_length_le (by rw [List.length_map]; exact Nat.le_of_eq lq)]; rfl
   ·have : (atR x.ks (tsF x + x.k)).1.length = x.m := lq
    omega
   ·omega
   ·exact absurd h (by simp [tsQ])
   ·rw [lR_len]
    have : (spdR x.ks (tsF x + x.k)).length = x.m := by
     unfold spdR
     rw [List.length_zipWith, ← cs, lq1, show (atR x.ks (tsF x + x.k)).1.length = x.m from lq]; omega
    rw [this]
   ·rw [hi0]; rfl
   obtain ⟨hy, hyN⟩ := hy
   have G' := hy.g
   have hfe' := G'.fe
   have hyi := hy.i
   have hym := hy.m
   have hn : tsF y + y.k = tsF x + x.k := by unfold tsN at hyN hkN; omega
   have l1 := G'.len y.k
   have l1' := G'.len (y.k + 1)
   have hbt := G'.bit (tsF y + y.k)
   have hbt' := G'.bit (tsF y + y.k + 1)
   refine bif_mk (fun hp2 => ?_) (fun hp2 => ?_)
   ·have hp2 : y.i < y.m := by have := of_decide_eq_true hp2; omega
    have hV : (spdR y.ks (tsF y + y.k))[y.i]? = some ((tsQ y (y.k + 1)).getD y.i 0 - (tsQ y y.k).getD y.i 0) := by
     unfold spdR
     rw [List.getElem?_zipWith, ← cs, show (atR y.ks (tsF y + y.k)).1 = tsQ y y.k from rfl, List.getElem?_eq_getElem (show y.i < (tsQ y y.k).length by omega), List.getElem?_eq_getElem (show y.i < (tsQ y (y.k + 1)).length by omega)]
     simp only [List.getD_eq_getElem?_getD, List.getElem?_eq_getElem (show y.i < (tsQ y y.k).length by omega), List.getElem?_eq_getElem (show y.i < (tsQ y (y.k + 1)).length by omega), Option.getD_some]
    have hVl := (List.getElem?_eq_some_iff.1 hV).1
    have hM := mixM_get (B := tsB y.k) (B' := tsB (y.k + 1)) l1 l1' hyi hp2
    rw [if_neg (by omega)] at hM
    have hkb : y.k ≤ 2001 := by unfold tsN at hyN; omega
    rw [Int.toNat_natCast]
    refine ⟨⟨by omega, by rw [lR_len]; omega⟩, _, _, lR_ld hV, bif_mk (fun h => by have := of_decide_eq_true h; omega) (fun _ => ⟨⟨by omega, by omega⟩, (tsQ y y.k).getD y.i 0, tsB y.k, by simp only [ldE, hM]; rfl, by unfold tsB; omega, ⟨by omega, by omega⟩, by rw [mixM_len l1 l1' hyi]; omega, ⟨y.ks, y.m, y.k, y.i + 1⟩, ⟨⟨⟨hy.keys, hy.ne, hy.m, hy.k, hp2⟩, hyN⟩, hty, by simp only; omega⟩, rfl, rfl, rfl, by rw [w64 (by omega)]; simp, rfl, rfl, rfl, .inr (mixM_set l1 l1' hp2 (by grind) (by unfold tsB; omega)), rfl⟩)⟩
   ·have hp2 : y.i = y.m := by have := of_decide_eq_false hp2; omega
    have hN' : tsN (⟨y.ks, y.m, y.k + 1, 0⟩ : TsX) = tsN y := rfl
    have hF' : tsF (⟨y.ks, y.m, y.k + 1, 0⟩ : TsX) = tsF y := rfl
    refine bif_mk (fun h => by simp only [beq_iff_eq] at h; omega) (fun _ => ⟨⟨y.ks, y.m, y.k + 1, 0⟩, ⟨⟨⟨hy.keys, hy.ne, hy.m, by rw [hN']; exact hyN, Nat.zero_le _⟩, rfl⟩, by rw [hF']; simp only; omega⟩, by rw [ew, hF']; simp only; omega, rfl, rfl, ?_, .inl ?_, rfl⟩)
    ·show tsF y + y.k = tsL ⟨y.ks, y.m, y.k + 1, 0⟩ (y.k + 1)
     unfold tsL
     rw [hF']
     show tsF y + y.k = tsF y + ((y.k + 1 : Nat) : Int) - 1
     omega
    ·rw [hp2, List.take_of_length_le (by omega), List.drop_of_length_le (by omega)]
     show _ ++ [] = _
     rw [List.append_nil]
     rfl
 ·have hp := of_decide_eq_false hp
  have hkN : x.k = tsN x := by unfold tsN at *; omega
  have hL : tsL x x.k = tsE x := by
   have h0 : 1 ≤ tsN x := by unfold tsN; omega
   unfold tsL
   have : x.k.beq 0 = false := by cases hb : x.k.beq 0 with | false => rfl | true => have := Nat.eq_of_beq_eq_true hb; omega
   rw [this, cond_false, hkN]; unfold tsN; omega
  have lq := G.len x.k
  refine bif_mk (fun _ => ⟨⟨by omega, by omega⟩, z.tick, key_ld0 hz, bif_mk (fun _ => ⟨⟨by omega, by omega⟩, _, key_ld1 hz, tsB x.k, tsQ x x.k, z.n, z.q, ?_, rfl, ⟨by omega, ?_⟩, ?_⟩) (fun h => ?_)⟩) (fun h => ?_)
  ·rw [List.drop_zero, List.take_of_length_le (by rw [List.length_map]; exact Nat.le_of_eq lq)]; rfl
  ·rw [hx.keys.len z (List.mem_of_getElem? hz)]; omega
  ·have : tsQ x x.k = z.q := by rw [hkN]; exact hzq
   rw [this]
   simpa using hK
  ·rw [hL, hzt] at h; simp at h
  ·have := of_decide_eq_false h; omega
def c_kSums : Ctr := fun as0 => match as0 with
 | [.x false [.s 1 xs], .x false [.s 1 ys]] => some fun K => ∃ (l : List Int) (m : List Int), xs = ints l ∧ ys = ints m ∧ ((l.length ≤ 9223372036854775807) ∧ (m.length ≤ 9223372036854775807)) ∧ (K (.x false [.v (.bool true)]))
 | _ => none
def L57s : List (Nat × Ctr) := (3, c_kSums) :: L56s
noncomputable def T57s : Tabs := mkT L57s M56s X4
theorem spec_sums (l m : List Int) (hl : l.length ≤ 9223372036854775807) (hm : m.length ≤ 9223372036854775807) : Eng.Spec Tryd.prog tabG debT 3 [.x false [.s 1 (ints l)], .x false [.s 1 (ints m)]] (fun av => av = .x false [.v (.bool true)]) :=
 spec_ofL T56sok mixed Tryd.func3 (by kernel_rfl) (by kernel_rfl) (by rfl) (g_kSums l m ⟨hl, hm⟩ _ rfl)
end Go.Proofs
