/- Digits of a base, the highest first. -/
import Derived.Test.YtfhfenokfkenoaaGreatDoorRN
open Int renaming ofNat → Za, ofNat_eq_natCast → Zn, pow_succ → Zq
open Go.IntKind renaming i64 → Zb
open List renaming take → Zc, map → Zd, getElem?_eq_getElem → Zf, take_of_length_le → Zg, mem_of_getElem? → Zi, drop → Zj, take_add_one → Zo
open Go.Value renaming int → Ze, slice → Zh, bool → Zm, string → Zp
open Go.Eng.Ch renaming v → Zk, r → Zl
namespace Go.Proofs
def numV (s:Int):List Int->Int
  | []=>0
  | k::l=>k*(s+1)^l.length+numV s l
theorem Vg {s:Int}(hs:0<=s)(n:Nat):1<=(s+1)^n:=by
 induction n with
 | zero=>simp
 | succ n ih=>
  rw[Zq];have:(s+1)^n*1<=(s+1)^n*(s+1):=Int.mul_le_mul_of_nonneg_left (by omega) (by omega);omega
theorem Vh {s:Int}(hs:0<=s): ∀{l:List Int},(∀k∈l,0<=k/\k<=s)->0<=numV s l/\numV s l<(s+1)^l.length:=by
 intro l;induction l with
 | nil=>intro _;simp[numV]
 | cons k l ih=>
  intro h;have hk:=h k (by simp);obtain⟨i1,i2⟩:=ih fun z hz=>h z (by simp[hz]);have hp:=Vg hs l.length;unfold numV;rw[List.length_cons,Zq];have h1:0<=k*(s+1)^l.length:=Int.mul_nonneg hk.1 (by omega);have h2:k*(s+1)^l.length<=s*(s+1)^l.length:=Int.mul_le_mul_of_nonneg_right hk.2 (by omega);have h3:(s+1)^l.length*(s+1)=s*(s+1)^l.length+(s+1)^l.length:=by grind
  omega
theorem QM0 {s:Int}{l:List Int}{i:Nat}{k n:Int}(h:l[i]? =some k)(hn:n*(s+1)^(l.length-i)+numV s (l.drop i)=numV s l):(n*(s+1)+k)*(s+1)^(l.length-(i+1))+numV s (l.drop (i+1))=numV s l:=by
 have hi:=(List.getElem?_eq_some_iff.1 h).1;have e:l.drop i=k::l.drop (i+1):=by
  rw[List.drop_eq_getElem_cons hi];rw[Zf hi]at h;rw[Option.some.inj h]
 rw[e,numV,List.length_drop,show l.length-i=(l.length-(i+1))+1 by omega,Zq]at hn;grind
end Go.Proofs
namespace Go.Proofs
open Go Go.Eng
def QUy (l:List Int)(m:List Int):LI:=fun _=> .inv ⟨Nat,fun i=>⟨[(0,.x false [.s 1 (ints l)]),(1,.x false [.s 1 (ints m)]),(12,iA .i64 l.length),(13,iA .i64 i)],[]⟩,fun i=>i<=l.length/\l.take i=m.take i,fun i=>l.length-i,fun _=>0⟩
theorem QRJ (l:List Int)(h0:l≠[])(h:l.length*8<=140737488355328):QM (Xc (X:=Unit) Qa9 (oF Tryz.f206) noL Tryz.f206 [.x false [.w 1000 0 l.length]] [(1000,X2 l)] (fun _=>True) (fun _=>⟨[(2,.x false [.w 500 0 l.length])],[(1000,X2 l),(500,X2 l)]⟩)):=by
 refine HV ((l.length≠0/\((0+(Zc l.length (Zj 0 (ints l))).length)*8<=140737488355328/\0+(Zc l.length (Zj 0 (ints l))).length<=9223372036854775807)/\∃(_x:Unit),True/\0=0/\0+(Zc l.length (Zj 0 (ints l))).length=l.length/\3=3/\1=1/\(ints l=ints l∨QC (ints l) (ints l))/\3=3/\1=1/\(Zc l.length (Zj 0 (ints l))=ints l∨QC (Zc l.length (Zj 0 (ints l))) (ints l))/\True)) ?_
 simp only[R0,R1,Nat.zero_add,R2];have e:Zc l.length (Zj 0 (ints l))=ints l:=by rw[List.drop_zero,Zg (by rw[Qw];exact Nat.le_refl _)]
 rw[e,Qw];exact⟨fun e=>h0 (List.length_eq_zero_iff.1 e),⟨h,by omega⟩,(),rfl,.inl rfl⟩
def GA:XJ:=fun as0 H d=>match as0 with
 | [.x false [.w k o n]]=>match o with
  | 0=>match H k with
   | some (.row t 1 ys)=>match H d with
    | none=>bif t.beq 3 then
     some fun K=> ∃l:List Int,ys=ints l/\n=l.length/\(l≠[]/\l.length*8<=140737488355328)/\
      K (.x false [.w d 0 l.length]) (XZ [(1000,k),(500,d)] (QN [(1000,X2 l),(500,X2 l)]) H)
     else none
    | some _=>none
   | _=>none
  | _+1=>none
 | _=>none
theorem QJV:XP 206 GA:=by
 refine⟨Qb Tryz.func206 (by kernel_rfl),fun l H d T hT K hK=> ?_⟩;unfold GA at hT;split at hT
 ·rename_i k o n;split at hT
  ·split at hT
   ·rename_i t ys e1;split at hT
    ·rename_i hd;cases hb:t.beq 3 with
     | false=>rw[hb]at hT;cases hT
     | true=>
      rw[hb]at hT;cases hT
      have ht:=Nat.eq_of_beq_eq_true hb;subst ht;obtain⟨l,rfl,rfl,⟨h0,hl⟩,hK⟩:=hK;refine XU (R:=[(1000,k)]) (N:=[(500,d)]) (Hl:=[(1000,X2 l)]) QY4 QK Tryz.func206 (by kernel_rfl) (by kernel_rfl) (by rfl)
       (as0:=[.x false [.w 1000 0 l.length]]) ?_ (VW e1 rfl rfl) rfl (by simp) (by simp) (fun p hp=>by simp at hp;subst hp;exact hd) (fun x=>⟨fun p hp=> ?_,fun p hp b hb=> ?_⟩) (QRJ l h0 hl) (fun x hx=> ?_)
      ·simp[Xj,Xg,XI,lkB]
      ·simp at hp;subst hp;exact fun h=>by have h':some (X2 _)=none:=h;cases h'
      ·simp at hp;rcases hp with rfl | rfl
       ·have h':some (X2 _)=some b:=hb;cases h';rfl
       ·have h':some (X2 _)=some b:=hb;cases h';rfl
      ·exact⟨_,rfl,hK⟩
    ·cases hT
   ·cases hT
  ·cases hT
 ·cases hT
def QY5:List (Nat×XJ):=(206,GA)::QMx
theorem QRK:XB QY5:= .cons QJV QEp
set_option maxHeartbeats 1000000 in
theorem QY6 (a:ArmV)(s:Int)(ks:List Int)(hg:QJ a)(hs:1<=s/\s<=12)(hl:ks.length=a.links.length)(hks: ∀k∈ks,0<=k/\k<=s):QM (Xc (X:=Unit) (mkTV QMz QY5 X4) (oF Tryz.f101) (fun _=> .inv ⟨Nat,fun i=>⟨[(1,iA .i64 s),(2,.x false [.w 1000 0 ks.length]),(9,.x false [.s 1 (a.links.map WH)]),(11,.x false [.w 500 0 i]),(36,.x false [.w 1000 0 ks.length]),(37,iA .i64 ks.length),(38,iA .i64 i)],[(1000,X2 ks),(500,QBH 319 ((XD a s ks).take i))]⟩,fun i=>i<=ks.length,fun i=>ks.length-i,fun _=>0⟩) Tryz.f101 [J5 a,iA .i64 s,.x false [.w 1000 0 ks.length]] [(1000,X2 ks)] (fun _=>True) (fun _=>⟨[(6,.x false [.w 500 0 ks.length]),(7,iA .i64 0)],[(1000,X2 ks),(500,QBH 319 (XD a s ks))]⟩)):=by
 refine HV ((∃(a_1:ArmV),[Zk (Zp a.name),Zl a.x 63,Zl a.y 63,Zk (Zm a.half),Zl a.t 63,Ch.s 16 (Zd QB a.links)]=[Zk (Zp a_1.name),Zl a_1.x 63,Zl a_1.y 63,Zk (Zm a_1.half),Zl a_1.t 63,Ch.s 16 (Zd QB a_1.links)]/\(QJ a_1/\1<=s/\s<=12)/\bif Za ks.length !=Za (Zd QB a.links).length then ∃(_x:Unit),True/\Zh none 0 0=Zh none 0 0/\0=0/\ks.length=0/\(1:Int)=0/\3=3/\1=1/\(ints ks=ints ks∨QC (ints ks) (ints ks))/\Zd (fun(q:Rat)=>[Zl q 319]) (XD a s ks)=[]/\True else ∃(a_2:ArmV),[Zk (Zp a.name),Zl a.x 63,Zl a.y 63,Zk (Zm a.half),Zl a.t 63,Ch.s 16 (Zd QB a.links)]=[Zk (Zp a_2.name),Zl a_2.x 63,Zl a_2.y 63,Zk (Zm a_2.half),Zl a_2.t 63,Ch.s 16 (Zd QB a_2.links)]/\QJ a_2/\(∃(x:Nat),(x<=ks.length/\OfNat.ofNat 0=0)/\s=s/\0=0/\ks.length=ks.length/\1=1/\Zd WH a_2.links=Zd WH a.links/\Zh none 0 0=Zh none 0 0/\0=0/\x=0/\0=0/\ks.length=ks.length/\Za ks.length=Za ks.length/\0=Za x/\3=3/\1=1/\(ints ks=ints ks∨QC (ints ks) (ints ks))/\Zd (fun(q:Rat)=>[Zl q 319]) (Zc x (XD a s ks))=[]/\True)/\∀(x:Nat),x<=ks.length->OfNat.ofNat 0=0->bif decide (Za x<Za ks.length)then(0<=Za x/\Za x<Za ks.length)/\∃(d:Int),ldE (ints ks) (0+(Za x).toNat) 0 1=some [Zk (Ze Zb d)]/\bif decide (d<0)then ∃(_x:Unit),True/\Zh none 0 0=Zh none 0 0/\0=0/\ks.length=0/\(17:Int)=0/\3=3/\1=1/\(ints ks=ints ks∨QC (ints ks) (ints ks))/\Zd (fun(q:Rat)=>[Zl q 319]) (XD a s ks)=[]/\True else bif decide (d>s)then ∃(_x:Unit),True/\Zh none 0 0=Zh none 0 0/\0=0/\ks.length=0/\(17:Int)=0/\3=3/\1=1/\(ints ks=ints ks∨QC (ints ks) (ints ks))/\Zd (fun(q:Rat)=>[Zl q 319]) (XD a s ks)=[]/\True else(((-9223372036854775808<=d/\d<9223372036854775808)/\ -9223372036854775808<=s/\s<9223372036854775808)/\(↑s:Rat)≠OfNat.ofNat 0)/\(0<=Za x/\Za x<Za (Zd WH a.links).length)/\∃(ds:List Ch),ldE (Zd WH a.links) (Za x).toNat 0 1=some [Ch.i 258 true ds]/\∃(L:Qf),ds=[Zl L.len 63,Zl L.lo 63,Zl L.hi 63,Zl L.sp 63,Zl L.br 63,Ch.s 6 (Zd Xl L.shape)]/\128<=1000000/\((x+1)*40<=140737488355328/\x+1<=9223372036854775807)/\∃(x':Nat),(x'<=ks.length/\OfNat.ofNat 0=0/\ks.length-x'<ks.length-x)/\s=s/\0=0/\ks.length=ks.length/\1=1/\Zd WH a.links=Zd WH a.links/\0=0/\x+1=x'/\0=0/\ks.length=ks.length/\Za ks.length=Za ks.length/\Zb.wrap (Za x+1)=Za x'/\3=3/\1=1/\(ints ks=ints ks∨QC (ints ks) (ints ks))/\25=25/\3=3/\(Zc x (Zd (fun(q:Rat)=>[Zl q 319]) (Zc x (XD a s ks)))++[[Zl (L.lo+(L.hi-L.lo)*((↑d:Rat)/(↑s:Rat))) 319]]=Zd (fun(q:Rat)=>[Zl q 319]) (Zc x' (XD a s ks))∨QC (Zc x (Zd (fun(q:Rat)=>[Zl q 319]) (Zc x (XD a s ks)))++[[Zl (L.lo+(L.hi-L.lo)*((↑d:Rat)/(↑s:Rat))) 319]]) (Zd (fun(q:Rat)=>[Zl q 319]) (Zc x' (XD a s ks))))/\True else ∃(_x_1:Unit),True/\0=0/\x=ks.length/\(0:Int)=0/\3=3/\1=1/\(ints ks=ints ks∨QC (ints ks) (ints ks))/\25=25/\3=3/\(Zd (fun(q:Rat)=>[Zl q 319]) (Zc x (XD a s ks))=Zd (fun(q:Rat)=>[Zl q 319]) (XD a s ks)∨QC (Zd (fun(q:Rat)=>[Zl q 319]) (Zc x (XD a s ks))) (Zd (fun(q:Rat)=>[Zl q 319]) (XD a s ks)))/\True)) ?_
 simp only[Zn,R0,R1,Nat.zero_add,R4,R2];obtain⟨s1,s2⟩:=hs;have hn:=hg.n;have lv:(XD a s ks).length=ks.length:=by simp[XD,hl]
 simp only[List.length_map];refine⟨a,rfl,⟨hg,s1,s2⟩,QF (fun h=>by simp[hl]at h) (fun _=>⟨a,rfl,hg,⟨0,by omega,rfl,rfl,rfl,rfl⟩,fun x hx=>QF (fun hp=> ?_) (fun hp=> ?_)⟩)⟩
 ·have hp:x<ks.length:=by have:=R5 hp;omega
  obtain⟨k,hk⟩: ∃k,ks[x]? =some k:=⟨_,Zf hp⟩
  have hkb:=hks k (Zi hk);obtain⟨L,hL⟩: ∃L,a.links[x]? =some L:=⟨_,Zf (by omega)⟩
  have hv:(XD a s ks)[x]? =some (QMt s L k):=by simp[XD,List.getElem?_zipWith,hL,hk]
  refine⟨by omega,k,Jz (by simpa using hk),QF (fun h=>by have:=R5 h;omega) (fun _=>QF (fun h=>by have:=R5 h;omega) (fun _=>⟨⟨by omega,?_⟩,by omega,_,QWP (by simpa using hL),L,rfl,by omega,by omega,x+1,⟨by omega,by omega⟩,rfl,by rw[w64 (by omega)];simp,.inl ?_⟩))⟩
  ·intro h;have h2:(0:Rat)<((s:Int):Rat):=Rat.intCast_pos.2 (by omega);grind
  ·rw[Zg (by rw[List.length_map,List.length_take];omega),Zo,hv,List.map_append];rfl
 ·have hp:x=ks.length:=by have:=R6 hp;omega
  subst hp;exact⟨(),by first | trivial | rfl,.inl (by rw[Zg (by omega)])⟩
def QEr:XJ:=fun as0 H d=>match as0 with
 | [.x true xs,.x false [.v (.int .i64 s)],.x false [.w k o n]]=>match o with
  | 0=>match H k with
   | some (.row t 1 ys)=>match H d with
    | none=>bif t.beq 3 then
     some fun K=> ∃(a:ArmV) (ks:List Int),xs=XM a/\ys=ints ks/\n=ks.length/\QJ a/\(1<=s/\s<=12)/\ks.length=a.links.length/\(∀k∈ks,0<=k/\k<=s)/\
      K (.t [(false,[.w d 0 ks.length]),(false,[.v (.int .i64 0)])]) (XZ [(1000,k),(500,d)] (QN [(1000,X2 ks),(500,QBH 319 (XD a s ks))]) H)
     else none
    | some _=>none
   | _=>none
  | _+1=>none
 | _=>none
theorem QRL:XP 101 QEr:=by
 refine⟨Qb Tryz.func101 (by kernel_rfl),fun l H d T hT K hK=> ?_⟩;unfold QEr at hT;split at hT
 ·rename_i xs s k o n;split at hT
  ·split at hT
   ·rename_i t ys e1;split at hT
    ·rename_i hd;cases hb:t.beq 3 with
     | false=>rw[hb]at hT;cases hT
     | true=>
      rw[hb]at hT;cases hT
      have ht:=Nat.eq_of_beq_eq_true hb;subst ht;obtain⟨a,ks,rfl,rfl,rfl,ha,hs,hl,hks,hK⟩:=hK;refine XU (R:=[(1000,k)]) (N:=[(500,d)]) (Hl:=[(1000,X2 ks)]) (Wl QEq QRK Qg) QK Tryz.func101 (by kernel_rfl) (by kernel_rfl) (by rfl)
       (as0:=[J5 a,iA .i64 s,.x false [.w 1000 0 ks.length]]) ?_ (VW e1 rfl rfl) rfl (by simp) (by simp) (fun p hp=>by simp at hp;subst hp;exact hd) (fun x=>⟨fun p hp=> ?_,fun p hp b hb=> ?_⟩) (QY6 a s ks ha hs hl hks) (fun x hx=> ?_)
      ·simp[Xj,Xg,XI,lkB,J5,XM];rfl
      ·simp at hp;subst hp;exact fun h=>by have h':some (X2 _)=none:=h;cases h'
      ·simp at hp;rcases hp with rfl | rfl
       ·have h':some (X2 _)=some b:=hb;cases h';rfl
       ·have h':some (QBH _ _)=some b:=hb;cases h';rfl
      ·exact⟨_,rfl,hK⟩
    ·cases hT
   ·cases hT
  ·cases hT
 ·cases hT
def QUz:List (Nat×XJ):=(101,QEr)::QY5
noncomputable def QY7:QZ:=mkTV QMz QUz X4
theorem QRM:XB QUz:= .cons QRL QRK
theorem QRN:Q7 QY7:=Wl QEq QRM Qg
set_option maxHeartbeats 1000000 in
theorem QRO (n:Int)(s:Int)(l:List Int)(hc:((1<=l.length/\l.length<=3)/\n=l.length)/\(1<=s/\s<=12)/\(∀k∈l,0<=k/\k<=s))(K:AV->Prop)(hK:K (.t [(false,[.v (.int .i64 (numV s l))]),(false,[.v (.int .i64 0)])])):QM (QR QY7 (oF Tryz.f169) (fun _=> .inv ⟨Nat×Int,fun x=>⟨[(1,iA .i64 s),(8,iA .i64 x.2),(31,.x false [.s 1 (ints l)]),(32,iA .i64 l.length),(33,iA .i64 x.1)],[]⟩,fun x=>x.1<=l.length/\x.2*(s+1)^(l.length-x.1)+numV s (l.drop x.1)=numV s l/\0<=x.2/\x.2<13^x.1,fun x=>l.length-x.1,fun _=>0⟩) Tryz.f169 [iA .i64 n,iA .i64 s,.x false [.s 1 (ints l)]] K):=by
 refine HV ((bif decide (n<1)then K (AV.t [(false,[Zk (Ze Zb 0)]),(false,[Zk (Ze Zb 1)])])else bif decide (n>3)then K (AV.t [(false,[Zk (Ze Zb 0)]),(false,[Zk (Ze Zb 1)])])else bif decide (s<1)then K (AV.t [(false,[Zk (Ze Zb 0)]),(false,[Zk (Ze Zb 1)])])else bif decide (s>12)then K (AV.t [(false,[Zk (Ze Zb 0)]),(false,[Zk (Ze Zb 1)])])else bif Za (ints l).length !=n then K (AV.t [(false,[Zk (Ze Zb 0)]),(false,[Zk (Ze Zb 1)])])else(∃(x:Nat×Int),((x.fst<=l.length/\x.snd*(s+1)^(l.length-x.fst)+numV s (Zj x.fst l)=numV s l/\0<=x.snd/\x.snd<13^x.fst)/\OfNat.ofNat 0=0)/\s=s/\0=x.snd/\1=1/\ints l=ints l/\Za (ints l).length=Za l.length/\0=Za x.fst/\True)/\∀(x:Nat×Int),x.fst<=l.length/\x.snd*(s+1)^(l.length-x.fst)+numV s (Zj x.fst l)=numV s l/\0<=x.snd/\x.snd<13^x.fst->OfNat.ofNat 0=0->bif decide (Za x.fst<Za l.length)then(0<=Za x.fst/\Za x.fst<Za (ints l).length)/\∃(d:Int),ldE (ints l) (Za x.fst).toNat 0 1=some [Zk (Ze Zb d)]/\bif decide (d<0)then K (AV.t [(false,[Zk (Ze Zb 0)]),(false,[Zk (Ze Zb 17)])])else bif decide (d>s)then K (AV.t [(false,[Zk (Ze Zb 0)]),(false,[Zk (Ze Zb 17)])])else ∃(x':Nat×Int),((x'.fst<=l.length/\x'.snd*(s+1)^(l.length-x'.fst)+numV s (Zj x'.fst l)=numV s l/\0<=x'.snd/\x'.snd<13^x'.fst)/\OfNat.ofNat 0=0/\l.length-x'.fst<l.length-x.fst)/\s=s/\Zb.wrap (Zb.wrap (x.snd*Zb.wrap (s+1))+d)=x'.snd/\1=1/\ints l=ints l/\Za l.length=Za l.length/\Zb.wrap (Za x.fst+1)=Za x'.fst/\True else K (AV.t [(false,[Zk (Ze Zb x.snd)]),(false,[Zk (Ze Zb 0)])]))) ?_
 try simp only[Zn,R0,R1,R4]
 obtain⟨⟨⟨h1,h3⟩,rfl⟩,⟨s1,s2⟩,hk⟩:=hc;have es:Zb.wrap (s+1)=s+1:=w64 (by omega);simp only[Qw,es];refine QF (fun h=>by have:=R5 h;omega) (fun _=>QF (fun h=>by have:=R5 h;omega) (fun _=>QF (fun h=>by have:=R5 h;omega) (fun _=>QF (fun h=>by have:=R5 h;omega) (fun _=>QF (fun h=>by simp at h) (fun _=>⟨⟨(0,0),⟨Nat.zero_le _,by simp,by simp,by simp⟩,rfl,by first | trivial | rfl,rfl⟩,fun x hx=>QF (fun hp=> ?_) (fun hp=> ?_)⟩)))))
 ·obtain⟨i,n⟩:=x;obtain⟨hi,he,n0,n1⟩:=hx;simp only at hi he n0 n1 hp⊢;have hp:i<l.length:=by have:=R5 hp;omega
  obtain⟨k,hkk⟩: ∃k,l[i]? =some k:=⟨_,Zf hp⟩
  have kb:=hk k (Zi hkk);have hn:n<=168:=by
   have:i=0∨i=1∨i=2:=by omega
   rcases this with rfl | rfl | rfl<;>simp at n1<;>omega
  have m0:0<=n*(s+1):=Int.mul_nonneg n0 (by omega);have m1:n*(s+1)<=168*13:=Int.mul_le_mul hn (by omega) (by omega) (by omega);have m2:n*(s+1)<=(13^i-1)*13:=Int.mul_le_mul (by omega) (by omega) (by omega) (by omega);have m3:(13:Int)^(i+1)=13^i*13:=Zq ..;refine⟨by omega,k,Jz (by simpa using hkk),QF (fun h=>by have:=R5 h;omega) (fun _=>QF (fun h=>by have:=R5 h;omega) (fun _=>⟨(i+1,n*(s+1)+k),⟨⟨by simp only;omega,QM0 hkk he,by simp only;omega,by simp only;rw[m3];omega⟩,by simp only;omega⟩,by rw[w64 (n:=n*(s+1)) (by omega),w64 (by omega)],by rw[w64 (by omega)];simp⟩))⟩
 ·obtain⟨i,n⟩:=x;obtain⟨hi,he,n0,n1⟩:=hx;simp only at hi he n0 n1 hp⊢;have hp:i=l.length:=by have:=R6 hp;omega
  subst hp;rw[List.drop_length,Nat.sub_self]at he;have:n=numV s l:=by rw[<-he];simp[numV]
  rw[this];exact hK
def U9:Ctr
 | [.x false [.v (.int .i64 n)],.x false [.v (.int .i64 s)],.x false [.s 1 ys]]=>some fun K=> ∃(l:List Int),ys=ints l/\(((1<=l.length/\l.length<=3)/\n=l.length)/\(1<=s/\s<=12)/\(∀k∈l,0<=k/\k<=s))/\(K (.t [(false,[.v (.int .i64 (numV s l))]),(false,[.v (.int .i64 0)])]))
 | _=>none
theorem QDB:QI 169 U9:=by
 refine okL Tryz.func169 fun l T hT K hK=> ?_
 unfold U9 at hT;split at hT<;>cases hT
 obtain⟨l,rfl,hc,hK⟩:=hK;exact spL QRN QK Tryz.func169 (QRO _ _ _ hc K hK)
def QY8:LC:=(169,U9)::QMz
theorem QY9:QG QY8:= .cons QDB QEq
theorem QU0 (l:List Int)(m:List Int)(hc:(l.length<=1000/\m.length<=1000))(K:AV->Prop)(hK:K (.x false [.v (.bool (decide (l=m)))])):QM (QR (mkTV QY8 QUz X4) (oF Tryz.f166) (QUy l m) Tryz.f166 [.x false [.s 1 (ints l)],.x false [.s 1 (ints m)]] K):=by
 refine HV ((bif Za (ints l).length !=Za (ints m).length then K (AV.x false [Zk (Zm false)])else(∃(x:Nat),((x<=l.length/\Zc x l=Zc x m)/\OfNat.ofNat 0=0)/\1=1/\ints l=ints l/\1=1/\ints m=ints m/\Za (ints l).length=Za l.length/\0=Za x/\True)/\∀(x:Nat),x<=l.length/\Zc x l=Zc x m->OfNat.ofNat 0=0->bif decide (Za x<Za l.length)then(0<=Za x/\Za x<Za (ints l).length)/\∃(d:Int),ldE (ints l) (Za x).toNat 0 1=some [Zk (Ze Zb d)]/\(0<=Za x/\Za x<Za (ints m).length)/\∃(d_1:Int),ldE (ints m) (Za x).toNat 0 1=some [Zk (Ze Zb d_1)]/\bif d !=d_1 then K (AV.x false [Zk (Zm false)])else ∃(x':Nat),((x'<=l.length/\Zc x' l=Zc x' m)/\OfNat.ofNat 0=0/\l.length-x'<l.length-x)/\1=1/\ints l=ints l/\1=1/\ints m=ints m/\Za l.length=Za l.length/\Zb.wrap (Za x+1)=Za x'/\True else K (AV.x false [Zk (Zm true)]))) ?_
 try simp only[Zn,R0,R1,R4]
 obtain⟨hl,hl2⟩:=hc;simp only[Qw];refine QF (fun h=> ?_) (fun h=>⟨⟨0,⟨by omega,rfl⟩,by first | trivial | rfl,rfl⟩,fun x hx=>QF (fun hp=> ?_) (fun hp=> ?_)⟩)
 ·have h:l.length≠m.length:=fun e=>by rw[e]at h;simp at h
  have:decide (l=m)=false:=by simp;exact fun e=>h (by rw[e])
  rw[this]at hK;exact hK
 ·have h:l.length=m.length:=by simp at h;omega
  have hp:x<l.length:=by have:=R5 hp;omega
  obtain⟨p,hpp⟩: ∃p,l[x]? =some p:=⟨_,Zf hp⟩
  obtain⟨q,hqq⟩: ∃q,m[x]? =some q:=⟨_,Zf (by omega)⟩
  simp only[Int.toNat_natCast];refine⟨by omega,p,Jz hpp,by omega,q,Jz hqq,QF (fun he=> ?_) (fun he=> ?_)⟩
  ·have he:p≠q:=by simpa using he
   have:decide (l=m)=false:=by
    simp;intro e;rw[e,hqq]at hpp;exact he (Option.some.inj hpp).symm
   rw[this]at hK;exact hK
  ·have he:p=q:=by simpa using he
   subst he;refine⟨x+1,⟨⟨by omega,?_⟩,by omega⟩,by rw[w64 (by omega)];simp⟩;rw[Zo,Zo,hx.2,hpp,hqq]
 ·have h:l.length=m.length:=by simp at h;omega
  have hp: ¬x<l.length:=by have:=R6 hp;omega
  have e:=hx.2;rw[Zg (by omega),Zg (by omega)]at e;have:decide (l=m)=true:=by simpa using e
  rw[this]at hK;exact hK
def G9:Ctr
 | [.x false [.s 1 xs],.x false [.s 1 ys]]=>some fun K=> ∃(l:List Int) (m:List Int),xs=ints l/\ys=ints m/\((l.length<=1000/\m.length<=1000))/\(K (.x false [.v (.bool (decide (l=m)))]))
 | _=>none
theorem QRP:QI 166 G9:=by
 refine okL Tryz.func166 fun l T hT K hK=> ?_
 unfold G9 at hT;split at hT<;>cases hT
 obtain⟨l,m,rfl,rfl,hc,hK⟩:=hK;exact spL (Wl QY9 QRM Qg) QK Tryz.func166 (QU0 _ _ hc K hK)
def Qbq:LC:=(166,G9)::QY8
theorem QU1 {a:ArmV}{s:Int}{ks:List Int}(hg:QJ a)(hs:1<=s)(hk: ∀k∈ks,0<=k/\k<=s):Fit a (XD a s ks):=by
 intro i L q hL hq;unfold XD at hq;rw[List.getElem?_zipWith_eq_some]at hq;obtain⟨M,k,hM,hkk,rfl⟩:=hq;rw[hL]at hM;cases hM
 obtain⟨k0,k1⟩:=hk k (Zi hkk);have hl:=(hg.links L (Zi hL)).lim;have s0:(0:Rat)<(s:Rat):=Rat.intCast_pos.2 (by omega);have e2:(s:Rat)*(s:Rat)⁻¹=1:=Rat.mul_inv_cancel _ (by grind);have sp:0<(s:Rat)⁻¹:=Rat.inv_pos.2 s0;have y0:0<=(k:Rat)/(s:Rat):=by
  rw[Rat.div_def];exact Rat.mul_nonneg (Rat.intCast_nonneg.2 k0) (Rat.le_of_lt sp)
 have y1:(k:Rat)/(s:Rat)<=1:=by
  rw[Rat.div_def,<-e2];exact Rat.mul_le_mul_of_nonneg_right (Rat.intCast_le_intCast.2 k1) (Rat.le_of_lt sp)
 unfold QMt;have z0:=Rat.mul_nonneg (show 0<=L.hi-L.lo by grind) y0;have z1:=Rat.mul_le_mul_of_nonneg_left y1 (show 0<=L.hi-L.lo by grind);constructor<;>grind
def Qbr:LC:=Qbq
noncomputable def Qb9:QZ:=mkTV Qbr QUz X4
end Go.Proofs
