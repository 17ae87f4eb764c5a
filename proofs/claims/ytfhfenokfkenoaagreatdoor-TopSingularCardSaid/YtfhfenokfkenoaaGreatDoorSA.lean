/- Rank, Is, null, Still; two; the reach of an arm. -/
import Derived.Test.YtfhfenokfkenoaaGreatDoorFA
open Int renaming ofNat → Za, ofNat_eq_natCast → Zk, toNat_natCast → Zn
open List renaming map → Zb, take → Zc, getElem?_eq_getElem → Ze, length_map → Zi, map_cons → Zj, map_nil → Zl
open Go.Eng.Ch renaming r → Zd, v → Zo
open Bool renaming or_false → Zf, or_true → Zm
open Nat renaming le_refl → Zg
open Go.IntKind renaming i64 → Zh
namespace Go.Proofs
open Go Go.Eng
structure RkX where
 cs:List (Rat×Rat)
 i:Nat
 j:Nat
structure RkI (a:ArmV)(qs:List Rat)(x:RkX):Prop where
 len:x.cs.length=a.links.length
 cs: ∃fs f,fs++[f]=Ql (XF a) a.links qs/\fs.length=a.links.length/\x.cs=XU f fs
 le:x.i<=a.links.length
def XV (l:List (Rat×Rat))(i:Nat):Rat×Rat:=l.getD i (0,0)
def QOb (a:ArmV)(qs:List Rat):LI:=fun id=>bif id.beq 4 then .inv ⟨RkX,fun x=>⟨[(6,sVv 132800001 x.cs),(7,iA .i64 0),(8,iA .i64 (rk (prs x.cs x.i) (nzs x.cs x.i))),(19,sVv 132800001 x.cs),(20,iA .i64 a.links.length),(21,iA .i64 x.i)],[]⟩,RkI a qs,fun x=>a.links.length-x.i,fun _=>0⟩
 else bif id.beq 8 then .cut ⟨RkX,fun x=>⟨[(6,sVv 132800001 x.cs),(7,iA .i64 0),(8,iA .i64 (rk (prs x.cs x.i) (nzs x.cs (x.i+1)))),(9,iA .i64 x.i),(10,.x false [.p 10 0]),(19,sVv 132800001 x.cs),(20,iA .i64 a.links.length),(21,iA .i64 x.i)],[(10,.box 27 (QT 132800001 (XV x.cs x.i)))]⟩,fun x=>RkI a qs x/\x.i<a.links.length,fun _=>0,fun x=>a.links.length-x.i⟩
 else .inv ⟨RkX,fun x=>⟨[(6,sVv 132800001 x.cs),(7,iA .i64 0),(8,iA .i64 (rk (prs x.cs x.i || hit (XV x.cs x.i) (x.cs.take x.j)) (nzs x.cs (x.i+1)))),(9,iA .i64 x.i),(10,.x false [.p 10 0]),(19,sVv 132800001 x.cs),(20,iA .i64 a.links.length),(21,iA .i64 x.i),(40,sVv 132800001 (x.cs.take x.i)),(41,iA .i64 x.i),(42,iA .i64 x.j)],[(10,.box 27 (QT 132800001 (XV x.cs x.i)))]⟩,fun x=>RkI a qs x/\x.i<a.links.length/\x.j<=x.i,fun x=>x.i-x.j,fun x=>a.links.length-x.i⟩
theorem Us (q:Rat):Qa q=0↔q=0:=by
 unfold Qa;constructor
 ·intro h;split at h
  ·rename_i h0;exact Rat.num_eq_zero.1 h0
  ·split at h<;>cases h
 ·rintro rfl;rfl
theorem QBB (q:Rat):(Qa q !=0)= !(decide (q=0)):=by
 by_cases h:q=0
 ·rw[(Us q).2 h,decide_eq_true h];rfl
 ·have:Qa q≠0:=fun e=>h ((Us q).1 e);rw[decide_eq_false h];simpa using this
theorem QBC (q:Rat):(Qa q==0)=decide (q=0):=by
 by_cases h:q=0
 ·rw[(Us q).2 h,decide_eq_true h];rfl
 ·have:Qa q≠0:=fun e=>h ((Us q).1 e);rw[decide_eq_false h];simpa using this
theorem QOc {l:List (Rat×Rat)}{i:Nat}{u:Rat×Rat}(h:l[i]? =some u):nzs l (i+1)=(nzs l i || nzb u):=by
 unfold nzs;rw[List.take_add_one,h];simp
theorem QOd {l:List (Rat×Rat)}{i:Nat}{u:Rat×Rat}(h:l[i]? =some u):prs l (i+1)=(prs l i || hit u (l.take i)):=by
 unfold prs;rw[List.range_succ,List.any_append];simp[h]
theorem QOe {l:List (Rat×Rat)}{j:Nat}{w:Rat×Rat}(u:Rat×Rat)(h:l[j]? =some w):hit u (l.take (j+1))=(hit u (l.take j) || !(decide (crs u w=0))):=by
 unfold hit;rw[List.take_add_one,h];simp
theorem QOf (p n:Bool):(bif true then if 1>rk p n then 1 else rk p n else if 1<rk p n then 1 else rk p n)=rk p true:=by cases p<;>cases n<;>rfl
theorem QOg {l:List (Rat×Rat)}{i:Nat}{u:Rat×Rat}(h:l[i]? =some u):XV l i=u:=by
 unfold XV;rw[List.getD_eq_getElem?_getD,h];rfl
def QOh:LC:=QSo
theorem QJZ:QF QOh:=QIB
abbrev QJa (a:ArmV)(b:Nat)(qs:List Rat)(K:AV->Prop):Prop:=((QU a)/\(b<=400/\qs.length=a.links.length))/\(∀(fs:List FrV) (f:FrV),fs++[f]=Ql (XF a) a.links qs->fs.length=a.links.length->K (.t [(false,[.v (.int .i64 (YP (XU f fs)))]),(false,[.v (.int .i64 0)])]))
set_option maxHeartbeats 1000000 in
theorem QSr (a:ArmV)(b:Nat)(qs:List Rat)(K:AV->Prop)(hK:QJa a b qs K):QK (QP (mkT QOh M79 X4) (oF Tryz.f79) (QOb a qs) Tryz.f79 [Jq a,sR b qs] K):=by
 obtain⟨hc,hK⟩:=hK;refine HV ((∃(a_1:ArmV),∃(b_1:Nat),∃(qs_1:List Rat),[Zo (Value.string a.name),Zd a.x 63,Zd a.y 63,Zo (Value.bool a.half),Zd a.t 63,Ch.s 16 (Zb QG a.links)]=[Zo (Value.string a_1.name),Zd a_1.x 63,Zd a_1.y 63,Zo (Value.bool a_1.half),Zd a_1.t 63,Ch.s 16 (Zb QG a_1.links)]/\lR b qs=lR b_1 qs_1/\(QU a_1/\b_1<=400/\qs_1.length=a_1.links.length)/\∀(fs:List FrV) (f:FrV),fs++[f]=Ql (XF a_1) a_1.links qs_1->fs.length=a_1.links.length->(∃(x:RkX),(RkI a qs x/\OfNat.ofNat 0=0)/\6=6/\Zb (QT 132800001) (XU f fs)=Zb (QT 132800001) x.cs/\(0:Int)=0/\0=rk (prs x.cs x.i) (nzs x.cs x.i)/\6=6/\Zb (QT 132800001) (XU f fs)=Zb (QT 132800001) x.cs/\Za (Zb (QT 132800001) (XU f fs)).length=Za a.links.length/\0=Za x.i/\True)/\∀(x:RkX),RkI a qs x->OfNat.ofNat 0=0->bif decide (Za x.i<Za a.links.length)then(0<=Za x.i/\Za x.i<Za (Zb (QT 132800001) x.cs).length)/\∃(q:Rat),∃(n:Nat),∃(q_1:Rat),∃(n_1:Nat),ldE (Zb (QT 132800001) x.cs) (Za x.i).toNat 0 6=some [Zd q n,Zd q_1 n_1]/\(n<=4294967296/\bif Qa q !=0 then ∃(x_1:RkX),((RkI a qs x_1/\x_1.i<a.links.length)/\a.links.length-x_1.i=a.links.length-x.i)/\6=6/\Zb (QT 132800001) x.cs=Zb (QT 132800001) x_1.cs/\(0:Int)=0/\(bif true then if 1>rk (prs x.cs x.i) (nzs x.cs x.i)then 1 else rk (prs x.cs x.i) (nzs x.cs x.i)else if 1<rk (prs x.cs x.i) (nzs x.cs x.i)then 1 else rk (prs x.cs x.i) (nzs x.cs x.i))=rk (prs x_1.cs x_1.i) (nzs x_1.cs (x_1.i+1))/\Za x.i=Za x_1.i/\0=0/\6=6/\Zb (QT 132800001) x.cs=Zb (QT 132800001) x_1.cs/\Za a.links.length=Za a.links.length/\Za x.i=Za x_1.i/\27=27/\q=(XV x_1.cs x_1.i).fst/\n<=132800001/\q_1=(XV x_1.cs x_1.i).snd/\n_1<=132800001/\True else n_1<=4294967296/\bif Qa q_1 !=0 then ∃(x_1:RkX),((RkI a qs x_1/\x_1.i<a.links.length)/\a.links.length-x_1.i=a.links.length-x.i)/\6=6/\Zb (QT 132800001) x.cs=Zb (QT 132800001) x_1.cs/\(0:Int)=0/\(bif true then if 1>rk (prs x.cs x.i) (nzs x.cs x.i)then 1 else rk (prs x.cs x.i) (nzs x.cs x.i)else if 1<rk (prs x.cs x.i) (nzs x.cs x.i)then 1 else rk (prs x.cs x.i) (nzs x.cs x.i))=rk (prs x_1.cs x_1.i) (nzs x_1.cs (x_1.i+1))/\Za x.i=Za x_1.i/\0=0/\6=6/\Zb (QT 132800001) x.cs=Zb (QT 132800001) x_1.cs/\Za a.links.length=Za a.links.length/\Za x.i=Za x_1.i/\27=27/\q=(XV x_1.cs x_1.i).fst/\n<=132800001/\q_1=(XV x_1.cs x_1.i).snd/\n_1<=132800001/\True else ∃(x_1:RkX),((RkI a qs x_1/\x_1.i<a.links.length)/\a.links.length-x_1.i=a.links.length-x.i)/\6=6/\Zb (QT 132800001) x.cs=Zb (QT 132800001) x_1.cs/\(0:Int)=0/\rk (prs x.cs x.i) (nzs x.cs x.i)=rk (prs x_1.cs x_1.i) (nzs x_1.cs (x_1.i+1))/\Za x.i=Za x_1.i/\0=0/\6=6/\Zb (QT 132800001) x.cs=Zb (QT 132800001) x_1.cs/\Za a.links.length=Za a.links.length/\Za x.i=Za x_1.i/\27=27/\q=(XV x_1.cs x_1.i).fst/\n<=132800001/\q_1=(XV x_1.cs x_1.i).snd/\n_1<=132800001/\True)/\∀(x_1:RkX),RkI a qs x_1/\x_1.i<a.links.length->a.links.length-x_1.i=a.links.length-x.i->((0:Int)<=0/\0<=Za x_1.i/\Za x_1.i<=Za (Zb (QT 132800001) x_1.cs).length)/\(∃(x_2:RkX),((RkI a qs x_2/\x_2.i<a.links.length/\x_2.j<=x_2.i)/\a.links.length-x_2.i=a.links.length-x.i)/\6=6/\Zb (QT 132800001) x_1.cs=Zb (QT 132800001) x_2.cs/\(0:Int)=0/\rk (prs x_1.cs x_1.i) (nzs x_1.cs (x_1.i+1))=rk (prs x_2.cs x_2.i||hit (XV x_2.cs x_2.i) (Zc x_2.j x_2.cs)) (nzs x_2.cs (x_2.i+1))/\Za x_1.i=Za x_2.i/\0=0/\6=6/\Zb (QT 132800001) x_1.cs=Zb (QT 132800001) x_2.cs/\Za a.links.length=Za a.links.length/\Za x_1.i=Za x_2.i/\6=6/\Zc ((Za x_1.i).toNat-0) (List.drop 0 (Zb (QT 132800001) x_1.cs))=Zb (QT 132800001) (Zc x_2.i x_2.cs)/\Za (Zc ((Za x_1.i).toNat-0) (List.drop 0 (Zb (QT 132800001) x_1.cs))).length=Za x_2.i/\0=Za x_2.j/\27=27/\(XV x_1.cs x_1.i).fst=(XV x_2.cs x_2.i).fst/\132800001<=132800001/\(XV x_1.cs x_1.i).snd=(XV x_2.cs x_2.i).snd/\132800001<=132800001/\True)/\∀(x_2:RkX),RkI a qs x_2/\x_2.i<a.links.length/\x_2.j<=x_2.i->a.links.length-x_2.i=a.links.length-x.i->bif decide (Za x_2.j<Za x_2.i)then(0<=Za x_2.j/\Za x_2.j<Za (Zb (QT 132800001) (Zc x_2.i x_2.cs)).length)/\∃(q:Rat),∃(n:Nat),∃(q_2:Rat),∃(n_2:Nat),ldE (Zb (QT 132800001) (Zc x_2.i x_2.cs)) (Za x_2.j).toNat 0 6=some [Zd q n,Zd q_2 n_2]/\265600002+n+n_2<=4294967290/\132800001+n_2+(132800001+n)+1<=4294967296/\bif Qa ((XV x_2.cs x_2.i).fst*q_2-(XV x_2.cs x_2.i).snd*q) !=0 then ∃(x':RkX),((RkI a qs x'/\x'.i<a.links.length/\x'.j<=x'.i)/\a.links.length-x'.i=a.links.length-x.i/\x'.i-x'.j<x_2.i-x_2.j)/\6=6/\Zb (QT 132800001) x_2.cs=Zb (QT 132800001) x'.cs/\(0:Int)=0/\2=rk (prs x'.cs x'.i||hit (XV x'.cs x'.i) (Zc x'.j x'.cs)) (nzs x'.cs (x'.i+1))/\Za x_2.i=Za x'.i/\0=0/\6=6/\Zb (QT 132800001) x_2.cs=Zb (QT 132800001) x'.cs/\Za a.links.length=Za a.links.length/\Za x_2.i=Za x'.i/\6=6/\Zb (QT 132800001) (Zc x_2.i x_2.cs)=Zb (QT 132800001) (Zc x'.i x'.cs)/\Za x_2.i=Za x'.i/\Zh.wrap (Za x_2.j+1)=Za x'.j/\27=27/\(XV x_2.cs x_2.i).fst=(XV x'.cs x'.i).fst/\132800001<=132800001/\(XV x_2.cs x_2.i).snd=(XV x'.cs x'.i).snd/\132800001<=132800001/\True else ∃(x':RkX),((RkI a qs x'/\x'.i<a.links.length/\x'.j<=x'.i)/\a.links.length-x'.i=a.links.length-x.i/\x'.i-x'.j<x_2.i-x_2.j)/\6=6/\Zb (QT 132800001) x_2.cs=Zb (QT 132800001) x'.cs/\(0:Int)=0/\rk (prs x_2.cs x_2.i||hit (XV x_2.cs x_2.i) (Zc x_2.j x_2.cs)) (nzs x_2.cs (x_2.i+1))=rk (prs x'.cs x'.i||hit (XV x'.cs x'.i) (Zc x'.j x'.cs)) (nzs x'.cs (x'.i+1))/\Za x_2.i=Za x'.i/\0=0/\6=6/\Zb (QT 132800001) x_2.cs=Zb (QT 132800001) x'.cs/\Za a.links.length=Za a.links.length/\Za x_2.i=Za x'.i/\6=6/\Zb (QT 132800001) (Zc x_2.i x_2.cs)=Zb (QT 132800001) (Zc x'.i x'.cs)/\Za x_2.i=Za x'.i/\Zh.wrap (Za x_2.j+1)=Za x'.j/\27=27/\(XV x_2.cs x_2.i).fst=(XV x'.cs x'.i).fst/\132800001<=132800001/\(XV x_2.cs x_2.i).snd=(XV x'.cs x'.i).snd/\132800001<=132800001/\True else ∃(x':RkX),(RkI a qs x'/\OfNat.ofNat 0=0/\a.links.length-x'.i<a.links.length-x.i)/\6=6/\Zb (QT 132800001) x_2.cs=Zb (QT 132800001) x'.cs/\(0:Int)=0/\rk (prs x_2.cs x_2.i||hit (XV x_2.cs x_2.i) (Zc x_2.j x_2.cs)) (nzs x_2.cs (x_2.i+1))=rk (prs x'.cs x'.i) (nzs x'.cs x'.i)/\6=6/\Zb (QT 132800001) x_2.cs=Zb (QT 132800001) x'.cs/\Za a.links.length=Za a.links.length/\Zh.wrap (Za x_2.i+1)=Za x'.i/\True else K (AV.t [(false,[Zo (Value.int Zh (rk (prs x.cs x.i) (nzs x.cs x.i)))]),(false,[Zo (Value.int Zh 0)])]))) ?_
 try simp only[Zk,R0,R1,Zg,R4]
 obtain⟨hg,hb,hq⟩:=hc;have hn:=hg.n;refine⟨a,b,qs,rfl,rfl,⟨hg,hb,hq⟩,fun fs f hf hl=>⟨⟨⟨XU f fs,0,0⟩,⟨by simp[XU,hl],⟨fs,f,hf,hl,rfl⟩,by simp⟩,rfl,rfl,rfl,by simp[XU,hl],rfl⟩,fun x hx=>QC (fun hp=> ?_) (fun hp=> ?_)⟩⟩
 ·have hp:x.i<a.links.length:=by have:=R5 hp;omega
  have hxl:=hx.len;obtain⟨u,hu⟩: ∃u,x.cs[x.i]? =some u:=⟨_,Ze (by omega)⟩
  have cu:=QOg hu;have hnz:=QOc hu;have nzu:nzb u=((Qa u.1 !=0) || (Qa u.2 !=0)):=by unfold nzb;rw[QBB,QBB]
  refine⟨by rw[Zi];omega,_,_,_,_,JA (by simpa using hu),⟨by omega,QC (fun h=>⟨x,⟨⟨hx,hp⟩,rfl⟩,rfl,?_,rfl,rfl,rfl,by rw[cu],Zg _,by rw[cu],Zg _⟩) (fun h=>⟨by omega,QC (fun h2=>⟨x,⟨⟨hx,hp⟩,rfl⟩,rfl,?_,rfl,rfl,rfl,by rw[cu],Zg _,by rw[cu],Zg _⟩) (fun h2=>⟨x,⟨⟨hx,hp⟩,rfl⟩,rfl,?_,rfl,rfl,rfl,by rw[cu],Zg _,by rw[cu],Zg _⟩)⟩)⟩,fun y hy ht=> ?_⟩
  ·rw[QOf,hnz,nzu,h,Bool.true_or,Zm]
  ·rw[QOf,hnz,nzu,h2,Zm,Zm]
  ·rw[hnz,nzu,h,h2,Zf,Zf]
  have hyl:=hy.1.len;have e2:Zc ((y.i:Int).toNat-0) (List.drop 0 (y.cs.map (QT 132800001)))=(y.cs.take y.i).map (QT 132800001):=by
   rw[Zn,Nat.sub_zero,List.drop_zero,List.map_take]
  refine⟨by rw[Zi];omega,⟨⟨y.cs,y.i,0⟩,⟨⟨⟨hyl,hy.1.cs,hy.1.le⟩,hy.2,by simp⟩,ht⟩,rfl,?_,rfl,rfl,rfl,e2,by rw[e2,Zi,List.length_take];simp only;omega,rfl,rfl,rfl⟩,fun z hz hzt=>QC (fun hk=> ?_) (fun hk=> ?_)⟩
  ·show _=rk (prs y.cs y.i || hit _ (Zc 0 y.cs)) _
   rw[List.take_zero];show _=rk (prs y.cs y.i || false) _
   rw[Zf]
  ·have hk:z.j<z.i:=by have:=R5 hk;omega
   have hzl:=hz.1.len;have hz2:=hz.2.1;obtain⟨w,hw⟩: ∃w,z.cs[z.j]? =some w:=⟨_,Ze (by omega)⟩
   have hw':(z.cs.take z.i)[z.j]? =some w:=by rw[List.getElem?_take,if_pos hk];exact hw
   have hh:=QOe (XV z.cs z.i) hw;rw[<-QBB]at hh;refine⟨by rw[Zi,List.length_take];omega,_,_,_,_,JA (by simpa using hw'),by omega,by omega,QC (fun h=>⟨⟨z.cs,z.i,z.j+1⟩,⟨⟨⟨hzl,hz.1.cs,hz.1.le⟩,hz2,hk⟩,hzt,by simp only;omega⟩,rfl,?_,rfl,rfl,rfl,rfl,rfl,by rw[w64 (by omega)];simp,rfl,rfl⟩) (fun h=>⟨⟨z.cs,z.i,z.j+1⟩,⟨⟨⟨hzl,hz.1.cs,hz.1.le⟩,hz2,hk⟩,hzt,by simp only;omega⟩,rfl,?_,rfl,rfl,rfl,rfl,rfl,by rw[w64 (by omega)];simp,rfl,rfl⟩)⟩
   ·have h':(Qa (crs (XV z.cs z.i) w) !=0)=true:=h;show 2=rk (prs z.cs z.i || hit (XV z.cs z.i) (z.cs.take (z.j+1))) _
    rw[hh,h',Zm,Zm];rfl
   ·have h':(Qa (crs (XV z.cs z.i) w) !=0)=false:=h;show _=rk (prs z.cs z.i || hit (XV z.cs z.i) (z.cs.take (z.j+1))) _
    rw[hh,h',Zf]
  ·have hk:z.j=z.i:=by have:=R6 hk;have:=hz.2.2;omega
   have hzl:=hz.1.len;have hz2:=hz.2.1;obtain⟨w,hw⟩: ∃w,z.cs[z.i]? =some w:=⟨_,Ze (by omega)⟩
   refine⟨⟨z.cs,z.i+1,0⟩,⟨⟨hzl,hz.1.cs,hz2⟩,by simp only;omega⟩,rfl,?_,rfl,by rw[w64 (by omega)];simp⟩;show _=rk (prs z.cs (z.i+1)) _
   rw[QOd hw,hk,QOg hw]
 ·have hp:x.i=a.links.length:=by have:=R6 hp;have:=hx.le;omega
  obtain⟨fs',f',h1,h2,h3⟩:=hx.cs;have hxl:=hx.len;have:=hK fs' f' h1 h2;unfold YP at this;rw[<-h3,hxl,<-hp]at this;exact this
def QD3:Ctr
 | [.x true xs,.x false [.s 3 ys]]=>some fun K=> ∃(a:ArmV) (b:Nat) (qs:List Rat),xs=Xd a/\ys=lR b qs/\QJa a b qs K
 | _=>none
theorem QOi:QI 79 QD3:=by
 refine okL Tryz.func79 fun l T hT K hK=> ?_
 unfold QD3 at hT;split at hT<;>cases hT
 obtain⟨a,b,qs,rfl,rfl,hK⟩:=hK;exact spL (QS QJZ Xe Qm) QM Tryz.func79 (QSr _ _ _ K hK)
def QWt:LC:=(79,QD3)::QOh
theorem QOj:QF QWt:= .cons QOi QJZ
theorem QZe (a:ArmV)(b:Nat)(qs:List Rat)(hc:(QU a)/\(b<=400/\qs.length=a.links.length))(K:AV->Prop)(hK: ∀(fs:List FrV) (f:FrV),fs++[f]=Ql (XF a) a.links qs->fs.length=a.links.length->K (.t [(false,[.v (.bool (decide (YP (XU f fs)<2)))]),(false,[.v (.int .i64 0)])])):QK (QP (mkT QWt M79 X4) (oF Tryz.f25) noL Tryz.f25 [Jq a,sR b qs] K):=by
 refine HV ((∃(a_1:ArmV),∃(b_1:Nat),∃(qs_1:List Rat),[Zo (Value.string a.name),Zd a.x 63,Zd a.y 63,Zo (Value.bool a.half),Zd a.t 63,Ch.s 16 (Zb QG a.links)]=[Zo (Value.string a_1.name),Zd a_1.x 63,Zd a_1.y 63,Zo (Value.bool a_1.half),Zd a_1.t 63,Ch.s 16 (Zb QG a_1.links)]/\lR b qs=lR b_1 qs_1/\(QU a_1/\b_1<=400/\qs_1.length=a_1.links.length)/\∀(fs:List FrV) (f:FrV),fs++[f]=Ql (XF a_1) a_1.links qs_1->fs.length=a_1.links.length->K (AV.t [(false,[Zo (Value.bool (decide (YP (XU f fs)<2)))]),(false,[Zo (Value.int Zh 0)])]))) ?_
 try simp only[Zk,R0,R1,Nat.zero_add,Zg,R4,R2,R3]
 exact⟨a,b,qs,rfl,rfl,hc,fun fs f hf hl=>hK fs f hf hl⟩
def QJb:Ctr
 | [.x true xs,.x false [.s 3 ys]]=>some fun K=> ∃(a:ArmV) (b:Nat) (qs:List Rat),xs=Xd a/\ys=lR b qs/\((QU a)/\(b<=400/\qs.length=a.links.length))/\(∀(fs:List FrV) (f:FrV),fs++[f]=Ql (XF a) a.links qs->fs.length=a.links.length->K (.t [(false,[.v (.bool (decide (YP (XU f fs)<2)))]),(false,[.v (.int .i64 0)])]))
 | _=>none
theorem QOk:QI 25 QJb:=by
 refine okL Tryz.func25 fun l T hT K hK=> ?_
 unfold QJb at hT;split at hT<;>cases hT
 obtain⟨a,b,qs,rfl,rfl,hc,hK⟩:=hK;exact spL (QS QOj Xe Qm) QM Tryz.func25 (QZe _ _ _ hc K hK)
def QWu:LC:=(25,QJb)::QWt
noncomputable def QZf:Qb:=mkT QWu M79 X4
theorem QOl:QF QWu:= .cons QOk QOj
theorem QWv:XI QZf:=QS QOl Xe Qm
end Go.Proofs
namespace Go.Proofs
open Go Go.Eng
theorem QOm (ls:List QY)(h:ls≠[])(hl:ls.length<=3):QK (YW (X:=Unit) QZf (oF Tryz.f78) noL Tryz.f78 [.x false [.s 16 (ls.map QG)]] [] (fun _=>True) (fun _=>⟨[(2,.x false [.w 0 0 ls.length])],[(0,Un ls)]⟩)):=by
 refine HV ((Zb QG ls≠[]/\((0+(Zb QG ls).length)*224<=140737488355328/\0+(Zb QG ls).length<=9223372036854775807)/\∃(_x:Unit),True/\0=0/\0+(Zb QG ls).length=ls.length/\63=63/\16=16/\(Zb QG ls=Zb QG ls∨QE (Zb QG ls) (Zb QG ls))/\True)) ?_
 simp only[R0,R1,Nat.zero_add,R2];rw[Zi];exact⟨fun e=>h (by simpa using e),by omega,(),rfl⟩
def QBD:Xt:=fun as0 H d=>match as0 with
 | [.x false [.s 16 xs]]=>match H d with
  | none=>some fun K=> ∃ls:List QY,xs=ls.map QG/\ls≠[]/\ls.length<=3/\K (.x false [.w d 0 ls.length]) (XO [(0,d)] (QR [(0,Un ls)]) H)
  | some _=>none
 | _=>none
theorem QLa:Y8 78 QBD:=by
 refine⟨Qg Tryz.func78 (by kernel_rfl),fun l H d T hT K hK=> ?_⟩;unfold QBD at hT;split at hT
 ·split at hT
  ·rename_i hd;cases hT
   obtain⟨ls,rfl,h0,hl,hK⟩:=hK;exact WV QWv QM Tryz.func78 (by kernel_rfl) (by kernel_rfl) (by rfl) (by rfl) hd (by kernel_rfl) (QOm ls h0 hl) hK
  ·cases hT
 ·cases hT
def QOn:List (Nat×Xt):=(78,QBD)::M79
theorem QOo:Xm QOn:= .cons QLa Xe
def QOp (l:List (Rat×Rat))(n:Nat):LI:=fun _=> .inv ⟨Nat,fun i=>⟨[(0,sVv n l),(3,.x false [.p 3 0]),(4,.x false [.p 4 0]),(12,sVv n l),(13,iA .i64 l.length),(14,iA .i64 i)],[(3,.box 25 [.r ((0:Int):Rat) 64]),(4,.box 25 [.r ((1:Int):Rat) 64])]⟩,fun i=>i<=l.length/\ ∀(j:Nat) u,j<i->l[j]? =some u->nzb u=true,fun i=>l.length-i,fun _=>0⟩
structure Ut (l:List (Rat×Rat))(wl:List (Rat×Nat)):Prop where
 len:wl.length=l.length
 dot:Ky l (wl.map (·.1)) 0 0=(0,0)
 nz: ∃p∈wl,p.1≠0
 rank:YP l<l.length
theorem Gl {n:Nat}{l:List (Rat×Rat)}{i:Nat}{a:Rat×Rat}(h:l[i]? =some a):ldE (l.map (QT n)) i 0 3=some [.r a.1 n]:=by
 simp only[ldE,List.getElem?_map,h];rfl
theorem Gn {n:Nat}{l:List (Rat×Rat)}{i:Nat}{a:Rat×Rat}(h:l[i]? =some a):ldE (l.map (QT n)) i 3 3=some [.r a.2 n]:=by
 simp only[ldE,List.getElem?_map,h];rfl
theorem QU5 (u:Rat×Rat):YP [u]=rk false (nzb u):=by
 show rk _ (nzb u || false)=_
 rw[Zf];rfl
theorem QFv (u v:Rat×Rat):YP [u,v]=rk (!(decide (crs v u=0))) (nzb u || nzb v):=by
 show rk (hit u [] || ((!(decide (crs v u=0)) || false) || false)) (nzb u || (nzb v || false))=_
 rw[Zf,Zf,Zf];rfl
theorem QZg (n:Bool):rk (!true) n<((2:Nat):Int):=by cases n<;>decide
theorem QZh (p n:Bool):rk p n<=2:=by cases p<;>cases n<;>decide
theorem QCa (u v w:Rat×Rat):YP [u,v,w]<3:=by
 have:=QZh (prs [u,v,w] 3) (nzs [u,v,w] 3);have e:YP [u,v,w]=rk (prs [u,v,w] 3) (nzs [u,v,w] 3):=rfl;rw[e];omega
theorem QIC {u v:Rat×Rat}(h:v.1=0)(k:v.2=0):crs u v=0:=by unfold crs;rw[h,k];grind
theorem QID {u v:Rat×Rat}(h:u.1=0)(k:u.2=0):crs u v=0:=by unfold crs;rw[h,k];grind
theorem QFw (u v:Rat×Rat):crs u v= -crs v u:=by unfold crs;grind
theorem QLb {u:Rat×Rat}(h:u.1=0)(k:u.2=0):nzb u=false:=by unfold nzb;rw[h,k];rfl
theorem QOq {u:Rat×Rat}(h:nzb u=true):u.1≠0∨u.2≠0:=by
 unfold nzb at h;simp at h;exact h
theorem QZi {l:List (Rat×Rat)}(h:1<=l.length/\l.length<=3):(∃u,l=[u])∨(∃u v,l=[u,v])∨(∃u v w,l=[u,v,w]):=by
 match l,h with
 | [u],_=>exact .inl ⟨u,rfl⟩
 | [u,v],_=>exact .inr (.inl ⟨u,v,rfl⟩)
 | [u,v,w],_=>exact .inr (.inr ⟨u,v,w,rfl⟩)
 | _::_::_::_::_,h=>simp at h
theorem QLc {l:List (Rat×Rat)}{x:Nat}{u:Rat×Rat}(hl:1<=l.length/\l.length<=3)(hu:l[x]? =some u)(h1:u.1=0)(h2:u.2=0):Ut l (((([0,0,0]:List Rat).set x 1).take l.length).map fun q=>(q,64)):=by
  have z: ∀q:Rat,q*0=0:=Rat.mul_zero;obtain⟨a,rfl⟩ | ⟨a,b,rfl⟩ | ⟨a,b,c,rfl⟩:=QZi hl
  · match x,hu with
    | 0,hu=>
      cases hu
      refine⟨rfl,?_,⟨(1,64),by simp,by decide⟩,by rw[QU5,QLb h1 h2];show rk false false<((1:Nat):Int);decide⟩;simp[Ky,h1,h2]<;>grind
  · match x,hu with
    | 0,hu=>
      cases hu
      refine⟨rfl,?_,⟨(1,64),by simp,by decide⟩,by rw[QFv,decide_eq_true (QIC h1 h2)];exact QZg _⟩;simp[Ky,h1,h2]<;>grind
    | 1,hu=>
      cases hu
      refine⟨rfl,?_,⟨(1,64),by simp,by decide⟩,by rw[QFv,decide_eq_true (QID h1 h2)];exact QZg _⟩;simp[Ky,h1,h2]<;>grind
  · match x,hu with
    | 0,hu=>
      cases hu
      refine⟨rfl,?_,⟨(1,64),by simp,by decide⟩,QCa _ _ _⟩;simp[Ky,h1,h2]<;>grind
    | 1,hu=>
      cases hu
      refine⟨rfl,?_,⟨(1,64),by simp,by decide⟩,QCa _ _ _⟩;simp[Ky,h1,h2]<;>grind
    | 2,hu=>
      cases hu
      refine⟨rfl,?_,⟨(1,64),by simp,by decide⟩,QCa _ _ _⟩;simp[Ky,h1,h2]<;>grind
theorem QCb {u v:Rat×Rat}(h:crs u v=0)(hv:nzb v=true):(v.1≠0->u.1+v.1* -(u.1/v.1)=0/\u.2+v.2* -(u.1/v.1)=0)/\(v.1=0->v.2≠0/\u.1+v.1* -(u.2/v.2)=0/\u.2+v.2* -(u.2/v.2)=0):=by
  unfold crs at h;refine⟨fun h1=> ?_,fun h1=> ?_⟩
  · have e:=Rat.div_mul_cancel (a:=u.1) h1;generalize u.1/v.1=r at*;refine⟨by grind,UO h1 (by grind)⟩
  · have h2:v.2≠0:=(QOq hv).elim (fun h=>absurd h1 h) id;have e:=Rat.div_mul_cancel (a:=u.2) h2;generalize u.2/v.2=r at*;refine⟨h2,?_,by grind⟩;rw[h1]at h⊢;have:u.1*v.2=0:=by grind
    rcases Rat.mul_eq_zero.1 this with h | h
    · rw[h];grind
    · exact absurd h h2
def QWw:LC:=QWu
theorem QOr:QF QWw:=QOl
abbrev QJc (l:List (Rat×Rat))(n:Nat)(K:AV->Prop):Prop:=((1<=l.length/\l.length<=3)/\(64<=n/\n<=200000000))/\((∀wl:List (Rat×Nat),(∀p∈wl,p.2<=4*n+1)->Ut l wl->K (.x false [.s 3 (lRb wl)]))/\(YP l=l.length->K (.x false [.v (.slice none 0 0)])))
set_option maxHeartbeats 1000000 in
theorem QSs (l:List (Rat×Rat))(n:Nat)(K:AV->Prop)(hK:QJc l n K):QK (QP (mkT QWw QOn X4) (oF Tryz.f86) (QOp l n) Tryz.f86 [.x false [.s 6 (l.map (QT n))]] K):=by
 obtain⟨hc,hK⟩:=hK;refine HV ((((-9223372036854775808:Int)<=0/\(0:Int)<9223372036854775808)/\((-9223372036854775808:Int)<=1/\(1:Int)<9223372036854775808)/\(∃(x:Nat),((x<=l.length/\∀(j:Nat) (u:Rat×Rat),j<x->l[j]?=some u->nzb u=true)/\OfNat.ofNat 0=0)/\6=6/\Zb (QT n) l=Zb (QT n) l/\0=0/\0=0/\6=6/\Zb (QT n) l=Zb (QT n) l/\Za (Zb (QT n) l).length=Za l.length/\0=Za x/\25=25/\(↑(0:Int):Rat)=(↑(0:Int):Rat)/\64<=64/\25=25/\(↑(1:Int):Rat)=(↑(1:Int):Rat)/\64<=64/\True)/\∀(x:Nat),(x<=l.length/\∀(j:Nat) (u:Rat×Rat),j<x->l[j]?=some u->nzb u=true)->OfNat.ofNat 0=0->bif decide (Za x<Za l.length)then(0<=Za x/\Za x<Za (Zb (QT n) l).length)/\∃(q:Rat),∃(n_1:Nat),∃(q_1:Rat),∃(n_2:Nat),ldE (Zb (QT n) l) (Za x).toNat 0 6=some [Zd q n_1,Zd q_1 n_2]/\n_1<=4294967296/\bif Qa q==0 then n_2<=4294967296/\bif Qa q_1==0 then((0:Int)<=0/\0<=Za (Zb (QT n) l).length/\Za (Zb (QT n) l).length<=3)/\(0<=Za x/\Za x<Za ((Za (Zb (QT n) l).length).toNat-0))/\0+(Za x).toNat<3/\K (AV.x false [Ch.s 3 (Zc ((Za (Zb (QT n) l).length).toNat-0) (List.drop 0 ([[Zd (↑(0:Int)) 64],[Zd (↑(0:Int)) 64],[Zd (↑(0:Int)) 64]].set (0+(Za x).toNat) [Zd (↑(1:Int)) 64])))])else ∃(x':Nat),((x'<=l.length/\∀(j:Nat) (u:Rat×Rat),j<x'->l[j]?=some u->nzb u=true)/\OfNat.ofNat 0=0/\l.length-x'<l.length-x)/\6=6/\Zb (QT n) l=Zb (QT n) l/\0=0/\0=0/\6=6/\Zb (QT n) l=Zb (QT n) l/\Za l.length=Za l.length/\Zh.wrap (Za x+1)=Za x'/\25=25/\(↑(0:Int):Rat)=(↑(0:Int):Rat)/\64<=64/\25=25/\(↑(1:Int):Rat)=(↑(1:Int):Rat)/\64<=64/\True else ∃(x':Nat),((x'<=l.length/\∀(j:Nat) (u:Rat×Rat),j<x'->l[j]?=some u->nzb u=true)/\OfNat.ofNat 0=0/\l.length-x'<l.length-x)/\6=6/\Zb (QT n) l=Zb (QT n) l/\0=0/\0=0/\6=6/\Zb (QT n) l=Zb (QT n) l/\Za l.length=Za l.length/\Zh.wrap (Za x+1)=Za x'/\25=25/\(↑(0:Int):Rat)=(↑(0:Int):Rat)/\64<=64/\25=25/\(↑(1:Int):Rat)=(↑(1:Int):Rat)/\64<=64/\True else bif decide (Za (Zb (QT n) l).length≥2)then((0:Int)<=0/\0<Za (Zb (QT n) l).length)/\∃(q:Rat),∃(n_1:Nat),∃(q_1:Rat),∃(n_2:Nat),ldE (Zb (QT n) l) 0 0 6=some [Zd q n_1,Zd q_1 n_2]/\((0:Int)<=1/\1<Za (Zb (QT n) l).length)/\∃(q_2:Rat),∃(n_3:Nat),∃(q_3:Rat),∃(n_4:Nat),ldE (Zb (QT n) l) 1 0 6=some [Zd q_2 n_3,Zd q_3 n_4]/\n_1+n_2+n_3+n_4<=4294967290/\n_1+n_4+(n_2+n_3)+1<=4294967296/\bif Qa (q*q_3-q_1*q_2)==0 then((0:Int)<=0/\0<Za (Zb (QT n) l).length)/\∃(q:Rat),∃(n_5:Nat),ldE (Zb (QT n) l) 0 0 3=some [Zd q n_5]/\((0:Int)<=1/\1<Za (Zb (QT n) l).length)/\∃(q_4:Rat),∃(n_6:Nat),ldE (Zb (QT n) l) 1 0 3=some [Zd q_4 n_6]/\n_5+n_6<=4294967296/\(q_4≠OfNat.ofNat 0->n_5+n_6<=4294967296/\((0:Int)<=0/\0<=Za (Zb (QT n) l).length/\Za (Zb (QT n) l).length<=3)/\K (AV.x false [Ch.s 3 (Zc ((Za (Zb (QT n) l).length).toNat-0) [[Zd (↑(1:Int)) 64],[Zd (-(q/q_4)) (n_5+n_6)],[Zd (↑(0:Int)) 64]])]))/\(q_4=OfNat.ofNat 0->((0:Int)<=0/\0<Za (Zb (QT n) l).length)/\∃(q:Rat),∃(n_7:Nat),ldE (Zb (QT n) l) 0 3 3=some [Zd q n_7]/\((0:Int)<=1/\1<Za (Zb (QT n) l).length)/\∃(q_5:Rat),∃(n_8:Nat),ldE (Zb (QT n) l) 1 3 3=some [Zd q_5 n_8]/\n_7+n_8<=4294967296/\(q_5≠OfNat.ofNat 0->n_7+n_8<=4294967296/\((0:Int)<=0/\0<=Za (Zb (QT n) l).length/\Za (Zb (QT n) l).length<=3)/\K (AV.x false [Ch.s 3 (Zc ((Za (Zb (QT n) l).length).toNat-0) [[Zd (↑(1:Int)) 64],[Zd (-(q/q_5)) (n_7+n_8)],[Zd (↑(0:Int)) 64]])]))/\(q_5=OfNat.ofNat 0->False))else bif Za (Zb (QT n) l).length==3 then((0:Int)<=1/\1<Za (Zb (QT n) l).length)/\∃(q:Rat),∃(n_5:Nat),∃(q_4:Rat),∃(n_6:Nat),ldE (Zb (QT n) l) 1 0 6=some [Zd q n_5,Zd q_4 n_6]/\((0:Int)<=2/\2<Za (Zb (QT n) l).length)/\∃(q_5:Rat),∃(n_7:Nat),∃(q_6:Rat),∃(n_8:Nat),ldE (Zb (QT n) l) 2 0 6=some [Zd q_5 n_7,Zd q_6 n_8]/\((0:Int)<=2/\2<Za (Zb (QT n) l).length)/\∃(q_7:Rat),∃(n_9:Nat),∃(q_8:Rat),∃(n_10:Nat),ldE (Zb (QT n) l) 2 0 6=some [Zd q_7 n_9,Zd q_8 n_10]/\((0:Int)<=0/\0<Za (Zb (QT n) l).length)/\∃(q_9:Rat),∃(n_11:Nat),∃(q_10:Rat),∃(n_12:Nat),ldE (Zb (QT n) l) 0 0 6=some [Zd q_9 n_11,Zd q_10 n_12]/\((0:Int)<=0/\0<Za (Zb (QT n) l).length)/\∃(q_11:Rat),∃(n_13:Nat),∃(q_12:Rat),∃(n_14:Nat),ldE (Zb (QT n) l) 0 0 6=some [Zd q_11 n_13,Zd q_12 n_14]/\((0:Int)<=1/\1<Za (Zb (QT n) l).length)/\∃(q_13:Rat),∃(n_15:Nat),∃(q_14:Rat),∃(n_16:Nat),ldE (Zb (QT n) l) 1 0 6=some [Zd q_13 n_15,Zd q_14 n_16]/\n_5+n_6+n_7+n_8<=4294967290/\n_9+n_10+n_11+n_12<=4294967290/\n_13+n_14+n_15+n_16<=4294967290/\K (AV.x false [Ch.s 3 [[Zd (q*q_6-q_4*q_5) (n_5+n_8+(n_6+n_7)+1)],[Zd (q_7*q_10-q_8*q_9) (n_9+n_12+(n_10+n_11)+1)],[Zd (q_11*q_14-q_12*q_13) (n_13+n_16+(n_14+n_15)+1)]]])else K (AV.x false [Zo (Value.slice none 0 0)])else bif Za (Zb (QT n) l).length==3 then((0:Int)<=1/\1<Za (Zb (QT n) l).length)/\∃(q:Rat),∃(n_1:Nat),∃(q_1:Rat),∃(n_2:Nat),ldE (Zb (QT n) l) 1 0 6=some [Zd q n_1,Zd q_1 n_2]/\((0:Int)<=2/\2<Za (Zb (QT n) l).length)/\∃(q_2:Rat),∃(n_3:Nat),∃(q_3:Rat),∃(n_4:Nat),ldE (Zb (QT n) l) 2 0 6=some [Zd q_2 n_3,Zd q_3 n_4]/\((0:Int)<=2/\2<Za (Zb (QT n) l).length)/\∃(q_4:Rat),∃(n_5:Nat),∃(q_5:Rat),∃(n_6:Nat),ldE (Zb (QT n) l) 2 0 6=some [Zd q_4 n_5,Zd q_5 n_6]/\((0:Int)<=0/\0<Za (Zb (QT n) l).length)/\∃(q_6:Rat),∃(n_7:Nat),∃(q_7:Rat),∃(n_8:Nat),ldE (Zb (QT n) l) 0 0 6=some [Zd q_6 n_7,Zd q_7 n_8]/\((0:Int)<=0/\0<Za (Zb (QT n) l).length)/\∃(q_8:Rat),∃(n_9:Nat),∃(q_9:Rat),∃(n_10:Nat),ldE (Zb (QT n) l) 0 0 6=some [Zd q_8 n_9,Zd q_9 n_10]/\((0:Int)<=1/\1<Za (Zb (QT n) l).length)/\∃(q_10:Rat),∃(n_11:Nat),∃(q_11:Rat),∃(n_12:Nat),ldE (Zb (QT n) l) 1 0 6=some [Zd q_10 n_11,Zd q_11 n_12]/\n_1+n_2+n_3+n_4<=4294967290/\n_5+n_6+n_7+n_8<=4294967290/\n_9+n_10+n_11+n_12<=4294967290/\K (AV.x false [Ch.s 3 [[Zd (q*q_3-q_1*q_2) (n_1+n_4+(n_2+n_3)+1)],[Zd (q_4*q_7-q_5*q_6) (n_5+n_8+(n_6+n_7)+1)],[Zd (q_8*q_11-q_9*q_10) (n_9+n_12+(n_10+n_11)+1)]]])else K (AV.x false [Zo (Value.slice none 0 0)]))) ?_
 try simp only[Zk,R0,R1,Nat.zero_add,Zg,R4]
 obtain⟨hl,hn⟩:=hc;obtain⟨hW,hN⟩:=hK;simp only[Zi];refine⟨by omega,by omega,⟨0,⟨by omega,fun j u h=>by omega⟩,trivial,rfl⟩,fun x hx=>QC (fun hp=> ?_) (fun hp=> ?_)⟩
 ·have hp:x<l.length:=by have:=R5 hp;omega
  obtain⟨u,hu⟩: ∃u,l[x]? =some u:=⟨_,Ze hp⟩
  have nzu:nzb u=((Qa u.1 !=0) || (Qa u.2 !=0)):=by unfold nzb;rw[QBB,QBB]
  have go:nzb u=true-> ∃x',((x'<=l.length/\ ∀(j:Nat) (u:Rat×Rat),j<x'->l[j]? =some u->nzb u=true)/\l.length-x'<l.length-x)/\Zh.wrap ((x:Int)+1)=(x':Nat):=fun h=>by
   refine⟨x+1,⟨⟨by omega,fun j w hj hw=> ?_⟩,by omega⟩,by rw[w64 (by omega)];simp⟩;by_cases e:j=x
   ·subst e;rw[hu]at hw;cases hw;exact h
   ·exact hx.2 j w (by omega) hw
  refine⟨by omega,_,_,_,_,JA (by simpa using hu),by omega,QC (fun h1=>⟨by omega,QC (fun h2=>⟨by omega,by omega,by omega,?_⟩) (fun h2=>go ?_)⟩) (fun h1=>go ?_)⟩
  ·rw[QBC]at h1 h2;have hw:=QLc hl hu (R5 h1) (R5 h2);have:=hW _ (fun p hp=> ?_) hw
   ·rw[Zn,Zn,Nat.sub_zero,List.drop_zero];have e:lRb (((([0,0,0]:List Rat).set x 1).take l.length).map fun q=>(q,64))=Zc l.length ([[Zd (((0):Int):Rat) 64],[Zd (((0):Int):Rat) 64],[Zd (((0):Int):Rat) 64]].set x [Zd (((1):Int):Rat) 64]):=by
     unfold lRb;rw[List.map_map,List.map_take,List.map_set];rfl
    rw[<-e];exact this
   ·obtain⟨q,_,rfl⟩:=List.mem_map.1 hp;simp only;omega
  ·rw[nzu,bne,bne,h2];simp
  ·rw[nzu,bne,h1];rfl
 ·have hp:x=l.length:=by have:=R6 hp;have:=hx.1;omega
  have all:=hx.2;rw[hp]at all;clear hx hp;obtain⟨u,rfl⟩ | ⟨u,v,rfl⟩ | ⟨u,v,w,rfl⟩:=QZi hl
  ·exact hN (by rw[QU5,all 0 u (by simp) rfl];rfl)
  ·simp only[List.length_cons,List.length_nil]at*;have nu:=all 0 u (by omega) rfl;have nv:=all 1 v (by omega) rfl;refine QC (fun _=>⟨by omega,_,_,_,_,JA (i:=0) rfl,by omega,_,_,_,_,JA (i:=1) rfl,by omega,by omega,QC (fun hc=> ?_) (fun hc=> ?_)⟩) (fun h=>by simp at h)
   ·rw[QBC]at hc;have hc:crs u v=0:=R5 hc;obtain⟨k1,k2⟩:=QCb hc nv;have rk:YP [u,v]<(2:Nat):=by rw[QFv,QFw,hc,nu,nv];decide
    refine⟨by omega,_,_,Gl (i:=0) rfl,by omega,_,_,Gl (i:=1) rfl,by omega,fun h1=>⟨by omega,by omega,?_⟩,fun h1=>⟨by omega,_,_,Gn (i:=0) rfl,by omega,_,_,Gn (i:=1) rfl,by omega,fun h2=>⟨by omega,by omega,?_⟩,fun h2=>(k2 h1).1 h2⟩⟩
    ·refine hW [(1,64),(-(u.1/v.1),n+n)] (fun p hp=> ?_) ⟨rfl,?_,⟨(1,64),by simp,by decide⟩,rk⟩
     ·simp at hp;rcases hp with rfl | rfl<;>simp only<;>omega
     ·obtain⟨e1,e2⟩:=k1 h1;simp only[Zj,Zl,Ky,Prod.mk.injEq];exact⟨by rw[<-e1];grind,by rw[<-e2];grind⟩
    ·refine hW [(1,64),(-(u.2/v.2),n+n)] (fun p hp=> ?_) ⟨rfl,?_,⟨(1,64),by simp,by decide⟩,rk⟩
     ·simp at hp;rcases hp with rfl | rfl<;>simp only<;>omega
     ·obtain⟨_,e1,e2⟩:=k2 h1;simp only[Zj,Zl,Ky,Prod.mk.injEq];exact⟨by rw[<-e1];grind,by rw[<-e2];grind⟩
   ·rw[QBC]at hc;have hc:crs u v≠0:=R6 hc;have hc':crs v u≠0:=fun e=>hc (by rw[QFw,e];rfl);exact hN (by rw[QFv,decide_eq_false hc'];rfl)
  ·simp only[List.length_cons,List.length_nil]at*;have nv:=all 1 v (by omega) rfl;refine QC (fun _=>⟨by omega,_,_,_,_,JA (i:=0) rfl,by omega,_,_,_,_,JA (i:=1) rfl,by omega,by omega,QC (fun hc=> ?_) (fun hc=> ?_)⟩) (fun h=>by simp at h)
   ·rw[QBC]at hc;have hc:crs u v=0:=R5 hc;obtain⟨k1,k2⟩:=QCb hc nv;refine⟨by omega,_,_,Gl (i:=0) rfl,by omega,_,_,Gl (i:=1) rfl,by omega,fun h1=>⟨by omega,by omega,?_⟩,fun h1=>⟨by omega,_,_,Gn (i:=0) rfl,by omega,_,_,Gn (i:=1) rfl,by omega,fun h2=>⟨by omega,by omega,?_⟩,fun h2=>(k2 h1).1 h2⟩⟩
    ·refine hW [(1,64),(-(u.1/v.1),n+n),(0,64)] (fun p hp=> ?_) ⟨rfl,?_,⟨(1,64),by simp,by decide⟩,QCa _ _ _⟩
     ·simp at hp;rcases hp with rfl | rfl | rfl<;>simp only<;>omega
     ·obtain⟨e1,e2⟩:=k1 h1;simp only[Zj,Zl,Ky,Prod.mk.injEq];exact⟨by rw[<-e1];grind,by rw[<-e2];grind⟩
    ·refine hW [(1,64),(-(u.2/v.2),n+n),(0,64)] (fun p hp=> ?_) ⟨rfl,?_,⟨(1,64),by simp,by decide⟩,QCa _ _ _⟩
     ·simp at hp;rcases hp with rfl | rfl | rfl<;>simp only<;>omega
     ·obtain⟨_,e1,e2⟩:=k2 h1;simp only[Zj,Zl,Ky,Prod.mk.injEq];exact⟨by rw[<-e1];grind,by rw[<-e2];grind⟩
   ·rw[QBC]at hc;have hc:crs u v≠0:=R6 hc;refine QC (fun _=>⟨by omega,_,_,_,_,JA (i:=1) rfl,by omega,_,_,_,_,JA (i:=2) rfl,by omega,_,_,_,_,JA (i:=2) rfl,by omega,_,_,_,_,JA (i:=0) rfl,by omega,_,_,_,_,JA (i:=0) rfl,by omega,_,_,_,_,JA (i:=1) rfl,by omega,by omega,by omega,?_⟩) (fun h=>by simp at h);refine hW [(crs v w,n+n+(n+n)+1),(crs w u,n+n+(n+n)+1),(crs u v,n+n+(n+n)+1)] (fun p hp=> ?_) ⟨rfl,?_,⟨_,by simp;exact .inr (.inr rfl),hc⟩,QCa _ _ _⟩
    ·simp at hp;rcases hp with rfl | rfl | rfl<;>simp only<;>omega
    ·simp only[Zj,Zl,Ky,Prod.mk.injEq,crs];constructor<;>grind
def QD4:Ctr
 | [.x false [.s 6 xs]]=>some fun K=> ∃(l:List (Rat×Rat)) (n:Nat),xs=l.map (QT n)/\QJc l n K
 | _=>none
theorem QOs:QI 86 QD4:=by
 refine okL Tryz.func86 fun l T hT K hK=> ?_
 unfold QD4 at hT;split at hT<;>cases hT
 obtain⟨l,n,rfl,hK⟩:=hK;exact spL (QS QOr QOo Qm) QM Tryz.func86 (QSs _ _ K hK)
def QWx:LC:=(86,QD4)::QWw
noncomputable def QbO:Qb:=mkT QWx QOn X4
theorem QWy:QF QWx:= .cons QOs QOr
end Go.Proofs
