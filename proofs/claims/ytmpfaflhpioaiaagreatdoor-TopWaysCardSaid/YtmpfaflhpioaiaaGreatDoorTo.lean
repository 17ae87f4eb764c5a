/- From a contract of a law to its given row: the arguments, the table, what is left behind. -/
import Derived.Test.YtmpfaflhpioaiaaGreatDoorE4
import Derived.ProofKit
import Derived.LaidMore
import Derived.OpenShut
import Derived.Stop.Joined
open _root_ renaming List → A, Bool → E, Nat → F
open Bool renaming true → B, false → D
open Option renaming some → C
namespace Go.Eng
open Go Go.ChangeShapes Go.WideShapes Go.ChangeAt Go.WideElems Go.RowKit
inductive Arg where
 | int (n:Int)
 | ints (l:A Int)
def Arg.av:Arg->AV
 | .int n=> .x D [.v (.int .i64 n)]
 | .ints l=> .x D [.s 1 (l.map fun n=>[.v (.int .i64 n)])]
def Arg.isInt:Arg->E
 | .int _=>B
 | .ints _=>D
def Arg.OK:Arg->Prop
 | .int n=> -9223372036854775808<=n/\n<9223372036854775808
 | .ints l=>l.length<=9223372036854775807/\ ∀n∈l,-9223372036854775808<=n/\n<9223372036854775808
structure GH (P:Program)(tI tL:F):Prop where
  hI:P.underlying tI=C (.int .i64)
  hL:P.underlying tL=C (.slice tI)
  hc:P.cellsOf tI=1

variable {H:Type}{enc:TypeId×Value->H}{P:Program}{W:World}
theorem wq {n:Int}(h:(Lit.int .i64 n).wf=B): -9223372036854775808<=n/\n<9223372036854775808:=by
 simp only[Lit.wf,E.and_eq_true,decide_eq_true_eq]at h;have e:IntKind.i64.min= -9223372036854775808:=o8
 have a:IntKind.i64.max=9223372036854775807:=o8
 rw[e,a]at h;omega
variable{base tI tL:F}
theorem QUS(k:GH P tI tL){isI:E}{v:Value}{d:DataW H}{p:A MemPlace}(c:Value.okWide P W .any base (if isI then tI else tL) v)
  (h:DataW.Trod enc P W 0 (fun _=>B) B (if isI then tI else tL) v d p): ∃a:Arg,a.isInt=isI/\a.OK/\ConcV W (fun _=>False) Y3 a.av v:=by
 cases isI with
 | true=>
  obtain⟨n,rfl,_,_,R⟩:=open_int k.hI c h;exact⟨.int n,rfl,wq R,⟨_,.v rfl .nil,rfl⟩⟩
 | false=>
  obtain⟨T,l,u,rfl⟩:=okWide_slice k.hL c;obtain⟨I,O⟩:=h;rcases open_ints k.hL k.hI k.hc O with⟨g,_⟩ | ⟨a,L,G,z,g,_,V,X,S,_,e,y⟩
  ·simp[Value.cells]at g;obtain⟨rfl,rfl,rfl⟩:=g;exact⟨.ints [],rfl,⟨o6,fun _ h=>(by cases h)⟩,⟨_,.s0 .nil,rfl⟩⟩
  ·simp[Value.cells]at g;obtain⟨rfl,rfl,rfl⟩:=g;simp only[if_true]at S;have s:a.spot=none:=by
    simp only[E.false_eq_true,if_false,Value.okWide,k.hL,Cell.okWide,Cell.ok,World.has]at c;exact c.2.2.2.1
   obtain⟨b,o,Y⟩:=a;simp only at s;subst s;have Q:maxLen<=9223372036854775807:=j5
   refine⟨.ints (z.take l),rfl,⟨by rw[A.length_take];omega,fun n r=>wq (y n (A.mem_of_mem_take r))⟩,?_⟩;have q:((z.take l).map fun n=>[Ch.v (.int .i64 n)]).length=l:=o9
   cases l with
   | zero=>
    simp only[A.take_zero,Arg.av,A.map_nil];exact⟨_,.s00 .nil,rfl⟩
   | succ l=>
   have t:CC W (fun _=>False) Y3 [.s 1 ((z.take (l+1)).map fun n=>[Ch.v (.int .i64 n)])] [.slice (C ⟨b,o,none⟩) ((z.take (l+1)).map fun n=>[Ch.v (.int .i64 n)]).length u]:=by
    have M:=e 0 o3;have N:b<W.heap.size:=World.block_lt_of_cell? W ⟨b,o,none⟩ (by simpa [Addr.add]using M)
    have J: ∀i x,(((z.take (l+1)).map fun n=>[Ch.v (.int .i64 n)]))[i]? =C x->i<l+1/\x=[Ch.v (.int .i64 (z.getD i 0))]:=by
     intro i x m;simp only[A.getElem?_map,Option.map_eq_some_iff]at m;obtain⟨n,r,rfl⟩:=m;have K:=(A.getElem?_eq_some_iff.1 r).1;rw[A.length_take]at K;rw[A.getElem?_take,if_pos o3]at r;refine⟨o3,?_⟩;rw[A.getD_eq_getElem?_getD,r];rfl
    refine .s (f:=fun i=>[.int .i64 (z.getD i 0)]) ⟨N,fun h=>h,fun i x m=>⟨rfl,fun j U=> ?_⟩⟩ (fun i x m=> ?_) o3 .nil
    ·obtain⟨K,_⟩:=J i x m;have:=e i o3;have w:j=0:=o3
     subst w;simp only[F.mul_one,F.add_zero,A.getElem?_cons_zero];rw[<-this];unfold Addr.add;split
     ·rename_i h;subst h;rfl
     ·rfl
    ·obtain⟨_,rfl⟩:=J i x m;exact .v rfl .nil
   rw[q]at t;exact⟨_,t,rfl⟩
theorem QQs(y:GH P tI tL): ∀{ks:A E} {vs:A Value} {g:A (DataW H)} {p:A MemPlace},
  (∀(j:F) t v,(ks.map fun b=>if b then tI else tL)[j]? =C t->vs[j]? =C v->Value.okWide P W .any base t v)->
  DataW.TrodAll enc P W 0 (fun _=>B) B (ks.map fun b=>if b then tI else tL) vs g p-> ∃f:A Arg,f.map Arg.isInt=ks/\(∀a∈f,a.OK)/\Qu W (fun _=>False) Y3 (f.map Arg.av) vs:=by
 intro ks;induction ks with
 | nil=>
  intro vs g p _ h;obtain⟨rfl,rfl,rfl⟩:=trodAll_nil h;exact⟨[],rfl,(fun _ h=>(by cases h)),.nil⟩
 | cons k ks I=>
  intro vs g p c h;obtain⟨v,J,d,s,K,L,rfl,rfl,rfl,u,w⟩:=trodAll_cons h;obtain⟨a,i,l,m⟩:=QUS y (isI:=k) (c 0 _ v rfl rfl) u;obtain⟨f,o,q,r⟩:=I (fun j t v z G=>c (j+1) t v ((j9 z)) ((j9 G))) w;exact⟨a::f,by simp[i,o],(fun x n=>(A.mem_cons.1 n).elim (fun e=>e▸l) (fun n=>q x n)),.cons m r⟩
theorem QQt (n:laidOutB P=B): ∀{a:A TypeId} {vs:A Value} {f:A (DataW H)} {p:A MemPlace},(∀t∈a,P.readableRec t=B/\t<P.types.size)->
  DataW.TrodAll enc P W 0 (fun _=>B) B a vs f p->(∀x∈p,x.block<W.heap.size)-> ∀{e:World},Below W.heap.size W e->DataW.TrodAll enc P e 0 (fun b=>decide (b<W.heap.size)) B a vs f p:=by
 intro a;induction a with
 | nil=>
  intro vs f p _ h _ e _;obtain⟨rfl,rfl,rfl⟩:=trodAll_nil h;exact trodAll_mk0
 | cons t a o=>
  intro vs f p g h c e j;obtain⟨v,q,d,k,r,s,rfl,rfl,rfl,l,m⟩:=trodAll_cons h;exact trodAll_cons_mk (Below.trod n (g t o6).1 (g t o6).2 l j (fun x i=>c x (by simp[i]))) (o (fun t h=>g t (by simp[h])) m (fun x i=>c x (by simp[i])) j)
theorem QUT {n:F}{e t:TypeId}{k:IntKind}{fuel:F}{G:F->E}{b:E}{cs:A Value}{ns:A Int}{p:A MemPlace}(w:P.underlying t=C (.array n e))(s:P.underlying e=C (.int k))(q:P.cellsOf e=1)(r:P.cellsOf t=n)
    (h:DataW.trod enc P W base G b fuel t cs=C (.agg (ns.map fun z=> .lit (.int k z)),p)):cs=ns.map fun z=> .int k z:=by
  obtain⟨I,m,_,c,g,J,f⟩:=DataW.trod_array w h;simp only[Prod.mk.injEq,DataW.agg.injEq]at c;obtain⟨c,_⟩:=c;have v:=congrArg A.length c;simp only[A.length_map]at v;apply A.ext_getElem?
  intro i;by_cases u:i<n
  · have d:=f i u;rw[q,F.mul_one]at d;obtain⟨x,hxx⟩: ∃x,I[i]? =C x:=⟨_,A.getElem?_eq_getElem o3⟩
    rw[hxx]at d;obtain⟨z,j,o,_⟩:=DataW.trod_int s d;have a:=congrArg (fun l=>l[i]?) c;simp only[A.getElem?_map,hxx,Option.map_some]at a;obtain⟨y,hy⟩: ∃y,ns[i]? =C y:=⟨_,A.getElem?_eq_getElem o3⟩
    rw[hy]at a;rw[o]at a;simp at a;subst a;rw[A.getElem?_map,hy];have:=congrArg (fun l=>l[0]?) j;simpa [A.getElem?_take]using this
  · rw[A.getElem?_eq_none o3,A.getElem?_eq_none o9]

theorem QGy {j:String}{g n:F}{t e:TypeId}{k:IntKind}{ns:A Int}(l:P.globalNamed j=C g)(f:(P.globals[g]?).map (·.type)=C t)(v:P.underlying t=C (.array n e))(s:P.underlying e=C (.int k))(r:P.cellsOf e=1)(b:P.cellsOf t=n)
  (u:([(j,(DataW.agg (ns.map fun z=> .lit (.int k z)):DataW Unit))].all fun x=>x.2.handleName?.isNone)=B)
  (h:laidMetH P [(j,.agg (ns.map fun z=> .lit (.int k z)))] W):Tz W g (ns.map fun z=> .int k z):=by
 rw[MakeChecks.laidMetH_plain _ _ _ u]at h;obtain⟨I,⟨E,K,m,y,G,J,d,i,a,c,_⟩,_⟩:=h;obtain rfl:=Option.some.inj (l.symm.trans d);obtain rfl:=Option.some.inj (f.symm.trans i);have o:=QUT v s r b c;simp only[World.var?,l,Option.bind_some]at a;split at a
 ·rename_i w t p q;cases a
  refine⟨t,p,?_⟩;rw[q,<-o]
 ·cases a
theorem QUU {u:Func}{s:ChangeSpec}{tB f g:F}{zb:A Value}{ks:A E}(hT:GH P tI tL)(hB:P.underlying tB=C .bool)(hl:laidOutB P=B)(hr:P.readableRec tI=B/\tI<P.types.size)(Q:P.readableRec tL=B/\tL<P.types.size)
    (n:u.params.toList=ks.map fun b=>if b then tI else tL) (R:u.resultTypes= #[tB]) (y:s.vars=[])
    (m: ∀c:A (DataW H),c.length=ks.length->s.fn H (c++[])={results:=[.lit (.bool B)],args:=c})
    (o: ∀r:A Arg,r.map Arg.isInt=ks->(∀a∈r,a.OK)->Spec P g zb f (r.map Arg.av) (fun V=>V= .x D [.v (.bool B)]))
    (hG:Tz W g zb) {args:Array Value} {c gs:A (DataW H)} {k:A MemPlace}
    (G: ∀(j:F) t v,u.params[j]? =C t->args[j]? =C v->Value.okWide P W .any base t v) (Y:DataW.Whole enc P u.params.toList s.vars D W args.toList c gs k):
    Calls P f args W fun e U=> ∃v,e= .returned v/\s.post enc P u D B D D W args v U:=by
  have w:=Y;obtain⟨p,q,J,X,rfl,Lm,be⟩:=Y;rw[y]at X;obtain⟨rfl,rfl⟩:=trodVars_none X;have O: ∀x∈p,x.block<W.heap.size:=fun x hx=>by simpa using w.lt x (by simp[hx])
  rw[n]at J;obtain⟨r,K,L,M⟩:=QQs (base:=base) hT (fun j t v hj hv=>G j t v (by rw[<-hj,<-n];simp) (by rw[<-hv];simp)) J;have i:=o r K L W (fun _=>False) args.toList (fun _ h=>h.elim) hG M;have e:args.toList.toArray=args:=o6
  rw[e]at i;refine i.mono fun en U ⟨v,V,he,hk,hc,Z⟩=> ?_
  subst he hk;obtain⟨us,S,z⟩:=hc;simp only[E.false_eq_true,if_false]at z;subst z;cases S with
  | v _ h=>
  cases h
  have l:c.length=ks.length:=by
    have: ∀{I:A TypeId} {T:A Value} {c:A (DataW H)} {p:A MemPlace},DataW.TrodAll enc P W 0 (fun _=>B) B I T c p->c.length=I.length:=by
      intro I;induction I with
      | nil=>intro T c p h;obtain⟨rfl,rfl,rfl⟩:=trodAll_nil h;rfl
      | cons t I ih=>
        intro T c p h;obtain⟨v,hZ,d,At,p1,p2,rfl,rfl,rfl,h1,h2⟩:=trodAll_cons h;simp[ih h2]
    rw[this J];simp
  have N:=QQt hl (fun t ht=>by
    obtain⟨b,_,rfl⟩:=A.mem_map.1 ht;cases b
    · exact Q
    · exact hr) J O Z
  refine⟨_,rfl,c,[],p++[],[],p,[],w,?_,?_,?_,Z.frame _,fun h=>by cases h⟩
  · rw[m c l,R];exact trodAll_mk1 (shut_bool hB _)
  · rw[m c l,n];exact N
  · rw[m c l,y];rfl
end Go.Eng
