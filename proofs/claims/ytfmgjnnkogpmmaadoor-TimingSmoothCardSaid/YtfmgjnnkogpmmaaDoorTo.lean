/- From a contract of a law to its given row: the arguments, the table, what is left behind. -/
import Derived.Test.YtfmgjnnkogpmmaaDoorE4
import Derived.ProofKit
import Derived.LaidMore
import Derived.OpenShut
import Derived.Stop.Joined
namespace Go.Eng
open Go Go.ChangeShapes Go.WideShapes Go.ChangeAt Go.WideElems Go.RowKit
inductive Arg where
 | int (n:Int)
 | ints (l:List Int)
def Arg.av:Arg->AV
 | .int n=> .x false [.v (.int .i64 n)]
 | .ints l=> .x false [.s 1 (l.map fun n=>[.v (.int .i64 n)])]
def Arg.isInt:Arg->Bool
 | .int _=>true
 | .ints _=>false
def Arg.OK:Arg->Prop
 | .int n=> -9223372036854775808<=n/\n<9223372036854775808
 | .ints l=>l.length<=9223372036854775807/\ ∀n∈l,-9223372036854775808<=n/\n<9223372036854775808
structure Vo (P:Program)(tI tL:Nat):Prop where
  hI:P.underlying tI=some (.int .i64)
  hL:P.underlying tL=some (.slice tI)
  hc:P.cellsOf tI=1

variable {H:Type}{enc:TypeId×Value->H}{P:Program}{W:World}
theorem QKi {n:Int}(h:(Lit.int .i64 n).wf=true): -9223372036854775808<=n/\n<9223372036854775808:=by
 simp only[Lit.wf,Bool.and_eq_true,decide_eq_true_eq]at h;have e1:IntKind.i64.min= -9223372036854775808:=by decide
 have e2:IntKind.i64.max=9223372036854775807:=by decide
 rw[e1,e2]at h;omega
theorem QKj {tI tL base:Nat}(hT:Vo P tI tL){isI:Bool}{v:Value}{d:DataW H}{p:List MemPlace}(hval:Value.okWide P W .any base (if isI then tI else tL) v)
  (h:DataW.Trod enc P W 0 (fun _=>true) true (if isI then tI else tL) v d p): ∃a:Arg,a.isInt=isI/\a.OK/\ConcV W (fun _=>False) XT a.av v:=by
 cases isI with
 | true=>
  obtain⟨n,rfl,_,_,hw⟩:=open_int hT.hI hval h;exact⟨.int n,rfl,QKi hw,⟨_,.v rfl .nil,rfl⟩⟩
 | false=>
  obtain⟨a0,len,cap,rfl⟩:=okWide_slice hT.hL hval;obtain⟨fuel,hf⟩:=h;rcases open_ints hT.hL hT.hI hT.hc hf with⟨hcs,_⟩ | ⟨a,len',cap',zs,hcs,_,hl,hm,hz,_,hcell,hwz⟩
  ·simp[Value.cells]at hcs;obtain⟨rfl,rfl,rfl⟩:=hcs;exact⟨.ints [],rfl,⟨by simp,fun _ h=>(by cases h)⟩,⟨_,.s0 .nil,rfl⟩⟩
  ·simp[Value.cells]at hcs;obtain⟨rfl,rfl,rfl⟩:=hcs;simp only[if_true]at hz;have hsp:a.spot=none:=by
    simp only[Bool.false_eq_true,if_false,Value.okWide,hT.hL,Cell.okWide,Cell.ok,World.has]at hval;exact hval.2.2.2.1
   obtain⟨b,o,sp⟩:=a;simp only at hsp;subst hsp;have hmx:maxLen<=9223372036854775807:=by decide+kernel
   refine⟨.ints (zs.take len),rfl,⟨by rw[List.length_take];omega,fun n hn=>QKi (hwz n (List.mem_of_mem_take hn))⟩,?_⟩;have hlen:((zs.take len).map fun n=>[Ch.v (.int .i64 n)]).length=len:=by simp;omega
   cases len with
   | zero=>
    simp only[List.take_zero,Arg.av,List.map_nil];exact⟨_,.s00 .nil,rfl⟩
   | succ len=>
   have key:CC W (fun _=>False) XT [.s 1 ((zs.take (len+1)).map fun n=>[Ch.v (.int .i64 n)])] [.slice (some ⟨b,o,none⟩) ((zs.take (len+1)).map fun n=>[Ch.v (.int .i64 n)]).length cap]:=by
    have h0:=hcell 0 (by omega);have hb:b<W.heap.size:=World.block_lt_of_cell? W ⟨b,o,none⟩ (by simpa [Addr.add]using h0)
    have gt: ∀i x,(((zs.take (len+1)).map fun n=>[Ch.v (.int .i64 n)]))[i]? =some x->i<len+1/\x=[Ch.v (.int .i64 (zs.getD i 0))]:=by
     intro i x hx;simp only[List.getElem?_map,Option.map_eq_some_iff]at hx;obtain⟨n,hn,rfl⟩:=hx;have hi:=(List.getElem?_eq_some_iff.1 hn).1;rw[List.length_take]at hi;rw[List.getElem?_take,if_pos (by omega)]at hn;refine⟨by omega,?_⟩;rw[List.getD_eq_getElem?_getD,hn];rfl
    refine .s (f:=fun i=>[.int .i64 (zs.getD i 0)]) ⟨hb,fun h=>h,fun i x hx=>⟨rfl,fun j hj=> ?_⟩⟩ (fun i x hx=> ?_) (by omega) .nil
    ·obtain⟨hi,_⟩:=gt i x hx;have:=hcell i (by omega);have hj0:j=0:=by omega
     subst hj0;simp only[Nat.mul_one,Nat.add_zero,List.getElem?_cons_zero];rw[<-this];unfold Addr.add;split
     ·rename_i h;subst h;rfl
     ·rfl
    ·obtain⟨_,rfl⟩:=gt i x hx;exact .v rfl .nil
   rw[hlen]at key;exact⟨_,key,rfl⟩
theorem QH6 {tI tL base:Nat}(hT:Vo P tI tL): ∀{ks:List Bool} {vs:List Value} {ds:List (DataW H)} {p:List MemPlace},
  (∀(j:Nat) t v,(ks.map fun b=>if b then tI else tL)[j]? =some t->vs[j]? =some v->Value.okWide P W .any base t v)->
  DataW.TrodAll enc P W 0 (fun _=>true) true (ks.map fun b=>if b then tI else tL) vs ds p-> ∃as:List Arg,as.map Arg.isInt=ks/\(∀a∈as,a.OK)/\Qo W (fun _=>False) XT (as.map Arg.av) vs:=by
 intro ks;induction ks with
 | nil=>
  intro vs ds p _ h;obtain⟨rfl,rfl,rfl⟩:=trodAll_nil h;exact⟨[],rfl,(fun _ h=>(by cases h)),.nil⟩
 | cons k ks ih=>
  intro vs ds p hval h;obtain⟨v,vs',d,ds',p1,p2,rfl,rfl,rfl,h1,h2⟩:=trodAll_cons h;obtain⟨a,ha1,ha2,ha3⟩:=QKj hT (isI:=k) (hval 0 _ v rfl rfl) h1;obtain⟨as,b1,b2,b3⟩:=ih (fun j t v hj hv=>hval (j+1) t v (by simpa using hj) (by simpa using hv)) h2;exact⟨a::as,by simp[ha1,b1],(fun x hx=>(List.mem_cons.1 hx).elim (fun e=>e▸ha2) (fun hx=>b2 x hx)),.cons ha3 b3⟩
theorem QH7 (hl:laidOutB P=true): ∀{ts:List TypeId} {vs:List Value} {ds:List (DataW H)} {p:List MemPlace},(∀t∈ts,P.readableRec t=true/\t<P.types.size)->
  DataW.TrodAll enc P W 0 (fun _=>true) true ts vs ds p->(∀x∈p,x.block<W.heap.size)-> ∀{W':World},Below W.heap.size W W'->DataW.TrodAll enc P W' 0 (fun b=>decide (b<W.heap.size)) true ts vs ds p:=by
 intro ts;induction ts with
 | nil=>
  intro vs ds p _ h _ W' _;obtain⟨rfl,rfl,rfl⟩:=trodAll_nil h;exact trodAll_mk0
 | cons t ts ih=>
  intro vs ds p ht h hlt W' hb;obtain⟨v,vs',d,ds',p1,p2,rfl,rfl,rfl,h1,h2⟩:=trodAll_cons h;exact trodAll_cons_mk (Below.trod hl (ht t (by simp)).1 (ht t (by simp)).2 h1 hb (fun x hx=>hlt x (by simp[hx]))) (ih (fun t h=>ht t (by simp[h])) h2 (fun x hx=>hlt x (by simp[hx])) hb)
theorem QKk {n:Nat}{e t:TypeId}{k:IntKind}{base fuel:Nat}{sp:Nat->Bool}{held:Bool}{cs:List Value}{ns:List Int}{p:List MemPlace}(ht:P.underlying t=some (.array n e))(he:P.underlying e=some (.int k))(hc:P.cellsOf e=1)(hct:P.cellsOf t=n)
    (h:DataW.trod enc P W base sp held fuel t cs=some (.agg (ns.map fun z=> .lit (.int k z)),p)):cs=ns.map fun z=> .int k z:=by
  obtain⟨xs,m,_,hx,hlen,hn,hel⟩:=DataW.trod_array ht h;simp only[Prod.mk.injEq,DataW.agg.injEq]at hx;obtain⟨hx,_⟩:=hx;have hl:=congrArg List.length hx;simp only[List.length_map]at hl;apply List.ext_getElem?
  intro i;by_cases hi:i<n
  · have h1:=hel i hi;rw[hc,Nat.mul_one]at h1;obtain⟨x,hxx⟩: ∃x,xs[i]? =some x:=⟨_,List.getElem?_eq_getElem (by omega)⟩
    rw[hxx]at h1;obtain⟨z,e1,e2,_⟩:=DataW.trod_int he h1;have e3:=congrArg (fun l=>l[i]?) hx;simp only[List.getElem?_map,hxx,Option.map_some]at e3;obtain⟨y,hy⟩: ∃y,ns[i]? =some y:=⟨_,List.getElem?_eq_getElem (by omega)⟩
    rw[hy]at e3;rw[e2]at e3;simp at e3;subst e3;rw[List.getElem?_map,hy];have:=congrArg (fun l=>l[0]?) e1;simpa [List.getElem?_take]using this
  · rw[List.getElem?_eq_none (by omega),List.getElem?_eq_none (by simp;omega)]

theorem QB0 {nm:String}{g n:Nat}{t e:TypeId}{k:IntKind}{ns:List Int}(hg:P.globalNamed nm=some g)(hgt:(P.globals[g]?).map (·.type)=some t)(ht:P.underlying t=some (.array n e))(he:P.underlying e=some (.int k))(hc:P.cellsOf e=1)(hct:P.cellsOf t=n)
  (hp:([(nm,(DataW.agg (ns.map fun z=> .lit (.int k z)):DataW Unit))].all fun x=>x.2.handleName?.isNone)=true)
  (h:laidMetH P [(nm,.agg (ns.map fun z=> .lit (.int k z)))] W):QDq W g (ns.map fun z=> .int k z):=by
 rw[MakeChecks.laidMetH_plain _ _ _ hp]at h;obtain⟨ps,⟨g0,t0,cs0,f0,p0,q0,hg0,ht0,hv0,hd0,_⟩,_⟩:=h;obtain rfl:=Option.some.inj (hg.symm.trans hg0);obtain rfl:=Option.some.inj (hgt.symm.trans ht0);have e1:=QKk ht he hc hct hd0;simp only[World.var?,hg,Option.bind_some]at hv0;split at hv0
 ·rename_i cs t fr hb;cases hv0
  refine⟨t,fr,?_⟩;rw[hb,<-e1]
 ·cases hv0
theorem QKl {fn:Func}{s:ChangeSpec}{tI tL tB f g:Nat}{tab:List Value}{ks:List Bool}(hT:Vo P tI tL)(hB:P.underlying tB=some .bool)(hl:laidOutB P=true)(hr:P.readableRec tI=true/\tI<P.types.size)(hr':P.readableRec tL=true/\tL<P.types.size)
    (hps:fn.params.toList=ks.map fun b=>if b then tI else tL) (hrs:fn.resultTypes= #[tB]) (hsv:s.vars=[])
    (hfn: ∀ds:List (DataW H),ds.length=ks.length->s.fn H (ds++[])={results:=[.lit (.bool true)],args:=ds})
    (hspec: ∀as:List Arg,as.map Arg.isInt=ks->(∀a∈as,a.OK)->Spec P g tab f (as.map Arg.av) (fun av=>av= .x false [.v (.bool true)]))
    (hG:QDq W g tab) {base:Nat} {args:Array Value} {ds gs:List (DataW H)} {before:List MemPlace}
    (hval: ∀(j:Nat) t v,fn.params[j]? =some t->args[j]? =some v->Value.okWide P W .any base t v) (hW:DataW.Whole enc P fn.params.toList s.vars false W args.toList ds gs before):
    Calls P f args W fun e W'=> ∃v,e= .returned v/\s.post enc P fn false true false false W args v W':=by
  have hW':=hW;obtain⟨p,q,hA,hV,rfl,hfz,hnd⟩:=hW;rw[hsv]at hV;obtain⟨rfl,rfl⟩:=trodVars_none hV;have hlt: ∀x∈p,x.block<W.heap.size:=fun x hx=>by simpa using hW'.lt x (by simp[hx])
  rw[hps]at hA;obtain⟨as,ha1,ha2,ha3⟩:=QH6 (base:=base) hT (fun j t v hj hv=>hval j t v (by rw[<-hj,<-hps];simp) (by rw[<-hv];simp)) hA;have hcall:=hspec as ha1 ha2 W (fun _=>False) args.toList (fun _ h=>h.elim) hG ha3;have e:args.toList.toArray=args:=by simp
  rw[e]at hcall;refine hcall.mono fun en W' ⟨v,av,he,hk,hc,hb⟩=> ?_
  subst he hk;obtain⟨us,hu1,hu2⟩:=hc;simp only[Bool.false_eq_true,if_false]at hu2;subst hu2;cases hu1 with
  | v _ h=>
  cases h
  have hdl:ds.length=ks.length:=by
    have: ∀{ts:List TypeId} {vs:List Value} {ds:List (DataW H)} {p:List MemPlace},DataW.TrodAll enc P W 0 (fun _=>true) true ts vs ds p->ds.length=ts.length:=by
      intro ts;induction ts with
      | nil=>intro vs ds p h;obtain⟨rfl,rfl,rfl⟩:=trodAll_nil h;rfl
      | cons t ts ih=>
        intro vs ds p h;obtain⟨v,vs',d,ds',p1,p2,rfl,rfl,rfl,h1,h2⟩:=trodAll_cons h;simp[ih h2]
    rw[this hA];simp
  have hbk:=QH7 hl (fun t ht=>by
    obtain⟨b,_,rfl⟩:=List.mem_map.1 ht;cases b
    · exact hr'
    · exact hr) hA hlt hb
  refine⟨_,rfl,ds,[],p++[],[],p,[],hW',?_,?_,?_,hb.frame _,fun h=>by cases h⟩
  · rw[hfn ds hdl,hrs];exact trodAll_mk1 (shut_bool hB _)
  · rw[hfn ds hdl,hps];exact hbk
  · rw[hfn ds hdl,hsv];rfl
end Go.Eng
