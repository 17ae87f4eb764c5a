/- From a contract of a law to its given row, where the law leans on the reach of what it is handed: each list of integers takes at most so many bytes. -/
import Derived.Test.YtjdhppdpbkoihaaGreatDoorTo
import Derived.SizedLaws
namespace Go.Eng
open Go Go.ChangeShapes Go.WideShapes Go.ChangeAt Go.WideElems Go.RowKit
def Arg.In:Arg->Prop
  | .int _=>True
  | .ints l=>l.length*8<=reachBytes
variable {H:Type}{enc:TypeId×Value->H}{P:Program}{W:World}
theorem QL7 {O:Nat->Prop}{ρ:Env}{xs:List (List Ch)}{a:Option Addr}{len cap:Nat}(h:ConcV W O ρ (.x false [.s 1 xs]) (.slice a len cap)):xs.length=len:=by
 obtain⟨vs,h1,h2⟩:=h;simp only[Bool.false_eq_true,if_false]at h2;subst h2;cases h1<;>rfl
theorem QL8 {tI tL base:Nat}(hT:Vp P tI tL)(h8:P.bytesOf tI=8){isI:Bool}{v:Value}{d:DataW H}{p:List MemPlace}(hval:Value.okWide P W .any base (if isI then tI else tL) v)
  (h:DataW.Trod enc P W 0 (fun _=>true) true (if isI then tI else tL) v d p) (hw:(DataW.weights P (if isI then tI else tL) d).all (· <=reachBytes)=true): ∃a:Arg,a.isInt=isI/\a.OK/\a.In/\ConcV W (fun _=>False) YG a.av v:=by
 obtain⟨a,h1,h2,h3⟩:=QOY hT hval h;refine⟨a,h1,h2,?_,h3⟩;cases a with
 | int n=>trivial
 | ints l=>
  simp only[Arg.isInt]at h1;subst h1;obtain⟨a0,len,cap,rfl⟩:=okWide_slice hT.hL hval;have hlen:=QL7 h3;simp only[List.length_map]at hlen;obtain⟨fuel,hf⟩:=h;show l.length*8<=reachBytes
  rcases open_ints hT.hL hT.hI hT.hc hf with⟨hcs,_⟩ | ⟨a,len',cap',zs,hcs,_,hl,hm,hz,hx,_,_⟩
  ·simp[Value.cells]at hcs;omega
  ·simp[Value.cells]at hcs;obtain⟨_,rfl,rfl⟩:=hcs;simp only[if_true]at hz;simp only[Prod.mk.injEq]at hx;obtain⟨rfl,_⟩:=hx;have hw':(DataW.weights P tL (.slice (lits .i64 (zs.take len)) (lits .i64 (zs.drop len)):DataW H)).all (· <=reachBytes)=true:=hw;have:=List.all_eq_true.1 hw' (((lits .i64 (zs.take len):List (DataW H)).length+(lits .i64 (zs.drop len):List (DataW H)).length)*P.bytesOf tI) (by simp[DataW.weights,hT.hL]);simp only[lits,List.length_map,List.length_take,List.length_drop,h8,decide_eq_true_eq]at this;omega
theorem QIb {tI tL base:Nat}(hT:Vp P tI tL)(h8:P.bytesOf tI=8): ∀{ks:List Bool} {vs:List Value} {ds:List (DataW H)} {p:List MemPlace},
  (∀(j:Nat) t v,(ks.map fun b=>if b then tI else tL)[j]? =some t->vs[j]? =some v->Value.okWide P W .any base t v)->
  DataW.TrodAll enc P W 0 (fun _=>true) true (ks.map fun b=>if b then tI else tL) vs ds p->(DataW.weightsEach P (ks.map fun b=>if b then tI else tL) ds).all (· <=reachBytes)=true->
  ∃as:List Arg,as.map Arg.isInt=ks/\(∀a∈as,a.OK/\a.In)/\Qs W (fun _=>False) YG (as.map Arg.av) vs:=by
 intro ks;induction ks with
 | nil=>
  intro vs ds p _ h _;obtain⟨rfl,rfl,rfl⟩:=trodAll_nil h;exact⟨[],rfl,(fun _ h=>(by cases h)),.nil⟩
 | cons k ks ih=>
  intro vs ds p hval h hw;obtain⟨v,vs',d,ds',p1,p2,rfl,rfl,rfl,h1,h2⟩:=trodAll_cons h;simp only[List.map_cons,DataW.weightsEach,List.all_append,Bool.and_eq_true]at hw;obtain⟨a,ha1,ha2,ha4,ha3⟩:=QL8 hT h8 (isI:=k) (hval 0 _ v rfl rfl) h1 hw.1;obtain⟨as,b1,b2,b3⟩:=ih (fun j t v hj hv=>hval (j+1) t v (by simpa using hj) (by simpa using hv)) h2 hw.2;exact⟨a::as,by simp[ha1,b1],(fun x hx=>(List.mem_cons.1 hx).elim (fun e=>e▸⟨ha2,ha4⟩) (fun hx=>b2 x hx)),.cons ha3 b3⟩
theorem QL9 {fn:Func}{s:ChangeSpec}{tI tL tB f g:Nat}{tab:List Value}{ks:List Bool}{ts:List TypeId}(hT:Vp P tI tL)(h8:P.bytesOf tI=8)(hB:P.underlying tB=some .bool)(hl:laidOutB P=true)(hr:P.readableRec tI=true/\tI<P.types.size)(hr':P.readableRec tL=true/\tL<P.types.size)
    (hps:fn.params.toList=ks.map fun b=>if b then tI else tL) (hrs:fn.resultTypes= #[tB]) (hsv:s.vars=[]) (hts:ts=[])
    (hfn: ∀ds:List (DataW H),ds.length=ks.length->s.fn H (ds++[])={results:=[.lit (.bool true)],args:=ds})
    (hspec: ∀as:List Arg,as.map Arg.isInt=ks->(∀a∈as,a.OK/\a.In)->Spec P g tab f (as.map Arg.av) (fun av=>av= .x false [.v (.bool true)]))
    (hG:QGp W g tab) {base:Nat} {args:Array Value} {ds gs:List (DataW H)} {before:List MemPlace}
    (hval: ∀(j:Nat) t v,fn.params[j]? =some t->args[j]? =some v->Value.okWide P W .any base t v) (hW:DataW.Whole enc P fn.params.toList s.vars false W args.toList ds gs before)
    (hwt:(DataW.weightsEach P (fn.params.toList++ts) (ds++gs)).all (· <=reachBytes)=true):
    Calls P f args W fun e W'=> ∃v,e= .returned v/\s.post enc P fn false true false false W args v W':=by
  have hW':=hW;obtain⟨p,q,hA,hV,rfl,hfz,hnd⟩:=hW;rw[hsv]at hV;obtain⟨rfl,rfl⟩:=trodVars_none hV;have hlt: ∀x∈p,x.block<W.heap.size:=fun x hx=>by simpa using hW'.lt x (by simp[hx])
  rw[hps]at hA;rw[hps,hts,List.append_nil,List.append_nil]at hwt;obtain⟨as,ha1,ha2,ha3⟩:=QIb (base:=base) hT h8 (fun j t v hj hv=>hval j t v (by rw[<-hj,<-hps];simp) (by rw[<-hv];simp)) hA hwt;have hcall:=hspec as ha1 ha2 W (fun _=>False) args.toList (fun _ h=>h.elim) hG ha3;have e:args.toList.toArray=args:=by simp
  rw[e]at hcall;refine hcall.mono fun en W' ⟨v,av,he,hk,hc,hb⟩=> ?_
  subst he hk;obtain⟨us,hu1,hu2⟩:=hc;simp only[Bool.false_eq_true,if_false]at hu2;subst hu2;cases hu1 with
  | v _ h=>
  cases h
  have hdl:ds.length=ks.length:=by
    have: ∀{ts:List TypeId} {vs:List Value} {ds:List (DataW H)} {p:List MemPlace},DataW.TrodAll enc P W 0 (fun _=>true) true ts vs ds p->ds.length=ts.length:=by
      intro ts;induction ts with
      | nil=>intro vs ds p h;obtain⟨rfl,rfl,rfl⟩:=trodAll_nil h;rfl
      | cons t ts ih=>
        intro vs ds p h;obtain⟨v,vs',d,ds',p1,p2,rfl,rfl,rfl,h1,h2⟩:=trodAll_cons h;simp[ih h2]
    rw[this hA];simp
  have hbk:=QL3 hl (fun t ht=>by
    obtain⟨b,_,rfl⟩:=List.mem_map.1 ht;cases b
    · exact hr'
    · exact hr) hA hlt hb
  refine⟨_,rfl,ds,[],p++[],[],p,[],hW',?_,?_,?_,hb.frame _,fun h=>by cases h⟩
  · rw[hfn ds hdl,hrs];exact trodAll_mk1 (shut_bool hB _)
  · rw[hfn ds hdl,hps];exact hbk
  · rw[hfn ds hdl,hsv];rfl
end Go.Eng
