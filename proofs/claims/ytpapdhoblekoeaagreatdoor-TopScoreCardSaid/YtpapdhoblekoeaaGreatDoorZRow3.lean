/-
  A law's row: from the contract of its function to the row's form.
-/
import Derived.Test.YtpapdhoblekoeaaGreatDoorZRow2
import Derived.Carry
import Derived.ProofKit
import Derived.JoinedOf
import Derived.Handed
set_option linter.all false
namespace Go.Rse
open Go Go.RowKit Go.ChangeShapes Go.WideShapes
section
variable{H:Type}{enc:TypeId×Value->H}{P:Program}
theorem trodAll_cons{w:World}{base:Nat}{sp:Nat->Bool}{held:Bool}{t:TypeId}{ts:List TypeId}{vs:List Value}{ds:List (DataW H)}{p:List MemPlace}(h:DataW.TrodAll enc P w base sp held (t::ts) vs ds p):
 ∃v us d es p1 q,vs=v::us/\ds=d::es/\DataW.Trod enc P w base sp held t v d p1/\DataW.TrodAll enc P w base sp held ts us es q/\p=p1++q:=by
 match vs,ds,h with
 |v::us,d::es,h=>obtain⟨p1,q,h1,Q,N⟩:=h;exact⟨v,us,d,es,p1,q,rfl,rfl,h1,Q,N⟩
 |[],_,h=>simp[DataW.TrodAll]at h
 |_::_,[],h=>simp[DataW.TrodAll]at h
theorem trodAll_nil{w:World}{base:Nat}{sp:Nat->Bool}{held:Bool}{vs:List Value}{ds:List (DataW H)}{p:List MemPlace}(h:DataW.TrodAll enc P w base sp held [] vs ds p):vs=[]/\ds=[]/\p=[]:=by
 match vs,ds,h with
 |[],[],h=>exact⟨rfl,rfl,h⟩
 |[],_::_,h=>simp[DataW.TrodAll]at h
 |_::_,_,h=>simp[DataW.TrodAll]at h
theorem zfp(hl:laidOutB P=true){W W':World}(K:Below W.heap.size W W'):∀{ts:List TypeId}{vs:List Value}{ds:List (DataW H)}{p:List MemPlace},ts.all (λt=>P.readableRec t&&decide (t<P.types.size))=true→
 DataW.TrodAll enc P W 0 (λ_=>true) true ts vs ds p->(∀x∈p,x.block<W.heap.size)->DataW.TrodAll enc P W' 0 (λb=>decide (b<W.heap.size)) true ts vs ds p
 |[],vs,ds,p,_,h,_=>by
  obtain⟨rfl,rfl,rfl⟩:=trodAll_nil h;rfl
 |t::ts,vs,ds,p,N,h,Q=>by
  obtain⟨v,us,d,es,p1,q,rfl,rfl,h1,G,rfl⟩:=trodAll_cons h;simp only[xS,jE,w8]at N;exact⟨p1,q,Below.trod hl N.1.1 N.1.2 h1 K (λx hx=>Q x (kK _ hx)),zfp hl K (ao N.2) G (λx hx=>Q x (List.mem_append_right _ hx)),rfl⟩
end
theorem law_calls{H:Type}{enc:TypeId×Value->H}{P:Program}{f:FuncId}{fn:Func}{s:ChangeSpec}{W:World}{args:Array Value}{ds gs:List (DataW H)}{before:List MemPlace}{xs:List AV}{tb:TypeId}
 (hl:laidOutB P=true)(hp:fn.params.toList.all (λt=>P.readableRec t&&decide (t<P.types.size))=true)(G:s.vars=[])(hr:fn.resultTypes= #[tb])(E:P.underlying tb=some .bool)
 (hs:∀es:List (DataW H),ds++gs=es++[]->(s.fn H es).results=[.lit (.bool true)]/\(s.fn H es).args=es/\(s.fn H es).vars=[])
 (hC:Fn P f xs (.bool true))(N:RVL (wIm W) noNames xs args.toList)(hW:DataW.Whole enc P fn.params.toList s.vars false W args.toList ds gs before)
 (hG:Im.le gIm (wIm W):=by intro b o u h;simp[gIm,zmW]at h):
 Calls P f args W λe W'=>∃v,e=.returned v/\s.post enc P fn false true false false W args v W':=by
 have K:=hW;obtain⟨p,q,hA,hV,rfl,_,_⟩:=hW;rw[G]at hV K;obtain⟨rfl,rfl⟩:=trodVars_none hV;have xT:∀x∈p,x.block<W.heap.size:=λx hx=>K.lt x (ao hx)
 obtain⟨e1,e2,e3⟩:=hs ds rfl;have h:=hC.2.2 (g0 W) W args.toList (zDH W hG) N;have ea:args.toList.toArray=args:=ah
 rw[ea]at h;refine h.mono λe W'⟨v,g',he,x2,Q,_⟩=>⟨v,he,?_⟩
 have x1:=z8 x2;subst x1;have hb:Below W.heap.size W W':=⟨Q.grow.os,Q.grow.tape,Q.grow.output,Q.grow.size,Q.grow.keep⟩;refine⟨ds,[],p++[],[],p,[],by rw[G];exact K,?_,?_,?_,hb.frame _,λh=>by cases h⟩
 ·simp only[wQ];rw[e1,hr];exact trodAll_mk1 ⟨1,by simp[DataW.trod,E,Value.cells]⟩
 ·simp only[wQ];rw[e2];exact zfp hl hb hp hA xT
 ·simp only[wQ];rw[G,e3];rfl
theorem RVL.cons{I:Im}{ρ:Nat->Value}{x:AV}{v:Value}{xs:List AV}{vs:List Value}(h:RV I ρ x v)(K:RVL I ρ xs vs):RVL I ρ (x::xs) (v::vs):=by
 refine⟨by simp[K.1],λj c u Q N=>?_⟩;cases j with
 |zero=>simp at Q N;subst Q;subst N;exact h
 |succ j=>exact K.2 j c u (ao Q) (ao N)
theorem i64_rng{n:Int}(h:(Lit.int .i64 n).wf=true):-9223372036854775808<=n/\n<=9223372036854775807:=by
 simp only[Lit.wf,jE,w8]at h;have h1:IntKind.min .i64=-9223372036854775808:=rfl;have Q:IntKind.max .i64=9223372036854775807:=rfl;omega
end Go.Rse
