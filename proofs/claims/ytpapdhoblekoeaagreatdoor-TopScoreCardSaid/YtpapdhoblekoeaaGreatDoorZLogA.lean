/-
  The package-level variables that the walks read: what they hold, cell by cell.
  The logic: parts Rse1, Rse2, Rse3, Rse4, Rse5, Rse6, Rse7, Rse8, Rse9, Rse10, Rse11, Rse12.
  Structs of ints and bools (and of structs of these) are equal iff their cells are.
-/
import Derived.KernelRfl
import Derived.WalkKit
import Derived.Maps.AppendAt
import Derived.Deep.AppendLies
import Derived.TacticsIn
import Derived.RangeFuncCalls
import Derived.Sort.LoopGhostIn
import Derived.RangeFuncLeaves
import Derived.Laws.CopyRow
import Derived.OrdersIn
import Derived.Laws.StructEq
set_option linter.all false
namespace Go
theorem aa{p:Prop}(h:p:=by omega):p:=h
theorem ac{p:Prop}(h:p:=by decide):p:=h
theorem ae{p:Prop}(h:p:=by kernel_rfl):p:=h
theorem ah{p:Prop}(h:p:=by simp):p:=h
theorem ai{p:Prop}(h:p:=by assumption):p:=h
theorem aj{p:Prop}(h:p:=by simp;omega):p:=h
theorem ak{p:Prop}(h:p:=by simp_all):p:=h
theorem am{p:Prop}(h:p:=by dsimp only;omega):p:=h
theorem ao{p q:Prop}(a:p)(h:p→q:=by intro a;simpa using a):q:=h a
end Go
namespace Go.Rse
open Go
def j5:=@List.getElem?_eq_some_iff
def j6:=@List.mem_of_getElem?
def j7:=@if_pos
def j8:=@if_neg
def j9:=@List.getElem?_map
def jA:=@congrArg
def jB:=@List.getD_eq_getElem?_getD
def jC:=@List.getElem?_eq_getElem
def jD:=@List.length_map
def jE:=@Bool.and_eq_true
def jF:=@List.all_eq_true
def jG:=@Nat.le_refl
def jH:=@Result.andThen_ok
def jI:=@Array.getD_eq_getD_getElem?
def jJ:=@List.length_append
def jK:=@List.take_add_one
def jL:=@List.mem_iff_getElem?
def jM:=@Sem.run_bind
def jN:=@Int.toNat_natCast
def jO:=@List.length_take
def jP:=@Sem.run_pure
def jQ:=@List.drop_eq_getElem_cons
def jR:=@List.take_length
def jS:=@List.mem_map
def jT:=@List.eq_nil_of_length_eq_zero
def jU:=@Nat.zero_le
def jV:=@Nat.le_trans
def jW:=@List.mem_cons
def jX:=@Nat.mul_le_mul_right
def jY:=@Classical.byContradiction
def jZ:=@Array.getElem?_eq_getElem
def w4:=@List.getElem?_take
def w5:=@List.length_cons
def w6:=@List.mem_singleton
def w7:=@Nat.lt_of_lt_of_le
def w8:=@decide_eq_true_eq
def w9:=@List.mem_append
def wA:=@List.mem_cons_of_mem
def wB:=@decide_eq_false
def wC:=@List.getElem?_append_right
def wD:=@decide_eq_true
def wE:=@List.take_of_length_le
def wF:=@List.pairwise_iff_getElem
def wG:=@List.mem_filter
def wH:=@Nat.lt_or_ge
def wI:=@List.getElem?_drop
def wJ:=@List.getElem?_cons_succ
def wK:=@List.getElem_mem
def wL:=@Bool.or_eq_true
def wM:=@List.take_append_of_le_length
def wN:=@List.ext_getElem?
def wO:=@List.getElem?_eq_none
def wP:=@Bool.not_eq_true'
def wQ:=@List.append_nil
def wR:=@List.range_succ
def wS:=@Option.map_some
def wT:=@List.drop_of_length_le
def wU:=@Array.getElem?_eq_some_iff
def wV:=@List.take_append_drop
def wW:=@List.map_cons
def wX:=@Nat.div_eq_of_eq_mul_right
def wY:=@List.cons_append
def wZ:=@IntWalk.i64_in
def u0:=@Option.map_eq_some_iff
def u3:=@Nat.mul_comm
def u4:=@List.append_assoc
def u5:=@List.getElem?_append_left
def u6:=@Nat.zero_add
def u7:=@List.getElem?_take_of_lt
def u9:=@Option.isSome_iff_exists
def uA:=@List.length_filter_le
def uB:=@Nat.add_assoc
def uC:=@Option.some.inj
def uD:=@List.drop_length
def uE:=@List.eq_nil_iff_forall_not_mem
def uF:=@List.filter_eq_nil_iff
def uG:=@List.flatMap_append
def uH:=@List.flatMap_cons
def uI:=@List.length_singleton
def uJ:=@Nat.lt_succ_iff_lt_or_eq
def uK:=@Array.getElem?_setIfInBounds
def uL:=@Int.ediv_nonneg
def uM:=@List.length_nil
def uN:=@Int.emod_lt_of_pos
def uO:=@List.filter_append
def uP:=@List.filter_cons
def uQ:=@List.getElem?_append
def uR:=@List.getElem?_mapIdx
def uS:=@List.getElem?_replicate
def uT:=@decide_eq_false_iff_not
def uU:=@Int.mul_nonneg
def uV:=@List.mem_range
def uX:=@Nat.add_zero
def uY:=@List.getElem?_range
def uZ:=@List.length_pos_iff
def v6:=@Array.getElem?_modify
def v7:=@Array.getElem?_toList
def vA:=@List.length_replicate
def vB:=@List.any_eq_true
def vC:=@List.length_drop
def vD:=@Int.le_refl
def vE:=@Nat.div_lt_of_lt_mul
def vF:=@List.getElem?_set
def vG:=@Array.size_push
def vH:=@Int.emod_nonneg
def vJ:=@List.prefix_rfl
def vK:=@Array.getElem?_eq_none
def vL:=@List.findIdx_eq_length
def vM:=@Int.ofNat_dvd_left
def vN:=@Array.getElem?_append
def vO:=@Bool.and_eq_false_iff
def vP:=@List.length_mergeSort
def vQ:=@List.set_append_right
def vR:=@List.nodup_cons
def vT:=@Nat.div_add_mod
def vU:=@Nat.not_lt_zero
def vV:=@Int.le_of_lt
def vW:=@List.pairwise_append
def vX:=@Nat.one_mul
def vY:=@Nat.sub_zero
def vZ:=@List.eq_of_mem_replicate
def x3:=@Int.ediv_le_self
def x4:=@List.mem_flatMap
def x5:=@Option.bind_eq_some_iff
def x6:=@List.pairwise_cons
def x7:=@Nat.eq_zero_or_pos
def x8:=@decide_eq_true_iff
def x9:=@List.foldl_cons
def xA:=@List.getElem?_toArray
def xB:=@List.getElem?_inj
def xC:=@List.nodup_append
def xD:=@Nat.gcd_dvd_right
def xE:=@Option.some.injEq
def xF:=@Int.mul_le_mul
def xG:=@List.mem_of_mem_take
def xH:=@Int.le_trans
def xI:=@List.ext_getElem
def xJ:=@List.range'_succ
def xK:=@Nat.gcd_dvd_left
def xL:=@Nat.succ_mul
def xM:=@Nat.zero_mul
def xN:=@Option.getD_some
def xO:=@Array.getElem?_push
def xP:=@Array.length_toList
def xQ:=@List.filter_eq_self
def xR:=@Bool.false_or
def xS:=@List.all_cons
def xU:=@List.length_erase_of_mem
def xV:=@Nat.gcd_pos_of_pos_right
def xW:=@List.length_set
def xX:=@List.nil_append
def xY:=@Nat.mod_lt
def xZ:=@List.length_eq_zero_iff
def kA:=@List.drop_drop
def kB:=@List.flatten_cons
def kC:=@List.mapM_cons
def kE:=@List.map_nil
def kF:=@Nat.le_of_eq
def kG:=@Nat.mul_le_mul
def kH:=@Nat.not_le
def kI:=@Bool.not_true
def kJ:=@List.extract_toArray
def kK:=@List.mem_append_left
def kL:=@List.cons.injEq
def kM:=@List.map_append
def kO:=@Nat.min_eq_left
def kP:=@Bool.false_eq_true
def kQ:=@Int.not_lt
def kR:=@List.mem_mergeSort
def kS:=@List.take_take
def kT:=@List.take_zero
def kU:=@Nat.add_le_add
def kV:=@Option.map_map
inductive GC
 |n(x:Int)
 |b(x:Bool)
 deriving DecidableEq
def clsL:List GC:=[.n 0,.n 1,.n 1,.n 2,.n 1,.n 3,.n 3,.n 4,.n 4,.n 3,.n 3,.n 4,.n 4]
def usesL:List GC:=(List.range 156).map λi=>.b (Nat.testBit 680564774446317469484897242945970827264 i)
def hlvL:List GC:=[.n 0,.n 2,.n 4,.n 5,.n 7,.n 9,.n 11]
def kndL:List GC:=(List.range 91).map λi=>.n (match i with|0|59=>1|29|30|73|74=>2|44=>3|45|58=>4|_=>0)
def zmW:Nat->Option (List GC)
 |0=>some [.n 3,.n 2]
 |2=>some clsL
 |1=>some usesL
 |3=>some hlvL
 |4=>some kndL
  |_=>none
end Go.Rse
namespace Go
variable{a:Addr}{at2:Bool}{at_ k:Addr}{l:List Addr}{p:Program}{u:TypeId}{v:Value}{w w':World}{α:Type}
theorem zh1:∀(a:Ask α)(w:World),w.drawn<=(w.ask a).2.drawn:=by
 intro a
 induction a<;>grind[World.ask]
theorem zh2(w:World)(c:Sys):w.drawn<=(w.sys c).2.drawn:=by
 grind[zh1,World.sys]
theorem zd5(h:w.viewStore p at_ u k v at2=.ok (w',l)):w'.drawn=w.drawn:=by
 unfold World.viewStore at h;simp only[bind,Except.bind,pure,Except.pure]at h
 repeat'(first|(cases h;done)|(cases h;rfl)|(split at h))
def zes(h:w.farStore p a v at2=.ok (w',l)):w'.drawn=w.drawn:=by
 grind[World.farStore,zd5]
theorem zfG(w:World)(a:Addr)(n:Nat):(w.freeze a n).drawn=w.drawn:=by unfold World.freeze;split<;>rfl
def ze7(w:World)(a:Addr)(v:Value):(w.setCell a v).drawn=w.drawn:=rfl
def zj6:∀(m:Sem α)(w:World){v:α}{w':World},m.run p w=.ok v w'->w.drawn<=w'.drawn:=by
 intro m
 induction m with
 |pure a=>simp_all
 |load m a k ih=>
  grind[Sem.run]
 |store m a x k ih=>
  intro w v w' h
  cases x<;>simp only[Sem.run]at h<;>first
   |(cases h;done)
   |(split at h
     ·split at h
      ·cases h
      ·exact(ze7 w a _)▸(ih (w.setCell a _) h)
     ·split at h
      ·rename_i w2 l e;exact(zes e)▸ih _ h
      ·cases h)
 |new o k ih=>grind[Sem.run]
 |shape r k ih=>grind[Sem.run]
 |freeze a n k ih=>grind[Sem.run,zfG]
 |frozen a k ih=>grind[Sem.run]
 |getObj r k ih=>
  grind[Sem.run]
 |setObj r o k ih=>
  grind[Sem.run]
 |choose q k ih=>
  grind[Sem.run]
 |sys c k ih=>grind[Sem.run,zh2]
 |program k ih=>grind[Sem.run]
 |mark m k ih=>simp_all[Sem.run]
 |halt h0=>simp_all
end Go
namespace Go.Rse
open Go Go.RowKit
variable{D:List Nat}{bo:Option Nat}{r:Nat}{xs:List Value}
abbrev Im:=Nat->Nat->Option Value
def Im.le(I J:Im):Prop:=∀b o v,I b o=some v->J b o=some v
def Im.le_refl(I:Im):Im.le I I:=λ_ _ _ h=>h
def Im.le_trans{I J K:Im}(h:Im.le I J)(N:Im.le J K):Im.le I K:=λb o v e=>N b o v (h b o v e)
theorem beqF{a b:Nat}:a.beq b=false↔a≠b:=by
 constructor
 ·intro h e;subst e;simp at h
 ·intro h;cases N:a.beq b<;>simp_all
inductive AV:Type 1
 |int(k:IntKind)(n:Int)
 |bool(b:Bool)
 |str(s:ByteArray)
 |nils
 |nilf
 |val(v:Value)
 |sl{α:Type}(enc:α->List AV)(l:List α)
 |own(k:Nat)
 |ptr(k s i j:Nat)
 |mth(f:FuncId)(k s i j:Nat)
 |sub(k s i m:Nat)
 |ept{α:Type}(enc:α->List AV)(x:α)(j:Nat)
 |fn(f:FuncId)(caps:List AV)
 |yv(l:Nat)
 |agg(cs:List AV)
 |tup(vs:List AV)
 |ifb(b:Bool)(x:AV)
 |opt(b:Bool)(x:AV)
 |mp(k:Nat)
 |iny(k:IntKind)
 |any
abbrev va:Value:=.int .i64 0
abbrev vb:Value:=.bool false
abbrev vc:AV:=.int .i64 0
abbrev vd:AV:=.bool false
def yT:Value->Option Nat
 |.pointer (some a)=>some a.block
 |.slice (some a) _ _=>some a.block
 |_=>none
def noNames:Nat->Value:=λ_=>.nilIface
inductive RV(I:Im):(Nat->Value)->AV->Value->Prop
 |int{ρ}(k:IntKind)(n:Int):RV I ρ (.int k n) (.int k n)
 |bool{ρ}(b:Bool):RV I ρ (.bool b) (.bool b)
 |str{ρ}(s:ByteArray):RV I ρ (.str s) (.string s)
 |nils{ρ}:RV I ρ .nils (.slice none 0 0)
 |nilf{ρ}:RV I ρ .nilf .nilFunc
 |val{ρ}(v:Value):RV I ρ (.val v) v
 |sl{ρ}{α:Type}(enc:α->List AV)(l:List α)(A:Option Addr)(b o s c:Nat)(vs:Nat->Nat->Value)
  (hA:l≠[]->A=some ⟨b,o,none⟩)(hc:l.length<=c)(hm:c<=maxLen)
  (hs:∀(i:Nat)(x:α),l[i]? =some x->(enc x).length=s)
  (hI:∀(i:Nat)(x:α)(j:Nat),l[i]? =some x->j<s->I b (o+i*s+j)=some (vs i j))
  (hv:∀(i:Nat)(x:α)(j:Nat)(cell:AV),l[i]? =some x->(enc x)[j]? =some cell->RV I noNames cell (vs i j)):RV I ρ (.sl enc l) (.slice A l.length c)
 |own{ρ}(k:Nat)(A:Option Addr)(n c:Nat)(h:ρ k=.slice A n c):RV I ρ (.own k) (.slice A n c)
 |ptr{ρ}(k s i j b:Nat)(h:yT (ρ k)=some b):RV I ρ (.ptr k s i j) (.pointer (some ⟨b,i*s+j,none⟩))
 |mth{ρ}(f:FuncId)(k s i j b:Nat)(h:yT (ρ k)=some b):RV I ρ (.mth f k s i j) (.func (.func f) #[.pointer (some ⟨b,i*s+j,none⟩)] #[])
 |sub{ρ}(k s i m c:Nat)(A:Option Addr)(h:m≠0->∃b,yT (ρ k)=some b/\A=some ⟨b,i*s,none⟩):RV I ρ (.sub k s i m) (.slice A m c)
 |ept{ρ}{α:Type}(enc:α->List AV)(x:α)(j b o:Nat)(vs:Nat->Value)
  (hI:∀(j:Nat),j<(enc x).length->I b (o+j)=some (vs j))
  (hv:∀(j:Nat)(cell:AV),(enc x)[j]? =some cell->RV I noNames cell (vs j)):RV I ρ (.ept enc x j) (.pointer (some ⟨b,o+j,none⟩))
 |fn{ρ}(f:FuncId)(caps:List AV)(vs:List Value)(hl:vs.length=caps.length)
  (hv:∀(j:Nat)(c:AV)(v:Value),caps[j]? =some c->vs[j]? =some v->RV I ρ c v):RV I ρ (.fn f caps) (.func (.func f) #[] vs.toArray)
 |yv{ρ}(l:Nat):RV I ρ (.yv l) (.func (.yield l) #[] #[])
 |agg{ρ}(cs:List AV)(vs:List Value)(hl:vs.length=cs.length)
  (hv:∀(j:Nat)(c:AV)(v:Value),cs[j]? =some c->vs[j]? =some v->RV I ρ c v):RV I ρ (.agg cs) (.agg vs.toArray)
 |tup{ρ}(cs:List AV)(vs:List Value)(hl:vs.length=cs.length)
  (hv:∀(j:Nat)(c:AV)(v:Value),cs[j]? =some c->vs[j]? =some v->RV I ρ c v):RV I ρ (.tup cs) (.tuple vs.toArray)
 |ifb{ρ}(b:Bool)(x:AV)(v:Value)(h:b=true->RV I ρ x v):RV I ρ (.ifb b x) v
 |opt{ρ}(b:Bool)(x:AV)(v:Value)(h:b=true->RV I ρ x v)(h0:b=false->v=.tuple #[]):RV I ρ (.opt b x) v
 |mp{ρ}(k b:Nat)(h:ρ k=.map (some b)):RV I ρ (.mp k) (.map (some b))
 |iny{ρ}(k:IntKind)(n:Int):RV I ρ (.iny k) (.int k n)
 |any{ρ}(v:Value):RV I ρ .any v
def RV.mono{I J:Im}{ρ:Nat->Value}{x:AV}{v:Value}(h:RV I ρ x v)(N:Im.le I J):RV J ρ x v:=by
 induction h with
 |int k n=>exact .int k n
 |bool b=>exact .bool b
 |str s=>exact .str s
 |nils=>exact .nils
 |nilf=>exact .nilf
 |val v=>exact .val v
 |sl enc l A b o s c vs hA hc hm hs hI H ih=>exact .sl enc l A b o s c vs hA hc hm hs (λi x j hx G=>N _ _ _ (hI i x j hx G)) ih
 |own k A n c h=>exact .own k A n c h
 |ptr k s i j b h=>exact .ptr k s i j b h
 |mth f k s i j b h=>exact .mth f k s i j b h
 |sub k s i m c A h=>exact .sub k s i m c A h
 |ept enc x j b o vs hI H ih=>exact .ept enc x j b o vs (λj G=>N _ _ _ (hI j G)) ih
 |fn f caps vs hl H ih=>exact .fn f caps vs hl ih
 |yv l=>exact .yv l
 |agg cs vs hl H ih=>exact .agg cs vs hl ih
 |tup cs vs hl H ih=>exact .tup cs vs hl ih
 |ifb b x v h ih=>exact .ifb b x v ih
 |opt b x v h h0 ih=>exact .opt b x v ih h0
 |mp k b h=>exact .mp k b h
 |iny k n=>exact .iny k n
 |any v=>exact .any v
def AV.fr(k:Nat):AV->Bool
 |.own k'=>!(k'.beq k)
 |.ptr k' _ _ _=>!(k'.beq k)
 |.mth _ k' _ _ _=>!(k'.beq k)
 |.sub k' _ _ _=>!(k'.beq k)
 |.fn _ cs=>frL k cs
 |.agg cs=>frL k cs
 |.tup cs=>frL k cs
 |.ifb _ x=>x.fr k
 |.opt _ x=>x.fr k
 |.mp k'=>!(k'.beq k)
 |_=>true
where frL(k:Nat):List AV->Bool
 |[]=>true
 |x::r=>x.fr k&&frL k r
theorem zo{k:Nat}:∀{cs:List AV},AV.fr.frL k cs=true->∀{j:Nat}{c:AV},cs[j]? =some c->c.fr k=true
 |[],_,_,_,h=>by simp at h
 |x::r,h,0,c,e=>by
  simp_all[AV.fr.frL]
 |x::r,h,j+1,c,e=>by
  simp[AV.fr.frL]at h;exact zo h.2 (ao e)
def RV.rename{I:Im}{ρ ρ':Nat->Value}{x:AV}{v:Value}{k:Nat}(h:RV I ρ x v)(hf:x.fr k=true)(hρ:∀n,n≠k->ρ' n=ρ n):RV I ρ' x v:=by
 induction h with
 |int k n=>exact .int k n
 |bool b=>exact .bool b
 |str s=>exact .str s
 |nils=>exact .nils
 |nilf=>exact .nilf
 |val v=>exact .val v
 |sl enc l A b o s c vs hA H hm hs hI G ih=>exact .sl enc l A b o s c vs hA H hm hs hI G
 |own k' A n c h=>
  have:k'≠k:=beqF.1 (by simpa[AV.fr]using hf);exact .own k' A n c ((hρ k' this).trans h)
 |ptr k' s i j b h=>
  have:k'≠k:=beqF.1 (by simpa[AV.fr]using hf);exact .ptr k' s i j b ak
 |mth f k' s i j b h=>
  have:k'≠k:=beqF.1 (by simpa[AV.fr]using hf);exact .mth f k' s i j b ak
 |sub k' s i m c A h=>
  have:k'≠k:=beqF.1 (by simpa[AV.fr]using hf);exact .sub k' s i m c A ak
 |ept enc x j b o vs hI G ih=>exact .ept enc x j b o vs hI G
 |fn f caps vs hl G ih=>exact .fn f caps vs hl (λj c v H N=>ih j c v H N (zo (by simpa[AV.fr]using hf) H) hρ)
 |yv l=>exact .yv l
 |agg cs vs hl G ih=>exact .agg cs vs hl (λj c v H N=>ih j c v H N (zo (by simpa[AV.fr]using hf) H) hρ)
 |tup cs vs hl G ih=>exact .tup cs vs hl (λj c v H N=>ih j c v H N (zo (by simpa[AV.fr]using hf) H) hρ)
 |ifb b x v h ih=>exact .ifb b x v (λhb=>ih hb (by simpa[AV.fr]using hf) hρ)
 |opt b x v h h0 ih=>exact .opt b x v (λhb=>ih hb (by simpa[AV.fr]using hf) hρ) h0
 |mp k' b h=>
  have:k'≠k:=beqF.1 (by simpa[AV.fr]using hf);exact .mp k' b ((hρ k' this).trans h)
 |iny k n=>exact .iny k n
 |any v=>exact .any v
inductive Blk:Type 1
 |box(cs:List AV)(E:TypeId)
 |row{α:Type}(enc:α->List AV)(l:List α)(E:TypeId)(s:Nat)
 |hold(vs:List Value)(cs:List AV)
 |obj(b:Nat)(o:Obj)
 |yld(j:Nat)(on:Bool)
 |mpb{κ α:Type}(kenc:κ->AV)(venc:α->AV)(l:List (κ×α))
 |dead
def Blk.fr(k:Nat):Blk->Bool
 |.box cs _=>AV.fr.frL k cs
 |.hold _ cs=>AV.fr.frL k cs
 |_=>true
def lk{α:Type 1}:List (Nat×α)->Nat->Option α
 |[],_=>none
 |(k',a)::r,k=>bif k'.beq k then some a else lk r k
structure St:Type 1 where
 t:List (Nat×AV)
 h:List (Nat×Blk)
def frT(k:Nat):List (Nat×AV)->Bool
 |[]=>true
 |(_,x)::r=>x.fr k&&frT k r
def frH(k:Nat):List (Nat×Blk)->Bool
 |[]=>true
 |(k',x)::r=>!(k'.beq k)&&x.fr k&&frH k r
def St.fr(st:St)(k:Nat):Bool:=frT k st.t&&frH k st.h
def zjl{k:Nat}:∀{l:List (Nat×AV)},frT k l=true->∀{t:Nat}{x:AV},lk l t=some x->x.fr k=true
 |[],_,_,_,h=>by simp[lk]at h
 |(t',y)::r,h,t,x,e=>by
  simp[frT]at h;simp only[lk]at e;cases N:t'.beq t<;>simp[N]at e
  ·exact zjl h.2 e
  ·exact e▸h.1
theorem zb9{k:Nat}:∀{l:List (Nat×Blk)},frH k l=true->∀{t:Nat}{x:Blk},lk l t=some x->x.fr k=true/\t≠k
 |[],_,_,_,h=>by simp[lk]at h
 |(t',y)::r,h,t,x,e=>by
  simp[frH]at h;simp only[lk]at e;cases N:t'.beq t<;>simp[N]at e
  ·exact zb9 h.2 e
  grind
abbrev Owns:=Nat->Option (Nat×Nat)
structure Gh where
 ρ:Nat->Value
 I:Im
 O:Owns
def GC.v:GC->Value
 |.n x=>.int .i64 x
 |.b x=>.bool x
def GC.a:GC->AV
 |.n x=>.int .i64 x
 |.b x=>.bool x
def gIm:Im:=λb o=>(zmW b).bind λl=>l[o]?.map GC.v
def ObO(I:Im)(O:Owns)(w:World):Prop:=(∀b k,O b=some k->b<w.heap.size)/\Im.le gIm I
def ImO(I:Im)(O:Owns)(w:World):Prop:=(∀b o u,I b o=some u->w.cell? ⟨b,o,none⟩=some u/\O b=none)/\ObO I O w
def ObO.up{I J:Im}{O:Owns}{w w':World}(h:ObO I O w)(hI:Im.le I J)(hs:w.heap.size<=w'.heap.size):ObO J O w':=⟨λb k N=>w7 (h.1 b k N) hs,Im.le_trans h.2 hI⟩
abbrev gcE:List GC->List AV:=λl=>l.map GC.a
def gEv(n:Nat):Option AV:=(zmW n).map λl=>.ept gcE l 0
def zz9{I:Im}{ρ:Nat->Value}{n:Nat}{y:AV}(h:Im.le gIm I)(he:gEv n=some y):RV I ρ y (.pointer (some ⟨n,0,none⟩)):=by
 unfold gEv at he;cases N:zmW n with
 |none=>simp[N]at he
 |some l=>
  simp[N]at he;subst he;refine .ept gcE l 0 n 0 (λj=>(l.getD j (.n 0)).v) (λj hj=>h _ _ _ ?_) (λj cell H=>?_)
  ·simp_all[gIm]
  ·simp at H;obtain⟨a,G,rfl⟩:=H;rw[jB,G];cases a with
   |n x=>exact .int _ _
   |b x=>exact .bool _
def ImOB(g:Gh)(w:World):Prop:=ImO g.I g.O w
structure Ctx where
 rd:Option Nat
 n:Nat
 d:Nat
 ds:List Nat
 yB:Nat
 Y:Nat->Bool->Im->Owns->World->Prop
 g0:Gh
 w0:World
 df:List (_root_.Go.Fn×Array Value×Array Value)
def dfD(p:_root_.Go.Fn×Array Value×Array Value):Deferred:={target:=.fn p.1 p.2.1,args:=p.2.2}
def Ctx.okb(C:Ctx)(b:Nat):Prop:=C.w0.heap.size<=b\/∃n,C.g0.O b=some (C.d,n)
def Ctx.oth(C:Ctx)(b:Nat):Prop:=∃y n,y∈C.ds/\C.g0.O b=some (y,n)
def YCl(Y:Nat->Bool->Im->Owns->World->Prop)(ds:List Nat)(B:Nat):Prop:=∀(j:Nat)(on:Bool)(I:Im)(O:Owns)(w:World)(I':Im)(O':Owns)(w':World),Y j on I O w->Im.le I I'→
 (∀b,b<w.heap.size->(b<B\/∃y n,y∈ds/\O b=some (y,n))->w'.heap[b]? =w.heap[b]? /\O' b=O b)->w'.os=w.os->w'.tape=w.tape->w'.output=w.output->w.drawn<=w'.drawn->w.heap.size<=w'.heap.size->ImO I' O' w'->Y j on I' O' w'
def yM(C:Ctx)(g:Gh)(w:World)(k:Nat):Blk->Prop
 |.box cs E=>∃b vs,g.ρ k=.pointer (some ⟨b,0,none⟩)/\g.O b=some (C.d,k)/\C.okb b/\w.heap[b]? =some (.cells vs E (0,0))/\vs.size=cs.length∧
  ∀(j:Nat)c v,cs[j]? =some c->vs[j]? =some v->RV g.I g.ρ c v
 |.row enc l E s=>∃xs,w.ownsRow 0 E s (g.ρ k) l.length xs/\(∀(i:Nat)x,l[i]? =some x->(enc x).length=s)∧
  (∀(i:Nat)x(j:Nat)c v,l[i]? =some x->(enc x)[j]? =some c->xs[i*s+j]? =some v->RV g.I noNames c v)∧
  ∀b,yT (g.ρ k)=some b->g.O b=some (C.d,k)/\C.okb b
 |.hold vs cs=>vs.length=cs.length/\∀(j:Nat)c v,cs[j]? =some c->vs[j]? =some v->RV g.I g.ρ c v
 |.obj b o=>w.heap[b]? =some o/\g.O b=some (C.d,k)/\C.okb b
 |.mpb kenc venc l=>∃b es ck,g.ρ k=.map (some b)/\g.O b=some (C.d,k)/\C.okb b/\w.heap[b]? =some (.map es ck)/\(es.size=l.length/\ck=l.length/\∀(i:Nat)e,es[i]? =some e->e.born=i)∧
  ∀(i:Nat)e p,es[i]? =some e->l[i]? =some p->RV g.I noNames (kenc p.1) e.key/\RV g.I noNames (venc p.2) e.val
 |.yld j on=>C.d∉C.ds/\YCl C.Y C.ds C.yB/\C.yB<=C.w0.heap.size/\(∀b n,g.O b=some (C.d,n)->C.yB<=b)/\C.Y j on g.I g.O w
 |.dead=>True
structure Sat(C:Ctx)(h:List (Nat×Blk))(g:Gh)(w:World):Prop where
 im:∀b o v,g.I b o=some v->w.cell? ⟨b,o,none⟩=some v/\g.O b=none
 ob:ObO g.I g.O w
 blk:∀k B,lk h k=some B->yM C g w k B
def zgB{C:Ctx}{g g':Gh}{w w':World}{k j:Nat}{on:Bool}(h:yM C g w k (.yld j on))(hI:Im.le g.I g'.I)(hO:∀b,b<w.heap.size->bo≠some b->g'.O b=g.O b)
 (hb:∀b,bo=some b->(∃n,g.O b=some (C.d,n))\/(g.O b=none/\C.w0.heap.size<=b))(hm:w.grownBy w' bo)(G:w.drawn<=w'.drawn)(hn:∀b n,g'.O b=some (C.d,n)->C.yB<=b)(xT:ImOB g' w'):yM C g' w' k (.yld j on):=by
 obtain⟨h1,h2,h3,h4,h5⟩:=h;refine⟨h1,h2,h3,hn,h2 j on _ _ _ _ _ _ h5 hI (λb N hy=>?_) hm.os hm.tape hm.output G hm.size xT⟩
 have H:bo≠some b:=λe=>by
  grind
 exact⟨hm.block b N (λe=>H e.symm),hO b N H⟩
structure Ext(C:Ctx)(g:Gh)(w:World):Prop where
 I:Im.le C.g0.I g.I
 os:w.os=C.w0.os
 tape:w.tape=C.w0.tape
 output:w.output=C.w0.output
 drawn:C.w0.drawn<=w.drawn
 size:C.w0.heap.size<=w.heap.size
 keep:∀b,b<C.w0.heap.size->¬C.okb b->¬C.oth b->w.heap[b]? =C.w0.heap[b]? /\g.O b=C.g0.O b
 own:∀b y n,b<C.w0.heap.size->g.O b=some (y,n)->∃n',C.g0.O b=some (y,n')
def mkD(r:Nat):Deferred:={target:=.collected r,args:= #[]}
def Sh(C:Ctx)(ds:List Deferred)(D:List Nat):Prop:=∃D1 D2:List Nat,D=D1++D2/\ds=D1.map mkD++(C.df.map dfD++D2.map mkD)
def zpA{x y:Nat}(h:mkD x=mkD y):x=y:=by simpa[mkD]using h
def Sh.mem{C:Ctx}{ds:List Deferred}(h:Sh C ds D):mkD r∈ds↔r∈D:=by
 obtain⟨D1,D2,rfl,rfl⟩:=h;simp[mkD,dfD]
def Sh.push{C:Ctx}{ds:List Deferred}(h:Sh C ds D)(r:Nat):Sh C (mkD r::ds) (r::D):=by
 grind[Sh]
def Sh.plain{C:Ctx}{ds:List Deferred}(h:Sh C ds D)(N:C.df=[]:=by rfl):ds=D.map mkD++C.df.map dfD:=by
 obtain⟨D1,D2,rfl,rfl⟩:=h;rw[N];simp
def Dfs(C:Ctx)(g:Gh)(ds:List Deferred)(w:World):Prop:=∃D:List Nat,Sh C ds D/\D.Nodup/\∀r,r∈D->w.heap[r]? =some (.deferred (some []))/\g.O r=none/\C.w0.heap.size<=r
def Dfs.nil(C:Ctx)(g:Gh)(w:World)(h:C.df=[]:=by rfl):Dfs C g [] w:=⟨[],⟨[],[],rfl,by rw[h];rfl⟩,List.nodup_nil,λr h=>by simp at h⟩
structure Rel(C:Ctx)(st:St)(g:Gh)(a:Act)(w:World):Prop where
 size:a.tmps.size=C.n
 defers:Dfs C g a.defers w
 tmps:∀t x,lk st.t t=some x->RV g.I g.ρ x (a.tmps.getD t undef)
 sat:Sat C st.h g w
 ext:Ext C g w
structure Grow(w w':World):Prop where
 os:w'.os=w.os
 tape:w'.tape=w.tape
 output:w'.output=w.output
 drawn:w.drawn<=w'.drawn
 size:w.heap.size<=w'.heap.size
 keep:∀b,b<w.heap.size->w'.heap[b]? =w.heap[b]?
def Grow.refl(w:World):Grow w w:=⟨rfl,rfl,rfl,jG _,jG _,λ_ _=>rfl⟩
def Grow.trans{a b c:World}(h:Grow a b)(k:Grow b c):Grow a c:=
 ⟨k.os.trans h.os,k.tape.trans h.tape,k.output.trans h.output,jV h.drawn k.drawn,jV h.size k.size,λi hi=>(k.keep i (w7 hi h.size)).trans (h.keep i hi)⟩
def Grow.drew(w:World):Grow w w.drew:=⟨rfl,rfl,rfl,Nat.le_succ _,jG _,λ_ _=>rfl⟩
theorem Grow.alloc(w:World)(o:Obj):Grow w (w.alloc o):=⟨rfl,rfl,rfl,jG _,ah,λk hk=>Below.heap_alloc _ _ _ hk⟩
def zb{w:World}{b:Nat}{o:Obj}(h:w.heap[b]? =some o):b<w.heap.size:=by
 grind
def zch{w:World}{b o:Nat}{v:Value}(h:w.cell? ⟨b,o,none⟩=some v):b<w.heap.size:=by
 grind[World.cell?]
def Grow.cell{w w':World}(h:Grow w w'){b o:Nat}{v:Value}(N:w.cell? ⟨b,o,none⟩=some v):w'.cell? ⟨b,o,none⟩=some v:=by
 rw[World.cell?_of_block (w:=w) (a:=⟨b,o,none⟩) (h.keep b (zch N))];exact N
structure Add(nk:Option Nat)(g:Gh)(w:World)(g':Gh)(w':World):Prop where
 I:Im.le g.I g'.I
 ρ:∀n,nk≠some n->g'.ρ n=g.ρ n
 O:∀b,b<w.heap.size->g'.O b=g.O b
 grow:Grow w w'
theorem Dfs.add{C:Ctx}{g g':Gh}{w w':World}{nk:Option Nat}{ds:List Deferred}(h:Dfs C g ds w)(H:Add nk g w g' w'):Dfs C g' ds w':=by
 obtain⟨D,h1,hn,G⟩:=h;refine⟨D,h1,hn,λr hr=>?_⟩;obtain⟨h3,h4,h5⟩:=G r hr
 have N:r<w.heap.size:=by
  grind
 exact⟨(H.grow.keep r N).trans h3,(H.O r N).trans h4,h5⟩
def Add.refl(nk:Option Nat)(g:Gh)(w:World):Add nk g w g w:=⟨Im.le_refl _,λ_ _=>rfl,λ_ _=>rfl,Grow.refl w⟩
def zl5{w w':World}{E s:Nat}{v:Value}{n:Nat}(h:w.ownsRow 0 E s v n xs)(G:Grow w w'):w'.ownsRow 0 E s v n xs:=by
 obtain⟨h1,N⟩:=h;refine⟨h1,?_⟩;rcases N with N|⟨g,cap,cur,hv,hb,hh,r⟩
 ·exact Or.inl N
 ·refine Or.inr ⟨g,cap,cur,hv,hb,?_,r⟩
  have H:g<w.heap.size:=by
   grind
  rw[G.keep g H];exact hh
theorem zbR{w:World}{E s:Nat}{v:Value}{n:Nat}(h:w.ownsRow 0 E s v n xs){b:Nat}(N:yT v=some b):b<w.heap.size:=by
 refine(h.lt b ?_).2;cases v<;>simp[yT]at N
 case slice a n c=>all_goals grind[Value.ownBlock]
 case pointer a=>rcases h.2 with⟨h,_⟩|⟨_,_,_,h,_⟩<;>cases h
def RV.renameOpt{I:Im}{ρ ρ':Nat->Value}{x:AV}{v:Value}{nk:Option Nat}(h:RV I ρ x v)(hf:∀k,nk=some k->x.fr k=true)(hρ:∀n,nk≠some n->ρ' n=ρ n):RV I ρ' x v:=by
 cases nk with
 |none=>
  have:ρ'=ρ:=funext λn=>hρ n ah
  rw[this];exact h
 |some k=>exact h.rename (k:=k) (hf k rfl) (λn hn=>hρ n (by grind))
theorem yM.add{C:Ctx}{g g':Gh}{w w':World}{nk:Option Nat}{k:Nat}{B:Blk}(h:yM C g w k B)(N:Add nk g w g' w')(hk:nk≠some k)(hf:∀n,nk=some n->B.fr n=true)(hw:C.w0.heap.size<=w.heap.size)(xT:ImOB g' w'):yM C g' w' k B:=by
 cases B with
 |box cs E=>
  obtain⟨b,vs,h1,G,h3,h4,h5,h6⟩:=h
  have H:b<w.heap.size:=by
   grind
  refine⟨b,vs,(N.ρ k hk).trans h1,(N.O b H).trans G,h3,(N.grow.keep b H).trans h4,h5,λj c v hc hv=>?_⟩;exact((h6 j c v hc hv).renameOpt (nk:=nk) (λn hn=>zo (by simpa[Blk.fr]using hf n hn) hc) N.ρ).mono N.I
 |row enc l E s=>
  obtain⟨xs,h1,G,h3,h4⟩:=h;refine⟨xs,?_,G,λi x j c v hx hc hv=>(h3 i x j c v hx hc hv).mono N.I,λb H=>?_⟩
  ·rw[N.ρ k hk];exact zl5 h1 N.grow
  ·rw[N.ρ k hk]at H;exact⟨(N.O b (zbR h1 H)).trans (h4 b H).1,(h4 b H).2⟩
 |hold vs cs=>exact⟨h.1,λj c v hc hv=>((h.2 j c v hc hv).renameOpt (nk:=nk) (λn hn=>zo (by simpa[Blk.fr]using hf n hn) hc) N.ρ).mono N.I⟩
 |obj b o=>
  obtain⟨h1,G,h3⟩:=h;have H:b<w.heap.size:=zb h1;exact⟨(N.grow.keep b H).trans h1,(N.O b H).trans G,h3⟩
 |yld j on=>
  obtain⟨h1,G,h3,h4,h5⟩:=h;refine⟨h1,G,h3,λb n hn=>?_,G j on _ _ _ _ _ _ h5 N.I (λb H _=>⟨N.grow.keep b H,N.O b H⟩) N.grow.os N.grow.tape N.grow.output N.grow.drawn N.grow.size xT⟩;rcases wH b w.heap.size with hl|hl
  ·exact h4 b n ((N.O b hl).symm.trans hn)
  ·omega
 |mpb kenc venc l=>
  obtain⟨b,es,ck,h1,G,h3,h4,h5,h6⟩:=h;have H:=zb h4;exact⟨b,es,ck,(N.ρ k hk).trans h1,(N.O b H).trans G,h3,(N.grow.keep b H).trans h4,h5,λi e p he hp=>⟨(h6 i e p he hp).1.mono N.I,(h6 i e p he hp).2.mono N.I⟩⟩
 |dead=>trivial
theorem Ext.add{C:Ctx}{g g':Gh}{w w':World}{nk:Option Nat}(h:Ext C g w)(N:Add nk g w g' w'):Ext C g' w':=
 ⟨Im.le_trans h.I N.I,N.grow.os.trans h.os,N.grow.tape.trans h.tape,N.grow.output.trans h.output,jV h.drawn N.grow.drawn,jV h.size N.grow.size,
  λb H hn ho=>⟨(N.grow.keep b (w7 H h.size)).trans (h.keep b H hn ho).1,(N.O b (w7 H h.size)).trans (h.keep b H hn ho).2⟩,
  λb y n H G=>h.own b y n H ((N.O b (w7 H h.size)).symm.trans G)⟩
def putT(st:St)(d:Option Nat)(x:AV):St:=
 match d with
 |some d=>{st with t:=(d,x)::st.t}
 |none=>st
def putH(st:St)(k:Nat)(B:Blk):St:={st with h:=(k,B)::st.h}
theorem ym{α:Type 1}(k':Nat)(a:α)(r:List (Nat×α))(k:Nat):lk ((k',a)::r) k=bif k'.beq k then some a else lk r k:=rfl
theorem zaS{a:Act}{d t:Nat}{v:Value}(h:d<a.tmps.size):(a.put (some d) v).tmps.getD t undef=if d=t then v else a.tmps.getD t undef:=by
 simp only[Act.put,jI,uK]
 grind
theorem Rel.add{C:Ctx}{st:St}{g g':Gh}{a:Act}{w w':World}{nk:Option Nat}{d:Option Nat}{x:AV}{v:Value}(h:Rel C st g a w)(G:Add nk g w g' w')
 (xT:∀k,nk=some k->st.fr k=true)(hd:∀t,d=some t->t<C.n)(hx:RV g'.I g'.ρ x v)
 (x2:∀b o u,g'.I b o=some u->w'.cell? ⟨b,o,none⟩=some u/\g'.O b=none)(x1:ObO g'.I g'.O w'):
 Rel C (putT st d x) g' (a.put d v) w':=by
 have x0:∀t y,lk st.t t=some y->RV g'.I g'.ρ y (a.tmps.getD t undef):=λt y N=>
  ((h.tmps t y N).renameOpt (nk:=nk) (λn hn=>zjl (by have:=xT n hn;simp[St.fr]at this;exact this.1) N) G.ρ).mono G.I
 have H:Sat C st.h g' w':=⟨x2,x1,λk B hB=>by
  refine(h.sat.blk k B hB).add G ?_ ?_ h.ext.size ⟨x2,x1⟩
  ·intro hk;have:=xT k hk;simp[St.fr]at this;exact(zb9 this.2 hB).2 rfl
  ·intro n hn;have:=xT n hn;simp[St.fr]at this;exact(zb9 this.2 hB).1⟩
 cases d with
 |none=>exact⟨h.size,h.defers.add G,x0,H,h.ext.add G⟩
 |some d=>
  refine⟨by simp[Act.put,h.size],h.defers.add G,λt y N=>?_,H,h.ext.add G⟩;rw[zaS (by rw[h.size];exact hd d rfl)];simp only[putT,ym]at N;by_cases e:d=t
  ·subst e;simp at N;rw[j7 rfl,←N];exact hx
  ·have:d.beq t=false:=beqF.2 e;simp[this]at N;rw[j8 e];exact x0 t y N
def Rel.withBlk{C:Ctx}{st:St}{g:Gh}{a:Act}{w:World}(h:Rel C st g a w){k:Nat}{B:Blk}(G:yM C g w k B):Rel C (putH st k B) g a w:=
 ⟨h.size,h.defers,h.tmps,⟨h.sat.im,h.sat.ob,λk' B' N=>by
  simp only[putH,ym]at N;cases H:k.beq k'<;>simp[H]at N
  ·exact h.sat.blk k' B' N
  simp_all⟩,h.ext⟩
end Go.Rse
namespace Go.Rse
open Go Go.RowKit
variable{K:Act->World->Prop}{P:Program}{Q:Exit->Act->World->Prop}{R:Ending->World->Prop}{a:Act}{args:Array Value}{d:Option Nat}{f:FuncId}{l:Nat}{o:Oper}{op:Op}{ops:Array Oper}{tmps:Array Value}{ty:TypeId}{v:Value}{w:World}{x:Operand}{ρ:Nat->Value}
def cv:Value->Option AV
 |.int k n=>some (.int k n)
 |.bool b=>some (.bool b)
 |.string s=>some (.str s)
 |.slice none 0 0=>some .nils
 |.nilFunc=>some .nilf
 |v=>some (.val v)
theorem zxJ{I:Im}{x:AV}(h:cv v=some x):RV I ρ x v:=by
 unfold cv at h;split at h<;>(injection h with h;subst h;first|exact .int _ _|exact .bool _|exact .str _|exact .nils|exact .nilf|exact .val _)
def cvL:List Value->Option (List AV)
 |[]=>some []
 |v::r=>match cv v,cvL r with
  |some x,some xs=>some (x::xs)
  |_,_=>none
def zfH{I:Im}{ρ:Nat->Value}:∀{vs:List Value}{xs:List AV},cvL vs=some xs→
 vs.length=xs.length/\∀(j:Nat)(c:AV)(v:Value),xs[j]? =some c->vs[j]? =some v->RV I ρ c v
 |[],xs,h=>by simp_all[cvL]
 |v::r,xs,h=>by
  simp only[cvL]at h;split at h<;>try(simp at h;done)
  rename_i x ys h1 N;injection h with h;subst h;obtain⟨hl,hr⟩:=zfH (I:=I) (ρ:=ρ) N
  grind[zxJ]
def cva:Value->Option AV
 |.agg vs=>(cvL vs.toList).map .agg
 |v=>cv v
def zAa{I:Im}{x:AV}(h:cva v=some x):RV I ρ x v:=by
 unfold cva at h;split at h
 ·rename_i vs;cases N:cvL vs.toList with
  |none=>simp[N]at h
  |some xs=>
   simp[N]at h;subst h;obtain⟨hl,hr⟩:=zfH (I:=I) (ρ:=ρ) N;have:=RV.agg (I:=I) (ρ:=ρ) xs vs.toList hl hr;simpa using this
 ·exact zxJ h
def ev(st:St):Operand->Option AV
 |.tmp t=>lk st.t t
 |.const v=>cva v
 |.func f=>some (.fn f [])
 |.global n=>gEv n
theorem yq{C:Ctx}{st:St}{g:Gh}(h:Rel C st g a w){y:AV}(he:ev st x=some y):RV g.I g.ρ y (a.eval x):=by
 cases x with
 |tmp t=>exact h.tmps t y he
 |const v=>exact zAa he
 |func f=>
  simp[ev]at he;subst he;exact .fn f [] [] rfl (λj c v N=>by simp at N)
 |global n=>exact zz9 h.sat.ob.2 he
section inv
variable{I:Im}{ρ:Nat->Value}{v:Value}
variable{b:Bool}{f:FuncId}{j k:Nat}{n:Int}{u:Value}{α:Type}{x:α}
def yK{k:IntKind}(h:RV I ρ (.int k n) v):v=.int k n:=by cases h;rfl
def z8(h:RV I ρ (.bool b) v):v=.bool b:=by cases h;rfl
def zil{s:ByteArray}(h:RV I ρ (.str s) v):v=.string s:=by cases h;rfl
def zbG(h:RV I ρ .nils v):v=.slice none 0 0:=by cases h;rfl
def zac(h:RV I ρ (.val u) v):v=u:=by cases h;rfl
def zu0{s i:Nat}(h:RV I ρ (.mth f k s i j) v):∃b,yT (ρ k)=some b/\v=.func (.func f) #[.pointer (some ⟨b,i*s+j,none⟩)] #[]:=by cases h;simp_all
def zsL(h:RV I ρ .nilf v):v=.nilFunc:=by cases h;rfl
theorem zn(h:RV I ρ (.own k) v):ρ k=v:=by cases h;assumption
theorem zaM{cs:List AV}(h:RV I ρ (.agg cs) v):∃vs:List Value,v=.agg vs.toArray/\vs.length=cs.length/\∀(j:Nat)(c:AV)(u:Value),cs[j]? =some c->vs[j]? =some u->RV I ρ c u:=by
 cases h;grind
def zu1{cs:List AV}(h:RV I ρ (.tup cs) v):∃vs:List Value,v=.tuple vs.toArray/\vs.length=cs.length/\∀(j:Nat)(c:AV)(u:Value),cs[j]? =some c->vs[j]? =some u->RV I ρ c u:=by
 cases h;grind
def zcE{cs:List AV}(h:RV I ρ (.fn f cs) v):∃vs:List Value,v=.func (.func f) #[] vs.toArray/\vs.length=cs.length/\∀(j:Nat)(c:AV)(u:Value),cs[j]? =some c->vs[j]? =some u->RV I ρ c u:=by
 cases h;grind
theorem zad{s i:Nat}(h:RV I ρ (.ptr k s i j) v):∃b,yT (ρ k)=some b/\v=.pointer (some ⟨b,i*s+j,none⟩):=by
 cases h;simp_all
def zim{enc:α->List AV}(h:RV I ρ (.ept enc x j) v):∃(b o:Nat)(vs:Nat->Value),v=.pointer (some ⟨b,o+j,none⟩)∧
 (∀j,j<(enc x).length->I b (o+j)=some (vs j))/\∀(j:Nat)(cell:AV),(enc x)[j]? =some cell->RV I noNames cell (vs j):=by
 cases h;exact⟨_,_,_,rfl,ai,ai⟩
def zl6{x:AV}(h:RV I ρ (.ifb b x) v)(N:b=true):RV I ρ x v:=by
 cases h;grind
end inv
def zbH(P:Program)(dst:Option Tmp)(a:Act)(K:Act->World->Prop):Result Next->Prop
 |.ok (.value v) w'=>K (a.put dst v) w'
 |.ok .skip w'=>K (a.put dst undef) w'
 |.ok (.enter f args) w'=>Calls P f args w' λe w''=>∃v,e=.returned v/\K (a.put dst v) w''
 |.ok (.round l f tmps assign body) w'=>RoundIn Fence.wide 0 P l f tmps assign body w' λe w''=>∃v,e=.returned v/\K (a.put dst v) w''
 |_=>False
def wp1(P:Program)(o:Oper)(a:Act)(w:World)(K:Act->World->Prop):Prop:=zbH P o.dst a K ((execOp a.eval o).run P w)
def Ctx.F(C:Ctx):Fence:=match C.rd with
 |none=>Fence.wide
 |some l=>Fence.wide.inRound l
def Ctx.F_fn(C:Ctx)(f:FuncId):C.F.fn f:=by
 unfold Ctx.F;split<;>trivial
def Ctx.F_depth(C:Ctx):C.F.depth=none:=by
 unfold Ctx.F;split<;>rfl
def Ctx.calls(C:Ctx)(h:Calls P f args w R):CallsIn C.F 0 P f args w R:=by
 grind[Ctx.F,callsIn_wide,CallsIn.inRound]
def Ctx.rounds(C:Ctx){assign body:Code}(h:RoundIn Fence.wide 0 P l f tmps assign body w R):RoundIn C.F 0 P l f tmps assign body w R:=by
 unfold Ctx.F;split<;>exact h
def zaf{C:Ctx}(h:wp1 P o a w K):o.wpIn C.F 0 P a w K Q:=by
 refine⟨λf _=>C.F_fn f,?_⟩
 have N:∀c,o.op≠.defer c:=λc H=>by
  unfold wp1 at h;have e:execOp a.eval o=(do pure (.defer (←resolve a.eval c o.type))):=by unfold execOp;rw[H]
  rw[e]at h;simp only[jM]at h;cases hr:(resolve a.eval c o.type).run P w<;>simp_all[zbH]
 rw[Oper.semAt_eq _ _ _ N];unfold wp1 at h;generalize(execOp a.eval o).run P w=r at h;unfold zbH at h;split at h
 ·exact h
 ·exact h
 ·refine⟨λhx=>by rw[C.F_depth]at hx;simp at hx,?_⟩;refine CallsIn.mono (C.calls h) ?_;simp_all
 ·refine⟨λhx=>by rw[C.F_depth]at hx;simp at hx,?_⟩;refine RoundIn.mono (C.rounds h) ?_;simp_all
 ·exact h.elim
def Pur(P:Program)(C:Ctx)(op:Op)(ty:TypeId)(st:St)(x:AV):Prop:=
 ∀(g:Gh)(a:Act)(w:World)dst pos af gd,Rel C st g a w->∃v,(execOp a.eval {dst:=dst,op:=op,type:=ty,pos:=pos,after:=af,guard:=gd}).run P w=.ok (.value v) w/\RV g.I g.ρ x v
def yy(P:Program)(C:Ctx)(op:Op)(ty:TypeId)(st:St)(x:AV)(nb:Option (Nat×Blk)):Prop:=
 ∀(g:Gh)(a:Act)(w:World)(dst:Option Tmp)pos af gd,Rel C st g a w->∀(K:Act->World->Prop),
  (∀v w' g',Add (nb.map (·.1)) g w g' w'->RV g'.I g'.ρ x v->ImOB g' w'->(∀k B,nb=some (k,B)->yM C g' w' k B)->K (a.put dst v) w')→
  wp1 P {dst:=dst,op:=op,type:=ty,pos:=pos,after:=af,guard:=gd} a w K
def zM{P:Program}{C:Ctx}{op:Op}{ty:TypeId}{st:St}{x:AV}{nb:Option (Nat×Blk)}
 (h:∀(g:Gh)(a:Act)(w:World)(dst:Option Tmp)pos af gd,Rel C st g a w->∃v w' g',(execOp a.eval {dst:=dst,op:=op,type:=ty,pos:=pos,after:=af,guard:=gd}).run P w=.ok (.value v) w'∧
  Add (nb.map (·.1)) g w g' w'/\RV g'.I g'.ρ x v/\ImOB g' w'/\∀k B,nb=some (k,B)->yM C g' w' k B):yy P C op ty st x nb:=
 λg a w dst pos af gd hr K N=>by
  obtain⟨v,w',g',h1,H,G,h4,h5⟩:=h g a w dst pos af gd hr;unfold wp1
  grind[zbH]
def Pur.stepA{C:Ctx}{st:St}{x:AV}(h:Pur P C op ty st x):yy P C op ty st x none:=
 zM λg a w dst pos af gd hr=>let⟨v,h1,N⟩:=h g a w dst pos af gd hr;⟨v,w,g,h1,Add.refl _ g w,N,⟨hr.sat.im,hr.sat.ob⟩,λ_ _ h=>by cases h⟩
def lift(C:Ctx)(Q:Exit->St->Prop):Exit->Act->World->Prop:=λe a w=>∃st g,Rel C st g a w/\Q e st
def Ex(P:Program)(C:Ctx)(ops:Array Oper)(l:List Oper)(st:St)(Q:Exit->St->Prop):Prop:=∀g a w,Rel C st g a w->wpListIn C.F 0 P ops (lift C Q) l a w
def X(P:Program)(C:Ctx)(c:Code)(st:St)(Q:Exit->St->Prop):Prop:=∀g a w,Rel C st g a w->c.wpIn C.F 0 P (lift C Q) a w
def addSt(st:St)(d:Option Nat)(x:AV)(nb:Option (Nat×Blk)):St:=
 {t:=match d with|some d=>(d,x)::st.t|none=>st.t,h:=match nb with|some b=>b::st.h|none=>st.h}
def dOk(n:Nat):Option Nat->Bool
 |some d=>d.blt n
 |none=>true
def nbOk(st:St):Option (Nat×Blk)->Bool
 |some b=>st.fr b.1
 |none=>true
def Rel.addSt{C:Ctx}{st:St}{g g':Gh}{w':World}{nb:Option (Nat×Blk)}{x:AV}(h:Rel C st g a w)(G:Add (nb.map (·.1)) g w g' w')
 (hd:dOk C.n d=true)(hn:nbOk st nb=true)(hx:RV g'.I g'.ρ x v)
 (N:∀b o u,g'.I b o=some u->w'.cell? ⟨b,o,none⟩=some u/\g'.O b=none)(H:ObO g'.I g'.O w')
 (hB:∀k B,nb=some (k,B)->yM C g' w' k B):Rel C (addSt st d x nb) g' (a.put d v) w':=by
 have h1:=h.add G (d:=d) (λk hk=>by
  cases nb with
  |none=>simp at hk
  |some b=>simp at hk;subst hk;exact hn) (λt ht=>by subst ht;simpa[dOk]using hd) hx N H
 cases nb with
 |none=>cases d<;>exact h1
 |some b=>cases d<;>exact h1.withBlk (hB b.1 b.2 rfl)
def Ex.nil{C:Ctx}{st:St}{Q:Exit->St->Prop}(h:Q .normal st):Ex P C ops [] st Q:=λg a w hr=>⟨st,g,hr,h⟩
def Ex.stepA{P:Program}{C:Ctx}{ops:Array Oper}{st:St}{Q:Exit->St->Prop}{rest:List Oper}{dst:Option Tmp}{op:Op}{ty:TypeId}{pos:String}{af:Array Edge}{x:AV}{nb:Option (Nat×Blk)}
 (hs:yy P C op ty st x nb)(H:dOk C.n dst=true)(hn:nbOk st nb=true)(h:Ex P C ops rest (Rse.addSt st dst x nb) Q):
 Ex P C ops ({dst:=dst,op:=op,type:=ty,pos:=pos,after:=af,guard:=none}::rest) st Q:=λg a w hr=>
 wpListIn_plain rfl λK G=>zaf<|hs g a w dst pos af none hr K λv w' g' h2 h3 N h5=>G _ _ (h g' _ w' (hr.addSt h2 H hn h3 N.1 N.2 h5))
def yO{P:Program}{C:Ctx}{ops:Array Oper}{st:St}{Q:Exit->St->Prop}{rest:List Oper}{d:Nat}{op:Op}{ty:TypeId}{pos:String}{af:Array Edge}{x:AV}
 (hs:Pur P C op ty st x)(N:d.blt C.n=true)(h:Ex P C ops rest {t:=(d,x)::st.t,h:=st.h} Q):
 Ex P C ops ({dst:=some d,op:=op,type:=ty,pos:=pos,after:=af,guard:=none}::rest) st Q:=
 Ex.stepA hs.stepA N rfl h
section pure
variable{P:Program}{C:Ctx}{st:St}{ty:TypeId}
variable{b:Bool}{caps:Array Operand}{f:FuncId}{i:Nat}{x:Operand}{xt:TypeId}
def zn5{y:AV}(h:ev st x=some y):Pur P C (.move x) ty st y:=λ_ _ _ _ _ _ _ hr=>⟨_,rfl,yq hr h⟩
def zbZ{y:AV}(h:ev st x=some y):Pur P C (.assign x) ty st y:=λ_ _ _ _ _ _ _ hr=>⟨_,rfl,yq hr h⟩
def zqo{vs:List AV}{y:AV}(h:ev st x=some (.tup vs))(hi:vs[i]? =some y):Pur P C (.extract x i) ty st y:=λg a w dst pos af gd hr=>by
 obtain⟨us,e,hl,H⟩:=zu1 (yq hr h)
 have N:i<us.length:=by
  grind
 have G:us[i]? =some us[i]:=jC N;refine⟨us[i],?_,H i y _ hi G⟩;simp[execOp,Instr.extract,e,N]
def zfI{xs:List AV}(h:caps.toList.mapM (ev st)=some xs):Pur P C (.makeFunc (.func f) #[] caps) ty st (.fn f xs):=λg a w dst pos af gd hr=>by
 refine⟨.func (.func f) #[] (caps.map a.eval),by simp[execOp,Instr.makeFunc],?_⟩
 have key:∀(cs:List Operand)(xs:List AV),cs.mapM (ev st)=some xs->(cs.map a.eval).length=xs.length/\∀(j:Nat)(c:AV)(v:Value),xs[j]? =some c->(cs.map a.eval)[j]? =some v->RV g.I g.ρ c v:=by
  intro cs
  induction cs with
  |nil=>simp_all
  |cons c r ih=>
   intro xs h;simp only[kC]at h;cases H:ev st c with
   |none=>simp[H]at h
   |some y=>
    cases G:r.mapM (ev st)<;>grind[yq]
 obtain⟨hl,N⟩:=key _ _ h;have:=RV.fn (I:=g.I) (ρ:=g.ρ) f xs (caps.toList.map a.eval) hl N;have e:(caps.toList.map a.eval).toArray=caps.map a.eval:=by grind
 rwa[e]at this
section ints
variable{x y:Operand}{xt yt:TypeId}{k:IntKind}{p q:Int}
variable{a:Act}{d:TypeId}{k':IntKind}{op:BinOp}{w:World}
def zat{g:Gh}(hr:Rel C st g a w)(hx:ev st x=some (.int k p))(N:ev st y=some (.int k q))(dst:Option Tmp)(pos:String)(af:Array Edge)(gd:Option (Nat×Bool))(r:Value)
 (h:(binOp op xt (.int k p) (.int k q)).run P w=.ok r w):(execOp a.eval {dst:=dst,op:=.binOp op xt x y yt,type:=ty,pos:=pos,after:=af,guard:=gd}).run P w=.ok (.value r) w:=by
 have ex:=yK (yq hr hx);have ey:=yK (yq hr N);simp_all[eqGuard,execOp]
def zxK(hx:ev st x=some (.int k p))(H:ev st y=some (.int k q))(N:k.wrap (p+q)=p+q):Pur P C (.binOp .add xt x y yt) ty st (.int k (p+q)):=λg a w dst pos af gd hr=>
 ⟨_,zat hr hx H dst pos af gd (.int k (p+q)) (by simp[binOp,Op.intArith,N]),.int _ _⟩
def zkx(hx:ev st x=some (.int k p))(H:ev st y=some (.int k q))(N:k.wrap (p-q)=p-q):Pur P C (.binOp .sub xt x y yt) ty st (.int k (p-q)):=λg a w dst pos af gd hr=>
 ⟨_,zat hr hx H dst pos af gd (.int k (p-q)) (by simp[binOp,Op.intArith,N]),.int _ _⟩
def zsM(hx:ev st x=some (.int k p))(H:ev st y=some (.int k q))(N:k.wrap (p*q)=p*q):Pur P C (.binOp .mul xt x y yt) ty st (.int k (p*q)):=λg a w dst pos af gd hr=>
 ⟨_,zat hr hx H dst pos af gd (.int k (p*q)) (by simp[binOp,Op.intArith,N]),.int _ _⟩
def zxL(hx:ev st x=some (.int k p))(H:ev st y=some (.int k q))(h0:q≠0)(N:k.wrap (p.tdiv q)=p.tdiv q):Pur P C (.binOp .quo xt x y yt) ty st (.int k (p.tdiv q)):=λg a w dst pos af gd hr=>
 ⟨_,zat hr hx H dst pos af gd (.int k (p.tdiv q)) (by simp[binOp,Op.intDiv,h0,N]),.int _ _⟩
def zsN(hx:ev st x=some (.int .i64 p))(N:ev st y=some (.int .i64 q))(h0:0<=p)(h1:p<=9223372036854775807)(H:0<q):Pur P C (.binOp .quo xt x y yt) ty st (.int .i64 (p/q)):=λg a w dst pos af gd hr=>
 ⟨_,zat hr hx N dst pos af gd (.int .i64 (p/q)) (by simp[binOp,Op.intDiv,show q≠0 by omega,IntWalk.i64_quo p q ⟨h0,h1,aa⟩]),.int _ _⟩
def zxM(hx:ev st x=some (.int k p))(N:ev st y=some (.int k q))(h0:q≠0):Pur P C (.binOp .rem xt x y yt) ty st (.int k (p.tmod q)):=λg a w dst pos af gd hr=>
 ⟨_,zat hr hx N dst pos af gd (.int k (p.tmod q)) (by simp[binOp,Op.intDiv,h0]),.int _ _⟩
def zsO(hx:ev st x=some (.int k p))(N:ev st y=some (.int k q))(h0:0<=p)(H:0<q):Pur P C (.binOp .rem xt x y yt) ty st (.int k (p%q)):=λg a w dst pos af gd hr=>
 ⟨_,zat hr hx N dst pos af gd (.int k (p%q)) (by simp_all[binOp,Op.intDiv,IntWalk.rem_in];omega),.int _ _⟩
def zsP(hx:ev st x=some (.int k p))(N:ev st y=some (.int k q)):Pur P C (.binOp .eql xt x y yt) ty st (.bool (decide (p=q))):=λg a w dst pos af gd hr=>
 ⟨_,zat hr hx N dst pos af gd (.bool (decide (p=q))) (by simp[binOp,Op.intCmp];rfl),.bool _⟩
def zxN(hx:ev st x=some (.int k p))(N:ev st y=some (.int k q)):Pur P C (.binOp .neq xt x y yt) ty st (.bool (!decide (p=q))):=λg a w dst pos af gd hr=>
 ⟨_,zat hr hx N dst pos af gd (.bool (!decide (p=q))) (by simp[binOp,Op.intCmp];rfl),.bool _⟩
def zDs(hx:ev st x=some (.int k p))(N:ev st y=some (.int k q)):Pur P C (.binOp .lss xt x y yt) ty st (.bool (decide (p<q))):=λg a w dst pos af gd hr=>
 ⟨_,zat hr hx N dst pos af gd (.bool (decide (p<q))) (by simp[binOp,Op.intCmp]),.bool _⟩
def zDt(hx:ev st x=some (.int k p))(N:ev st y=some (.int k q)):Pur P C (.binOp .leq xt x y yt) ty st (.bool (decide (p<=q))):=λg a w dst pos af gd hr=>
 ⟨_,zat hr hx N dst pos af gd (.bool (decide (p<=q))) (by simp[binOp,Op.intCmp]),.bool _⟩
def zDu(hx:ev st x=some (.int k p))(N:ev st y=some (.int k q)):Pur P C (.binOp .gtr xt x y yt) ty st (.bool (decide (q<p))):=λg a w dst pos af gd hr=>
 ⟨_,zat hr hx N dst pos af gd (.bool (decide (q<p))) (by simp[binOp,Op.intCmp]),.bool _⟩
def zDv(hx:ev st x=some (.int k p))(N:ev st y=some (.int k q)):Pur P C (.binOp .geq xt x y yt) ty st (.bool (decide (q<=p))):=λg a w dst pos af gd hr=>
 ⟨_,zat hr hx N dst pos af gd (.bool (decide (q<=p))) (by simp[binOp,Op.intCmp]),.bool _⟩
def zDw(hx:ev st x=some (.int k p))(N:k.wrap (-p)=-p):Pur P C (.unOp .neg xt x) ty st (.int k (-p)):=λg a w dst pos af gd hr=>by
 have ex:=yK (yq hr hx);exact⟨.int k (-p),by simp[execOp,ex,Op.unary,Op.intArith,N],.int _ _⟩
def zcn(hx:ev st x=some (.int k p))(H:P.underlying d=some (.int k'))(hs:(P.underlying xt).isSome=true)(N:k'.wrap p=p):Pur P C (.convert xt d x) ty st (.int k' p):=λg a w dst pos af gd hr=>by
 have ex:=yK (yq hr hx);obtain⟨u,G⟩:=u9.1 hs;refine⟨.int k' p,?_,.int _ _⟩;simp_all[execOp,convert,run_underlying,Conv.intToInt]
end ints
def zDx(hx:ev st x=some (.bool b)):Pur P C (.unOp .not xt x) ty st (.bool (!b)):=λg a w dst pos af gd hr=>by
 have ex:=z8 (yq hr hx);exact⟨.bool (!b),by simp[execOp,ex,Op.unary],.bool _⟩
end pure
end Go.Rse
namespace Go.Rse
open Go Go.RowKit
variable{P:Program}{agg:Bool}{n:Nat}{s t:TypeId}
def tyOk(P:Program)(t:TypeId)(agg:Bool)(n:Nat):Bool:=
 (P.info? t).any (·.size==n)&&(match P.underlying t with|some (.struct _)|some (.array _ _)=>agg|some _=>!agg|none=>false)
def zbp(h:tyOk P t agg n=true)(w:World):(isAgg t).run P w=.ok agg w:=by
 simp only[tyOk,jE]at h;obtain⟨_,H⟩:=h;cases N:P.underlying t with
 |none=>simp[N]at H
 |some d=>
  simp only[N]at H;cases d<;>simp_all[isAgg,run_underlying N]
def yJ(h:tyOk P t agg n=true)(w:World):(sizeOf t).run P w=.ok n w:=by
 simp only[tyOk,jE]at h;obtain⟨h1,_⟩:=h;cases hi:P.info? t<;>simp_all[sizeOf,typeInfo]
def yx(P:Program)(s:TypeId)(f off:Nat):Bool:=
 match P.underlying s with
 |some (.struct fs)=>match fs[f]? with
  |some fd=>fd.offset==off&&(P.info? fd.type).any (·.size !=0)
  |none=>false
 |_=>false
theorem zG(b o j:Nat):(⟨b,o,none⟩:Addr).add j=⟨b,o+j,none⟩:=by
 simp[Addr.add]
def zhz{f off:Nat}(h:yx P s f off=true)(b o:Nat)(w:World):
 (Instr.fieldAt s (.pointer (some ⟨b,o,none⟩)) f).run P w=.ok (.pointer (some ⟨b,o+off,none⟩)) w:=by
 unfold yx at h;split at h<;>try(simp at h;done)
 rename_i fs N;split at h<;>try(simp at h;done)
 rename_i fd hf;simp only[jE,beq_iff_eq]at h;obtain⟨h1,H⟩:=h;cases hi:P.info? fd.type<;>simp_all[Instr.fieldAt,run_underlying,Instr.sureAddr,fieldPlace,sizeOf,typeInfo,zG]
section
variable{P:Program}{C:Ctx}{st:St}{ty:TypeId}
variable{E:TypeId}{ag:Bool}{i j k:Nat}{kk:IntKind}{n s:Nat}{t:TypeId}{v:Value}{vs:List Value}{w:World}{x y:Operand}{z:Nat}{α:Type}{ρ ρ':Nat->Value}{l:List α}{u:α}
def zdX{s:TypeId}{f off:Nat}(hx:ev st x=some (.ptr k z i j))(hf:yx P s f off=true):
 Pur P C (.fieldAddr s x f) ty st (.ptr k z i (j+off)):=λg a w dst pos af gd hr=>by
 obtain⟨b,N,e⟩:=zad (yq hr hx);refine⟨.pointer (some ⟨b,i*z+(j+off),none⟩),?_,.ptr k z i (j+off) b N⟩;simp[execOp,e,zhz hf,uB]
def zh3{enc:α->List AV}{z:α}{s:TypeId}{f off:Nat}(hx:ev st x=some (.ept enc z j))(hf:yx P s f off=true):
 Pur P C (.fieldAddr s x f) ty st (.ept enc z (j+off)):=λg a w dst pos af gd hr=>by
 obtain⟨b,o,vs,e,h1,N⟩:=zim (yq hr hx);refine⟨.pointer (some ⟨b,o+(j+off),none⟩),?_,.ept enc z (j+off) b o vs h1 N⟩;simp[execOp,e,zhz hf,uB]
def zet{g:Gh}{cs:List AV}(h:yM C g w k (.box cs E)):
 ∃(b:Nat)(vs:Array Value),g.ρ k=.pointer (some ⟨b,0,none⟩)/\vs.size=cs.length/\(∀j,w.cell? ⟨b,j,none⟩=vs[j]?)/\∀(j:Nat)c v,cs[j]? =some c->vs[j]? =some v->RV g.I g.ρ c v:=by
 obtain⟨b,vs,h1,N,H,G,h5,h6⟩:=h
 grind[World.cell?]
theorem zaT{P:Program}(h:tyOk P t false 1=true){a:Addr}(N:w.cell? a=some v):(loadVar t a).run P w=.ok v w:=by
 simp[loadVar,zbp h,N]
theorem zU{P:Program}(h:tyOk P t true n=true){b o:Nat}(hn:vs.length=n)(N:∀j v,vs[j]? =some v->w.cell? ⟨b,o+j,none⟩=some v):
 (loadVar t ⟨b,o,none⟩).run P w=.ok (.agg vs.toArray) w:=by
 subst hn;have:=run_loadCells_list (P:=P) (w:=w) ⟨b,o,none⟩ vs (λj v H=>by grind[Addr.add]);simp[loadVar,zbp h,yJ h,this]
def zan{cs:List AV}{y:AV}(hx:ev st x=some (.ptr k z i j))(hk:lk st.h k=some (.box cs E))(G:cs[i*z+j]? =some y)
 (ht:tyOk P t false 1=true):Pur P C (.load t x) ty st y:=λg a w dst pos af gd hr=>by
 obtain⟨b,hb,e⟩:=zad (yq hr hx);obtain⟨b',vs,h1,h2,h3,h4⟩:=zet (hr.sat.blk k _ hk);have:b'=b:=by simp_all[yT]
 subst this;have N:i*z+j<vs.size:=by grind
 have H:vs[i*z+j]? =some vs[i*z+j]:=jZ N;refine⟨_,?_,h4 _ y _ G H⟩;simp only[execOp,e,jM,Instr.loadAt,Instr.sureAddr,jP,jH,zaT ht ((h3 _).trans H)]
def zjm{cs:List AV}(hx:ev st x=some (.ptr k z i 0))(hk:lk st.h k=some (.box cs E))(hi:i*z=0)(hn:cs.length=n)
 (ht:tyOk P t true n=true):Pur P C (.load t x) ty st (.agg cs):=λg a w dst pos af gd hr=>by
 obtain⟨b,N,e⟩:=zad (yq hr hx);obtain⟨b',vs,h1,H,h3,G⟩:=zet (hr.sat.blk k _ hk);have:b'=b:=by rw[h1]at N;simpa[yT]using N
 subst this;refine⟨.agg vs.toList.toArray,?_,.agg cs vs.toList (ao H) (λj c v hc hv=>G j c v hc (ao hv))⟩
 grind[zU,execOp,Sem.run_bind,Instr.loadAt,Instr.sureAddr,Sem.run_pure,Result.andThen_ok]
def zh4{cs ys:List AV}(hx:ev st x=some (.ptr k z i j))(hk:lk st.h k=some (.box cs E))(hy:(cs.drop (i*z+j)).take n=ys)(hn:ys.length=n)
 (ht:tyOk P t true n=true):Pur P C (.load t x) ty st (.agg ys):=λg a w dst pos af gd hr=>by
 obtain⟨b,G,e⟩:=zad (yq hr hx);obtain⟨b',vs,h1,h2,h3,h4⟩:=zet (hr.sat.blk k _ hk);have:b'=b:=by rw[h1]at G;simpa[yT]using G
 subst this;subst hy;have N:((vs.toList.drop (i*z+j)).take n).length=n:=by simp[h2]at hn⊢;omega
 refine⟨.agg ((vs.toList.drop (i*z+j)).take n).toArray,?_,.agg _ _ (by rw[N,hn]) (λq c v hc H=>?_)⟩
 ·have:=zU (P:=P) (t:=t) ht (b:=b') (o:=i*z+j) (w:=w) (vs:=(vs.toList.drop (i*z+j)).take n) N (λq v H=>by
   rw[h3];rw[w4]at H;split at H
   ·rw[wI]at H;simpa using H
   ·simp at H)
  simp only[execOp,e,jM,Instr.loadAt,Instr.sureAddr,jP,jH,this]
 grind
def RV.forget'{I:Im}{x:AV}(h:RV I ρ x v)(hf:∀k,x.fr k=true):RV I ρ' x v:=by
 induction h with
 |int k n=>exact .int k n
 |bool b=>exact .bool b
 |str s=>exact .str s
 |nils=>exact .nils
 |nilf=>exact .nilf
 |val v=>exact .val v
 |sl enc l A b o s c vs hA H hm hs hI G ih=>exact .sl enc l A b o s c vs hA H hm hs hI G
 |own k' A n c h=>exact absurd (hf k') (by simp[AV.fr])
 |ptr k' s i j b h=>exact absurd (hf k') (by simp[AV.fr])
 |mth f k' s i j b h=>exact absurd (hf k') (by simp[AV.fr])
 |sub k' s i m c A h=>exact absurd (hf k') (by simp[AV.fr])
 |ept enc x j b o vs hI G ih=>exact .ept enc x j b o vs hI G
 |yv l=>exact .yv l
 |fn f caps vs hl G ih=>exact .fn f caps vs hl (λj c v H N=>ih j c v H N (λk=>zo (by simpa[AV.fr]using hf k) H))
 |agg cs vs hl G ih=>exact .agg cs vs hl (λj c v H N=>ih j c v H N (λk=>zo (by simpa[AV.fr]using hf k) H))
 |tup cs vs hl G ih=>exact .tup cs vs hl (λj c v H N=>ih j c v H N (λk=>zo (by simpa[AV.fr]using hf k) H))
 |ifb b x v h ih=>exact .ifb b x v (λhb=>ih hb (λk=>by simpa[AV.fr]using hf k))
 |opt b x v h h0 ih=>exact .opt b x v (λhb=>ih hb (λk=>by simpa[AV.fr]using hf k)) h0
 |mp k' b h=>exact absurd (hf k') (by simp[AV.fr])
 |iny k n=>exact .iny k n
 |any v=>exact .any v
def AV.nm:AV->Bool
 |.own _=>false
 |.ptr _ _ _ _=>false
 |.mth _ _ _ _ _=>false
 |.sub _ _ _ _=>false
 |.fn _ cs=>nmL cs
 |.agg cs=>nmL cs
 |.tup cs=>nmL cs
 |.ifb _ x=>x.nm
 |.opt _ x=>x.nm
 |.mp _=>false
 |_=>true
where nmL:List AV->Bool
 |[]=>true
 |x::r=>x.nm&&nmL r
def zw:∀{cs:List AV},AV.nm.nmL cs=true->∀{j:Nat}{c:AV},cs[j]? =some c->c.nm=true
 |[],_,_,_,h=>by simp at h
 |x::r,h,0,c,e=>by
  simp_all[AV.nm.nmL]
 |x::r,h,j+1,c,e=>by
  simp[AV.nm.nmL]at h;exact zw h.2 (ao e)
def RV.forget{I:Im}{x:AV}(h:RV I ρ x v)(hf:x.nm=true):RV I ρ' x v:=by
 induction h with
 |int k n=>exact .int k n
 |bool b=>exact .bool b
 |str s=>exact .str s
 |nils=>exact .nils
 |nilf=>exact .nilf
 |val v=>exact .val v
 |sl enc l A b o s c vs hA H hm hs hI G ih=>exact .sl enc l A b o s c vs hA H hm hs hI G
 |own k' A n c h=>simp[AV.nm]at hf
 |ptr k' s i j b h=>simp[AV.nm]at hf
 |mth f k' s i j b h=>simp[AV.nm]at hf
 |sub k' s i m c A h=>simp[AV.nm]at hf
 |ept enc x j b o vs hI G ih=>exact .ept enc x j b o vs hI G
 |yv l=>exact .yv l
 |fn f caps vs hl G ih=>exact .fn f caps vs hl (λj c v H N=>ih j c v H N (zw (by simpa[AV.nm]using hf) H))
 |agg cs vs hl G ih=>exact .agg cs vs hl (λj c v H N=>ih j c v H N (zw (by simpa[AV.nm]using hf) H))
 |tup cs vs hl G ih=>exact .tup cs vs hl (λj c v H N=>ih j c v H N (zw (by simpa[AV.nm]using hf) H))
 |ifb b x v h ih=>exact .ifb b x v (λhb=>ih hb (by simpa[AV.nm]using hf))
 |opt b x v h h0 ih=>exact .opt b x v (λhb=>ih hb (by simpa[AV.nm]using hf)) h0
 |mp k b h=>simp[AV.nm]at hf
 |iny k n=>exact .iny k n
 |any v=>exact .any v
def zaa{enc:α->List AV}{y:AV}(hx:ev st x=some (.ept enc u j))(H:(enc u)[j]? =some y)(hn:y.nm=true)
 (ht:tyOk P t false 1=true):Pur P C (.load t x) ty st y:=λg a w dst pos af gd hr=>by
 obtain⟨b,o,vs,e,h1,G⟩:=zim (yq hr hx);have N:j<(enc u).length:=(j5.1 H).1;refine⟨vs j,?_,(G j y H).forget hn⟩;simp only[execOp,e,jM,Instr.loadAt,Instr.sureAddr,jP,jH,zaT ht (hr.sat.im _ _ _ (h1 j N)).1]
def zjn{enc:α->List AV}(hx:ev st x=some (.ept enc u 0))(hl:(enc u).length=n)(hn:AV.nm.nmL (enc u)=true)
 (ht:tyOk P t true n=true):Pur P C (.load t x) ty st (.agg (enc u)):=λg a w dst pos af gd hr=>by
 obtain⟨b,o,vs,e,h1,h2⟩:=zim (yq hr hx);have N:((List.range n).map vs).length=n:=ah
 refine⟨.agg ((List.range n).map vs).toArray,?_,.agg _ _ (by rw[N,hl]) (λj c v hc H=>?_)⟩
 ·have:=zU (P:=P) (t:=t) ht (b:=b) (o:=o) (w:=w) (vs:=(List.range n).map vs) N (λj v H=>by
   rw[j9]at H;by_cases G:j<n
   ·simp[uY G]at H;subst H;exact(hr.sat.im _ _ _ (h1 j aa)).1
   ·simp[wO (l:=List.range n) (i:=j) aj]at H)
  simp_all[execOp,Instr.loadAt,Instr.sureAddr]
 ·have G:j<n:=by grind
  rw[j9,uY G]at H;simp at H;subst H;exact(h2 j c hc).forget (zw hn hc)
def zcF{I:Im}{enc:α->List AV}(h:RV I ρ (.sl enc l) v):∃(A:Option Addr)(b o s c:Nat)(vs:Nat->Nat->Value),v=.slice A l.length c∧
 (l≠[]->A=some ⟨b,o,none⟩)/\l.length<=c/\c<=maxLen/\(∀(i:Nat)(x:α),l[i]? =some x->(enc x).length=s)∧
 (∀(i:Nat)(x:α)(j:Nat),l[i]? =some x->j<s->I b (o+i*s+j)=some (vs i j))/\∀(i:Nat)(x:α)(j:Nat)(cell:AV),l[i]? =some x->(enc x)[j]? =some cell->RV I noNames cell (vs i j):=by
 cases h;exact⟨_,_,_,_,_,_,rfl,ai,ai,ai,ai,ai,ai⟩
def zu2{g:Gh}{enc:α->List AV}(h:yM C g w k (.row enc l E s)):∃A c,g.ρ k=.slice A l.length c/\l.length<=maxLen:=by
 obtain⟨xs,h1,_⟩:=h;rcases h1.2 with⟨h,h0⟩|⟨b,cap,cur,h,_,_,N,hm,_⟩;all_goals grind
def slOk(P:Program)(t E:TypeId):Bool:=match P.underlying t with|some (.slice e)=>e==E|_=>false
def yS{P:Program}(h:slOk P t E=true):P.underlying t=some (.slice E):=by
 grind[slOk]
def zj7{P:Program}{ty:TypeId}(h:slOk P t E=true)(A:Option Addr)(n c:Nat)(w:World):(Builtin.len_ #[t] ty #[.slice A n c]).run P w=.ok (.int .i64 n) w:=by
 simp[Builtin.len_,run_underlying (yS h),goInt]
def zhh{a:Act}{w:World}{dst:Option Tmp}{x:Operand}{t E:TypeId}{pos:String}{af:Array Edge}{gd:Option (Nat×Bool)}{A:Option Addr}{n c:Nat}(h:slOk P t E=true)(e:a.eval x=.slice A n c):
 (execOp a.eval {dst:=dst,op:=.call {callee:=.builtin .len,args:= #[x],argTypes:= #[t]},type:=ty,pos:=pos,after:=af,guard:=gd}).run P w=.ok (.value (.int .i64 n)) w:=by
 simp[execOp,resolve,invoke,builtin,e,zj7 h]
def zgC{enc:α->List AV}(hx:ev st x=some (.sl enc l))(h:slOk P t E=true):
 Pur P C (.call {callee:=.builtin .len,args:= #[x],argTypes:= #[t]}) ty st (.int .i64 l.length):=λg a w dst pos af gd hr=>by
 obtain⟨A,b,o,s,c,vs,e,_⟩:=zcF (yq hr hx);exact⟨_,zhh h e,.int _ _⟩
def zdq{enc:α->List AV}{E':TypeId}(hx:ev st x=some (.own k))(hk:lk st.h k=some (.row enc l E' s))(h:slOk P t E=true):
 Pur P C (.call {callee:=.builtin .len,args:= #[x],argTypes:= #[t]}) ty st (.int .i64 l.length):=λg a w dst pos af gd hr=>by
 obtain⟨A,c,e,_⟩:=zu2 (hr.sat.blk k _ hk);rw[zn (yq hr hx)]at e;exact⟨_,zhh h e,.int _ _⟩
def zdN(hx:ev st x=some .nils)(h:slOk P t E=true):
 Pur P C (.call {callee:=.builtin .len,args:= #[x],argTypes:= #[t]}) ty st (.int .i64 0):=λg a w dst pos af gd hr=>
 ⟨_,zhh h (zbG (yq hr hx)),.int _ _⟩
def zhA{a:Act}{w:World}{dst:Option Tmp}{x y:Operand}{t E:TypeId}{ag:Bool}{pos:String}{af:Array Edge}{gd:Option (Nat×Bool)}{b o n c s:Nat}{kk:IntKind}{i:Int}(h:slOk P t E=true)(hs:tyOk P E ag s=true)
 (ex:a.eval x=.slice (some ⟨b,o,none⟩) n c)(ey:a.eval y=.int kk i)(h0:0<=i)(h1:i<n):
 (execOp a.eval {dst:=dst,op:=.indexAddr t x y,type:=ty,pos:=pos,after:=af,guard:=gd}).run P w=.ok (.value (.pointer (some ⟨b,o+i.toNat*s,none⟩))) w:=by
 simp[execOp,Instr.indexAt,asIntOf,ex,ey,run_underlying (yS h),h0,h1,yJ hs,zG]
def zbS{enc:α->List AV}{i:Int}(hx:ev st x=some (.sl enc l))(hy:ev st y=some (.int kk i))
 (h:slOk P t E=true)(hs:tyOk P E ag s=true)(he:∀z,(enc z).length=s)(h0:0<=i)(N:l[i.toNat]? =some u):
 Pur P C (.indexAddr t x y) ty st (.ept enc u 0):=λg a w dst pos af gd hr=>by
 obtain⟨A,b,o,s',c,vs,e,hA,_,_,h1,h2,h3⟩:=zcF (yq hr hx);have xT:i.toNat<l.length:=(j5.1 N).1;have H:l≠[]:=by grind
 rw[hA H]at e;have G:s'=s:=(h1 _ _ N).symm.trans (he u);subst G;refine⟨_,zhA h hs e (yK (yq hr hy)) h0 aa,?_⟩;exact .ept enc u 0 b (o+i.toNat*s') (vs i.toNat) (λj hj=>h2 _ u j N ak) (λj cell hc=>h3 _ u j cell N hc)
def zeu{enc:α->List AV}{E':TypeId}{i:Int}(hx:ev st x=some (.own k))(hk:lk st.h k=some (.row enc l E' s))(H:ev st y=some (.int kk i))
 (h:slOk P t E=true)(hs:tyOk P E ag s=true)(h0:0<=i)(h1:i<l.length):
 Pur P C (.indexAddr t x y) ty st (.ptr k s i.toNat 0):=λg a w dst pos af gd hr=>by
 obtain⟨xs,G,_⟩:=hr.sat.blk k _ hk;have ek:=zn (yq hr hx);rcases G.2 with⟨_,e0⟩|⟨b,cap,cur,N,_⟩
 ·omega
 ·rw[N]at ek;refine⟨_,zhA h hs ek.symm (yK (yq hr H)) h0 h1,?_⟩;have:=RV.ptr (I:=g.I) (ρ:=g.ρ) k s i.toNat 0 b (by rw[N];rfl);simpa using this
def zao{enc:α->List AV}{y:AV}(hx:ev st x=some (.ptr k s i j))(hk:lk st.h k=some (.row enc l E s))(G:l[i]? =some u)(hy:(enc u)[j]? =some y)(hn:y.nm=true)
 (ht:tyOk P t false 1=true):Pur P C (.load t x) ty st y:=λg a w dst pos af gd hr=>by
 obtain⟨b,hb,e⟩:=zad (yq hr hx);obtain⟨xs,hw,h1,h2,h3⟩:=hr.sat.blk k _ hk;rcases hw.2 with⟨hv,_⟩|⟨b',cap,cur,hv,_,hh,x0,_,x1,xT⟩
 ·simp_all
 ·have:b'=b:=by rw[hv]at hb;simpa[yT]using hb
  subst this;have x2:i<l.length:=(j5.1 G).1;have w2:j<s:=by rw[←h1 i u G];exact(j5.1 hy).1
  have N:i*s+j<l.length*s:=by
   have h2:(i+1)*s<=l.length*s:=jX s x2;have h3:(i+1)*s=i*s+s:=xL i s;omega
  have H:i*s+j<xs.length:=by rw[hw.1];exact N
  have hc:w.cell? ⟨b',i*s+j,none⟩=some xs[i*s+j]:=by
   simp only[World.cell?,hh]
   have h0:cur.toList[i*s+j]? =some xs[i*s+j]:=by
    rw[←jC H];conv=>rhs;rw[←xT]
    rw[w4,j7 N]
   simpa using h0
  refine⟨_,?_,(h2 i u j y _ G hy (jC H)).forget hn⟩;simp_all[execOp,Instr.loadAt,Instr.sureAddr,zaT]
end
end Go.Rse
namespace Go.Rse
open Go Go.RowKit
variable{v:Value}{w w':World}{ρ:Nat->Value}
def vSc:Value->Bool
 |.pointer _|.map _|.nilIface|.iface _ _|.slice _ _ _=>true
 |_=>false
def AV.sc:AV->Bool
 |.int _ _|.iny _|.bool _|.str _|.nils|.nilf|.sl _ _|.own _|.ptr _ _ _ _|.ept _ _ _|.fn _ _|.yv _|.sub _ _ _ _|.mp _|.mth _ _ _ _ _=>true
 |.val v=>vSc v
 |_=>false
theorem za9{I:Im}{x:AV}(h:RV I ρ x v)(hs:x.sc=true):v.cells= #[v]/\v.oneCell'=true:=by
 cases x with
 |val u=>
  have e:=zac h;subst e;cases v<;>simp[AV.sc,vSc]at hs<;>exact⟨rfl,rfl⟩
 |_=>cases h<;>simp[AV.sc]at hs<;>exact⟨rfl,rfl⟩
def scL:List AV->Bool
 |[]=>true
 |x::r=>x.sc&&scL r
def zdO:∀{cs:List AV},scL cs=true->∀{j:Nat}{c:AV},cs[j]? =some c->c.sc=true
 |[],_,_,_,h=>by simp at h
 |x::r,h,0,c,e=>by simp_all[scL]
 |x::r,h,j+1,c,e=>by simp[scL]at h;exact zdO h.2 (ao e)
def Gh.nw(g:Gh)(d b k:Nat)(v:Value):Gh:={ρ:=λn=>if n=k then v else g.ρ n,I:=g.I,O:=λb'=>if b'=b then some (d,k)else g.O b'}
theorem ImOB.nw{g:Gh}(h:ImOB g w)(G:Grow w w')(N:w.heap.size<w'.heap.size)(d k:Nat)(v:Value):ImOB (g.nw d w.heap.size k v) w':=by
 refine⟨λb o u hI=>?_,λb k' H=>?_,h.2.2⟩
 ·obtain⟨h1,h2⟩:=h.1 b o u hI;refine⟨G.cell h1,?_⟩;have:=zch h1
  grind[Gh.nw]
 ·simp only[Gh.nw]at H;split at H
  ·omega
  ·exact Nat.lt_trans (h.2.1 b k' H) N
theorem Add.nw{g:Gh}(N:Grow w w')(d k:Nat)(v:Value):Add (some k) g w (g.nw d w.heap.size k v) w':=
 ⟨Im.le_refl _,λn hn=>by grind[Gh.nw],λb H=>by grind[Gh.nw],N⟩
def yF(P:Program)(T:TypeId)(cs:List AV):Prop:=∃z,(P.info? T).bind (·.zero)=some z/\cvL z.cells.toList=some cs
theorem ve{P:Program}{T:TypeId}{cs:List AV}(h:(((P.info? T).bind (·.zero)).bind λz=>cvL z.cells.toList)=some cs):yF P T cs:=let⟨z,a,b⟩:=Option.bind_eq_some_iff.1 h;⟨z,a,b⟩
section
variable{P:Program}{C:Ctx}{st:St}{ty:TypeId}
variable{E T:TypeId}{a:Act}{b:Nat}{cs:Array Value}{ds:List Deferred}{k:Nat}{v:Value}{vs:Array Value}{w w':World}{x y:Operand}
def zl7{g:Gh}(hr:Rel C st g a w){cs:List AV}(hl:vs.size=cs.length)(G:∀(j:Nat)c v,cs[j]? =some c->vs[j]? =some v->RV g.I g.ρ c v)(hf:AV.fr.frL k cs=true):
 Add (some k) g w (g.nw C.d w.heap.size k (.pointer (some ⟨w.heap.size,0,none⟩))) (w.alloc (.cells vs T))∧
 RV (g.nw C.d w.heap.size k (.pointer (some ⟨w.heap.size,0,none⟩))).I (g.nw C.d w.heap.size k (.pointer (some ⟨w.heap.size,0,none⟩))).ρ (.ptr k 0 0 0) (.pointer (some ⟨w.heap.size,0,none⟩))∧
 ImOB (g.nw C.d w.heap.size k (.pointer (some ⟨w.heap.size,0,none⟩))) (w.alloc (.cells vs T))∧
 yM C (g.nw C.d w.heap.size k (.pointer (some ⟨w.heap.size,0,none⟩))) (w.alloc (.cells vs T)) k (.box cs T):=by
 have N:=Add.nw (g:=g) (Grow.alloc w (.cells vs T)) C.d k (.pointer (some ⟨w.heap.size,0,none⟩));refine⟨N,?_,ImOB.nw ⟨hr.sat.im,hr.sat.ob⟩ (Grow.alloc _ _) ah C.d k _,?_⟩
 ·exact .ptr k 0 0 0 w.heap.size (by simp[Gh.nw,yT])
 ·refine⟨w.heap.size,vs,by simp[Gh.nw],by simp[Gh.nw],.inl hr.ext.size,heap_alloc_new w _,hl,λj c v hc H=>?_⟩;exact(G j c v hc H).renameOpt (nk:=some k) (λn hn=>by grind[zo]) N.ρ
def zDy{y:AV}(hx:ev st x=some y)(hs:y.sc=true)(hf:y.fr k=true):yy P C (.box T x) ty st (.ptr k 0 0 0) (some (k,.box [y] T)):=
 zM λg a w dst pos af gd hr=>by
  have N:=yq hr hx
  obtain⟨h1,H,G,h4⟩:=zl7 hr (T:=T) (cs:=[y]) (vs:= #[a.eval x]) (k:=k) rfl (λj c v hc hv=>by
   grind) (by simp[AV.fr.frL,hf])
  refine⟨_,_,_,?_,h1,H,G,λk' B hB=>by simp_all⟩;simp only[execOp,Instr.box,newVar,newRow,(za9 N hs).1];rfl
def zhi{cs:List AV}(hx:ev st x=some (.agg cs))(hf:AV.fr.frL k cs=true):yy P C (.box T x) ty st (.ptr k 0 0 0) (some (k,.box cs T)):=
 zM λg a w dst pos af gd hr=>by
  obtain⟨vs,e,hl,H⟩:=zaM (yq hr hx);obtain⟨h1,G,h3,h4⟩:=zl7 hr (T:=T) (cs:=cs) (vs:=vs.toArray) (k:=k) (ao hl) (λj c v hc N=>H j c v hc (ao N)) hf;refine⟨_,_,_,?_,h1,G,h3,λk' B hB=>by simp_all⟩;simp only[execOp,Instr.box,newVar,newRow,e,Value.cells];rfl
def zDz{x:AV}(h:cv v=some x)(k:Nat):x.fr k=true:=by
 unfold cv at h
 split at h<;>first
  |grind[AV.fr]
  |exact absurd h ah
def zsQ(k:Nat):∀{vs:List Value}{xs:List AV},cvL vs=some xs->AV.fr.frL k xs=true
 |[],xs,h=>by simp[cvL]at h;subst h;rfl
 |v::r,xs,h=>by
  simp only[cvL]at h;split at h<;>try(simp at h;done)
  rename_i x ys h1 N;injection h with h;subst h;simp[AV.fr.frL,zDz h1 k,zsQ k N]
def zd{cs:List AV}(N:yF P T cs):yy P C (.alloc T) ty st (.ptr k 0 0 0) (some (k,.box cs T)):=
 zM λg a w dst pos af gd hr=>by
  obtain⟨z,hz,hc⟩:=N;obtain⟨hl,hv⟩:=zfH (I:=g.I) (ρ:=g.ρ) hc;obtain⟨h1,h2,h3,h4⟩:=zl7 hr (T:=T) (cs:=cs) (vs:=z.cells) (k:=k) (ao hl) (λj c v H G=>hv j c v H (ao G)) (zsQ k hc);refine⟨_,_,_,?_,h1,h2,h3,λk' B hB=>by injection hB with hB;injection hB with e1 e2;subst e1;subst e2;exact h4⟩;cases hi:P.info? T<;>simp_all[execOp,Instr.alloc,zeroValue,typeInfo,newVar,newRow]
def yM.far{g:Gh}{k2:Nat}{B:Blk}(h:yM C g w k2 B)(hm:w.grownBy w' (some b))(xT:w.drawn<=w'.drawn)(hb:g.O b=some (C.d,k))(hk:k2≠k)(x2:ImOB g w'):yM C g w' k2 B:=by
 cases B with
 |box cs E=>
  obtain⟨b2,vs,h1,H,G,h4,h5,h6⟩:=h
  have x1:b2<w.heap.size:=by
   grind
  have N:b2≠b:=λe=>hk ak
  exact⟨b2,vs,h1,H,G,(hm.block b2 x1 (ao N)).trans h4,h5,h6⟩
 |row enc l E s=>
  obtain⟨xs,h1,H,G,h4⟩:=h;refine⟨xs,h1.kept hm ?_,H,G,h4⟩;cases ho:(g.ρ k2).ownBlock with
  |none=>exact .inl rfl
  |some b2=>
   refine .inr ?_;intro e;injection e with e;subst e
   have x0:yT (g.ρ k2)=some b2:=by
    revert ho;cases g.ρ k2<;>simp[Value.ownBlock];rename_i A n c;cases A<;>simp[yT]
   simp_all
 |hold vs cs=>exact h
 |obj b2 o=>
  obtain⟨h1,H,G⟩:=h;have N:b2≠b:=λe=>hk ak
  exact⟨(hm.block b2 (zb h1) (ao N)).trans h1,H,G⟩
 |yld j on=>exact zgB h (Im.le_refl _) (λ_ _ _=>rfl) (λb' e=>by simp_all) hm xT h.2.2.2.1 x2
 |mpb kenc venc l=>
  obtain⟨b2,es,ck,h1,H,G,h4,h5,h6⟩:=h;have N:b2≠b:=λe=>hk ak
  exact⟨b2,es,ck,h1,H,G,(hm.block b2 (zb h4) (ao N)).trans h4,h5,h6⟩
 |dead=>trivial
def Dfs.grown{g:Gh}{d:Nat}(h:Dfs C g ds w)(hm:w.grownBy w' (some b))(hb:g.O b=some (d,k)):Dfs C g ds w':=by
 obtain⟨D,h1,hn,H⟩:=h;refine⟨D,h1,hn,λr hr=>?_⟩;obtain⟨G,h4,h5⟩:=H r hr
 have N:r<w.heap.size:=by
  grind
 exact⟨(hm.block r N (λe=>by simp_all)).trans G,h4,h5⟩
def Rel.modify{g:Gh}{B:Blk}(h:Rel C st g a w)(hb:g.O b=some (C.d,k))(hok:C.okb b)(hm:w.grownBy w' (some b))(G:w.drawn<=w'.drawn)(hB:yM C g w' k B):Rel C (putH st k B) g a w':=by
 have xT:∀b' o u,g.I b' o=some u->w'.cell? ⟨b',o,none⟩=some u/\g.O b'=none:=λb' o u hI=>by
  obtain⟨h1,h2⟩:=h.sat.im b' o u hI;refine⟨?_,h2⟩;have N:b'≠b:=λe=>by simp_all
  rw[World.cell?_of_block (w:=w) (a:=⟨b',o,none⟩) (hm.block b' (zch h1) (ao N))];exact h1
 have x2:ObO g.I g.O w':=h.sat.ob.up (Im.le_refl _) hm.size;refine⟨h.size,h.defers.grown hm hb,h.tmps,⟨xT,x2,λk' B' H=>?_⟩,?_⟩
 ·simp only[putH,ym]at H;cases x1:k.beq k'<;>simp[x1]at H
  ·exact(h.sat.blk k' B' H).far hm G hb (λe=>by subst e;simp at x1) ⟨xT,x2⟩
  simp_all
 ·exact⟨h.ext.I,hm.os.trans h.ext.os,hm.tape.trans h.ext.tape,hm.output.trans h.ext.output,jV h.ext.drawn G,jV h.ext.size hm.size,λb' x0 hn ho=>by
   have N:b'≠b:=λe=>hn (e▸hok)
   obtain⟨h1,h2⟩:=h.ext.keep b' x0 hn ho;exact⟨(hm.block b' (w7 x0 h.ext.size) (ao N)).trans h1,h2⟩,h.ext.own⟩
def zcG:w.grownBy (w.setRow b cs) (some b):=
 ⟨rfl,rfl,rfl,ah,λk hk N=>by
  grind[World.setRow]⟩
def yu(P:Program)(C:Ctx)(op:Op)(ty:TypeId)(dst:Option Tmp)(st st':St):Prop:=
 ∀(g:Gh)(a:Act)(w:World)pos af gd,Rel C st g a w->∀(K:Act->World->Prop),
  (∀a' w' g',Rel C st' g' a' w'->K a' w')->wp1 P {dst:=dst,op:=op,type:=ty,pos:=pos,after:=af,guard:=gd} a w K
def yX{ops:Array Oper}{st':St}{Q:Exit->St->Prop}{rest:List Oper}{dst:Option Tmp}{op:Op}{pos:String}{af:Array Edge}
 (hs:yu P C op ty dst st st')(h:Ex P C ops rest st' Q):Ex P C ops ({dst:=dst,op:=op,type:=ty,pos:=pos,after:=af,guard:=none}::rest) st Q:=λg a w hr=>
 wpListIn_plain rfl λK N=>zaf<|hs g a w pos af none hr K λa' w' g' H=>N _ _ (h g' a' w' H)
def setAt(cs:List AV)(n:Nat)(xs:List AV):List AV:=cs.take n++xs++cs.drop (n+xs.length)
def zfm{g:Gh}{a:Act}{w:World}(hr:Rel C st g a w){T:TypeId}{k z i j n:Nat}{cs ys:List AV}{E:TypeId}{ag:Bool}{x:Operand}{p:Value}{v:Value}{vs:List Value}(hx:ev st x=some (.ptr k z i j))(hk:lk st.h k=some (.box cs E))
 (ht:tyOk P T ag n=true)(N:v.cells=vs.toArray)(H:vs.length=ys.length)(G:∀(q:Nat)c u,ys[q]? =some c->vs[q]? =some u->RV g.I g.ρ c u)(h1:∀u∈vs,u.oneCell'=true)
 (hn:ys.length=n)(xT:i*z+j+ys.length<=cs.length):
 ∃w',(Instr.storeAt T (a.eval x) v).run P w=.ok () w'/\Rel C (putH st k (.box (setAt cs (i*z+j) ys) E)) g a w':=by
 obtain⟨b,hb,e⟩:=zad (yq hr hx);obtain⟨b',cur,c1,c2,c3,c4,c5,c6⟩:=hr.sat.blk k _ hk;have:b'=b:=by simp_all[yT]
 subst this;have x2:=run_storeCells_at (P:=P) b' (i*z+j) E vs 0 cur w c4 aa h1;refine⟨w.setRow b' (List.take (i*z+j) cur.toList++vs++List.drop (i*z+j+vs.length) cur.toList).toArray,?_,hr.modify c2 c3 zcG (jG _) ?_⟩
 ·simp only[Instr.storeAt,e,Instr.sureAddr,jM,jP,jH,storeVar,yJ ht,N];simp_all
 ·refine⟨b',_,c1,c2,c3,setRow_heap w b' cur _ E _ c4,?_,λq c u hc hu=>?_⟩;all_goals grind[setAt]
def zX{z i j:Nat}{cs:List AV}{u:AV}(hx:ev st x=some (.ptr k z i j))(hk:lk st.h k=some (.box cs E))(H:ev st y=some u)(hs:u.sc=true)
 (ht:tyOk P T false 1=true)(G:i*z+j<cs.length):yu P C (.store T x y) ty none st (putH st k (.box (setAt cs (i*z+j) [u]) E)):=λg a w pos af gd hr K hK=>by
 have N:=yq hr H
 obtain⟨w',h1,h2⟩:=zfm hr hx hk ht (v:=a.eval y) (vs:=[a.eval y]) (ys:=[u]) (p:=.nilIface) (za9 N hs).1 rfl (λq c v hc hv=>by
  grind) (by simpa using(za9 N hs).2) rfl aj
 simp only[wp1,execOp,jM,h1,jH,jP,zbH];exact hK _ _ _ h2
def zav{z i j n:Nat}{cs ys:List AV}(hx:ev st x=some (.ptr k z i j))(hk:lk st.h k=some (.box cs E))(hy:ev st y=some (.agg ys))(hs:scL ys=true)
 (ht:tyOk P T true n=true)(hn:ys.length=n)(H:i*z+j+ys.length<=cs.length):yu P C (.store T x y) ty none st (putH st k (.box (setAt cs (i*z+j) ys) E)):=λg a w pos af gd hr K hK=>by
 obtain⟨vs,e,hl,G⟩:=zaM (yq hr hy)
 obtain⟨w',h1,h2⟩:=zfm hr hx hk ht (v:=a.eval y) (vs:=vs) (ys:=ys) (p:=.nilIface) (by rw[e];rfl) hl G (λu hu=>by
  obtain⟨q,hq⟩:=jL.1 hu;have N:q<ys.length:=by grind
  exact(za9 (G q _ u (jC N) hq) (zdO hs (jC N))).2) hn H
 simp only[wp1,execOp,jM,h1,jH,jP,zbH];exact hK _ _ _ h2
end
end Go.Rse
namespace Go.Rse
open Go Go.RowKit
variable{v:Value}{ρ:Nat->Value}
def AV.cl:AV->List AV
 |.agg cs=>cs
 |x=>[x]
def RVL(I:Im)(ρ:Nat->Value)(cs:List AV)(vs:List Value):Prop:=vs.length=cs.length/\∀(j:Nat)(c:AV)(v:Value),cs[j]? =some c->vs[j]? =some v->RV I ρ c v
theorem RVL.setAt{I:Im}{cs ys:List AV}{vs us:List Value}(h:RVL I ρ cs vs)(h':RVL I ρ ys us)(n:Nat)(hn:n+ys.length<=cs.length):
 RVL I ρ (setAt cs n ys) (vs.take n++us++vs.drop (n+us.length)):=by
 obtain⟨hl,hv⟩:=h;obtain⟨G,xT⟩:=h';refine⟨by simp[Rse.setAt];omega,λq c u H N=>?_⟩;simp only[Rse.setAt,uQ,jJ,jO]at H N;rw[show min n cs.length=n by omega]at H;rw[show min n vs.length=n by omega]at N;by_cases q1:q<n
 ·rw[j7 aa,j7 q1]at H;rw[j7 aa,j7 q1]at N;rw[w4,j7 q1]at H N;exact hv q c u H N
 ·by_cases q2:q<n+ys.length
  ·rw[j7 q2,j8 q1]at H;rw[j7 aa,j8 q1]at N;exact xT _ c u H N
  ·rw[j8 q2]at H;rw[j8 aa]at N;rw[wI]at H N;rw[G]at N;exact hv _ c u H N
def zmX(off:Nat):∀(us:List Value)(s:Nat)(cs:Array Value),off+s+us.length<=cs.size→
 ((us.zipIdx s).foldl (λcs(c,j)=>cs.setIfInBounds (off+j) c) cs).toList=cs.toList.take (off+s)++us++cs.toList.drop (off+s+us.length)
 |[],s,cs,_=>by simp
 |u::r,s,cs,h=>by
  simp only[w5]at h;have ih:=zmX off r (s+1) (cs.setIfInBounds (off+s) u) aj;simp only[List.zipIdx_cons,x9];rw[ih];simp only[Array.toList_setIfInBounds,w5];have N:off+s<cs.toList.length:=aj
  grind[List.drop_set_of_lt,List.take_set,List.take_succ_eq_append_getElem]
def zqp(off:Nat)(us cs:Array Value)(h:off+us.size<=cs.size):
 (us.zipIdx.foldl (λcs(c,j)=>cs.setIfInBounds (off+j) c) cs).toList=cs.toList.take off++us.toList++cs.toList.drop (off+us.size):=by
 have:=zmX off us.toList 0 cs (ao h)
 grind[Array.toList_zipIdx]
def zfn(place:Nat->Option (Nat×Nat)):List AV->List (Nat×AV)->Option (List AV)
 |cs,[]=>some cs
 |cs,(i,x)::r=>match place i with
  |none=>none
  |some (off,size)=>bif(x.cl.length.beq size&&(off+size).ble cs.length)then zfn place (setAt cs off x.cl) r else none
def zjo:AV->Bool
 |.agg _=>true
 |x=>x.sc
def zjp{I:Im}{x:AV}(h:RV I ρ x v)(hs:zjo x=true):RVL I ρ x.cl v.cells.toList:=by
 cases x<;>grind[zaM,Value.cells,AV.cl,zjo,za9,RVL]
def zci:List (Nat×AV)->Bool
 |[]=>true
 |(_,x)::r=>zjo x&&zci r
def zl8(I:Im)(ρ:Nat->Value):List (Nat×AV)->List (Nat×Value)->Prop
 |[],[]=>True
 |(i,x)::r,(j,v)::q=>i=j/\RV I ρ x v/\zl8 I ρ r q
 |_,_=>False
def zgD{I:Im}{ρ:Nat->Value}(place:Nat->Option (Nat×Nat)):∀(ps:List (Nat×AV))(qs:List (Nat×Value))(cs cs':List AV)(vs:Array Value),zl8 I ρ ps qs->zci ps=true->RVL I ρ cs vs.toList->zfn place cs ps=some cs'→
 ∃vs',Instr.fill place vs qs=some vs'/\RVL I ρ cs' vs'.toList
 |[],[],cs,cs',vs,_,_,h,e=>by grind[zfn,Instr.fill]
 |(i,x)::r,(j,v)::q,cs,cs',vs,H,hk,h,e=>by
  obtain⟨rfl,hx,hr⟩:=H;simp only[zci,jE]at hk;have hc:=zjp hx hk.1;simp only[zfn]at e;cases G:place i with
  |none=>simp[G]at e
  |some os=>
   obtain⟨off,size⟩:=os;simp only[G]at e;cases hb:(x.cl.length.beq size&&(off+size).ble cs.length)with
   |false=>simp[hb]at e
   |true=>
    simp only[hb,cond_true]at e;simp only[jE]at hb;have e1:x.cl.length=size:=ao hb.1
    have e2:off+size<=cs.length:=ao hb.2
    have xT:v.cells.size=size:=by rw[←e1,←hc.1];simp
    have x2:vs.size=cs.length:=ao h.1
    have hf:=zqp off v.cells vs aa;have N:=h.setAt hc off aa;rw[show v.cells.toList.length=v.cells.size by simp,←hf]at N;obtain⟨vs',g1,g2⟩:=zgD place r q (setAt cs off x.cl) cs' _ hr hk.2 N e;simp_all[Instr.fill]
 |[],_::_,_,_,_,H,_,_,_=>H.elim
 |_::_,[],_,_,_,H,_,_,_=>H.elim
def zbI(st:St):List (Nat×Operand)->Option (List (Nat×AV))
 |[]=>some []
 |(i,x)::r=>match ev st x,zbI st r with
  |some y,some ys=>some ((i,y)::ys)
  |_,_=>none
def zcH{C:Ctx}{st:St}{g:Gh}{a:Act}{w:World}(hr:Rel C st g a w):∀{ps:List (Nat×Operand)}{ys:List (Nat×AV)},zbI st ps=some ys->zl8 g.I g.ρ ys (ps.map λ(i,x)=>(i,a.eval x))
 |[],ys,h=>by simp[zbI]at h;subst h;trivial
 |(i,x)::r,ys,h=>by
  simp only[zbI]at h;cases h1:ev st x with
  |none=>simp[h1]at h
  |some y=>
   cases N:zbI st r with
   |none=>simp[h1,N]at h
   |some zs=>
    simp[h1,N]at h;subst h;exact⟨rfl,yq hr h1,zcH hr N⟩
def ze(P:Program)(t:TypeId):Option (List (Nat×Nat)):=
 match P.underlying t with
 |some (.struct fs)=>some (fs.toList.map λf=>(f.offset,P.cellsOf f.type))
 |_=>none
def y3(P:Program)(t:TypeId):Bool:=match P.underlying t with
 |some (.struct fs)=>fs.toList.all λf=>(P.info? f.type).isSome
 |_=>true
def zjq{P:Program}(w:World):∀(fs:List Field),(fs.all λf=>(P.info? f.type).isSome)=true→
 (fs.mapM λf=>do pure (f.offset,←sizeOf f.type):Sem (List (Nat×Nat))).run P w=.ok (fs.map λf=>(f.offset,P.cellsOf f.type)) w
 |[],_=>rfl
 |f::r,h=>by
  simp only[xS,jE]at h;obtain⟨i,hi⟩:=u9.1 h.1;have ih:=zjq w r h.2;simp only[kC,jM,sizeOf,typeInfo,run_program,jH,hi,jP,wW]at ih⊢;simp_all[Program.cellsOf]
section
variable{P:Program}{C:Ctx}{st:St}{ty:TypeId}
variable{parts:Array (Nat×Operand)}{pl:List (Nat×Nat)}{t:TypeId}
def zu3{cs cs':List AV}{ps:List (Nat×AV)}(N:ze P t=some pl)(H:y3 P t=true)(G:yF P t cs)
 (hp:zbI st parts.toList=some ps)(hk:zci ps=true)(hf:zfn (pl[·]?) cs ps=some cs'):Pur P C (.build t parts) ty st (.agg cs'):=λg a w dst pos af gd hr=>by
 obtain⟨z,hz,hc⟩:=G;obtain⟨hl,hv⟩:=zfH (I:=g.I) (ρ:=g.ρ) hc;obtain⟨vs',h1,h2⟩:=zgD (I:=g.I) (ρ:=g.ρ) (pl[·]?) ps _ cs cs' z.cells (zcH hr hp) hk ⟨hl,hv⟩ hf;refine⟨.agg vs',?_,by simpa using RV.agg (I:=g.I) (ρ:=g.ρ) cs' vs'.toList h2.1 h2.2⟩;unfold ze at N;unfold y3 at H;split at N<;>try(simp at N;done)
 rename_i fs hu;simp only[hu]at H;injection N with N;subst N;cases hi:P.info? t with
 |none=>simp[hi]at hz
 |some i=>
  simp[hi]at hz
  have hm:(fs.mapM λf=>do pure (f.offset,←sizeOf f.type):Sem (Array (Nat×Nat))).run P w=.ok (fs.toList.map λf=>(f.offset,P.cellsOf f.type)).toArray w:=by
   have:=zjq (P:=P) w fs.toList H;rw[←Array.toArray_toList (xs:=fs),List.mapM_toArray];simp_all
  have e:(parts.map λ(i,x)=>(i,a.eval x)).toList=parts.toList.map λ(i,x)=>(i,a.eval x):=ah
  have xT:Instr.fill (λx=>(fs.toList.map λf=>(f.offset,P.cellsOf f.type)).toArray[x]?) z.cells (parts.toList.map λ(i,x)=>(i,a.eval x))=some vs':=by
   simp_all
  simp only[execOp,Instr.build,jM,zeroValue,typeInfo,run_program,jH,hi,jP,hz,run_underlying hu,hm,e,xT]
end
end Go.Rse
namespace Go.Rse
open Go Go.RowKit
variable{a:Act}{bo d:Option Nat}{k s:Nat}{v:Value}{xs:List Value}{α:Type}{l:List α}
def cln(k:Nat)(x:AV):AV:=bif x.fr k then x else .any
def clT(k:Nat):List (Nat×AV)->List (Nat×AV)
 |[]=>[]
 |(t,x)::r=>(t,cln k x)::clT k r
def clB(k:Nat):Blk->Blk
 |.box cs E=>.box (cs.map (cln k)) E
 |.hold vs cs=>.hold vs (cs.map (cln k))
 |B=>B
def clH(k:Nat):List (Nat×Blk)->List (Nat×Blk)
 |[]=>[]
 |(n,B)::r=>(n,clB k B)::clH k r
def zsR(k t:Nat):∀l,lk (clT k l) t=(lk l t).map (cln k)
 |[]=>rfl
 |(t',x)::r=>by
  simp only[clT,ym];cases t'.beq t<;>simp[zsR k t r]
def zsS(k t:Nat):∀l,lk (clH k l) t=(lk l t).map (clB k)
 |[]=>rfl
 |(t',x)::r=>by
  simp only[clH,ym];cases t'.beq t<;>simp[zsS k t r]
def RV.cln{I:Im}{ρ ρ':Nat->Value}{x:AV}(h:RV I ρ x v)(hρ:∀n,n≠k->ρ' n=ρ n):RV I ρ' (cln k x) v:=by
 unfold Rse.cln;cases hf:x.fr k with
 |true=>exact h.rename hf hρ
 |false=>exact .any v
def consT(d:Option Nat)(x:AV)(l:List (Nat×AV)):List (Nat×AV):=match d with|some d=>(d,x)::l|none=>l
def Rel.modifyR{C:Ctx}{st:St}{g g':Gh}{w w':World}{B:Blk}{x:AV}(h:Rel C st g a w)(hI:g'.I=g.I)(hρ:∀n,n≠k->g'.ρ n=g.ρ n)
 (hO:∀b,b<w.heap.size->g'.O b=g.O b)(x2:∀b,bo=some b->g.O b=some (C.d,k)/\C.okb b)(hm:w.grownBy w' bo)(v9:w.drawn<=w'.drawn)(v8:ObO g'.I g'.O w')
 (hd:dOk C.n d=true)(hx:RV g'.I g'.ρ x v)(hB:yM C g' w' k B):
 Rel C {t:=consT d x (clT k st.t),h:=(k,B)::clH k st.h} g' (a.put d v) w':=by
 have v1:∀t y,lk (clT k st.t) t=some y->RV g'.I g'.ρ y (a.tmps.getD t undef):=λt y hy=>by
  rw[zsR]at hy;cases hz:lk st.t t with
  |none=>simp[hz]at hy
  |some z=>
   simp[hz]at hy;subst hy;rw[hI];exact(h.tmps t z hz).cln hρ
 have x0:Sat C ((k,B)::clH k st.h) g' w':=by
  have v5:∀b o u,g'.I b o=some u->w'.cell? ⟨b,o,none⟩=some u/\g'.O b=none:=λb o u hi=>by
   rw[hI]at hi;obtain⟨h1,h2⟩:=h.sat.im b o u hi;have N:=zch h1;refine⟨?_,(hO b N).trans h2⟩;have H:some b≠bo:=λe=>by simp_all
   rw[World.cell?_of_block (w:=w) (a:=⟨b,o,none⟩) (hm.block b N H)];exact h1
  refine⟨v5,v8,λk' B' x1=>?_⟩
  ·simp only[ym]at x1;cases v4:k.beq k'<;>simp[v4]at x1
   ·have G:k'≠k:=λe=>by subst e;simp at v4
    rw[zsS]at x1;cases hz:lk st.h k' with
    |none=>simp[hz]at x1
    |some B0=>
     simp[hz]at x1;subst x1;have h0:=h.sat.blk k' B0 hz;cases B0 with
     |box cs E=>
      obtain⟨b2,vs,h1,h2,h3,h4,h5,h6⟩:=h0
      have N:b2<w.heap.size:=by
       rcases wH b2 w.heap.size with hl|hl
       ·exact hl
       ·simp[vK hl]at h4
      have H:some b2≠bo:=λe=>G (by have:=(x2 b2 e.symm).1;rw[h2]at this;simpa using this)
      refine⟨b2,vs,(hρ k' G).trans h1,(hO b2 N).trans h2,h3,(hm.block b2 N H).trans h4,by simpa using h5,λj c v hc hv=>?_⟩;rw[j9]at hc;cases xT:cs[j]? with
      |none=>simp[xT]at hc
      |some c0=>
       simp[xT]at hc;subst hc;rw[hI];exact(h6 j c0 v xT hv).cln hρ
     |row enc l E s=>
      obtain⟨xs,h1,h2,h3,h4⟩:=h0;refine⟨xs,?_,h2,λi x j c v hx hc hv=>by rw[hI];exact h3 i x j c v hx hc hv,λb hb=>?_⟩
      ·rw[hρ k' G];refine h1.kept hm ?_;cases ho:(g.ρ k').ownBlock with
       |none=>exact .inl rfl
       |some b2=>
        refine .inr λe=>?_
        have v0:yT (g.ρ k')=some b2:=by
         revert ho;cases g.ρ k'<;>simp[Value.ownBlock];rename_i A n c;cases A<;>simp[yT]
        have h5:=(h4 b2 v0).1;have h6:=(x2 b2 e.symm).1;rw[h5]at h6;exact G (ao h6)
      ·rw[hρ k' G]at hb;exact⟨(hO b (zbR h1 hb)).trans (h4 b hb).1,(h4 b hb).2⟩
     |hold vs cs=>
      refine⟨by simpa using h0.1,λj c v hc hv=>?_⟩;rw[j9]at hc;cases xT:cs[j]? with
      |none=>simp[xT]at hc
      |some c0=>
       simp[xT]at hc;subst hc;rw[hI];exact(h0.2 j c0 v xT hv).cln hρ
     |obj b2 o=>
      obtain⟨h1,h2,h3⟩:=h0;have N:=zb h1;have H:some b2≠bo:=λe=>G (by have:=(x2 b2 e.symm).1;rw[h2]at this;simpa using this)
      exact⟨(hm.block b2 N H).trans h1,(hO b2 N).trans h2,h3⟩
     |yld j on=>
      refine zgB h0 (by rw[hI];exact Im.le_refl _) (λb N _=>hO b N) (λb e=>.inl ⟨k,(x2 b e).1⟩) hm v9 (λb n hn=>?_) ⟨v5,v8⟩;rcases wH b w.heap.size with hl|hl
      ·exact h0.2.2.2.1 b n ((hO b hl).symm.trans hn)
      ·have:=h.ext.size;have:=h0.2.2.1;omega
     |mpb kenc venc l=>
      obtain⟨b2,es,ck,h1,h2,h3,h4,h5,h6⟩:=h0;have N:=zb h4;have H:some b2≠bo:=λe=>G (by have:=(x2 b2 e.symm).1;rw[h2]at this;simpa using this)
      exact⟨b2,es,ck,(hρ k' G).trans h1,(hO b2 N).trans h2,h3,(hm.block b2 N H).trans h4,h5,by rw[hI];exact h6⟩
     |dead=>trivial
   simp_all
 have w2:Ext C g' w':=⟨by rw[hI];exact h.ext.I,hm.os.trans h.ext.os,hm.tape.trans h.ext.tape,hm.output.trans h.ext.output,jV h.ext.drawn v9,jV h.ext.size hm.size,λb' v3 hn ho=>by
  have H:some b'≠bo:=λe=>hn (x2 b' e.symm).2
  obtain⟨h1,h2⟩:=h.ext.keep b' v3 hn ho;have N:=w7 v3 h.ext.size;exact⟨(hm.block b' N H).trans h1,(hO b' N).trans h2⟩,λb y n hb hy=>h.ext.own b y n hb ((hO b (w7 hb h.ext.size)).symm.trans hy)⟩
 have v2:Dfs C g' a.defers w':=by
  obtain⟨D,h1,hn,h2⟩:=h.defers;refine⟨D,h1,hn,λr hr=>?_⟩;obtain⟨h3,h4,h5⟩:=h2 r hr
  have N:r<w.heap.size:=by
   grind
  exact⟨(hm.block r N (λe=>by simp_all)).trans h3,(hO r N).trans h4,h5⟩
 cases d with
 |none=>exact⟨h.size,v2,v1,x0,w2⟩
 |some d=>
  refine⟨by simp[Act.put,h.size],v2,λt y hy=>?_,x0,w2⟩;rw[zaS (by rw[h.size];simpa[dOk]using hd)]
  grind[consT,ym,beqF]
theorem zdr{α:Type}{enc:α->List AV}{s:Nat}:∀(l:List α),(∀(i:Nat)x,l[i]? =some x->(enc x).length=s)->∀(i:Nat)(x:α)(j:Nat),l[i]? =some x->j<s->(l.flatMap enc)[i*s+j]? =(enc x)[j]?
 |[],_,_,_,_,h,_=>by simp at h
 |y::r,hs,0,x,j,h,N=>by
  grind
 |y::r,hs,i+1,x,j,h,N=>by
  have H:=hs 0 y ah;simp only[uH];rw[wC (by grind),H];rw[show(i+1)*s+j-s=i*s+j by grind];exact zdr r (λi x h=>hs (i+1) x (ao h)) i x j (ao h) N
theorem zq{α:Type}{enc:α->List AV}{s:Nat}:∀(l:List α),(∀(i:Nat)x,l[i]? =some x->(enc x).length=s)->(l.flatMap enc).length=l.length*s
 |[],_=>by simp
 |y::r,hs=>by
  simp only[uH,jJ,w5,xL];rw[hs 0 y ah,zq r (λi x h=>hs (i+1) x (ao h))];omega
theorem zb0{I:Im}{enc:α->List AV}(hs:∀(i:Nat)x,l[i]? =some x->(enc x).length=s)(h:RVL I noNames (l.flatMap enc) xs):
 ∀(i:Nat)x(j:Nat)c v,l[i]? =some x->(enc x)[j]? =some c->xs[i*s+j]? =some v->RV I noNames c v:=λi x j c v hx H N=>
 h.2 (i*s+j) c v (by grind[zdr]) N
section
variable{P:Program}{C:Ctx}{st:St}{ty:TypeId}
variable{ag:Bool}{parts:Array (Nat×Operand)}{z:Value}{α:Type}{l:List α}
def zx{enc:α->List AV}{t E:TypeId}{s n k:Nat}{ps:List (Nat×AV)}(ht:slOk P t E=true)(hE:tyOk P E ag s=true)(hz:(P.info? E).bind (·.zero)=some z)
 (v9:0<s)(hp:zbI st parts.toList=some ps)(hk:zci ps=true)(hf:zfn (λi=>some (i*s,s)) (List.replicate (n*s) .any) ps=some (l.flatMap enc))(xT:l.length=n)(hn:n*s<=16777216)(hm:n<=1000000)
 (hs:∀x,(enc x).length=s)(x2:AV.nm.nmL (l.flatMap enc)=true):yy P C (.buildSlice t n parts) ty st (.own k) (some (k,.row enc l E s)):=
 zM λg a w dst pos af gd hr=>by
  have x0:n<=maxLen:=by simp only[maxLen];omega
  have main:∀zc:Array Value,∃vs',Instr.fill (λi=>some (i*s,s)) ((Array.range (n*s)).map (zc[· %zc.size]!)) (parts.map λ(i,x)=>(i,a.eval x)).toList=some vs'/\RVL g.I g.ρ (l.flatMap enc) vs'.toList:=λzc=>by
   have:=zgD (I:=g.I) (ρ:=g.ρ) (λi=>some (i*s,s)) ps (parts.toList.map λ(i,x)=>(i,a.eval x)) (List.replicate (n*s) .any) (l.flatMap enc) ((Array.range (n*s)).map (zc[· %zc.size]!)) (zcH hr hp) hk
    ⟨ah,λj c v N hv=>by
     rw[uS]at N;split at N
     ·injection N with N;subst N;exact .any v
     ·simp at N⟩ hf
   simpa using this
  have H:∀(i:Nat)x,l[i]? =some x->(enc x).length=s:=λi x _=>hs x
  have fin:∀vs':Array Value,RVL g.I g.ρ (l.flatMap enc) vs'.toList→
   Add (some k) g w (g.nw C.d w.heap.size k (.slice (some ⟨w.heap.size,0,none⟩) n n)) (w.alloc (.cells vs' E))/\RV (g.nw C.d w.heap.size k (.slice (some ⟨w.heap.size,0,none⟩) n n)).I (g.nw C.d w.heap.size k (.slice (some ⟨w.heap.size,0,none⟩) n n)).ρ (.own k) (.slice (some ⟨w.heap.size,0,none⟩) n n)∧
   ImOB (g.nw C.d w.heap.size k (.slice (some ⟨w.heap.size,0,none⟩) n n)) (w.alloc (.cells vs' E))/\yM C (g.nw C.d w.heap.size k (.slice (some ⟨w.heap.size,0,none⟩) n n)) (w.alloc (.cells vs' E)) k (.row enc l E s):=λvs' hv=>by
   refine⟨Add.nw (Grow.alloc _ _) C.d k _,.own k _ _ _ (by simp[Gh.nw]),ImOB.nw ⟨hr.sat.im,hr.sat.ob⟩ (Grow.alloc _ _) ah C.d k _,?_⟩;have w2:vs'.toList.length=n*s:=by rw[hv.1,zq l H,xT]
   refine⟨vs'.toList,?_,H,zb0 H ⟨hv.1,λj c v N x1=>(hv.2 j c v N x1).forget (zw x2 N)⟩,λb hb=>?_⟩
   ·grind[Gh.nw,World.ownsRow,World.alloc]
   ·simp only[Gh.nw,if_true,yT]at hb;injection hb with hb;subst hb;exact⟨by simp[Gh.nw],.inl hr.ext.size⟩
  cases hi:P.info? E with
  |none=>simp[hi]at hz
  |some i=>
   simp[hi]at hz;have v8:i.size=s:=by simp_all[tyOk]
   by_cases h0:n*s=0
   ·obtain⟨vs',h1,h2⟩:=main #[];obtain⟨f1,f2,f3,f4⟩:=fin vs' h2;refine⟨_,_,_,?_,f1,f2,f3,λk' B G=>by injection G with G;injection G with e1 e2;subst e1;subst e2;exact f4⟩;simp only[execOp,Instr.buildSlice,jM,run_underlying (yS ht),jH,yJ hE,h0,if_true,jP];simp_all[newRow]
   ·obtain⟨vs',h1,h2⟩:=main z.cells;obtain⟨f1,f2,f3,f4⟩:=fin vs' h2;refine⟨_,_,_,?_,f1,f2,f3,λk' B G=>by injection G with G;injection G with e1 e2;subst e1;subst e2;exact f4⟩;simp only[execOp,Instr.buildSlice,jM,run_underlying (yS ht),jH,yJ hE,h0,if_false,jP];simp_all[zeroValue,typeInfo,newRow]
end
end Go.Rse
namespace Go.Rse
open Go Go.RowKit
variable{A:Option Addr}{E:TypeId}{P:Program}{bytes n:Nat}{news:List Value}{s:Nat}{v:Value}{w:World}{xs:List Value}{z:Value}
def y7(P:Program)(E:TypeId)(z:Value)(s bytes:Nat):Prop:=∃i,P.info? E=some i/\i.zero=some z/\i.size=s/\i.bytes=bytes/\z.cells.size=s
def yV(h:(P.info? E).map (λi=>(i.zero,i.size,i.bytes))=some (some z,s,bytes))(N:z.cells.size=s):y7 P E z s bytes:=by
 cases hi:P.info? E<;>grind[y7]
def zn6(w:World){t ty:TypeId}(ht:slOk P t E=true)(hi:y7 P E z s bytes)(hs:0<s)(v5:bytes<=1024)
 (N:w.ownsRow 0 E s v n xs){m c:Nat}(hl:news.length=m*s)
 (xT:m≠0->∃b o,A=some ⟨b,o,none⟩/\∀j u,news[j]? =some u->w.cell? ⟨b,o+j,none⟩=some u)(h1:∀u∈news,u.oneCell'=true)(v4:n+m<=4294967296):
 ∃v' w',(Builtin.append_ #[t,t] ty #[v,.slice A m c]).run P w=.ok v' w'/\w'.ownsRow 0 E s v' (n+m) (xs++news)/\w.grownBy w' v.ownBlock/\(v'.ownBlock=v.ownBlock\/v'.ownBlock=some w.heap.size):=by
 obtain⟨i,H,x2,x1,x0,w2⟩:=hi;have G:=yS ht;have v9:n+m<=maxLen:=by simp only[maxLen];omega
 have v8:(n+m)*bytes<=140737488355328:=by
  have:(n+m)*bytes<=4294967296*1024:=kG v4 v5;omega
 by_cases hm:m=0
 ·subst hm;have hn:news=[]:=jT (ao hl);subst hn;cases A with
  |none=>
   refine⟨v,w,?_,by simpa using N,World.grownBy.refl w _,.inl rfl⟩;rcases N.2 with⟨rfl,rfl⟩|⟨g,cap,cur,rfl,_,_,v3,_⟩
   ·simp[Builtin.append_,run_underlying G,sizeOf,typeInfo,H,Builtin.lenOf,Builtin.firstCells]
   ·simp[Builtin.append_,run_underlying G,sizeOf,typeInfo,H,Builtin.lenOf,Builtin.firstCells,v3,storeCells]
  |some ad=>
   obtain⟨v',w',h,h2,h3,_,h5⟩:=run_append_own_at (P:=P) w 0 t ty E i z s bytes G H x2 x1 x0 w2 hs v n xs N ad 0 c [] ah (λj u G=>by simp at G) ah v9 v8 (jU _)
   grind
 ·obtain⟨b,o,rfl,hc⟩:=xT hm;obtain⟨v',w',h,h2,h3,_,h5⟩:=run_append_own_at (P:=P) w 0 t ty E i z s bytes G H x2 x1 x0 w2 hs v n xs N ⟨b,o,none⟩ m c news hl (λj u G=>by rw[zG];exact hc j u G) h1 v9 v8 (jU _)
  grind
theorem zds{E:Nat}(h:w.ownsRow 0 E s v n xs):yT v=v.ownBlock:=by
 rcases h.2 with⟨rfl,_⟩|⟨g,cap,cur,rfl,_⟩<;>rfl
def Gh.mv(g:Gh)(d k:Nat)(v:Value)(nb:Option Nat):Gh:={ρ:=λn=>if n=k then v else g.ρ n,I:=g.I,O:=λb'=>if nb=some b' then some (d,k)else g.O b'}
section
variable{P:Program}{C:Ctx}{st:St}{ty:TypeId}
variable{E:TypeId}{bytes:Nat}{dst:Option Tmp}{k s:Nat}{t:TypeId}{x y:Operand}{z:Value}{α:Type}{l l2:List α}
theorem zc9{α:Type}{enc:α->List AV}{l l2:List α}{g:Gh}{a:Act}{w:World}(hr:Rel C st g a w){t E:TypeId}{z:Value}{s bytes k:Nat}{A:Option Addr}{c:Nat}{news:List Value}{dst:Option Tmp}{y:Operand}{pos:String}{af:Array Edge}{gd:Option (Nat×Bool)}{x:Operand}
 (hx:ev st x=some (.own k))(hk:lk st.h k=some (.row enc l E s))(ht:slOk P t E=true)(hi:y7 P E z s bytes)(hs:0<s)(v5:bytes<=1024)(he:∀z,(enc z).length=s)
 (ey:a.eval y=.slice A l2.length c)(x2:l2≠[]->∃b o,A=some ⟨b,o,none⟩/\∀j u,news[j]? =some u->w.cell? ⟨b,o+j,none⟩=some u)(N:RVL g.I noNames (l2.flatMap enc) news)(v4:∀z,scL (enc z)=true)
 (x1:l.length+l2.length<=4294967296)(hd:dOk C.n dst=true)(K:Act->World->Prop)
 (hK:∀a' w' g',Rel C {t:=consT dst (.own k) (clT k st.t),h:=(k,.row enc (l++l2) E s)::clH k st.h} g' a' w'->K a' w'):
 wp1 P {dst:=dst,op:=.call {callee:=.builtin .append,args:= #[x,y],argTypes:= #[t,t]},type:=ty,pos:=pos,after:=af,guard:=gd} a w K:=by
 obtain⟨xs,hw,h1,h2,h3⟩:=hr.sat.blk k _ hk;have v3:∀(i:Nat)x,l2[i]? =some x->(enc x).length=s:=λi x _=>he x
 have v2:news.length=l2.length*s:=by rw[N.1,zq l2 v3]
 have x0:∀u∈news,u.oneCell'=true:=λu hu=>by
  obtain⟨q,hq⟩:=jL.1 hu;have H:q<(l2.flatMap enc).length:=by rw[←N.1];grind
  have hc:=jC H;have w2:(l2.flatMap enc)[q]∈l2.flatMap enc:=wK H;obtain⟨p,hp,v1⟩:=x4.1 w2;obtain⟨q',v0⟩:=jL.1 v1;exact(za9 (N.2 q _ u hc hq) (zdO (v4 p) v0)).2
 obtain⟨v',w',xT,G,hg,hb⟩:=zn6 (P:=P) w (t:=t) (ty:=ty) ht hi hs v5 hw (A:=A) (m:=l2.length) (c:=c) v2 (λhm=>x2 (λe=>hm (by simp[e]))) x0 x1;have ek:=zn (yq hr hx)
 have e0:(execOp a.eval {dst:=dst,op:=.call {callee:=.builtin .append,args:= #[x,y],argTypes:= #[t,t]},type:=ty,pos:=pos,after:=af,guard:=gd}).run P w=.ok (.value v') w':=by
  simp[execOp,resolve,invoke,builtin,←ek,ey,xT]
 unfold wp1;rw[e0];refine hK _ w' (g.mv C.d k v' v'.ownBlock) ?_
 have hold:∀b,v'.ownBlock=some b->b<w.heap.size->g.O b=some (C.d,k)/\C.okb b:=λb k7 H=>by
  grind[zds]
 refine hr.modifyR (g':=g.mv C.d k v' v'.ownBlock) (bo:=(g.ρ k).ownBlock) rfl (λn hn=>by simp[Gh.mv,hn]) (λb H=>?_) (λb k9=>h3 b (by rw[zds hw];exact k9)) hg (zj6 _ _ xT) ⟨λb k' hO=>?_,hr.sat.ob.2⟩ hd ?_ ?_
 ·simp_all[Gh.mv]
 ·simp only[Gh.mv]at hO;split at hO
  ·rename_i e;exact zbR G (by rw[zds G];exact e)
  ·exact w7 (hr.sat.ob.1 b k' hO) hg.size
 ·rcases G.2 with⟨e,_⟩|⟨b,cap,cur,e,_⟩<;>subst e<;>exact .own k _ _ _ (by simp[Gh.mv])
 ·have k8:∀(i:Nat)x,(l++l2)[i]? =some x->(enc x).length=s:=λi x _=>he x
  refine⟨xs++news,?_,k8,?_,λb v9=>?_⟩
  ·simp_all[Gh.mv]
  ·intro i p j cc v hp hc hv;have k6:j<s:=by grind
   by_cases v8:i<l.length
   ·rw[u5 v8]at hp
    have H:i*s+j<l.length*s:=by
     have h2:(i+1)*s<=l.length*s:=jX s v8;have h3:(i+1)*s=i*s+s:=xL i s;omega
    rw[u5 (by rw[hw.1];exact H)]at hv
    grind[Gh.mv]
   ·rw[wC aa]at hp
    have e2:i*s+j=l.length*s+((i-l.length)*s+j):=by
     have:i=l.length+(i-l.length):=aa
     rw[this,Nat.add_mul];simp;omega
    rw[e2,wC (by rw[hw.1];omega),hw.1,show l.length*s+((i-l.length)*s+j)-l.length*s=(i-l.length)*s+j by omega]at hv
    grind[zb0,Gh.mv]
  ·have e1:(g.mv C.d k v' v'.ownBlock).ρ k=v':=by simp[Gh.mv]
   rw[e1,zds G]at v9;refine⟨by simp[Gh.mv,v9],?_⟩;by_cases H:b<w.heap.size
   ·simp_all
   ·exact .inl (jV hr.ext.size aa)
def zaZ{enc:α->List AV}{E2:TypeId}{s2 k2:Nat}
 (hx:ev st x=some (.own k))(hk:lk st.h k=some (.row enc l E s))(hy:ev st y=some (.own k2))(G:lk st.h k2=some (.row enc l2 E2 s2))(ht:slOk P t E=true)(hi:y7 P E z s bytes)(hs:0<s)(xT:bytes<=1024)(he:∀z,(enc z).length=s)(x2:∀z,scL (enc z)=true)
 (N:l.length+l2.length<=4294967296)(hd:dOk C.n dst=true):
 yu P C (.call {callee:=.builtin .append,args:= #[x,y],argTypes:= #[t,t]}) ty dst st {t:=consT dst (.own k) (clT k st.t),h:=(k,.row enc (l++l2) E s)::clH k st.h}:=λg a w pos af gd hr K hK=>by
 obtain⟨xs,hw,h1,h2,h3⟩:=hr.sat.blk k2 _ G;have ek:=zn (yq hr hy)
 have x1:l2≠[]->s2=s:=λx0=>by
  cases l2 with
  |nil=>grind
  |cons p r=>exact(h1 0 p ah).symm.trans (he p)
 have w2:xs.length=l2.length*s:=by
  cases l2 with
  |nil=>simpa using hw.1
  |cons p r=>rw[hw.1,x1 ah]
 have H:∀(i:Nat)x,l2[i]? =some x->(enc x).length=s:=λi x _=>he x
 have v9:RVL g.I noNames (l2.flatMap enc) xs:=by
  refine⟨by rw[w2,zq l2 H],λj c v hc hv=>?_⟩;have hj:j<l2.length*s:=by rw[←zq l2 H];exact(j5.1 hc).1
  have hq:j/s<l2.length:=vE (by rw[u3];exact hj);have v5:j/s*s+j%s=j:=by rw[u3];exact vT j s
  have v4:j%s<s:=xY _ hs;have hp:=jC hq
  grind[zdr]
 rcases hw.2 with⟨e,h0⟩|⟨b,cap,cur,e,_,hh,v3,v2,v8,v1⟩
 ·grind[zc9]
 ·rw[ek]at e;refine zc9 hr hx hk ht hi hs xT he (A:=some ⟨b,0,none⟩) (c:=cap) (news:=xs) e (λx0=>⟨b,0,rfl,λj u hu=>?_⟩) v9 x2 N hd K hK
  grind[World.cell?]
def zaw{enc:α->List AV}
 (hx:ev st x=some (.own k))(hk:lk st.h k=some (.row enc l E s))(hy:ev st y=some (.sl enc l2))(ht:slOk P t E=true)(hi:y7 P E z s bytes)(hs:0<s)(xT:bytes<=1024)(he:∀z,(enc z).length=s)(x2:∀z,scL (enc z)=true)
 (G:l.length+l2.length<=4294967296)(hd:dOk C.n dst=true):
 yu P C (.call {callee:=.builtin .append,args:= #[x,y],argTypes:= #[t,t]}) ty dst st {t:=consT dst (.own k) (clT k st.t),h:=(k,.row enc (l++l2) E s)::clH k st.h}:=λg a w pos af gd hr K hK=>by
 obtain⟨A,b,o,s',c,vs,e,hA,_,_,h1,h2,h3⟩:=zcF (yq hr hy)
 have x1:l2≠[]->s'=s:=λH=>by
  cases l2 with
  |nil=>grind
  |cons p r=>exact(h1 0 p ah).symm.trans (he p)
 have x0:∀(i:Nat)x,l2[i]? =some x->(enc x).length=s:=λi x _=>he x
 let news:=(List.range (l2.length*s)).map λq=>vs (q/s) (q%s)
 have N:∀j u,news[j]? =some u->j<l2.length*s/\u=vs (j/s) (j%s):=λj u hu=>by
  grind
 refine zc9 hr hx hk ht hi hs xT he (A:=A) (c:=c) (news:=news) e (λH=>⟨b,o,hA H,λj u hu=>?_⟩) ⟨by simp[news,zq l2 x0],λj c v hc hv=>?_⟩ x2 G hd K hK
 ·obtain⟨hj,rfl⟩:=N j u hu;have hq:j/s<l2.length:=vE (by rw[u3];exact hj);have w2:j/s*s+j%s=j:=by rw[u3];exact vT j s
  have e2:=x1 H;subst e2;have:=h2 (j/s') _ (j%s') (jC hq) (xY _ hs);have h4:=(hr.sat.im _ _ _ this).1
  grind
 ·obtain⟨hj,rfl⟩:=N j v hv;have hq:j/s<l2.length:=vE (by rw[u3];exact hj);have w2:j/s*s+j%s=j:=by rw[u3];exact vT j s
  have v9:j%s<s:=xY _ hs;have hp:=jC hq
  grind[zdr]
end
end Go.Rse
namespace Go.Rse
open Go Go.RowKit
variable{E:Nat}{J:Nat->Option Value}{P:Program}{a:Act}{b:Nat}{c:Code}{k:Nat}{ops:Array Oper}{s:Nat}{w:World}{α:Type}{ρ:Nat->Value}{l:List α}
def Imp(C:Ctx)(st st':St):Prop:=∀g a w,Rel C st g a w->∃g',Rel C st' g' a w
def Imp.refl{C:Ctx}{st:St}:Imp C st st:=λg a w h=>⟨g,h⟩
def Imp.trans{C:Ctx}{st st' st'':St}(h:Imp C st st')(N:Imp C st' st''):Imp C st st'':=λg a w hr=>let⟨g',h1⟩:=h g a w hr;N g' a w h1
def yl{C:Ctx}{st st':St}{Q:Exit->St->Prop}(h:Imp C st st')(hx:X P C c st' Q):X P C c st Q:=λg a w hr=>let⟨g',h1⟩:=h g a w hr;hx g' a w h1
def yY{C:Ctx}{l:List Oper}{st st':St}{Q:Exit->St->Prop}(h:Imp C st st')(hx:Ex P C ops l st' Q):Ex P C ops l st Q:=λg a w hr=>let⟨g',h1⟩:=h g a w hr;hx g' a w h1
def LeV(x y:AV):Prop:=∀(I:Im)(ρ:Nat->Value)(v:Value),RV I ρ x v->RV I ρ y v
def LeV.refl(x:AV):LeV x x:=λ_ _ _ h=>h
theorem LeV.eq{x y:AV}(h:x=y):LeV x y:=h▸LeV.refl x
def LeV.nils(enc:α->List AV):LeV .nils (.sl enc []):=λI ρ v h=>by
 rw[zbG h];exact .sl enc [] none 0 0 0 0 (λ_ _=>.nilIface) (λh=>absurd rfl h) (jG _) (jU _) (λi x h=>by simp at h) (λi x j h=>by simp at h) (λi x j c h=>by simp at h)
def LeV.ifb{x y:AV}(h:LeV x y):LeV (.ifb true x) y:=λI ρ v N=>h I ρ v (zl6 N rfl)
inductive LeL:List AV->List AV->Prop
 |nil:LeL [] []
 |cons{x y:AV}{xs ys:List AV}(h:LeV x y)(hs:LeL xs ys):LeL (x::xs) (y::ys)
def LeL.refl:∀xs,LeL xs xs
 |[]=>.nil
 |x::r=>.cons (LeV.refl x) (LeL.refl r)
def LeL.rvl{I:Im}{xs ys:List AV}(h:LeL xs ys):∀{vs:List Value},RVL I ρ xs vs->RVL I ρ ys vs:=by
 induction h with
 |nil=>simp
 |cons hx hs ih=>
  intro vs h;cases vs with
  |nil=>have:=h.1;simp at this
  |cons v r=>
   have ih':=ih (vs:=r) ⟨by simpa using h.1,λj c u N H=>h.2 (j+1) c u (ao N) (ao H)⟩;refine⟨by simpa using ih'.1,λj c u N H=>?_⟩;cases j with
   |zero=>simp at N H;subst N;subst H;exact hx I ρ v (h.2 0 _ v ah ah)
   |succ j=>exact ih'.2 j c u (ao N) (ao H)
def LeB(B B':Blk):Prop:=∀(C:Ctx)(g:Gh)(w:World)(k:Nat),yM C g w k B->yM C g w k B'
def LeB.refl(B:Blk):LeB B B:=λ_ _ _ _ h=>h
theorem LeB.eq{B B':Blk}(h:B=B'):LeB B B':=h▸LeB.refl B
def LeB.row{enc:α->List AV}{l':List α}{E:TypeId}(h:l=l'):LeB (.row enc l E s) (.row enc l' E s):=h▸LeB.refl _
def LeB.box{cs cs':List AV}{E:TypeId}(h:LeL cs cs'):LeB (.box cs E) (.box cs' E):=λC g w k G=>by
 obtain⟨b,vs,h1,h2,h3,h4,h5,h6⟩:=G;have:=h.rvl (I:=g.I) (ρ:=g.ρ) (vs:=vs.toList) ⟨by simpa using h5,λj c v N H=>h6 j c v N (ao H)⟩;exact⟨b,vs,h1,h2,h3,h4,by simpa using this.1,λj c v N H=>this.2 j c v N (ao H)⟩
def impT(st:St):List (Nat×AV)->Prop
 |[]=>True
 |(t,x)::r=>(∃y,lk st.t t=some y/\LeV y x)/\impT st r
def impH(st:St):List (Nat×Blk)->Prop
 |[]=>True
 |(k,B)::r=>(∃B',lk st.h k=some B'/\LeB B' B)/\impH st r
def zpB{st:St}:∀{l:List (Nat×AV)},impT st l->∀{t:Nat}{x:AV},lk l t=some x->∃y,lk st.t t=some y/\LeV y x
 |[],_,_,_,h=>by simp[lk]at h
 |(t',x')::r,h,t,x,e=>by
  simp only[ym]at e;cases N:t'.beq t<;>simp[N]at e
  ·exact zpB h.2 e
  ·have:t'=t:=ao N
   subst this;subst e;exact h.1
def zpC{st:St}:∀{l:List (Nat×Blk)},impH st l->∀{t:Nat}{x:Blk},lk l t=some x->∃y,lk st.h t=some y/\LeB y x
 |[],_,_,_,h=>by simp[lk]at h
 |(t',x')::r,h,t,x,e=>by
  simp only[ym]at e;cases N:t'.beq t<;>simp[N]at e
  ·exact zpC h.2 e
  ·have:t'=t:=ao N
   subst this;subst e;exact h.1
def Rel.of{C:Ctx}{st:St}{ts:List (Nat×AV)}{hs:List (Nat×Blk)}{g:Gh}(hr:Rel C st g a w)(h1:impT st ts)(G:impH st hs):Rel C ⟨ts,hs⟩ g a w:=
 ⟨hr.size,hr.defers,λt x hx=>let⟨y,hy,N⟩:=zpB h1 hx;N _ _ _ (hr.tmps t y hy),⟨hr.sat.im,hr.sat.ob,λk B hB=>let⟨B',H,N⟩:=zpC G hB;N C g w k (hr.sat.blk k B' H)⟩,hr.ext⟩
def Imp.of{C:Ctx}{st:St}{ts:List (Nat×AV)}{hs:List (Nat×Blk)}(h1:impT st ts)(N:impH st hs):Imp C st ⟨ts,hs⟩:=λg a w hr=>⟨g,hr.of h1 N⟩
def yz{C:Ctx}{st:St}(enc:α->List AV)(E s t k:Nat)(ht:lk st.t t=some .nils)(hf:st.fr k=true):Imp C st {t:=(t,.own k)::st.t,h:=(k,.row enc [] E s)::st.h}:=λg a w hr=>by
 have H:=zbG (hr.tmps t _ ht)
 have G:Add (some k) g w {ρ:=λn=>if n=k then .slice none 0 0 else g.ρ n,I:=g.I,O:=g.O} w:=⟨Im.le_refl _,λn hn=>by
  grind,λ_ _=>rfl,Grow.refl w⟩
 have h1:=hr.add (d:=none) (x:=.any) (v:=.nilIface) G (λn hn=>by simp_all) (λt h=>by simp at h) (.any _) hr.sat.im hr.sat.ob;refine⟨_,h1.size,h1.defers,λt' x hx=>?_,(h1.withBlk (k:=k) (B:=.row enc [] E s) ⟨[],⟨ah,.inl ⟨ah,rfl⟩⟩,λi x h=>by simp at h,λi x j c v h=>by simp at h,λb N=>by simp[yT]at N⟩).sat,h1.ext⟩;simp only[ym]at hx;cases N:t.beq t'<;>simp[N]at hx
 ·exact h1.tmps t' x hx
 ·have:t=t':=ao N
  subst this;subst hx;show RV _ _ _ (a.tmps.getD t undef);rw[H];exact .own k none 0 0 ah
def frz(k:Nat)(enc:α->List AV)(l:List α):AV->AV
 |.own k'=>bif k'.beq k then .sl enc l else .own k'
 |x=>cln k x
def mapT(f:AV->AV):List (Nat×AV)->List (Nat×AV)
 |[]=>[]
 |(t,x)::r=>(t,f x)::mapT f r
def mapB(f:AV->AV):Blk->Blk
 |.box cs E=>.box (cs.map f) E
 |.hold vs cs=>.hold vs (cs.map f)
 |B=>B
def mapH(f:AV->AV):List (Nat×Blk)->List (Nat×Blk)
 |[]=>[]
 |(n,B)::r=>(n,mapB f B)::mapH f r
def zgE(f:AV->AV)(t:Nat):∀l,lk (mapT f l) t=(lk l t).map f
 |[]=>rfl
 |(t',x)::r=>by
  simp only[mapT,ym];cases t'.beq t<;>simp[zgE f t r]
def zeT(f:AV->AV)(t:Nat):∀l,lk (mapH f l) t=(lk l t).map (mapB f)
 |[]=>rfl
 |(t',x)::r=>by
  simp only[mapH,ym];cases t'.beq t<;>simp[zeT f t r]
def Rel.letgo{C:Ctx}{st:St}{g:Gh}(h:Rel C st g a w)(f:AV->AV)(hb:g.O b=some (C.d,k)/\C.okb b)(hJ:∀o v,J o=some v->w.cell? ⟨b,o,none⟩=some v)
 (hf:∀x v,RV g.I g.ρ x v->RV (λb' o=>if b'=b then J o else g.I b' o) g.ρ (f x) v):
 Rel C {t:=mapT f st.t,h:=(k,.dead)::mapH f st.h} {ρ:=g.ρ,I:=λb' o=>if b'=b then J o else g.I b' o,O:=λb'=>if b'=b then none else g.O b'} a w:=by
 have N:Im.le g.I (λb' o=>if b'=b then J o else g.I b' o):=λb' o v hI=>by
  have:b'≠b:=λe=>by have:=(h.sat.im b' o v hI).2;simp_all
  simp[this,hI]
 have x0:Dfs C {ρ:=g.ρ,I:=λb' o=>if b'=b then J o else g.I b' o,O:=λb'=>if b'=b then none else g.O b'} a.defers w:=by
  obtain⟨D,h1,hn,h2⟩:=h.defers
  grind[Dfs]
 have H:ImOB {ρ:=g.ρ,I:=λb' o=>if b'=b then J o else g.I b' o,O:=λb'=>if b'=b then none else g.O b'} w:=by
  refine⟨λb' o u hI=>?_,λb' k' hO=>?_,Im.le_trans h.sat.ob.2 N⟩
  ·by_cases e:b'=b
   ·simp_all
   ·simp[e]at hI;simp only[e,if_false];exact h.sat.im b' o u hI
  ·simp only at hO;split at hO
   ·simp at hO
   ·exact h.sat.ob.1 b' k' hO
 refine⟨h.size,x0,λt x hx=>?_,⟨H.1,H.2,λk' B G=>?_⟩,?_⟩
 ·rw[zgE]at hx;cases hz:lk st.t t with
  |none=>simp[hz]at hx
  |some z=>simp[hz]at hx;subst hx;exact hf z _ (h.tmps t z hz)
 ·simp only[ym]at G;cases x2:k.beq k'<;>simp[x2]at G
  ·have w2:k'≠k:=λe=>by subst e;simp at x2
   rw[zeT]at G;cases hz:lk st.h k' with
   |none=>simp[hz]at G
   |some B0=>
    simp[hz]at G;subst G;have h0:=h.sat.blk k' B0 hz;cases B0 with
    |box cs E=>
     grind[yM,mapB]
    |row enc l E s=>
     obtain⟨xs,h1,h2,h3,h4⟩:=h0;refine⟨xs,h1,h2,λi x j c v hx hc hv=>(h3 i x j c v hx hc hv).mono N,λb2 v5=>?_⟩
     grind
    |hold vs cs=>
     refine⟨by simpa using h0.1,λj c v hc hv=>?_⟩;rw[j9]at hc;cases xT:cs[j]? with
     |none=>simp[xT]at hc
     |some c0=>simp[xT]at hc;subst hc;exact hf c0 v (h0.2 j c0 v xT hv)
    |obj b2 o=>
     grind[yM,mapB]
    |yld j on=>
     refine zgB (bo:=some b) h0 N (λb' _ x1=>?_) (λb' e=>by simp_all) ⟨rfl,rfl,rfl,jG _,λ_ _ _=>rfl⟩ (jG _) (λb' n hn=>?_) H
     ·grind
     ·simp only at hn;split at hn
      ·simp at hn
      ·exact h0.2.2.2.1 b' n hn
    |mpb kenc venc l=>
     obtain⟨b2,es,ck,h1,h2,h3,h4,h5,h6⟩:=h0;have x1:b2≠b:=λe=>w2 ak
     exact⟨b2,es,ck,h1,by grind,h3,h4,h5,λi e p he hp=>⟨(h6 i e p he hp).1.mono N,(h6 i e p he hp).2.mono N⟩⟩
    |dead=>trivial
  ·subst G;trivial
 ·exact⟨Im.le_trans h.ext.I N,h.ext.os,h.ext.tape,h.ext.output,h.ext.drawn,h.ext.size,λb' v9 hn ho=>by
   have x1:b'≠b:=λe=>hn (e▸hb.2)
   obtain⟨h1,h2⟩:=h.ext.keep b' v9 hn ho
   simp_all,λb' y n v8 hy=>by
    simp only at hy;split at hy
    ·simp at hy
    ·exact h.ext.own b' y n v8 hy⟩
def Imp.freeze{C:Ctx}{st:St}{enc:α->List AV}(hk:lk st.h k=some (.row enc l E s)):Imp C st {t:=mapT (frz k enc l) st.t,h:=(k,.dead)::mapH (frz k enc l) st.h}:=λg a w hr=>by
 obtain⟨xs,hw,h1,h2,h3⟩:=hr.sat.blk k _ hk;rcases hw.2 with⟨e,h0⟩|⟨b,cap,cur,e,_,hh,v5,v4,v0,k9⟩
 ·have v3:l=[]:=jT h0;subst v3
  have v9:∀x v,RV g.I g.ρ x v->RV g.I g.ρ (frz k enc [] x) v:=λx v hx=>by
   have N:RV g.I g.ρ (cln k x) v:=hx.cln (λ_ _=>rfl);cases x<;>try exact N
   case own k'=>
    simp only[frz];cases hb:k'.beq k with
    |false=>exact hx
    |true=>
     have:k'=k:=ao hb
     subst this;have:=zn hx;rw[e]at this;subst this;exact .sl enc [] none 0 0 0 0 (λ_ _=>.nilIface) (λh=>absurd rfl h) (jG _) (jU _) (λi x h=>by simp at h) (λi x j h=>by simp at h) (λi x j c h=>by simp at h)
  refine⟨g,hr.size,hr.defers,λt x hx=>?_,⟨hr.sat.im,hr.sat.ob,λk' B H=>?_⟩,hr.ext⟩
  ·rw[zgE]at hx;cases G:lk st.t t with
   |none=>simp[G]at hx
   |some z=>simp[G]at hx;subst hx;exact v9 z _ (hr.tmps t z G)
  ·simp only[ym]at H;cases v2:k.beq k'<;>simp[v2]at H
   ·rw[zeT]at H;cases G:lk st.h k' with
    |none=>simp[G]at H
    |some B0=>
     simp[G]at H;subst H;have h0:=hr.sat.blk k' B0 G;cases B0 with
     |box cs E=>
      grind[yM,mapB]
     |hold vs cs=>
      refine⟨by simpa using h0.1,λj c v hc hv=>?_⟩;rw[j9]at hc;cases xT:cs[j]? with
      |none=>simp[xT]at hc
      |some c0=>simp[xT]at hc;subst hc;exact v9 c0 v (h0.2 j c0 v xT hv)
     |row _ _ _ _=>exact h0
     |obj _ _=>exact h0
     |yld _ _=>exact h0
     |mpb _ _ _=>exact h0
     |dead=>trivial
   ·subst H;trivial
 ·have ho:=h3 b (by rw[e];rfl);let J:Nat->Option Value:=λo=>if o<l.length*s then w.cell? ⟨b,o,none⟩else none
  have x2:∀o,o<l.length*s->w.cell? ⟨b,o,none⟩=xs[o]? :=λo ho=>by
   grind[World.cell?]
  refine⟨_,hr.letgo (b:=b) (J:=J) (frz k enc l) ho (λo v hv=>by grind) λx v hx=>?_⟩
  have x1:Im.le g.I (λb' o=>if b'=b then J o else g.I b' o):=λb' o v hI=>by
   have:b'≠b:=λe=>by have:=(hr.sat.im b' o v hI).2;simp_all
   simp[this,hI]
  have N:RV (λb' o=>if b'=b then J o else g.I b' o) g.ρ (cln k x) v:=(hx.mono x1).cln (λ_ _=>rfl);cases x<;>try exact N
  case own k'=>
   simp only[frz];cases hb:k'.beq k with
   |false=>exact hx.mono x1
   |true=>
    have:k'=k:=ao hb
    subst this;have:=zn hx;rw[e]at this;subst this
    have v8:∀(i:Nat)(x:α)(j:Nat),l[i]? =some x->j<s->i*s+j<l.length*s:=λi x j hx hj=>by
     have v1:i<l.length:=(j5.1 hx).1;have h2:(i+1)*s<=l.length*s:=jX s v1
     grind
    refine .sl enc l _ b 0 s cap (λi j=>xs.getD (i*s+j) .nilIface) (λ_=>rfl) v5 v4 h1 (λi x j hx hj=>?_) (λi x j c hx hc=>?_)
    ·have x0:=v8 i x j hx hj;simp only[if_true,u6,J];rw[j7 x0,x2 _ x0];have w2:i*s+j<xs.length:=by rw[hw.1];exact x0
     simp_all
    ·have k8:j<s:=by grind
     have w2:i*s+j<xs.length:=by rw[hw.1];simp_all
     have:=h2 i x j c _ hx hc (jC w2);simp only[List.getD,jC w2,xN];exact this.mono x1
def frzB(k:Nat)(cs:List AV):AV->AV
 |.ptr k' s i j=>bif k'.beq k then .ept (λ_:Unit=>cs) () (i*s+j)else .ptr k' s i j
 |.fn f caps=>.fn f (caps.map λc=>match c with|.ptr k' s i j=>(bif k'.beq k then .ept (λ_:Unit=>cs) () (i*s+j)else .ptr k' s i j)|c=>cln k c)
 |x=>cln k x
def Rel.freezeBox{C:Ctx}{st:St}{cs:List AV}{g:Gh}(hr:Rel C st g a w)(hk:lk st.h k=some (.box cs E))(hn:AV.nm.nmL cs=true):∃g',Rel C {t:=mapT (frzB k cs) st.t,h:=(k,.dead)::mapH (frzB k cs) st.h} g' a w/\(∀b,g.O b=none->g'.O b=none)/\Im.le g.I g'.I:=by
 obtain⟨b,vs,h1,h2,h3,h4,h5,h6⟩:=hr.sat.blk k _ hk;let J:Nat->Option Value:=λo=>vs[o]?
 have N:Im.le g.I (λb' o=>if b'=b then J o else g.I b' o):=λb' o v hI=>by
  have:b'≠b:=λe=>by have:=(hr.sat.im b' o v hI).2;simp_all
  simp[this,hI]
 refine⟨_,hr.letgo (b:=b) (J:=J) (frzB k cs) ⟨h2,h3⟩ (λo v hv=>by grind[World.cell?]) λx v hx=>?_,λb' G=>by simp only[G,ite_self],N⟩
 have xT:∀{k' s i j:Nat}{v:Value},RV g.I g.ρ (.ptr k' s i j) v->RV (λb' o=>if b'=b then J o else g.I b' o) g.ρ (bif k'.beq k then .ept (λ_:Unit=>cs) () (i*s+j)else .ptr k' s i j) v:=λ{k' s i j v}hx=>by
  cases hb:k'.beq k with
  |false=>exact hx.mono N
  |true=>
   have:k'=k:=ao hb
   subst this;obtain⟨b',G,e⟩:=zad hx;have:b'=b:=by simp_all[yT]
   subst this;subst e
   have h0:=RV.ept (I:=λb'' o=>if b''=b' then J o else g.I b'' o) (ρ:=g.ρ) (λ_:Unit=>cs) () (i*s+j) b' 0 (λj=>vs.getD j .nilIface) (λj hj=>by
    have H:j<vs.size:=by rw[h5];exact hj
    simp[J,H]) (λj c hc=>by
    have H:j<vs.size:=by grind
    have:=h6 j c _ hc (jZ H);simpa[H]using(this.mono N).forget (zw hn hc))
   simpa using h0
 have x2:∀{x:AV}{v:Value},RV g.I g.ρ x v->RV (λb' o=>if b'=b then J o else g.I b' o) g.ρ (cln k x) v:=λhx=>(hx.mono N).cln (λ_ _=>rfl)
 cases x<;>try exact x2 hx
 case ptr k' s i j=>exact xT hx
 case fn f caps=>
  obtain⟨us,e,hl,hu⟩:=zcE hx;subst e;refine .fn f _ us (ao hl) λj c u hc x1=>?_
  grind
def Imp.freezeBox{C:Ctx}{st:St}{cs:List AV}(hk:lk st.h k=some (.box cs E))(hn:AV.nm.nmL cs=true):Imp C st {t:=mapT (frzB k cs) st.t,h:=(k,.dead)::mapH (frzB k cs) st.h}:=λg a w hr=>
 let⟨g',h,_⟩:=hr.freezeBox hk hn;⟨g',h⟩
end Go.Rse
namespace Go.Rse
open Go Go.RowKit
variable{a:Act}{args:List Value}{c:Code}{e:Exit}{f:FuncId}{fn:Func}{m:Nat}{rv:List ResultVar}{w:World}{ρ:Nat->Value}
def zcb(next:St->Prop)(Q:Exit->St->Prop):Exit->St->Prop
 |.normal,st=>next st
 |e,st=>Q e st
def inB(id:Nat)(Q:Exit->St->Prop):Exit->St->Prop
 |.exit id',st=>if id'=id then Q .normal st else Q (.exit id') st
 |e,st=>Q e st
section
variable{P:Program}{C:Ctx}{st:St}{Q:Exit->St->Prop}
variable{b:Bool}{c:Code}{id:Nat}{l:List Oper}{ops:Array Oper}{x y:Code}{ι:Type}
def yf(h:Q .normal st):X P C .skip st Q:=λg a w hr=>wpIn_skip ⟨st,g,hr,h⟩
def X.exit(h:Q (.exit id) st):X P C (.exit id) st Q:=λg a w hr=>wpIn_exit ⟨st,g,hr,h⟩
def X.ret(h:Q .ret st):X P C .ret st Q:=λg a w hr=>wpIn_ret ⟨st,g,hr,h⟩
def X.label{l:Nat}(h:Q .normal st):X P C (.label l) st Q:=λg a w hr=>wpIn_label ⟨st,g,hr,h⟩
def X.mono{Q':Exit->St->Prop}(h:X P C c st Q)(N:∀e st,Q e st->Q' e st):X P C c st Q':=λg a w hr=>
 wpIn_mono (h g a w hr) λe a w⟨st,g,hr,q⟩=>⟨st,g,hr,N e st q⟩
def ye(h:X P C x st (zcb (λst=>X P C y st Q) Q)):X P C (.seq x y) st Q:=λg a w hr=>
 wpIn_seq (wpIn_mono (h g a w hr) λe a w⟨st,g,hr,q⟩=>by
  cases e<;>first
   |exact q g a w hr
   |exact⟨st,g,hr,q⟩)
def X.cond{c:Operand}(N:ev st c=some (.bool b))(ht:b=true->X P C x st Q)(hf:b=false->X P C y st Q):X P C (.cond c x y) st Q:=λg a w hr=>
 wpIn_cond_split (z8 (yq hr N)) (λh=>ht h g a w hr) (λh=>hf h g a w hr)
def X.block(h:X P C c st (inB id Q)):X P C (.block id c) st Q:=λg a w hr=>
 wpIn_block (wpIn_mono (h g a w hr) λe a w⟨st,g,hr,q⟩=>by
  cases e
  case exit id'=>
   grind[inB,Exit.inBlock,lift]
  all_goals exact⟨st,g,hr,q⟩)
def yd(h:Ex P C l.toArray l st Q):X P C (.region id l.toArray false) st Q:=λg a w hr=>wpIn_region_lit (h g a w hr)
def yc(h:Ex P C l.toArray l st (zcb (λst=>X P C y st Q) Q)):X P C (.seq (.region id l.toArray false) y) st Q:=ye (yd h)
def yp(h:Ex P C l.toArray l st (zcb (λst=>X P C y st Q) Q)):Ex P C ops [] st (zcb (λst=>X P C (.seq (.region id l.toArray false) y) st Q) Q):=Ex.nil (ye (yd h))
def X.loop(I:ι->St)(J:ι->Prop)(μ:ι->Nat)(i0:ι)(h0:Imp C st (I i0))(hJ:J i0)
 (h:∀i,J i->X P C c (I i) (zcb (λst'=>∃i',Imp C st' (I i')/\J i'/\μ i'<μ i) Q)):X P C (.loop c) st Q:=λg a w hr=>by
 obtain⟨g0,N⟩:=h0 g a w hr;refine wpIn_loop_ghost (λn a w=>∃i g,Rel C (I i) g a w/\J i/\μ i=n) (μ i0) ⟨i0,g0,N,hJ,rfl⟩ ?_
 rintro n a w⟨i,g,hr,H,rfl⟩
 refine wpIn_mono (h i H g a w hr) λe a w⟨st,g,hr,q⟩=>?_
 cases e<;>first
  |(obtain⟨i',hi,G,xT⟩:=q
    obtain⟨g',x2⟩:=hi g a w hr
    grind[Exit.then])
  |exact⟨st,g,hr,q⟩
end
def zy(P:Program)(f:FuncId):Bool:=
 match P.funcs[f]? with
 |some fn=>!(fn.name== "runtime.NumGoroutine")&&fn.body.isSome
 |none=>false
def zN{P:Program}(h:zy P f=true)(args:Array Value)(w:World):(callFunc f args).run P w=.ok (.enter f args) w:=by
 unfold zy at h;split at h
 ·rename_i fn hf;simp only[jE,wP]at h
  have N:fn.body.isNone=false:=by
   simp_all
  simp only[callFunc,jM,run_program,jH,hf,h.1,N];rfl
 ·simp at h
def Fn(P:Program)(f:FuncId)(as:List AV)(r:AV):Prop:=
 zy P f=true/\r.nm=true/\∀(g:Gh)(w:World)(args:List Value),ImOB g w->RVL g.I noNames as args→
  Calls P f args.toArray w λe w'=>∃v g',e=.returned v/\RV g'.I noNames r v/\Add none g w g' w'/\ImOB g' w'
def evs(st:St):List Operand->Option (List AV)
 |[]=>some []
 |x::r=>match ev st x,evs st r with
  |some y,some ys=>some (y::ys)
  |_,_=>none
def zdP{C:Ctx}{st:St}{g:Gh}{a:Act}{w:World}(hr:Rel C st g a w):∀{xs:List Operand}{ys:List AV},evs st xs=some ys->RVL g.I g.ρ ys (xs.map a.eval)
 |[],ys,h=>by grind[evs,RVL]
 |x::r,ys,h=>by
  simp only[evs]at h;cases h1:ev st x with
  |none=>simp[h1]at h
  |some y=>
   cases N:evs st r with
   |none=>simp[h1,N]at h
   |some zs=>
    simp[h1,N]at h;subst h;obtain⟨hl,H⟩:=zdP hr N
    grind[yq,RVL]
def RVL.forget{I:Im}{ρ':Nat->Value}{xs:List AV}{vs:List Value}(h:RVL I ρ xs vs)(hn:AV.nm.nmL xs=true):RVL I ρ' xs vs:=⟨h.1,λj c v N H=>(h.2 j c v N H).forget (zw hn N)⟩
def RVL.append{I:Im}{xs ys:List AV}{vs us:List Value}(h:RVL I ρ xs vs)(N:RVL I ρ ys us):RVL I ρ (xs++ys) (vs++us):=by
 grind[RVL]
section
variable{P:Program}{C:Ctx}{st:St}{ty:TypeId}
def za4{fop:Operand}{args:Array Operand}{ts:Array TypeId}{f:FuncId}{caps xs as:List AV}{r:AV}(hf:ev st fop=some (.fn f caps))(hx:evs st args.toList=some xs)(hn:AV.nm.nmL (xs++caps)=true)(G:LeL (xs++caps) as)
 (h:Fn P f as r):yy P C (.call {callee:=.value fop,args:=args,argTypes:=ts}) ty st r none:=λg a w dst pos af gd hr K hK=>by
 obtain⟨us,e,hl,hu⟩:=zcE (yq hr hf);have N:=zdP hr hx;have H:RVL g.I noNames as (args.toList.map a.eval++us):=G.rvl ((N.append ⟨hl,hu⟩).forget hn);have h0:=h.2.2 g w _ ⟨hr.sat.im,hr.sat.ob⟩ H;have e1:(args.toList.map a.eval++us).toArray=args.map a.eval++us.toArray:=ak
 rw[e1]at h0
 have e2:(execOp a.eval {dst:=dst,op:=.call {callee:=.value fop,args:=args,argTypes:=ts},type:=ty,pos:=pos,after:=af,guard:=gd}).run P w=.ok (.enter f (args.map a.eval++us.toArray)) w:=by
  simp only[execOp,resolve,e,Deferred.ofValue,jM,jP,jH,invoke,zN h.1];simp
 unfold wp1;rw[e2];refine Calls.mono h0 ?_
 rintro e w'⟨v,g',rfl,h1,h2,h3⟩
 refine⟨v,rfl,?_⟩;have xT:Add none g w {ρ:=g.ρ,I:=g'.I,O:=g'.O} w':=⟨h2.I,λ_ _=>rfl,h2.O,h2.grow⟩;exact hK v w' {ρ:=g.ρ,I:=g'.I,O:=g'.O} xT (h1.forget h.2.1) h3 (λ_ _ h=>by cases h)
def Ex.call{ops:Array Oper}{Q:Exit->St->Prop}{rest:List Oper}{d:Nat}{pos:String}{af:Array Edge}{fop:Operand}{args:Array Operand}{ts:Array TypeId}{f:FuncId}{caps xs:List AV}{r:AV}
 (hf:ev st fop=some (.fn f caps))(hx:evs st args.toList=some xs)(hn:AV.nm.nmL (xs++caps)=true)(h:Fn P f (xs++caps) r)(N:d.blt C.n=true)(hr:Ex P C ops rest {t:=(d,r)::st.t,h:=st.h} Q):
 Ex P C ops ({dst:=some d,op:=.call {callee:=.value fop,args:=args,argTypes:=ts},type:=ty,pos:=pos,after:=af,guard:=none}::rest) st Q:=
 Ex.stepA (za4 hf hx hn (LeL.refl _) h) N rfl hr
end
def zaE:Nat->List AV->List (Nat×AV)
 |_,[]=>[]
 |i,x::r=>(i,x)::zaE (i+1) r
inductive RetV(P:Program)(st:St):ResultVar->AV->Prop
 |tmp{t:Nat}{x y:AV}(h:lk st.t t=some x)(hle:LeV x y):RetV P st (.tmp t) y
 |cellS{t T k s i j:Nat}{cs:List AV}{E:TypeId}{x y:AV}(h:lk st.t t=some (.ptr k s i j))(hk:lk st.h k=some (.box cs E))(hx:cs[i*s+j]? =some x)(ht:tyOk P T false 1=true)(hle:LeV x y):RetV P st (.cell t T) y
 |cellA{t T k s i n:Nat}{cs:List AV}{E:TypeId}{y:AV}(h:lk st.t t=some (.ptr k s i 0))(hk:lk st.h k=some (.box cs E))(hi:i*s=0)(hn:cs.length=n)(ht:tyOk P T true n=true)(hle:LeV (.agg cs) y):RetV P st (.cell t T) y
inductive RetL(P:Program)(st:St):List ResultVar->List AV->Prop
 |nil:RetL P st [] []
 |cons{v:ResultVar}{y:AV}{vs:List ResultVar}{ys:List AV}(h:RetV P st v y)(hs:RetL P st vs ys):RetL P st (v::vs) (y::ys)
inductive RetVs(P:Program)(st:St):List ResultVar->AV->Prop
 |one{v:ResultVar}{y:AV}(h:RetV P st v y):RetVs P st [v] y
 |many{vs:List ResultVar}{ys:List AV}(hl:vs.length≠1)(h:RetL P st vs ys):RetVs P st vs (.tup ys)
def RetQ(P:Program)(C:Ctx)(rv:List ResultVar)(r:AV):Exit->St->Prop:=λe st=>(e=.normal\/e=.ret)/\∃st',Imp C st st'/\RetVs P st' rv r
def RetQ.ret{P:Program}{C:Ctx}{r:AV}{st:St}(h:RetVs P st rv r):RetQ P C rv r .ret st:=⟨.inr rfl,st,Imp.refl,h⟩
def zeU{P:Program}{C:Ctx}{st:St}{t:Nat}{x y:AV}(N:x=y)(h:lk st.t t=some x:=by exact rfl):RetQ P C [.tmp t] y .ret st:=.ret (.one (.tmp h (.eq N)))
def yn{P:Program}{C:Ctx}{st:St}{t t':Nat}{x y x' y':AV}(H:x=y)(N:x'=y')(h:lk st.t t=some x:=by exact rfl)(G:lk st.t t'=some x':=by exact rfl):RetQ P C [.tmp t,.tmp t'] (.tup [y,y']) .ret st:=.ret (.many ah (.cons (.tmp h (.eq H)) (.cons (.tmp G (.eq N)) .nil)))
def yR{P:Program}{C:Ctx}{st:St}{t t' T k s i n:Nat}{cs:List AV}{E:TypeId}{y x' y':AV}(ht:tyOk P T true n=true)(H:.agg cs=y)(N:x'=y')(h:lk st.t t=some (.ptr k s i 0):=by exact rfl)(hk:lk st.h k=some (.box cs E):=by exact rfl)(hi:i*s=0:=by exact rfl)(hn:cs.length=n:=by exact rfl)(G:lk st.t t'=some x':=by exact rfl):RetQ P C [.cell t T,.tmp t'] (.tup [y,y']) .ret st:=.ret (.many ah (.cons (.cellA h hk hi hn ht (.eq H)) (.cons (.tmp G (.eq N)) .nil)))
def yi{P:Program}{C:Ctx}{r:AV}{st st':St}(hi:Imp C st st')(h:RetQ P C rv r e st'):RetQ P C rv r e st:=⟨h.1,let⟨s,h1,N⟩:=h.2;⟨s,hi.trans h1,N⟩⟩
def zhB(tmps:Array Value):ResultVar->Sem Value
 |.tmp t=>pure (tmps.getD t undef)
 |.cell a t=>do loadVar t (←asAddr (tmps.getD a undef))
def zky{P:Program}{C:Ctx}{st:St}{g:Gh}(hr:Rel C st g a w){v:ResultVar}{y:AV}(h:RetV P st v y):∃u,(zhB a.tmps v).run P w=.ok u w/\RV g.I g.ρ y u:=by
 cases h with
 |tmp h N=>exact⟨_,rfl,N _ _ _ (hr.tmps _ _ h)⟩
 |cellS h hk hx ht N=>
  rename_i t T k s i j cs E x;obtain⟨b,H,e⟩:=zad (hr.tmps _ _ h);obtain⟨b',vs,h1,G,h3,h4⟩:=zet (hr.sat.blk k _ hk);have:b'=b:=by rw[h1]at H;simpa[yT]using H
  subst this;have xT:i*s+j<vs.size:=by rw[G];exact(j5.1 hx).1
  have hv:vs[i*s+j]? =some vs[i*s+j]:=jZ xT;refine⟨_,?_,N _ _ _ (h4 _ _ _ hx hv)⟩
  grind[zhB,asAddr,zaT]
 |cellA h hk hi hn ht N=>
  rename_i t T k s i n cs E;obtain⟨b,H,e⟩:=zad (hr.tmps _ _ h);obtain⟨b',vs,h1,G,h3,h4⟩:=zet (hr.sat.blk k _ hk);have:b'=b:=by rw[h1]at H;simpa[yT]using H
  subst this;refine⟨.agg vs.toList.toArray,?_,N _ _ _ (.agg cs vs.toList (ao G) (λj c v hc hv=>h4 j c v hc (ao hv)))⟩
  grind[zU,zhB,asAddr]
def zsT{P:Program}{C:Ctx}{st:St}{g:Gh}(hr:Rel C st g a w){vs:List ResultVar}{ys:List AV}(h:RetL P st vs ys):∃us,(vs.mapM (zhB a.tmps)).run P w=.ok us w/\RVL g.I g.ρ ys us:=by
 induction h with
 |nil=>exact⟨[],rfl,rfl,λj c v N=>by simp at N⟩
 |cons h hs ih=>
  obtain⟨u,h1,h2⟩:=zky hr h;obtain⟨us,h3,H⟩:=ih;refine⟨u::us,?_,by simpa using H.1,λj c v N G=>?_⟩
  ·simp_all
  ·cases j with
   |zero=>simp_all
   |succ j=>exact H.2 j c v (ao N) (ao G)
def zhC{P:Program}{C:Ctx}{st:St}{g:Gh}(hr:Rel C st g a w){r:AV}(H:fn.results=rv.toArray)(h:RetVs P st rv r):∃u,(results fn a.tmps).run P w=.ok u w/\RV g.I g.ρ r u:=by
 have e:results fn a.tmps=(do let vs←rv.toArray.mapM (zhB a.tmps);pure (if h:vs.size=1 then vs[0]else .tuple vs)):=by
  have ef:zhB a.tmps=(λv:ResultVar=>match v with
   |.tmp t=>(pure (a.tmps.getD t undef):Sem Value)
   |.cell b t=>(do loadVar t (←asAddr (a.tmps.getD b undef)))):=funext λv=>by cases v<;>rfl
  simp only[results,H,ef];rfl
 have em:∀us,(rv.mapM (zhB a.tmps)).run P w=.ok us w->(rv.toArray.mapM (zhB a.tmps)).run P w=.ok us.toArray w:=λus x2=>by
  simp_all
 rw[e];cases h with
 |one h=>
  obtain⟨u,h1,N⟩:=zky hr h;simp_all
 |many hl h=>
  obtain⟨us,h1,N⟩:=zsT hr h
  have xT:us.length≠1:=by
   have:=N.1;rename_i ys
   have G:∀{vs:List ResultVar}{ys:List AV},RetL P st vs ys->vs.length=ys.length:=λh=>by
    induction h with
    |nil=>rfl
    |cons _ _ ih=>simp[ih]
   rw[this,←G h];exact hl
  refine⟨.tuple us.toArray,?_,.tup _ us N.1 N.2⟩;simp_all
def zdt{I:Im}{ρ:Nat->Value}:∀(as:List AV)(i:Nat)(t:Nat)(x:AV),lk (zaE i as) t=some x->i<=t/\as[t-i]? =some x
 |[],_,_,_,h=>by simp[zaE,lk]at h
 |y::r,i,t,x,h=>by
  simp only[zaE,ym]at h;cases N:i.beq t<;>simp[N]at h
  ·have H:i≠t:=beqF.1 N;obtain⟨h1,G⟩:=zdt (I:=I) (ρ:=ρ) r (i+1) t x h;refine⟨aa,?_⟩;rw[show t-i=(t-(i+1))+1 by omega];simpa using G
  simp_all
def yM.farN{C:Ctx}{g:Gh}{w':World}{b k2:Nat}{B:Blk}(h:yM C g w k2 B)(hm:w.grownBy w' (some b))(xT:w.drawn<=w'.drawn)(hb:g.O b=none)(hw:C.w0.heap.size<=b)(x2:ImOB g w'):yM C g w' k2 B:=by
 cases B with
 |box cs E=>
  obtain⟨b2,vs,h1,H,G,h4,h5,h6⟩:=h
  have x1:b2<w.heap.size:=by
   grind
  have N:b2≠b:=λe=>by simp_all
  exact⟨b2,vs,h1,H,G,(hm.block b2 x1 (ao N)).trans h4,h5,h6⟩
 |row enc l E s=>
  obtain⟨xs,h1,H,G,h4⟩:=h;refine⟨xs,h1.kept hm ?_,H,G,h4⟩
  grind[zds]
 |hold vs cs=>exact h
 |obj b2 o=>
  obtain⟨h1,H,G⟩:=h;have N:b2≠b:=λe=>by simp_all
  exact⟨(hm.block b2 (zb h1) (ao N)).trans h1,H,G⟩
 |yld j on=>exact zgB h (Im.le_refl _) (λ_ _ _=>rfl) (λb' e=>by simp_all) hm xT h.2.2.2.1 x2
 |mpb kenc venc l=>
  obtain⟨b2,es,ck,h1,H,G,h4,h5,h6⟩:=h;have N:b2≠b:=λe=>by simp_all
  exact⟨b2,es,ck,h1,H,G,(hm.block b2 (zb h4) (ao N)).trans h4,h5,h6⟩
 |dead=>trivial
def zbq{C:Ctx}{P:Program}{fn:Func}{rv:List ResultVar}{r:AV}{R:Ending->World->Prop}(xT:fn.results=rv.toArray){st:St}(H:RetVs P st rv r){tmps:Array Value}(N:C.df=[])
 (hR:∀g w v,Rel C st g {tmps:=tmps,defers:=[]} w->RV g.I g.ρ r v->R (.returned v) w):∀(D:List Nat){g:Gh}{w:World}{ds:List Deferred},ds=D.map mkD++C.df.map dfD->D.Nodup→
 (∀x,x∈D->w.heap[x]? =some (.deferred (some []))/\g.O x=none/\C.w0.heap.size<=x)->Rel C st g {tmps:=tmps,defers:=[]} w→
 LeavesInM Fence.wide 0 P fn tmps R ds .returning w
 |[],g,w,ds,G,_,_,hr=>by
  rw[N]at G;simp only[kE,wQ]at G;subst G;obtain⟨u,x0,w2⟩:=zhC hr xT H;exact⟨u,x0,hR g w u hr w2⟩
 |x::D,g,w,ds,G,v9,v8,hr=>by
  rw[N]at G;simp only[kE,wQ]at G;subst G;obtain⟨h1,h2,h3⟩:=v8 x ah;have v4:x<w.heap.size:=zb h1;let w':World:={w with heap:=w.heap.setIfInBounds x (.deferred none)}
  have hm:w.grownBy w' (some x):=⟨rfl,rfl,rfl,by simp[w'],λk hk v5=>by
   grind⟩
  refine⟨ah,.inl ⟨x,w',rfl,run_takeDeferred h1,?_⟩⟩;refine zbq xT H N hR D (by rw[N];simp) (vR.1 v9).2 (λy hy=>?_) (g:=g) ?_
  ·grind
  ·have x2:∀b o u,g.I b o=some u->w'.cell? ⟨b,o,none⟩=some u/\g.O b=none:=λb o u hI=>by
    obtain⟨h4,h5⟩:=hr.sat.im b o u hI
    grind[World.cell?]
   have x1:ObO g.I g.O w':=hr.sat.ob.up (Im.le_refl _) hm.size;refine⟨hr.size,Dfs.nil _ _ _ N,hr.tmps,⟨x2,x1,λk B hB=>(hr.sat.blk k B hB).farN hm (jG _) h2 h3 ⟨x2,x1⟩⟩,?_⟩
   exact⟨hr.ext.I,hm.os.trans hr.ext.os,hm.tape.trans hr.ext.tape,hm.output.trans hr.ext.output,hr.ext.drawn,jV hr.ext.size hm.size,λb hb hn ho=>by
    have v5:b≠x:=λe=>by subst e;omega
    obtain⟨h4,h5⟩:=hr.ext.keep b hb hn ho
    grind,hr.ext.own⟩
abbrev C0(n d:Nat)(g:Gh)(w:World):Ctx:=⟨none,n,d,[],0,λ_ _ _ _ _=>True,g,w,[]⟩
def zcI(O:Owns)(N:Nat)(l:List Nat)(h:∀b k,O b=some k->b<N):∃d,(∀b n,O b≠some (d,n))/\d∉l:=by
 have h1:∀(M:Nat),∃d0,∀b n y,b<M->O b=some (y,n)->y<d0:=by
  intro M
  induction M with
  |zero=>exact⟨0,λb n y hb=>by omega⟩
  |succ M ih=>
   obtain⟨d0,G⟩:=ih;cases hO:O M with
   |none=>exact⟨d0,λb n y hb H=>by
    rcases wH b M with hl|hl
    ·exact G b n y hl H
    ·have:b=M:=aa
     subst this;rw[hO]at H;simp at H⟩
   |some p=>exact⟨max d0 (p.1+1),λb n y hb H=>by
    rcases wH b M with hl|hl
    ·have:=G b n y hl H;omega
    ·have:b=M:=aa
     subst this;rw[hO]at H;injection H with H;subst H;simp;omega⟩
 have h2:∃d1,∀y∈l,y<d1:=by
  clear h h1
  induction l with
  |nil=>exact⟨0,λy H=>by simp at H⟩
  |cons x r ih=>
   obtain⟨d1,G⟩:=ih
   exact⟨max d1 (x+1),λy H=>by
    rcases jW.1 H with rfl|H
    ·omega
    ·have:=G y H;omega⟩
 obtain⟨d0,xT⟩:=h1 N;obtain⟨d1,x2⟩:=h2;refine⟨max d0 d1,λb n hO=>?_,λhm=>?_⟩;all_goals grind
def zeV{C:Ctx}{I:Im}{O:Owns}{as:List AV}(hg:C.g0=⟨noNames,I,O⟩)(hw:C.w0=w)(hm:m=C.n)(x2:as.length<=C.n)(H:ImO I O w)(N:RVL I noNames as args)(xT:C.df=[]:=by rfl):
 Rel C ⟨zaE 0 as,[]⟩ {ρ:=noNames,I:=I,O:=O} {tmps:=args.toArray++Array.replicate (m-args.toArray.size) undef,defers:=[]} w:=by
 have x1:args.length=as.length:=N.1;subst hm;refine⟨aj,Dfs.nil _ _ _ xT,λt x hx=>?_,⟨H.1,H.2,λk B hB=>by simp[lk]at hB⟩,⟨by rw[hg];exact Im.le_refl _,by rw[hw],by rw[hw],by rw[hw],ak,ak,λ_ _ _ _=>⟨by rw[hw],by rw[hg]⟩,λb y n _ hy=>⟨n,by rw[hg];exact hy⟩⟩⟩;obtain⟨_,G⟩:=zdt (I:=I) (ρ:=noNames) as 0 t x hx;simp only[vY]at G;have ht:t<args.length:=by grind
 have e:(args.toArray++Array.replicate (C.n-args.toArray.size) undef).getD t undef=args[t]:=by
  simp[jI,vN,ht]
 rw[e];exact N.2 t x _ G (jC ht)
def Fn.intro{P:Program}{n:Nat}{as:List AV}{ts:List (Nat×AV)}{r:AV}(hc:zy P f=true)(hf:P.funcs[f]? =some fn)(hb:fn.body=some c)(hn:fn.ntmps=n)(v2:fn.results=rv.toArray)
 (x2:r.nm=true)(v1:zaE 0 as=ts)(x1:as.length<=n)(h:∀g w d,X P (C0 n d g w) c ⟨ts,[]⟩ (RetQ P (C0 n d g w) rv r)):Fn P f as r:=by
 refine⟨hc,x2,λg w args x0 xT=>(callsIn_wide (n:=0)).1 (callsIn_of_wp_marks hf hb trivial ?_)⟩;subst v1;obtain⟨d,hd,-⟩:=zcI g.O w.heap.size [] x0.2.1;have w2:=zeV (C:=C0 n d ⟨noNames,g.I,g.O⟩ w) (I:=g.I) (O:=g.O) (m:=fn.ntmps) rfl rfl hn x1 x0 xT;refine wpIn_mono (h _ w d _ _ w w2) ?_
 rintro e a w'⟨st,g1,v0,he,st',v9,v8⟩
 obtain⟨g2,H⟩:=v9 g1 a w' v0
 have v5:LeavesInM Fence.wide 0 P fn a.tmps (λe w'=>∃v g',e=Ending.returned v/\RV g'.I noNames r v/\Add none g w g' w'/\ImOB g' w') a.defers .returning w':=by
  obtain⟨D,hD,k9,k8⟩:=H.defers;refine zbq v2 v8 rfl (λg3 w3 v N hv=>?_) D hD.plain k9 k8 ⟨H.size,Dfs.nil _ _ _,H.tmps,H.sat,H.ext⟩
  have v4:∀b,b<w.heap.size->¬(C0 n d ⟨noNames,g.I,g.O⟩ w).okb b:=λb hb hk=>by
   rcases hk with hk|⟨m,hk⟩;all_goals grind
  have v3:∀b,¬(C0 n d ⟨noNames,g.I,g.O⟩ w).oth b:=λb⟨y,m,hy,_⟩=>by simp at hy
  refine⟨v,{ρ:=g.ρ,I:=g3.I,O:=g3.O},rfl,hv.forget x2,⟨N.ext.I,λ_ _=>rfl,λb G=>?_,⟨N.ext.os,N.ext.tape,N.ext.output,N.ext.drawn,N.ext.size,λb G=>?_⟩⟩,⟨N.sat.im,N.sat.ob⟩⟩
  ·exact(N.ext.keep b G (v4 b G) (v3 b)).2
  ·exact(N.ext.keep b G (v4 b G) (v3 b)).1
 rcases he with rfl|rfl<;>exact v5
end Go.Rse
namespace Go.Rse
open Go Go.RowKit
variable{P:Program}
def zba(P:Program)(t n E:Nat):Bool:=match P.underlying t with|some (.array m e)=>m==n&&e==E|_=>false
def zb1{t n E:Nat}(h:zba P t n E=true):P.underlying t=some (.array n E):=by
 grind[zba]
section
variable{P:Program}{C:Ctx}{st:St}{ty:TypeId}
variable{ag:Bool}{i:Int}{kk:IntKind}{op:BinOp}{parts:Array (Nat×Operand)}{x y:Operand}
def zn7{t n E s:Nat}{cs cs':List AV}{ps:List (Nat×AV)}(ht:zba P t n E=true)(hE:tyOk P E ag s=true)(N:yF P t cs)
 (hp:zbI st parts.toList=some ps)(hk:zci ps=true)(hf:zfn (λi=>some (i*s,s)) cs ps=some cs'):Pur P C (.build t parts) ty st (.agg cs'):=λg a w dst pos af gd hr=>by
 obtain⟨z,H,hc⟩:=N;obtain⟨hl,hv⟩:=zfH (I:=g.I) (ρ:=g.ρ) hc;obtain⟨vs',h1,G⟩:=zgD (I:=g.I) (ρ:=g.ρ) (λi=>some (i*s,s)) ps _ cs cs' z.cells (zcH hr hp) hk ⟨hl,hv⟩ hf;refine⟨.agg vs',?_,by simpa using RV.agg (I:=g.I) (ρ:=g.ρ) cs' vs'.toList G.1 G.2⟩;cases hi:P.info? t with
 |none=>simp[hi]at H
 |some i=>
  simp[hi]at H;have e:(parts.map λ(i,x)=>(i,a.eval x)).toList=parts.toList.map λ(i,x)=>(i,a.eval x):=ah
  simp only[execOp,Instr.build,jM,zeroValue,typeInfo,run_program,jH,hi,jP,H,run_underlying (zb1 ht),yJ hE,e,h1]
def zin{t n E:Nat}{cs:List AV}{c:AV}(ht:zba P t n E=true)(hE:tyOk P E false 1=true)(hx:ev st x=some (.agg cs))(H:ev st y=some (.int kk i))(h0:0<=i)(h1:i<n)(G:cs[i.toNat]? =some c):
 Pur P C (.index t x y) ty st c:=λg a w dst pos af gd hr=>by
 obtain⟨vs,e,hl,hv⟩:=zaM (yq hr hx);have ey:=yK (yq hr H);have N:i.toNat<vs.length:=by grind
 refine⟨vs[i.toNat],?_,hv _ c _ G (jC N)⟩;simp[execOp,Instr.index,asIntOf,e,ey,run_underlying (zb1 ht),h0,h1,yJ hE,part,zbp hE,N]
def zO{t n E s:Nat}{cs ys:List AV}(ht:zba P t n E=true)(hE:tyOk P E true s=true)(hx:ev st x=some (.agg cs))(H:ev st y=some (.int kk i))(h0:0<=i)(h1:i<n)(N:(cs.drop (i.toNat*s)).take s=ys):
 Pur P C (.index t x y) ty st (.agg ys):=λg a w dst pos af gd hr=>by
 obtain⟨vs,e,hl,hv⟩:=zaM (yq hr hx);have ey:=yK (yq hr H);subst N
 have key:vs.toArray.extract (i.toNat*s) (i.toNat*s+s)=((vs.drop (i.toNat*s)).take s).toArray:=by
  simp[kJ,List.extract]
 refine⟨.agg ((vs.drop (i.toNat*s)).take s).toArray,?_,.agg _ _ (by simp[hl]) (λq c v N G=>?_)⟩
 ·simp only[execOp,Instr.index,asIntOf,e,ey,jM,jP,jH,run_underlying (zb1 ht)];rw[j7 ⟨h0,h1⟩];simp only[jM,yJ hE,jH,part,zbp hE,if_true,jP,key]
 grind
def zdQ{t f:Nat}{cs:List AV}{off T:Nat}{c:AV}(hf:(match P.underlying t with|some (.struct fs)=>(fs[f]?).map λfd=>(fd.offset,fd.type)|_=>none)=some (off,T))(G:tyOk P T false 1=true)(hx:ev st x=some (.agg cs))(hc:cs[off]? =some c):
 Pur P C (.field t x f) ty st c:=λg a w dst pos af gd hr=>by
 obtain⟨vs,e,hl,hv⟩:=zaM (yq hr hx);split at hf<;>try(simp at hf;done)
 rename_i fs hu;cases N:fs[f]? with
 |none=>simp[N]at hf
 |some fd=>
  simp[N]at hf;obtain⟨rfl,rfl⟩:=hf;have H:fd.offset<vs.length:=by grind
  refine⟨vs[fd.offset],?_,hv _ c _ hc (jC H)⟩;simp[execOp,Instr.field,e,run_underlying hu,N,asAgg,part,zbp G,H]
def eqAV:AV->AV->Option Bool
 |.int .i64 a,.int .i64 b=>some (decide (a=b))
 |.bool a,.bool b=>some (a==b)
 |_,_=>none
def eqL:List AV->List AV->Option Bool
 |[],[]=>some true
 |x::xs,y::ys=>match eqAV x y,eqL xs ys with
  |some p,some q=>some (p&&q)
  |_,_=>none
 |_,_=>none
def zdu{P:Program}{t:TypeId}{xs ys:Array Value}(hm:P.eqGuardType P.depth t=false)(w:World):(eqGuard op t x y (.agg xs) (.agg ys)).run P w=.ok () w:=run_eqGuard_agg (P:=P) w op t x y xs ys hm
end
end Go.Rse
namespace Go.Rse
open Go Go.RowKit
variable{F:Fence}{K:Act->World->Prop}{id:Nat}{l listed:Array Bool}{m:Nat}{o:Oper}{rest:List Oper}{v:Value}
def memb(n:Nat):List Nat->Bool
 |[]=>false
 |k::r=>n.beq k||memb n r
theorem yG{n:Nat}:∀{l:List Nat},memb n l=true↔n∈l
 |[]=>by simp[memb]
 |k::r=>by simp[memb,yG (l:=r)]
structure Fact:Type 1 where
 i:Nat
 d:Option Nat
 x:AV
 nb:Option (Nat×Blk)
 as:List Nat
def rmK(ks:List Nat):List (Nat×AV)->List (Nat×AV)
 |[]=>[]
 |(t,x)::r=>bif memb t ks then rmK ks r else(t,x)::rmK ks r
def zhj{ks:List Nat}{t:Nat}{x:AV}:∀{l:List (Nat×AV)},lk (rmK ks l) t=some x->memb t ks=false/\lk l t=some x
 |[],h=>by simp[rmK,lk]at h
 |(t',x')::r,h=>by
  simp only[rmK]at h;cases hm:memb t' ks with
  |true=>
   simp only[hm,cond_true]at h;obtain⟨h1,H⟩:=zhj h
   grind[ym,beqF]
  |false=>
   simp only[hm,cond_false,ym]at h;rw[ym];cases N:t'.beq t with
   |true=>
    simp_all
   |false=>
    simp only[N,cond_false]at h⊢;exact zhj h
def selT(as:List Nat)(b:List (Nat×AV)):List Fact->List (Nat×AV)
 |[]=>b
 |f::r=>bif memb f.i as then consT f.d f.x (selT as b r)else selT as b r
def zkz(nb:Option (Nat×Blk))(l:List (Nat×Blk)):List (Nat×Blk):=match nb with|some b=>b::l|none=>l
def selH(as:List Nat)(b:List (Nat×Blk)):List Fact->List (Nat×Blk)
 |[]=>b
 |f::r=>bif memb f.i as then zkz f.nb (selH as b r)else selH as b r
def stOf(st:St)(N as:List Nat)(fs:List Fact):St:=⟨selT as (rmK N st.t) fs,selH as st.h fs⟩
def zio{as:List Nat}{b:List (Nat×AV)}{t:Nat}{x:AV}:∀{fs:List Fact},lk (selT as b fs) t=some x->(∃f∈fs,memb f.i as=true/\f.d=some t/\f.x=x)\/lk b t=some x
 |[],h=>.inr h
 |f::r,h=>by
  simp only[selT]at h;cases hm:memb f.i as with
  |true=>
   simp only[hm,cond_true]at h;cases N:f.d with
   |none=>
    simp only[N,consT]at h;rcases zio h with⟨f',h1,H⟩|h1;all_goals grind
   |some d=>
    simp only[N,consT,ym]at h;cases G:d.beq t with
    |true=>
     simp_all
    |false=>
     simp only[G,cond_false]at h;rcases zio h with⟨f',h1,H⟩|h1;all_goals grind
  |false=>
   simp only[hm,cond_false]at h;rcases zio h with⟨f',h1,H⟩|h1;all_goals grind
def ziq{as:List Nat}{b:List (Nat×Blk)}{k:Nat}{B:Blk}:∀{fs:List Fact},lk (selH as b fs) k=some B->(∃f∈fs,memb f.i as=true/\f.nb=some (k,B))\/lk b k=some B
 |[],h=>.inr h
 |f::r,h=>by
  simp only[selH]at h;cases hm:memb f.i as with
  |true=>
   simp only[hm,cond_true]at h;cases N:f.nb with
   |none=>
    simp only[N,zkz]at h;rcases ziq h with⟨f',h1,H⟩|h1;all_goals grind
   |some p=>
    obtain⟨k',B'⟩:=p;simp only[N,zkz,ym]at h;cases G:k'.beq k with
    |true=>
     simp_all
    |false=>
     simp only[G,cond_false]at h;rcases ziq h with⟨f',h1,H⟩|h1;all_goals grind
  |false=>
   simp only[hm,cond_false]at h;rcases ziq h with⟨f',h1,H⟩|h1;all_goals grind
def dir(ops:Array Oper)(i:Nat):List Nat:=match ops[i]? with|some o=>(o.after.toList.filter (Region.binds .any ·)).map (·.on)|none=>[]
def zev(ops:Array Oper)(i:Nat):List Nat->Bool
 |[]=>true
 |a::r=>(memb a (dir ops i)||r.any λb=>memb a (dir ops b))&&zev ops i r
def zcU(ops:Array Oper):Bool:=(List.range ops.size).all λi=>(dir ops i).all λj=>j.blt i
def nbFr(nb:Option (Nat×Blk))(k:Nat):Bool:=match nb with|some (k',B)=>!(k'.beq k)&&B.fr k|none=>true
def zew(f f':Fact):Bool:=
 (match f.d,f'.d with|some d,some d'=>!(d.beq d')|_,_=>true)&&
 (match f.nb with|some (k,_)=>f'.x.fr k&&nbFr f'.nb k|none=>true)&&
 (memb f'.i f.as||match f'.nb with|some (k,_)=>f.x.fr k&&nbFr f.nb k|none=>true)
def okF(st:St)(N:List Nat):List Fact->Bool
 |[]=>true
 |f::r=>(match f.d with|some d=>memb d N|none=>true)&&nbOk st f.nb&&r.all (zew f)&&okF st N r
def zgF(ops:Array Oper)(m:Nat):Nat->Bool
 |0=>true
 |n+1=>memb (m+n) (dir ops (m+n+1))&&zgF ops m n
def zex(ops:Array Oper)(m:Nat)(as:List Nat):Bool:=
 m.ble ops.size&&(ops.size.beq m||(zev ops m as&&(List.range m).all (memb · as)&&zgF ops m (ops.size-m-1)))
def zcV(ops:Array Oper)(m e:Nat)(as:List Nat):Bool:=
 ops.size.beq (m+2)&&e.blt m&&zev ops m as&&((List.range m).all λj=>j.beq e||memb j as)&&memb m (dir ops (m+1))&&memb e (dir ops (m+1))
def noF(e:Nat)(fs:List Fact):List Fact:=fs.filter λf=>!(f.i==e)
def Good(P:Program)(C:Ctx)(ops:Array Oper)(st:St)(hid:List Nat)(Q:Exit->St->Prop)(f:Fact)(fs0:List Fact):Prop:=
 zev ops f.i f.as=true/\dOk C.n f.d=true/\∀g a w,Rel C (stOf st hid f.as fs0) g a w->∀K:Act->World->Prop,
  (∀v w' g',Add (f.nb.map (·.1)) g w g' w'->RV g'.I g'.ρ f.x v->ImOB g' w'->(∀k B,f.nb=some (k,B)->yM C g' w' k B)->K (a.put f.d v) w')->wpOpIn C.F 0 P ops (lift C Q) f.i K a w
inductive Chain(P:Program)(C:Ctx)(ops:Array Oper)(st:St)(hid:List Nat)(Q:Exit->St->Prop):Nat->List Fact->Prop
 |gen{i:Nat}{fs:List Fact}{f:Fact}(hi:f.i=i)(hf:Good P C ops st hid Q f fs)(h:Chain P C ops st hid Q (i+1) (f::fs)):Chain P C ops st hid Q i fs
 |tail{i:Nat}{fs:List Fact}(as:List Nat)(hok:okF st hid fs=true)(hf:zex ops i as=true)(h:Ex P C ops (ops.toList.drop i) (stOf st hid (fs.map (·.i)) fs) Q):Chain P C ops st hid Q i fs
 |late{i:Nat}{fs:List Fact}{o1 oe o2:Oper}(e:Nat)(as:List Nat)(hl:ops.toList.drop i=[o1,o2])(hoe:ops[e]? =some oe)(hok:okF st hid fs=true)(hf:zcV ops i e as=true)
  (hA:Ex P C ops [o1,o2] (stOf st hid (fs.map (·.i)) fs) Q)(hB:Ex P C ops [o1,oe,o2] (stOf st hid ((noF e fs).map (·.i)) (noF e fs)) Q):Chain P C ops st hid Q i fs
def Chain.collect{P:Program}{C:Ctx}{ops:Array Oper}{st:St}{N:List Nat}{Q:Exit->St->Prop}{i:Nat}{fs:List Fact}(h:Chain P C ops st N Q i fs)(h1:∀j,j<i->∃f∈fs,f.i=j)(h2:∀f∈fs,f.i<i/\∃fs0,(∀f'∈fs0,f'∈fs)/\Good P C ops st N Q f fs0)(hu:∀f∈fs,∀f'∈fs,f'.i=f.i->f'=f):
 ∃m fs' as,(∀j,j<m->∃f∈fs',f.i=j)/\(∀f∈fs',f.i<m/\∃fs0,(∀f'∈fs0,f'∈fs')/\Good P C ops st N Q f fs0)/\(∀f∈fs',∀f'∈fs',f'.i=f.i->f'=f)∧
  ((okF st N fs'=true/\zex ops m as=true/\Ex P C ops (ops.toList.drop m) (stOf st N (fs'.map (·.i)) fs') Q)∨
   ∃e o1 oe o2,ops.toList.drop m=[o1,o2]/\ops[e]? =some oe/\okF st N fs'=true/\zcV ops m e as=true/\Ex P C ops [o1,o2] (stOf st N (fs'.map (·.i)) fs') Q/\Ex P C ops [o1,oe,o2] (stOf st N ((noF e fs').map (·.i)) (noF e fs')) Q):=by
 induction h with
 |gen H x0 h ih=>
  rename_i i fs fnew
  have x1:∀y:Fact,y.i=i->∀f∈y::fs,∀f'∈y::fs,f'.i=f.i->f'=f:=λy hy f hf f' xT e=>by
   rcases jW.1 hf with e1|x2
   ·rcases jW.1 xT with e2|G
    ·rw[e1,e2]
    ·have:=(h2 f' G).1;rw[e,e1,hy]at this;omega
   ·rcases jW.1 xT with e2|G
    ·have:=(h2 f x2).1;rw[←e,e2,hy]at this;omega
    ·exact hu f x2 f' G e
  refine ih (λj hj=>?_) (λf hf=>?_) (x1 _ H)
  ·by_cases e:j=i
   ·exact⟨_,List.mem_cons_self,H.trans e.symm⟩
   ·obtain⟨f,hf,H⟩:=h1 j aa;exact⟨f,by simp[hf],H⟩
  grind
 |tail as hok hf h=>grind
 |late e as hl w2 hok hf hA hB=>grind
structure RelD(C:Ctx)(st:St)(hid:List Nat)(fs:List Fact)(D:Nat->Prop)(g:Gh)(a:Act)(w:World):Prop where
 size:a.tmps.size=C.n
 defers:Dfs C g a.defers w
 tf:∀f∈fs,D f.i->∀t,f.d=some t->RV g.I g.ρ f.x (a.tmps.getD t undef)
 ts:∀t x,memb t hid=false->lk st.t t=some x->RV g.I g.ρ x (a.tmps.getD t undef)
 hf:∀f∈fs,D f.i->∀k B,f.nb=some (k,B)->yM C g w k B
 hs:∀k B,lk st.h k=some B->yM C g w k B
 im:ImOB g w
 ext:Ext C g w
def RelD.rel{C:Ctx}{st:St}{N:List Nat}{fs fs0:List Fact}{D:Nat->Prop}{g:Gh}{a:Act}{w:World}(h:RelD C st N fs D g a w){as:List Nat}(h0:∀f∈fs0,f∈fs)(H:∀i,i∈as->D i):Rel C (stOf st N as fs0) g a w:=by
 refine⟨h.size,h.defers,λt x hx=>?_,⟨h.im.1,h.im.2,λk B hB=>?_⟩,h.ext⟩
 ·rcases zio hx with⟨f,h1,G,h3,rfl⟩|h1
  ·exact h.tf f (h0 f h1) (H _ (yG.1 G)) t h3
  ·obtain⟨G,h3⟩:=zhj h1;exact h.ts t x G h3
 ·rcases ziq hB with⟨f,h1,G,h3⟩|h1
  ·exact h.hf f (h0 f h1) (H _ (yG.1 G)) k B h3
  ·exact h.hs k B h1
def zpD{st:St}{N:List Nat}:∀{fs:List Fact},okF st N fs=true->∀f∈fs,(∀d,f.d=some d->memb d N=true)/\nbOk st f.nb=true
 |[],_,f,h=>by simp at h
 |f0::r,h,f,hf=>by
  simp only[okF,jE]at h;rcases jW.1 hf with rfl|hf
  ·grind
  ·exact zpD h.2 f hf
def zjr{st:St}{N:List Nat}:∀{fs:List Fact},okF st N fs=true->∀f∈fs,∀f'∈fs,f.i≠f'.i->zew f f'=true\/zew f' f=true
 |[],_,f,h=>by simp at h
 |f0::r,h,f,hf=>λf' H G=>by
  simp only[okF,jE]at h;have xT:=jF.1 h.1.2;rcases jW.1 hf with e1|h1
  ·grind
  ·rcases jW.1 H with e2|h2
   ·simp_all
   ·exact zjr h.2 f h1 f' h2 G
def zmY{f f':Fact}(h:zew f f'=true\/zew f' f=true)(hn:f.i∉f'.as):(∀d,f.d=some d->f'.d≠some d)/\∀k B,f.nb=some (k,B)->f'.x.fr k=true/\nbFr f'.nb k=true:=by
 rcases h with h|h
 ·simp only[zew,jE]at h;refine⟨λd H N=>?_,λk B hk=>?_⟩;all_goals simp_all
 ·simp only[zew,jE]at h;refine⟨λd H N=>?_,λk B hk=>?_⟩;all_goals simp_all[yG]
theorem RelD.add{C:Ctx}{st:St}{x2:List Nat}{fs:List Fact}{D D':Nat->Prop}{g g':Gh}{a:Act}{w w':World}(h:RelD C st x2 fs D g a w){f:Fact}(hf:f∈fs)(hok:okF st x2 fs=true)(v2:¬D f.i)
 (x1:∀f'∈fs,f'.i=f.i->f'=f)(v9:∀j,D' j->D j\/j=f.i)(G:∀f'∈fs,D f'.i->f.i∉f'.as)(hd:dOk C.n f.d=true)
 (ha:Add (f.nb.map (·.1)) g w g' w')(hx:RV g'.I g'.ρ f.x v)(x0:ImOB g' w')(hB:∀k B,f.nb=some (k,B)->yM C g' w' k B):RelD C st x2 fs D' g' (a.put f.d v) w':=by
 have hm:=zpD hok f hf
 have v8:∀n,f.nb.map (·.1)=some n->∃B,f.nb=some (n,B):=λn hn=>by
  simp_all
 have v5:∀n,f.nb.map (·.1)=some n->st.fr n=true:=λn hn=>by
  obtain⟨B,hb⟩:=v8 n hn;have:=hm.2;rw[hb]at this;exact this
 have xT:∀t,f.d≠some t->(a.put f.d v).tmps.getD t undef=a.tmps.getD t undef:=λt ht=>by
  cases v4:f.d<;>grind[zaS,Act.put]
 refine⟨?_,?_,λf' N w2 t ht=>?_,λt x hh v3=>?_,λf' N w2 k B hk=>?_,λk B hk=>?_,x0,h.ext.add ha⟩
 ·cases v4:f.d<;>simp[Act.put,h.size]
 ·have:=h.defers.add ha;cases v4:f.d<;>exact this
 ·by_cases e:f'.i=f.i
  ·obtain rfl:=x1 f' N e;rw[ht,zaS (by rw[h.size];simp_all[dOk]),j7 rfl];exact hx
  ·have H:D f'.i:=(v9 _ w2).resolve_right e;obtain⟨p1,p2⟩:=zmY (zjr hok f hf f' N (λe'=>e e'.symm)) (G f' N H);rw[xT t (λe'=>p1 t e' ht)];exact((h.tf f' N H t ht).renameOpt (nk:=f.nb.map (·.1)) (λn hn=>by grind) ha.ρ).mono ha.I
 ·have:f.d≠some t:=λe=>by simp_all
  rw[xT t this];exact((h.ts t x hh v3).renameOpt (nk:=f.nb.map (·.1)) (λn hn=>zjl (by simp_all[St.fr]) v3) ha.ρ).mono ha.I
 ·by_cases e:f'.i=f.i
  ·simp_all
  ·have H:D f'.i:=(v9 _ w2).resolve_right e;obtain⟨p1,p2⟩:=zmY (zjr hok f hf f' N (λe'=>e e'.symm)) (G f' N H);refine(h.hf f' N H k B hk).add ha (λhn=>?_) (λn hn=>?_) h.ext.size x0
   ·obtain⟨B',hb⟩:=v8 k hn;have:=(p2 k B' hb).2;rw[hk]at this;simp[nbFr]at this
   grind[nbFr]
 ·refine(h.hs k B hk).add ha (λhn=>?_) (λn hn=>?_) h.ext.size x0
  ·have:=v5 k hn;simp[St.fr]at this;exact(zb9 this.2 hk).2 rfl
  grind[St.fr,zb9]
theorem zr{ops:Array Oper}{i:Nat}:i∈Region.ready .any ops listed↔i<ops.size/\listed.getD i true=false/\∀j∈dir ops i,listed.getD j false=true:=by
 simp only[Region.ready,wG,uV,jE,wP]
 grind[dir,Array.all_eq_true_iff_forall_mem]
def zsU{ops:Array Oper}{i:Nat}(h:ops.size<=i):dir ops i=[]:=by simp[dir,h]
def zdR(ops:Array Oper)(listed:Array Bool):Prop:=∀i,i<ops.size->listed.getD i false=true->∀j∈dir ops i,listed.getD j false=true
theorem zH{ops:Array Oper}{listed:Array Bool}{i:Nat}(hc:zdR ops listed)(hi:∀j∈dir ops i,listed.getD j false=true):∀{as:List Nat},zev ops i as=true->∀a∈as,listed.getD a false=true
 |[],_,a,h=>by simp at h
 |b::r,h,a,N=>by
  simp only[zev,jE,wL]at h;have ih:=zH hc hi h.2;rcases jW.1 N with rfl|N
  ·rcases h.1 with h1|h1
   ·exact hi a (yG.1 h1)
   ·obtain⟨c,H,G⟩:=vB.1 h1;have xT:=ih c H;rcases wH c ops.size with hl|hl
    ·exact hc c hl xT a (yG.1 G)
    simp_all[zsU,memb]
  ·exact ih a N
def zgG{ops:Array Oper}{m:Nat}:∀{n:Nat},zgF ops m n=true->∀k,m<k->k<=m+n->(k-1)∈dir ops k
 |0,_,k,h1,N=>by omega
 |n+1,h,k,h1,N=>by
  simp only[zgF,jE]at h;by_cases e:k=m+n+1
  ·simp_all[yG]
  ·exact zgG h.2 k h1 aa
theorem zaj{i j:Nat}(h:i<l.size):(l.setIfInBounds i true).getD j false=if i=j then true else l.getD j false:=by
 simp only[jI,uK]
 grind
def zgH{i:Nat}(h:i<l.size):l.getD i true=l.getD i false:=by
 simp_all
def zjs{F:Fence}{P:Program}{ops:Array Oper}{Q:Exit->Act->World->Prop}{m:Nat}(he:zcU ops=true)(hf:∀k,m<k->k<ops.size->(k-1)∈dir ops k):∀(n k:Nat)(listed:Array Bool)(a:Act)(w:World),m<=k->k+n=ops.size->listed.size=ops.size→
 (∀j,j<ops.size->(listed.getD j false=true↔j<k))->wpListIn F 0 P ops Q (ops.toList.drop k) a w->wpAnyIn F 0 P .any ops Q n listed a w
 |0,k,listed,a,w,G,hn,H,hl,h=>by
  have hr:Region.ready .any ops listed=[]:=uE.2 λi hi=>by
   grind[zr]
  refine⟨hr,?_⟩;rw[wT aj]at h;exact h
 |n+1,k,listed,a,w,G,hn,H,hl,h=>by
  have hk:k<ops.size:=aa
  have xT:∀i,i<ops.size->∀j∈dir ops i,j<i:=λi hi j hj=>by
   have:=jF.1 (jF.1 he i (ao hi)) j hj;simpa using this
  have N:∀i,i∈Region.ready .any ops listed↔i=k:=λi=>by
   grind[zr]
  refine⟨λe=>?_,λi hi=>?_⟩
  ·simp_all
  ·obtain rfl:=(N i).1 hi;have ho:ops[i]? =some ops[i]:=jZ hk;rw[jQ (ao hk)]at h
   have ih:=λa w=>zjs (F:=F) (P:=P) (Q:=Q) he hf n (i+1) (listed.setIfInBounds i true) a w aa aa (ao H) (λj hj=>by
    rw[zaj aa];split
    ·rename_i e;subst e;simp
    ·rename_i e;rw[hl j hj];omega)
   grind[wpOpIn,wpListIn,Oper.wpIn_mono]
def Ex.wpl{P:Program}{C:Ctx}{ops:Array Oper}{l:List Oper}{st:St}{Q:Exit->St->Prop}(h:Ex P C ops l st Q){g:Gh}{a:Act}{w:World}(hr:Rel C st g a w):wpListIn C.F 0 P ops (lift C Q) l a w:=h g a w hr
def zqq{P:Program}{C:Ctx}{ops:Array Oper}{st:St}{x2:List Nat}{Q:Exit->St->Prop}{fs:List Fact}{as:List Nat}(he:zcU ops=true)(h1:∀j,j<m->∃f∈fs,f.i=j)(h2:∀f∈fs,f.i<m/\∃fs0,(∀f'∈fs0,f'∈fs)/\Good P C ops st x2 Q f fs0)
 (v8:∀f∈fs,∀f'∈fs,f'.i=f.i->f'=f)(hok:okF st x2 fs=true)(hf:zex ops m as=true)(v2:Ex P C ops (ops.toList.drop m) (stOf st x2 (fs.map (·.i)) fs) Q):∀(n:Nat)(listed:Array Bool)(c:Nat)(g:Gh)(a:Act)(w:World),listed.size=ops.size->n=c+(ops.size-m)→
 c=((List.range m).filter λj=>!listed.getD j false).length->(∀j,m<=j->j<ops.size->listed.getD j false=false)->zdR ops listed->RelD C st x2 fs (λj=>listed.getD j false=true) g a w->wpAnyIn C.F 0 P .any ops (lift C Q) n listed a w:=by
 have hX:m<=ops.size:=by
  simp_all[zex]
 have hW:∀i,i<ops.size->∀j∈dir ops i,j<i:=λi hi j N=>by
  have:=jF.1 (jF.1 he i (ao hi)) j N;simpa using this
 have x1:m<ops.size->zev ops m as=true/\(∀j,j<m->j∈as)/\∀k,m<k->k<ops.size->(k-1)∈dir ops k:=λv1=>by
  simp only[zex,jE,wL]at hf;rcases hf.2 with h|h
  ·simp_all
  ·refine⟨h.1.1,λj N=>yG.1 (jF.1 h.1.2 j (ao N)),λk x0 H=>zgG h.2 k x0 aa⟩
 intro n
 induction n with
 |zero=>
  intro listed c g a w w2 hn hc j3 G hr;have hm:m=ops.size:=aa
  have xT:∀j,j<m->listed.getD j false=true:=λj N=>by
   have h0:((List.range m).filter λj=>!listed.getD j false)=[]:=jT aa;have:=uF.1 h0 j (ao N);simpa using this
  refine zjs (m:=m) he (λk x0 H=>by omega) 0 m listed a w (jG _) aa w2 (λj N=>⟨λ_=>by omega,λh=>xT j h⟩) (v2.wpl (hr.rel (λf hf=>hf) λi hi=>?_))
  grind
 |succ n ih=>
  intro listed c g a w w2 hn hc j3 G hr;by_cases hQ:c=0
  ·have xT:∀j,j<m->listed.getD j false=true:=λj N=>by
    have h0:((List.range m).filter λj=>!listed.getD j false)=[]:=jT aa;have:=uF.1 h0 j (ao N);simpa using this
   have v1:m<ops.size:=aa
   refine zjs (m:=m) he (x1 v1).2.2 (n+1) m listed a w (jG _) aa w2 (λj N=>⟨λh=>?_,λh=>xT j h⟩) (v2.wpl (hr.rel (λf hf=>hf) λi hi=>?_));all_goals grind
  ·have v0:∃j,j<m/\listed.getD j false=false:=by
    simp_all
   have k9:∀i,i∈Region.ready .any ops listed->i<m:=λi hi=>by
    grind[zr,zH]
   have v5:Region.ready .any ops listed≠[]:=by
    --the least one that is left
    have key:∀k,(∃j,j<k/\j<m/\listed.getD j false=false)->∃j,j<m/\listed.getD j false=false/\∀i,i<j->listed.getD i false=true:=by
     intro k
     induction k with
     |zero=>rintro⟨j,h,_⟩;omega
     |succ k ihk=>
      rintro⟨j,h1,h2,h3⟩
      by_cases v9:∃j,j<k/\j<m/\listed.getD j false=false
      ·exact ihk v9
      ·refine⟨j,h2,h3,λi hi=>?_⟩;cases hb:listed.getD i false with
       |true=>rfl
       |false=>exact absurd ⟨i,aa,aa,hb⟩ v9
    obtain⟨j0,k8,k7⟩:=v0;obtain⟨j,j2,hI,hG⟩:=key m ⟨j0,k8,k8,k7⟩
    grind[zr]
   refine⟨λe=>absurd e v5,λi hi=>?_⟩;have k6:=k9 i hi;obtain⟨r1,r2,r3⟩:=zr.1 hi;rw[zgH aa]at r2;obtain⟨f,v4,j1⟩:=h1 i k6;subst j1;obtain⟨_,fs0,k5,ga,gd,gk⟩:=h2 f v4;have j4:=zH G r3 ga;refine gk g a w (hr.rel k5 j4) _ λv w' g' k1 k2 k3 k4=>?_
   refine ih (listed.setIfInBounds f.i true) (c-1) g' _ w' (ao w2) aa ?_ (λj k7 j2=>?_) (λk x0 H j N=>?_) (hr.add v4 hok (by rw[r2];simp) (v8 f v4) (λj N=>?_) (λf' hZ hD v3=>?_) gd k1 k2 k3 k4)
   ·have e:((List.range m).filter λj=>!(listed.setIfInBounds f.i true).getD j false)=((List.range m).filter λj=>!listed.getD j false).filter (λj=>!(j==f.i)):=by
     rw[List.filter_filter];refine List.filter_congr λj N=>?_
     rw[zaj aa];by_cases e:f.i=j
     ·subst e;simp
     ·have:(j==f.i)=false:=by simpa usingλh=>e h.symm
      simp[e,this]
    rw[e];have hY:((List.range m).filter λj=>!listed.getD j false).Nodup:=List.nodup_range.filter _;have v3:f.i∈((List.range m).filter λj=>!listed.getD j false):=wG.2 ⟨uV.2 k6,by rw[r2];rfl⟩;have h3:=xU v3;rw[hY.erase_eq_filter]at h3
    grind
   ·grind[zaj]
   ·rw[zaj aa]at H⊢;split
    ·rfl
    ·split at H
     ·grind
     ·exact G k x0 H j N
   ·grind[zaj]
   ·obtain⟨q1,fs1,_,qa,_,_⟩:=h2 f' hZ;have h3:=zH G (G f'.i aa hD) qa f.i v3;simp_all
def zxO(ops:Array Oper):List Nat->Prop
 |[]=>True
 |x::r=>x<ops.size/\x∉r/\(∀j∈dir ops x,j<ops.size/\j∉r/\j≠x)/\(∀y∈r,∃j∈dir ops y,j∈x::r)/\zxO ops r
def zjt{P:Program}{ops:Array Oper}{Q:Exit->Act->World->Prop}{x:Nat}{a:Act}{w:World}(ho:ops[x]? =some o)(h:wpListIn F 0 P ops Q (o::rest) a w)(N:∀a w,wpListIn F 0 P ops Q rest a w->K a w):wpOpIn F 0 P ops Q x K a w:=by
 grind[wpOpIn,wpListIn,Oper.wpIn_mono]
def zl9{F:Fence}{P:Program}{ops:Array Oper}{Q:Exit->Act->World->Prop}:∀(L:List Nat)(os:List Oper)(listed:Array Bool)(a:Act)(w:World),listed.size=ops.size->(∀j,j<ops.size->(listed.getD j false=false↔j∈L))->zxO ops L->os.map some=L.map (ops[·]?)→
 wpListIn F 0 P ops Q os a w->wpAnyIn F 0 P .any ops Q L.length listed a w
 |[],os,listed,a,w,G,hl,_,N,h=>by
  have hr:Region.ready .any ops listed=[]:=uE.2 λi hi=>by
   grind[zr]
  cases os with
  |nil=>exact⟨hr,h⟩
  |cons _ _=>simp at N
 |x::r,os,listed,a,w,G,hl,hok,N,h=>by
  obtain⟨k1,k2,k3,k4,k5⟩:=hok
  have H:∀i,i∈Region.ready .any ops listed↔i=x:=λi=>by
   grind[zr]
  have ho:ops[x]? =some ops[x]:=jZ k1;cases os with
  |nil=>simp at N
  |cons o rest=>
   simp only[wW,kL]at N;refine⟨λe=>?_,λi hi=>?_⟩
   ·simp_all
   ·obtain rfl:=(H i).1 hi;refine zjt N.1.symm h λa' w' h'=>zl9 r rest (listed.setIfInBounds i true) a' w' (ao G) (λj hj=>?_) k5 N.2 h'
    grind[zaj]
def zju:∀{m e:Nat},e<m->((List.range m).filter λj=>j==e)=[e]
 |0,e,h=>by omega
 |m+1,e,h=>by
  rw[wR,uO];by_cases h1:e=m
  ·grind[List.filter_eq_nil_iff]
  ·rw[zju aa]
   grind
def zn8{P:Program}{C:Ctx}{ops:Array Oper}{st:St}{G:List Nat}{Q:Exit->St->Prop}{e:Nat}{fs:List Fact}{o1 oe o2:Oper}{as:List Nat}(he:zcU ops=true)(h1:∀j,j<m->∃f∈fs,f.i=j)(h2:∀f∈fs,f.i<m/\∃fs0,(∀f'∈fs0,f'∈fs)/\Good P C ops st G Q f fs0)
 (v8:∀f∈fs,∀f'∈fs,f'.i=f.i->f'=f)(k9:ops.toList.drop m=[o1,o2])(j2:ops[e]? =some oe)(hok:okF st G fs=true)(hf:zcV ops m e as=true)
 (hA:Ex P C ops [o1,o2] (stOf st G (fs.map (·.i)) fs) Q)(hB:Ex P C ops [o1,oe,o2] (stOf st G ((noF e fs).map (·.i)) (noF e fs)) Q):
 ∀(n:Nat)(listed:Array Bool)(c:Nat)(g:Gh)(a:Act)(w:World),listed.size=ops.size->n=c+2→
 c=((List.range m).filter λj=>!listed.getD j false).length->listed.getD m false=false->listed.getD (m+1) false=false->zdR ops listed->RelD C st G fs (λj=>listed.getD j false=true) g a w->wpAnyIn C.F 0 P .any ops (lift C Q) n listed a w:=by
 simp only[zcV,jE]at hf;obtain⟨⟨⟨⟨⟨f1,f0⟩,f2⟩,f3⟩,f4⟩,f5⟩:=hf;have hG:ops.size=m+2:=ao f1
 have j1:e<m:=ao f0
 have H:∀i,i<ops.size->∀j∈dir ops i,j<i:=λi hi j N=>by
  have:=jF.1 (jF.1 he i (ao hi)) j N;simpa using this
 have f3':∀j,j<m->j≠e->j∈as:=λj N k8=>by
  have:=jF.1 f3 j (ao N);simp_all[yG]
 have g1:ops[m]? =some o1:=by have:(ops.toList.drop m)[0]? =some o1:=by rw[k9];rfl
                              simpa using this
 have g3:ops[m+1]? =some o2:=by have:(ops.toList.drop m)[1]? =some o2:=by rw[k9];rfl
                                simpa using this
 intro n
 induction n with
 |zero=>omega
 |succ n ih=>
  intro listed c g a w v5 hn hc j0 hC xT hr
  have v4:Region.ready .any ops listed≠[]:=by
   have key:∀k,(∃j,j<k/\j<ops.size/\listed.getD j false=false)->∃j,j<ops.size/\listed.getD j false=false/\∀i,i<j->listed.getD i false=true:=by
    intro k
    induction k with
    |zero=>rintro⟨j,h,_⟩;omega
    |succ k ihk=>
     rintro⟨j,h1,h2,h3⟩
     by_cases v9:∃j,j<k/\j<ops.size/\listed.getD j false=false
     ·exact ihk v9
     ·refine⟨j,h2,h3,λi hi=>?_⟩;cases hb:listed.getD i false with
      |true=>rfl
      |false=>exact absurd ⟨i,aa,aa,hb⟩ v9
   obtain⟨j,k7,hZ,hY⟩:=key (m+1) ⟨m,aa,aa,j0⟩;have:j∈Region.ready .any ops listed:=zr.2 ⟨k7,by rw[zgH aa];exact hZ,λi hi=>hY i (H j k7 i hi)⟩
   grind
  refine⟨λe=>absurd e v4,λi hi=>?_⟩;obtain⟨r1,r2,r3⟩:=zr.1 hi;rw[zgH aa]at r2;by_cases hX:i=m
  ·subst hX;have x2:∀j,j<i->j≠e->listed.getD j false=true:=λj N k8=>zH xT r3 f2 j (f3' j N k8)
   cases k6:listed.getD e false with
   |true=>
    have x1:∀j,j<i->listed.getD j false=true:=λj N=>by
     by_cases h:j=e
     ·rw[h];exact k6
     ·exact x2 j N h
    have h9:c=0:=by
     rw[hc];rw[uF.2 (λj N=>?_)]
     ·rfl
     ·have N:=uV.1 N;simp[x1 j N]
    have v3:n=1:=aa
    subst v3
    have x0:=hr.rel (fs0:=fs) (as:=fs.map (·.i)) (λf hf=>hf) (λj N=>by
     obtain⟨f,w2,rfl⟩:=jS.1 N;exact x1 _ (h2 f w2).1)
    refine zjt g1 (hA.wpl x0) λa' w' h'=>zl9 [i+1] [o2] _ a' w' (ao v5) (λj N=>?_) ⟨aa,ah,λj N=>⟨by have:=H _ aa j N;omega,ah,by have:=H _ aa j N;omega⟩,λy hy=>by simp at hy,trivial⟩ (by simp[g3]) h'
    grind[zaj]
   |false=>
    have h8:c=1:=by
     rw[hc,List.filter_congr (q:=λj=>j==e) (λj N=>?_),zju j1]
     ·rfl
     ·have N:=uV.1 N;by_cases h:j=e
      ·subst h;simp[k6]
      ·simp[x2 j N h,h]
    have v3:n=2:=aa
    subst v3
    have x0:=hr.rel (fs0:=noF e fs) (as:=(noF e fs).map (·.i)) (λf hf=>(wG.1 hf).1) (λj N=>by
     obtain⟨f,w2,rfl⟩:=jS.1 N;have h3:=wG.1 w2;exact x2 _ (h2 f h3.1).1 (ao h3.2))
    refine zjt g1 (hB.wpl x0) λa' w' h'=>zl9 [e,i+1] [oe,o2] _ a' w' (ao v5) (λj N=>?_)
     ⟨aa,aj,λj N=>⟨by have:=H _ aa j N;omega,by simp;have:=H _ aa j N;omega,by have:=H _ aa j N;omega⟩,λy hy=>by simp at hy;subst hy;exact⟨e,yG.1 f5,ah⟩,
      by omega,ah,λj N=>⟨by have:=H _ aa j N;omega,ah,by have:=H _ aa j N;omega⟩,λy hy=>by simp at hy,trivial⟩ (by simp[j2,g3]) h'
    grind[zaj]
  ·have k5:i<m:=by
    grind[yG]
   obtain⟨f,v2,hW⟩:=h1 i k5;subst hW;obtain⟨_,fs0,j4,ga,gd,gk⟩:=h2 f v2;have j3:=zH xT r3 ga;refine gk g a w (hr.rel j4 j3) _ λv w' g' k1 k2 k3 k4=>?_
   have e:((List.range m).filter λj=>!(listed.setIfInBounds f.i true).getD j false)=((List.range m).filter λj=>!listed.getD j false).filter (λj=>!(j==f.i)):=by
    rw[List.filter_filter];refine List.filter_congr λj N=>?_
    grind[zaj]
   have hQ:((List.range m).filter λj=>!listed.getD j false).Nodup:=List.nodup_range.filter _;have v1:f.i∈((List.range m).filter λj=>!listed.getD j false):=wG.2 ⟨uV.2 k5,by simp[r2]⟩;have h3:=xU v1;rw[hQ.erase_eq_filter]at h3;have hF:0<c:=by grind
   refine ih (listed.setIfInBounds f.i true) (c-1) g' _ w' (ao v5) aa ?_ ?_ ?_ (λk hI v0 j N=>?_) (hr.add v2 hok (by rw[r2];simp) (v8 f v2) (λj N=>?_) (λf' w2 hD v1=>?_) gd k1 k2 k3 k4)
   ·grind
   ·simp_all
   ·grind[zaj]
   ·rw[zaj aa]at v0⊢;split
    ·rfl
    ·split at v0
     ·grind
     ·exact xT k hI v0 j N
   ·grind[zaj]
   ·obtain⟨q1,fs1,_,qa,_,_⟩:=h2 f' w2;have h3:=zH xT (xT f'.i aa hD) qa f.i v1;simp_all
def zAb{P:Program}{C:Ctx}{l:List Oper}{st:St}{Q:Exit->St->Prop}(H:List Nat)(hm:P.follows .mixedOrders=true)(he:zcU l.toArray=true)(h:Chain P C l.toArray st H Q 0 []):X P C (.region id l.toArray true) st Q:=λg a w hr=>by
 obtain⟨m,fs,as,h1,h2,hu,x2⟩:=h.collect (λj hj=>by omega) (λf hf=>by simp at hf) (λf hf=>by simp at hf);refine wpIn_region_any hm ?_;have N:Rel C st g a w.drew:=hr.add (nk:=none) (d:=none) (x:=.any) (v:=.nilIface) ⟨Im.le_refl _,λ_ _=>rfl,λ_ _=>rfl,Grow.drew w⟩ (λk h=>by simp at h) (λt h=>by simp at h) (.any _) hr.sat.im hr.sat.ob
 have G:∀j,(Array.replicate l.toArray.size false).getD j false=false:=λj=>by
  simp only[jI,Array.getElem?_replicate];split<;>rfl
 have xT:∀fs':List Fact,RelD C st H fs' (λj=>(Array.replicate l.toArray.size false).getD j false=true) g a w.drew:=λfs'=>
  ⟨N.size,N.defers,λf _ hD=>by simp_all,λt x _ hx=>N.tmps t x hx,λf _ hD=>by simp_all,N.sat.blk,⟨N.sat.im,N.sat.ob⟩,N.ext⟩
 rcases x2 with⟨hok,hf,x1⟩|⟨e,o1,oe,o2,x0,w2,hok,hf,hA,hB⟩
 ·have v9:m<=l.toArray.size:=by
   simp only[zex,jE]at hf;simpa using hf.1
  refine zqq he h1 h2 hu hok hf x1 l.toArray.size (Array.replicate l.toArray.size false) m g a w.drew ah aa ?_ (λj _ _=>G j) (λi _ hi=>by rw[G]at hi;simp at hi) (xT fs)
  grind[List.filter_eq_self]
 ·have v8:l.toArray.size=m+2:=by
   simp only[zcV,jE]at hf;simpa using hf.1.1.1.1.1
  refine zn8 he h1 h2 hu x0 w2 hok hf hA hB l.toArray.size (Array.replicate l.toArray.size false) m g a w.drew ah aa ?_ (G _) (G _) (λi _ hi=>by rw[G]at hi;simp at hi) (xT fs)
  grind[List.filter_eq_self]
end Go.Rse
namespace Go.Rse
open Go Go.RowKit
variable{a b:Nat}{ops:Array Oper}{w:World}
def zjv{C:Ctx}{st:St}{g:Gh}{a:Act}{i t:Nat}{b:Bool}(hr:Rel C st g a w)(hi:(ops[i]?).bind (·.dst)=some t)(N:lk st.t t=some (.bool b)):yielded ops a.tmps i=some b:=by
 have:=z8 (hr.tmps t _ N)
 have e:a.tmps[t]? =some (.bool b):=by
  simp only[jI]at this
  grind[undef]
 simp[yielded,hi,e]
section
variable{P:Program}{C:Ctx}{ops:Array Oper}{st:St}{Q:Exit->St->Prop}{rest:List Oper}{d:Nat}{op:Op}{ty:TypeId}{pos:String}{af:Array Edge}{x:AV}{i t:Nat}{want b:Bool}
variable{l:List Oper}
def zxP{nb:Option (Nat×Blk)}(hi:(ops[i]?).bind (·.dst)=some t)(H:lk st.t t=some (.bool b))(hw:(b==want)=true)(hs:yy P C op ty st x nb)(G:d.blt C.n=true)(hn:nbOk st nb=true)(h:Ex P C ops rest (addSt st (some d) x nb) Q):
 Ex P C ops ({dst:=some d,op:=op,type:=ty,pos:=pos,after:=af,guard:=some (i,want)}::rest) st Q:=λg a w hr=>by
 have hy:=zjv hr hi H;unfold wpListIn;rw[j7 (by simp_all[Region.wanted])];exact zaf (hs g a w (some d) pos af (some (i,want)) hr _ λv w' g' h2 h3 N h5=>h g' _ w' (hr.addSt h2 G hn h3 N.1 N.2 h5))
def zDA(hi:(ops[i]?).bind (·.dst)=some t)(N:lk st.t t=some (.bool b))(hw:(b==want)=false)(H:d.blt C.n=true)(h:Ex P C ops rest {t:=(d,.tup [])::st.t,h:=st.h} Q):
 Ex P C ops ({dst:=some d,op:=op,type:=ty,pos:=pos,after:=af,guard:=some (i,want)}::rest) st Q:=λg a w hr=>by
 have hy:=zjv hr hi N;unfold wpListIn;rw[j8 (by simp_all[Region.wanted])];exact⟨λf _=>C.F_fn f,h g _ w (hr.addSt (d:=some d) (nb:=none) (Add.refl _ g w) H rfl (.tup [] [] rfl (λj c v G=>by simp at G)) hr.sat.im hr.sat.ob (λ_ _ h=>by cases h))⟩
def zsV(want:Bool)(_hb:lk st.t t=some (.bool b))(h1:(b==want)=true->Ex P C ops l st Q)(N:(b==want)=false->Ex P C ops l st Q):Ex P C ops l st Q:=by
 grind
def app:List (Nat×AV)->List (Nat×AV)->List (Nat×AV)
 |[],l=>l
 |e::r,l=>e::app r l
def zey{c y z:Operand}{u:AV}(N:ev st c=some (.bool b))(H:b=true)(hx:ev st y=some u):Pur P C (.pick c y z) ty st u:=λg a w dst pos af gd hr=>by
 have ec:=z8 (yq hr N);subst H;exact⟨a.eval y,by simp[execOp,ec,asBool],yq hr hx⟩
def zcj{c y z:Operand}{u:AV}(N:ev st c=some (.bool b))(H:b=false)(hx:ev st z=some u):Pur P C (.pick c y z) ty st u:=λg a w dst pos af gd hr=>by
 have ec:=z8 (yq hr N);subst H;exact⟨a.eval z,by simp[execOp,ec,asBool],yq hr hx⟩
end
def ltB(h:a.blt b=true):a<b:=ao h
def leB(h:a.ble b=true):a<=b:=ao h
end Go.Rse
namespace Go.Rse
open Go Go.RowKit
variable{P:Program}{b:Bool}{d off:Nat}{t:TypeId}{vs:List Value}{w:World}{ρ:Nat->Value}
def zbk(P:Program)(t:TypeId):Bool:=match P.underlying t with|some (.struct _)=>true|some (.array _ _)=>true|_=>false
def kAV:AV->Nat
 |.int .i64 _=>1
 |.int _ _=>3
 |.bool _=>2
 |_=>0
def flat(P:Program):Nat->TypeId->List Nat
 |0,_=>[]
 |d+1,t=>match P.underlying t with
  |some .bool=>[2]
  |some (.int k)=>[if k=.i64 then 1 else 3]
  |some (.struct fs)=>fs.toList.flatMap λf=>flat P d f.type
  |_=>[]
def zcJ(P:Program)(E:TypeId->Bool)(F:TypeId->List Nat):Nat->List Field->Nat->Bool
 |off,[],n=>off==n
 |off,f::fs,n=>f.offset==off&&(f.name != "_")&&tyOk P f.type (zbk P f.type) (P.cellsOf f.type)&&((zbk P f.type||P.cellsOf f.type==1)&&(F f.type).length==P.cellsOf f.type)&&E f.type&&zcJ P E F (off+P.cellsOf f.type) fs n
def eqOk(P:Program):Nat->TypeId->Bool
 |0,_=>false
 |d+1,t=>match P.underlying t with
  |some .bool=>true
  |some (.int _)=>true
  |some (.struct fs)=>!P.stoodInHeld t&&zcJ P (eqOk P d) (flat P d) 0 fs.toList (P.cellsOf t)
  |_=>false
def valT(P:Program)(t:TypeId)(vs:List Value):Value:=if zbk P t then .agg vs.toArray else vs.headD .nilIface
def zkA:∀(n:Nat){xs ys:List AV}{b:Bool},eqL xs ys=some b->∃b1 b2,eqL (xs.take n) (ys.take n)=some b1/\eqL (xs.drop n) (ys.drop n)=some b2/\b=(b1&&b2)
 |0,xs,ys,b,h=>⟨true,b,by simp[eqL],by simpa using h,ah⟩
 |n+1,[],[],b,h=>by simp[eqL]at h;subst h;exact⟨true,true,by simp[eqL],by simp[eqL],rfl⟩
 |n+1,[],y::ys,b,h=>by simp[eqL]at h
 |n+1,x::xs,[],b,h=>by simp[eqL]at h
 |n+1,x::xs,y::ys,b,h=>by
  simp only[eqL]at h;cases hx:eqAV x y with
  |none=>simp[hx]at h
  |some p=>
   cases N:eqL xs ys with
   |none=>simp[hx,N]at h
   |some q=>
    simp only[hx,N,xE]at h;subst h;obtain⟨b1,b2,h1,H,G⟩:=zkA n N;refine⟨p&&b1,b2,by simp only[List.take_succ_cons,eqL,hx,h1],by simpa using H,by rw[G,Bool.and_assoc]⟩
def RVL.take{I:Im}{xs:List AV}(n:Nat)(h:RVL I ρ xs vs):RVL I ρ (xs.take n) (vs.take n):=by
 refine⟨by simp[h.1],λj c v N H=>?_⟩;rw[w4]at N H;split at N
 ·rename_i G;rw[j7 G]at H;exact h.2 j c v N H
 ·simp at N
def RVL.drop{I:Im}{xs:List AV}(n:Nat)(h:RVL I ρ xs vs):RVL I ρ (xs.drop n) (vs.drop n):=by
 refine⟨by simp[h.1],λj c v N H=>?_⟩;rw[wI]at N H;exact h.2 _ c v N H
def EqD(P:Program)(D:Nat)(t:TypeId)(L:List Nat):Prop:=∀(I:Im)(ρ:Nat->Value)(xs ys:List AV)(vs us:List Value)(b:Bool)(w:World),RVL I ρ xs vs->RVL I ρ ys us->xs.map kAV=L->ys.map kAV=L->(zbk P t=true->xs.length=P.cellsOf t)->eqL xs ys=some b→
 (Op.equalIn D t (valT P t vs) (valT P t us)).run P w=.ok b w
def zma:∀{xs ys:List AV}{b:Bool},eqL xs ys=some b->xs.length=ys.length
 |[],[],_,_=>rfl
 |[],_::_,_,h=>by simp[eqL]at h
 |_::_,[],_,h=>by simp[eqL]at h
 |x::xs,y::ys,b,h=>by
  simp only[eqL]at h;cases hx:eqAV x y with
  |none=>simp[hx]at h
  |some p=>
   cases N:eqL xs ys with
   |none=>simp[hx,N]at h
   |some q=>simp[zma N]
def zkB{P:Program}{E:TypeId->Bool}{F:TypeId->List Nat}:∀{fs:List Field}{off n:Nat},zcJ P E F off fs n=true->off<=n
 |[],off,n,h=>by simp[zcJ]at h;omega
 |f::fs,off,n,h=>by
  simp only[zcJ,jE]at h;have:=zkB h.2;omega
def zgI(ht:tyOk P t (zbk P t) (P.cellsOf t)=true)(h1:zbk P t=true\/P.cellsOf t=1)(hl:off+P.cellsOf t<=vs.length)(w:World):(part t vs.toArray off).run P w=.ok (valT P t ((vs.drop off).take (P.cellsOf t))) w:=by
 have key:vs.toArray.extract off (off+P.cellsOf t)=((vs.drop off).take (P.cellsOf t)).toArray:=by
  simp[kJ,List.extract]
 unfold part valT;by_cases G:zbk P t=true
 ·rw[G]at ht;simp only[jM,zbp ht,jH,if_true,yJ ht,jP,key,G]
 ·have h2:P.cellsOf t=1:=by rcases h1 with h|h;exact absurd h G;exact h
  have N:zbk P t=false:=ao G
  rw[N]at ht;have H:off<vs.length:=aa
  have e:vs.toArray[off]? =some vs[off]:=by simp[H]
  simp only[jM,zbp ht,jH,kP,if_false,e,jP,N,h2];rw[jQ H];rfl
def zjw{P:Program}{D:Nat}{E:TypeId->Bool}{F:TypeId->List Nat}(hE:∀t,E t=true->EqD P D t (F t)):∀(fs:List Field)(off n:Nat),zcJ P E F off fs n=true->∀(I:Im)(ρ:Nat->Value)(xs ys:List AV)(vs us:List Value)(b:Bool)(w:World),RVL I ρ xs vs->RVL I ρ ys us->xs.length=n->ys.length=n→
 (xs.drop off).map kAV=fs.flatMap (λf=>F f.type)->(ys.drop off).map kAV=fs.flatMap (λf=>F f.type)→
 eqL (xs.drop off) (ys.drop off)=some b->(Op.eqFields D vs.toArray us.toArray fs).run P w=.ok b w
 |[],off,n,h,I,ρ,xs,ys,vs,us,b,w,hx,G,N,H,kx,ky,he=>by
  simp[zcJ]at h;rw[wT aa,wT aa]at he;simp[eqL]at he;subst he;simp[Op.eqFields]
 |f::fs,off,n,h,I,ρ,xs,ys,vs,us,b,w,hx,G,N,H,kx,ky,he=>by
  simp only[zcJ,jE,beq_iff_eq,wL]at h;obtain⟨⟨⟨⟨⟨h1,h2⟩,h3⟩,h4,xT⟩,h5⟩,h6⟩:=h;have x2:=zkB h6;have hn:f.name≠ "_" :=ao h2
  simp only[uH]at kx ky
  have spl:∀{zs:List AV},(zs.drop off).map kAV=F f.type++fs.flatMap (λf=>F f.type)->((zs.drop off).take (P.cellsOf f.type)).map kAV=F f.type/\(zs.drop (off+P.cellsOf f.type)).map kAV=fs.flatMap (λf=>F f.type):=λhz=>by
   constructor
   ·rw[List.map_take,hz,wM aa,wE aa]
   ·rw[←kA,List.map_drop,hz,←xT,List.drop_left]
  obtain⟨b1,b2,e1,e2,e3⟩:=zkA (P.cellsOf f.type) he;have q1:=hE f.type h5 I ρ _ _ _ _ b1 w ((hx.drop off).take (P.cellsOf f.type)) ((G.drop off).take (P.cellsOf f.type)) (spl kx).1 (spl ky).1 (λha=>by simp;omega) e1;have p1:=zgI h3 h4 (vs:=vs) (off:=off) (by rw[hx.1];omega) w;have p2:=zgI h3 h4 (vs:=us) (off:=off) (by rw[G.1];omega) w;rw[kA,kA]at e2;have q2:=zjw hE fs (off+P.cellsOf f.type) n h6 I ρ xs ys vs us b2 w hx G N H (spl kx).2 (spl ky).2 e2;rw[Op.eqFields,j7 hn,h1];simp only[jM,p1,jH,p2,q1];subst e3;cases b1
  ·simp
  ·simpa using q2
def eqAt{P:Program}:∀(d:Nat)(t:TypeId),eqOk P d t=true->∀D,d<=D->EqD P D t (flat P d t)
 |0,t,h,D,hD=>by simp[eqOk]at h
 |d+1,t,h,D,hD=>λI ρ xs ys vs us b w hx hy kx ky ha he=>by
  obtain⟨D',rfl⟩:∃D',D=D'+1:=⟨D-1,aa⟩;unfold eqOk at h;unfold flat at kx ky
  have sc:∀q:Nat,zbk P t=false->xs.map kAV=[q]->ys.map kAV=[q]->(∀x y v u p,kAV x=q->kAV y=q->RV I ρ x v->RV I ρ y u->eqAV x y=some p->(Op.equalIn (D'+1) t v u).run P w=.ok p w)->(Op.equalIn (D'+1) t (valT P t vs) (valT P t us)).run P w=.ok b w:=λq G k1 k2 x1=>by
   have hl:xs.length=1:=by have:=jA List.length k1;simpa using this
   have x0:=zma he;unfold valT;rw[G]
   match xs,ys,vs,us,hl,x0,hx,hy,he,k1,k2 with
   |[x],[y],[v],[u],_,_,hx,hy,he,k1,k2=>
    simp only[eqL]at he;cases hq:eqAV x y with
    |none=>simp[hq]at he
    |some p=>
     simp[hq]at he;subst he;simp at k1 k2;exact x1 x y v u p k1 k2 (hx.2 0 x v rfl rfl) (hy.2 0 y u rfl rfl) hq
   |[_],[_],[],_,_,_,hx,_,_,_,_=>simp[RVL]at hx
   |[_],[_],_::_::_,_,_,_,hx,_,_,_,_=>simp[RVL]at hx
   |[_],[_],[_],[],_,_,_,hy,_,_,_=>simp[RVL]at hy
   |[_],[_],[_],_::_::_,_,_,_,hy,_,_,_=>simp[RVL]at hy
  cases N:P.underlying t with
  |none=>simp[N]at h
  |some T=>
   cases T with
   |bool=>
    simp only[N]at kx ky;refine sc 2 (by simp[zbk,N]) kx ky λx y v u p h1 h2 xT x2 H=>?_
    unfold eqAV at H;split at H
    ·simp[kAV]at h1
    ·rename_i a c;rw[z8 xT,z8 x2];simp at H;subst H;exact run_equalIn_bool' w D' t a c N
    ·simp at H
   |int k=>
    simp only[N]at kx ky;refine sc _ (by simp[zbk,N]) kx ky λx y v u p h1 h2 xT x2 H=>?_
    unfold eqAV at H;split at H
    ·rename_i a c;rw[yK xT,yK x2];simp at H;subst H;rw[run_equalIn_int w D' t .i64 k a c N];rfl
    ·simp only[kAV]at h1;split at h1<;>simp at h1
    ·simp at H
   |struct fs=>
    simp only[N,jE,wP]at h;simp only[N]at kx ky;have G:zbk P t=true:=by simp[zbk,N]
    have hf:P.fieldsOf t=fs:=by simp[Program.fieldsOf,N]
    have hn:=ha G;unfold valT;rw[G];simp only[if_true];rw[run_equalIn_struct w D' t vs.toArray us.toArray (by rw[hf];exact N) h.1,hf];exact zjw (E:=eqOk P d) (F:=flat P d) (λt' w2=>eqAt d t' w2 D' aa) fs.toList 0 _ h.2 I ρ xs ys vs us b w hx hy hn (by rw[←zma he];exact hn) (ao kx) (ao ky) (ao he)
   |_=>simp[N]at h
def run_equal_cells(h:eqOk P d t=true)(H:d<=10000){xs ys:List AV}{us:List Value}{I:Im}(hx:RVL I ρ xs vs)(G:RVL I ρ ys us)(N:tyOk P t true xs.length=true)
 (kx:xs.map kAV=flat P d t)(ky:ys.map kAV=flat P d t)(he:eqL xs ys=some b):(Op.equal t (.agg vs.toArray) (.agg us.toArray)).run P w=.ok b w:=by
 have ha:zbk P t=true:=by
  simp only[tyOk,jE]at N;obtain⟨_,h2⟩:=N;unfold zbk;cases hu:P.underlying t with
  |none=>simp[hu]at h2
  |some T=>cases T<;>simp_all
 have h1:=eqAt d t h 10000 H I ρ xs ys vs us b w hx G kx ky (λ_=>by
  simp only[tyOk,jE]at N;obtain⟨h1,_⟩:=N;unfold Program.cellsOf;cases hi:P.info? t with
  |none=>simp[hi]at h1
  |some i=>simp[hi]at h1⊢;omega) he
 unfold valT at h1;rw[ha]at h1;exact h1
section
variable{P:Program}{C:Ctx}{st:St}{ty:TypeId}
variable{L:List Nat}{b:Bool}{d:Nat}{t:TypeId}{x y:Operand}{yt:TypeId}
def zsW{xs ys:List AV}(h:(eqOk P d t&&decide (d<=10000))=true)(G:flat P d t=L)(hm:P.eqGuardType P.depth t=false)(ht:tyOk P t true xs.length=true)(hx:ev st x=some (.agg xs))(hy:ev st y=some (.agg ys))(kx:xs.map kAV=L)(ky:ys.map kAV=L)(he:eqL xs ys=some b):
 Pur P C (.binOp .eql t x y yt) ty st (.bool b):=λg a w dst pos af gd hr=>by
 simp at h;obtain⟨vs,e,hl,hv⟩:=zaM (yq hr hx);obtain⟨us,e',N,H⟩:=zaM (yq hr hy);refine⟨.bool b,?_,.bool _⟩;have h1:=run_equal_cells (w:=w) h.1 h.2 ⟨hl,hv⟩ ⟨N,H⟩ ht (kx.trans G.symm) (ky.trans G.symm) he;simp only[execOp,e,e',jM,zdu hm,jH,binOp,h1,jP]
def zsX{xs ys:List AV}(h:(eqOk P d t&&decide (d<=10000))=true)(G:flat P d t=L)(hm:P.eqGuardType P.depth t=false)(ht:tyOk P t true xs.length=true)(hx:ev st x=some (.agg xs))(hy:ev st y=some (.agg ys))(kx:xs.map kAV=L)(ky:ys.map kAV=L)(he:eqL xs ys=some b):
 Pur P C (.binOp .neq t x y yt) ty st (.bool (!b)):=λg a w dst pos af gd hr=>by
 simp at h;obtain⟨vs,e,hl,hv⟩:=zaM (yq hr hx);obtain⟨us,e',N,H⟩:=zaM (yq hr hy);refine⟨.bool (!b),?_,.bool _⟩;have h1:=run_equal_cells (w:=w) h.1 h.2 ⟨hl,hv⟩ ⟨N,H⟩ ht (kx.trans G.symm) (ky.trans G.symm) he;simp only[execOp,e,e',jM,zdu hm,jH,binOp,h1,jP]
end
end Go.Rse
