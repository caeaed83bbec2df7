/-
  The package-level variables that the walks read: what they hold, cell by cell.
  The logic: parts Rse1, Rse2, Rse3, Rse4, Rse5, Rse6, Rse7, Rse8, Rse9, Rse10, Rse11, Rse12.
  Structs of ints and bools (and of structs of these) are equal iff their cells are.
-/
import Derived.WalkKit
import Derived.Maps.AppendAt
import Derived.Deep.AppendLies
import Derived.TacticsIn
import Derived.RangeFuncCalls
import Derived.Sort.LoopGhostIn
import Derived.RangeFuncLeaves
import Derived.Laws.CopyRow
import Derived.OrdersIn
import Derived.Laws.StructEq
set_option linter.all false
namespace Go.Rse
open Go
def j1:=@List.getElem?_eq_some_iff
def j3:=@if_neg
def j4:=@if_pos
def j5:=@List.mem_of_getElem?
def j6:=@congrArg
def j7:=@Bool.and_eq_true
def j8:=@List.getD_eq_getElem?_getD
def j9:=@List.take_length
def jA:=@List.take_add_one
def jB:=@Result.andThen_ok
def jC:=@List.getElem?_eq_getElem
def jD:=@decide_eq_false
def jE:=@Nat.le_refl
def jF:=@List.all_eq_true
def jG:=@List.drop_eq_getElem_cons
def jH:=@decide_eq_true
def jI:=@List.length_append
def jJ:=@List.getElem?_map
def jK:=@Array.getD_eq_getD_getElem?
def jL:=@List.length_take
def jM:=@Sem.run_bind
def jN:=@Sem.run_pure
def jO:=@List.length_map
def jP:=@decide_eq_false_iff_not
def jQ:=@List.eq_nil_of_length_eq_zero
def jR:=@Nat.le_trans
def jS:=@List.mem_iff_getElem?
def jT:=@decide_eq_true_iff
def jU:=@Nat.mul_le_mul_right
def jV:=@Nat.lt_of_lt_of_le
def jW:=@Array.getElem?_eq_getElem
def jX:=@List.mem_map
def jY:=@List.length_cons
def jZ:=@Classical.byContradiction
def w4:=@List.append_nil
def w5:=@List.take_append_drop
def w6:=@List.mem_cons
def w7:=@List.getElem?_drop
def w8:=@List.getElem?_take
def w9:=@decide_eq_true_eq
def wA:=@Nat.lt_succ_iff_lt_or_eq
def wB:=@List.drop_of_length_le
def wC:=@Int.toNat_natCast
def wD:=@Nat.lt_or_ge
def wE:=@Bool.or_eq_true
def wF:=@List.length_filter_le
def wG:=@Bool.not_eq_true'
def wH:=@Nat.zero_le
def wI:=@List.take_of_length_le
def wJ:=@Array.getElem?_eq_some_iff
def wK:=@List.getElem?_append_right
def wL:=@List.mem_filter
def wM:=@Nat.mul_comm
def wN:=@List.getElem?_take_of_lt
def wO:=@List.drop_length
def wP:=@List.mem_append
def wQ:=@List.mem_cons_of_mem
def wR:=@List.filter_append
def wS:=@Option.isSome_iff_exists
def wT:=@List.getElem?_eq_none
def wU:=@Nat.not_lt_zero
def wV:=@List.flatMap_cons
def wW:=@List.take_append_of_le_length
def wX:=@Int.ediv_nonneg
def wY:=@List.mem_range
def wZ:=@Bool.true_and
def u0:=@List.filter_cons
def u4:=@List.length_nil
def u5:=@List.map_cons
def u6:=@List.length_drop
def u7:=@Bool.and_assoc
def u8:=@Array.getElem?_setIfInBounds
def u9:=@Int.eq_ofNat_of_zero_le
def uA:=@List.cons_append
def uB:=@List.getElem?_replicate
def uC:=@Int.le_of_lt
def uD:=@List.filter_eq_nil_iff
def uF:=@List.findIdx_eq_length
def uG:=@Nat.add_zero
def uH:=@List.flatMap_append
def uI:=@List.getElem?_append_left
def uJ:=@Array.getElem?_append
def uK:=@Array.getElem?_modify
def uL:=@List.length_replicate
def uM:=@Int.ediv_le_self
def uN:=@Int.emod_lt_of_pos
def uO:=@List.any_eq_true
def uP:=@List.eq_nil_iff_forall_not_mem
def uQ:=@Option.getD_some
def uR:=@IntWalk.i64_in
def uS:=@List.drop_append_of_le_length
def uT:=@List.getElem?_append
def uU:=@Nat.div_lt_of_lt_mul
def uV:=@List.append_assoc
def uW:=@List.ext_getElem?
def uX:=@List.map_congr_left
def uY:=@Array.getElem?_eq_none
def uZ:=@Nat.succ_mul
def v2:=@Nat.add_assoc
def v6:=@List.getElem_mem
def v7:=@Int.ofNat_dvd_left
def vA:=@Array.getElem?_toList
def vC:=@List.pairwise_iff_getElem
def vD:=@Int.emod_nonneg
def vE:=@List.nodup_cons
def vF:=@List.range_succ
def vG:=@Nat.div_add_mod
def vH:=@List.nodup_append
def vJ:=@Nat.pow_le_pow_right
def vK:=@List.getElem?_range
def vL:=@List.length_pos_iff
def vM:=@Int.mul_nonneg
def vN:=@Int.mul_le_mul_of_nonneg_left
def vO:=@List.mem_singleton
def vP:=@Nat.zero_add
def vQ:=@Bool.beq_eq_decide_eq
def vR:=@List.set_append_right
def vS:=@List.getElem?_set
def vT:=@Nat.gcd_dvd_right
def vU:=@Bool.and_eq_true_iff
def vV:=@Int.le_refl
def vW:=@List.pairwise_append
def vX:=@List.take_zero
def vY:=@Nat.mod_lt
def vZ:=@Nat.mul_le_mul
def x5:=@Nat.sub_zero
def x6:=@Array.getElem?_push
def x7:=@List.filter_eq_self
def x8:=@List.all_cons
def x9:=@Nat.gcd_pos_of_pos_right
def xA:=@List.cons.injEq
def xB:=@List.find?_cons
def xC:=@List.foldl_cons
def xD:=@List.map_append
def xE:=@List.nil_append
def xF:=@List.mem_cons_self
def xG:=@Nat.div_dvd_of_dvd
def xH:=@Nat.eq_zero_or_pos
def xI:=@Nat.le_mul_of_pos_right
def xJ:=@List.filter_congr
def xK:=@List.mapM_cons
def xL:=@Option.map_eq_some_iff
def xM:=@List.getElem?_toArray
def xN:=@List.mem_flatMap
def xO:=@Nat.gcd_dvd_left
def xP:=@Bool.not_true
def xQ:=@Int.mul_ediv_cancel'
def xR:=@List.getElem?_of_mem
def xS:=@Nat.min_eq_left
def xU:=@List.map_nil
def xV:=@Nat.sub_self
def xW:=@Bool.false_eq_true
def xX:=@List.drop_drop
def xY:=@Nat.add_le_add
def xZ:=@Nat.not_le
def k6:=@List.any_cons
inductive GC
 |n(x:Int)
 |b(x:Bool)
 deriving DecidableEq
def zmK:Nat->Option (List GC)
 |0=>some [.n 3,.n 2]
  |_=>none
end Go.Rse
namespace Go
theorem zif{α:Type}:∀(a:Ask α)(w:World),w.drawn<=(w.ask a).2.drawn:=by
 intro a
 induction a<;>grind[World.ask]
theorem zig(w:World)(c:Sys):w.drawn<=(w.sys c).2.drawn:=by
 grind[zif,World.sys]
theorem zeE{p:Program}{w w':World}{at_:Addr}{u:TypeId}{k:Addr}{v:Value}{at2:Bool}{l:List Addr}(h:w.viewStore p at_ u k v at2=.ok (w',l)):w'.drawn=w.drawn:=by
 unfold World.viewStore at h;simp only[bind,Except.bind,pure,Except.pure]at h
 repeat'(first|(cases h;done)|(cases h;rfl)|(split at h))
def ze0{p:Program}{w w':World}{a:Addr}{v:Value}{at2:Bool}{l:List Addr}(h:w.farStore p a v at2=.ok (w',l)):w'.drawn=w.drawn:=by
 grind[World.farStore,zeE]
theorem zgs(w:World)(a:Addr)(n:Nat):(w.freeze a n).drawn=w.drawn:=by unfold World.freeze;split<;>rfl
def zfP(w:World)(a:Addr)(v:Value):(w.setCell a v).drawn=w.drawn:=rfl
def zka{α:Type}{p:Program}:∀(m:Sem α)(w:World){v:α}{w':World},m.run p w=.ok v w'->w.drawn<=w'.drawn:=by
 intro m
 induction m with
 |pure a=>simp_all
 |load m a k ih=>
  grind[Sem.run]
 |store m a x k ih=>
  intro w v w' h
  cases x<;>simp only[Sem.run]at h<;>first
   |(cases h;done)
   |(split at h
     ·split at h
      ·cases h
      ·exact(zfP w a _)▸(ih (w.setCell a _) h)
     ·split at h
      ·rename_i w2 l e;exact(ze0 e)▸ih _ h
      ·cases h)
 |new o k ih=>grind[Sem.run]
 |shape r k ih=>grind[Sem.run]
 |freeze a n k ih=>grind[Sem.run,zgs]
 |frozen a k ih=>grind[Sem.run]
 |getObj r k ih=>
  grind[Sem.run]
 |setObj r o k ih=>
  grind[Sem.run]
 |choose q k ih=>
  grind[Sem.run]
 |sys c k ih=>grind[Sem.run,zig]
 |program k ih=>grind[Sem.run]
 |mark m k ih=>simp_all[Sem.run]
 |halt h0=>simp_all
end Go
namespace Go.Rse
open Go Go.RowKit
abbrev Im:=Nat->Nat->Option Value
def Im.le(I J:Im):Prop:=∀b o v,I b o=some v->J b o=some v
def Im.le_refl(I:Im):Im.le I I:=λ_ _ _ h=>h
def Im.le_trans{I J K:Im}(h:Im.le I J)(Z:Im.le J K):Im.le I K:=λb o v e=>Z b o v (h b o v e)
theorem beqF{a b:Nat}:a.beq b=false↔a≠b:=by
 constructor
 ·intro h e;subst e;simp at h
 ·intro h;cases Z:a.beq b<;>simp_all
inductive AV:Type 1
 |int(k:IntKind)(n:Int)
 |bool(b:Bool)
 |str(s:ByteArray)
 |nils
 |nilf
 |val(v:Value)
 |sl{α:Type}(enc:α->List AV)(l:List α)
 |own(k:Nat)
 |ptr(k s i j:Nat)
 |mth(f:FuncId)(k s i j:Nat)
 |sub(k s i m:Nat)
 |ept{α:Type}(enc:α->List AV)(x:α)(j:Nat)
 |fn(f:FuncId)(caps:List AV)
 |yv(l:Nat)
 |agg(cs:List AV)
 |tup(vs:List AV)
 |ifb(b:Bool)(x:AV)
 |opt(b:Bool)(x:AV)
 |mp(k:Nat)
 |any
def yX:Value->Option Nat
 |.pointer (some a)=>some a.block
 |.slice (some a) _ _=>some a.block
 |_=>none
def noNames:Nat->Value:=λ_=>.nilIface
inductive RV(I:Im):(Nat->Value)->AV->Value->Prop
 |int{ρ}(k:IntKind)(n:Int):RV I ρ (.int k n) (.int k n)
 |bool{ρ}(b:Bool):RV I ρ (.bool b) (.bool b)
 |str{ρ}(s:ByteArray):RV I ρ (.str s) (.string s)
 |nils{ρ}:RV I ρ .nils (.slice none 0 0)
 |nilf{ρ}:RV I ρ .nilf .nilFunc
 |val{ρ}(v:Value):RV I ρ (.val v) v
 |sl{ρ}{α:Type}(enc:α->List AV)(l:List α)(A:Option Addr)(b o s c:Nat)(vs:Nat->Nat->Value)
  (hA:l≠[]->A=some ⟨b,o,none⟩)(hc:l.length<=c)(hm:c<=maxLen)
  (hs:∀(i:Nat)(x:α),l[i]? =some x->(enc x).length=s)
  (hI:∀(i:Nat)(x:α)(j:Nat),l[i]? =some x->j<s->I b (o+i*s+j)=some (vs i j))
  (hv:∀(i:Nat)(x:α)(j:Nat)(cell:AV),l[i]? =some x->(enc x)[j]? =some cell->RV I noNames cell (vs i j)):RV I ρ (.sl enc l) (.slice A l.length c)
 |own{ρ}(k:Nat)(A:Option Addr)(n c:Nat)(h:ρ k=.slice A n c):RV I ρ (.own k) (.slice A n c)
 |ptr{ρ}(k s i j b:Nat)(h:yX (ρ k)=some b):RV I ρ (.ptr k s i j) (.pointer (some ⟨b,i*s+j,none⟩))
 |mth{ρ}(f:FuncId)(k s i j b:Nat)(h:yX (ρ k)=some b):RV I ρ (.mth f k s i j) (.func (.func f) #[.pointer (some ⟨b,i*s+j,none⟩)] #[])
 |sub{ρ}(k s i m c:Nat)(A:Option Addr)(h:m≠0->∃b,yX (ρ k)=some b/\A=some ⟨b,i*s,none⟩):RV I ρ (.sub k s i m) (.slice A m c)
 |ept{ρ}{α:Type}(enc:α->List AV)(x:α)(j b o:Nat)(vs:Nat->Value)
  (hI:∀(j:Nat),j<(enc x).length->I b (o+j)=some (vs j))
  (hv:∀(j:Nat)(cell:AV),(enc x)[j]? =some cell->RV I noNames cell (vs j)):RV I ρ (.ept enc x j) (.pointer (some ⟨b,o+j,none⟩))
 |fn{ρ}(f:FuncId)(caps:List AV)(vs:List Value)(hl:vs.length=caps.length)
  (hv:∀(j:Nat)(c:AV)(v:Value),caps[j]? =some c->vs[j]? =some v->RV I ρ c v):RV I ρ (.fn f caps) (.func (.func f) #[] vs.toArray)
 |yv{ρ}(l:Nat):RV I ρ (.yv l) (.func (.yield l) #[] #[])
 |agg{ρ}(cs:List AV)(vs:List Value)(hl:vs.length=cs.length)
  (hv:∀(j:Nat)(c:AV)(v:Value),cs[j]? =some c->vs[j]? =some v->RV I ρ c v):RV I ρ (.agg cs) (.agg vs.toArray)
 |tup{ρ}(cs:List AV)(vs:List Value)(hl:vs.length=cs.length)
  (hv:∀(j:Nat)(c:AV)(v:Value),cs[j]? =some c->vs[j]? =some v->RV I ρ c v):RV I ρ (.tup cs) (.tuple vs.toArray)
 |ifb{ρ}(b:Bool)(x:AV)(v:Value)(h:b=true->RV I ρ x v):RV I ρ (.ifb b x) v
 |opt{ρ}(b:Bool)(x:AV)(v:Value)(h:b=true->RV I ρ x v)(h0:b=false->v=.tuple #[]):RV I ρ (.opt b x) v
 |mp{ρ}(k b:Nat)(h:ρ k=.map (some b)):RV I ρ (.mp k) (.map (some b))
 |any{ρ}(v:Value):RV I ρ .any v
def RV.mono{I J:Im}{ρ:Nat->Value}{x:AV}{v:Value}(h:RV I ρ x v)(Z:Im.le I J):RV J ρ x v:=by
 induction h with
 |int k n=>exact .int k n
 |bool b=>exact .bool b
 |str s=>exact .str s
 |nils=>exact .nils
 |nilf=>exact .nilf
 |val v=>exact .val v
 |sl enc l A b o s c vs U T hm hs hI hv ih=>exact .sl enc l A b o s c vs U T hm hs (λi x j hx V=>Z _ _ _ (hI i x j hx V)) ih
 |own k A n c h=>exact .own k A n c h
 |ptr k s i j b h=>exact .ptr k s i j b h
 |mth f k s i j b h=>exact .mth f k s i j b h
 |sub k s i m c A h=>exact .sub k s i m c A h
 |ept enc x j b o vs hI hv ih=>exact .ept enc x j b o vs (λj V=>Z _ _ _ (hI j V)) ih
 |fn f caps vs hl hv ih=>exact .fn f caps vs hl ih
 |yv l=>exact .yv l
 |agg cs vs hl hv ih=>exact .agg cs vs hl ih
 |tup cs vs hl hv ih=>exact .tup cs vs hl ih
 |ifb b x v h ih=>exact .ifb b x v ih
 |opt b x v h h0 ih=>exact .opt b x v ih h0
 |mp k b h=>exact .mp k b h
 |any v=>exact .any v
def AV.fr(k:Nat):AV->Bool
 |.own k'=>!(k'.beq k)
 |.ptr k' _ _ _=>!(k'.beq k)
 |.mth _ k' _ _ _=>!(k'.beq k)
 |.sub k' _ _ _=>!(k'.beq k)
 |.fn _ cs=>frL k cs
 |.agg cs=>frL k cs
 |.tup cs=>frL k cs
 |.ifb _ x=>x.fr k
 |.opt _ x=>x.fr k
 |.mp k'=>!(k'.beq k)
 |_=>true
where frL(k:Nat):List AV->Bool
 |[]=>true
 |x::r=>x.fr k&&frL k r
theorem zo{k:Nat}:∀{cs:List AV},AV.fr.frL k cs=true->∀{j:Nat}{c:AV},cs[j]? =some c->c.fr k=true
 |[],_,_,_,h=>by simp at h
 |x::r,h,0,c,e=>by
  simp_all[AV.fr.frL]
 |x::r,h,j+1,c,e=>by
  simp[AV.fr.frL]at h;exact zo h.2 (by simpa using e)
def RV.rename{I:Im}{ρ ρ':Nat->Value}{x:AV}{v:Value}{k:Nat}(h:RV I ρ x v)(hf:x.fr k=true)(hρ:∀n,n≠k->ρ' n=ρ n):RV I ρ' x v:=by
 induction h with
 |int k n=>exact .int k n
 |bool b=>exact .bool b
 |str s=>exact .str s
 |nils=>exact .nils
 |nilf=>exact .nilf
 |val v=>exact .val v
 |sl enc l A b o s c vs T V hm hs hI hv ih=>exact .sl enc l A b o s c vs T V hm hs hI hv
 |own k' A n c h=>
  have:k'≠k:=beqF.1 (by simpa[AV.fr]using hf);exact .own k' A n c ((hρ k' this).trans h)
 |ptr k' s i j b h=>
  have:k'≠k:=beqF.1 (by simpa[AV.fr]using hf);exact .ptr k' s i j b (by simp_all)
 |mth f k' s i j b h=>
  have:k'≠k:=beqF.1 (by simpa[AV.fr]using hf);exact .mth f k' s i j b (by simp_all)
 |sub k' s i m c A h=>
  have:k'≠k:=beqF.1 (by simpa[AV.fr]using hf);exact .sub k' s i m c A (by simp_all)
 |ept enc x j b o vs hI hv ih=>exact .ept enc x j b o vs hI hv
 |fn f caps vs hl hv ih=>exact .fn f caps vs hl (λj c v V Z=>ih j c v V Z (zo (by simpa[AV.fr]using hf) V) hρ)
 |yv l=>exact .yv l
 |agg cs vs hl hv ih=>exact .agg cs vs hl (λj c v V Z=>ih j c v V Z (zo (by simpa[AV.fr]using hf) V) hρ)
 |tup cs vs hl hv ih=>exact .tup cs vs hl (λj c v V Z=>ih j c v V Z (zo (by simpa[AV.fr]using hf) V) hρ)
 |ifb b x v h ih=>exact .ifb b x v (λU=>ih U (by simpa[AV.fr]using hf) hρ)
 |opt b x v h h0 ih=>exact .opt b x v (λU=>ih U (by simpa[AV.fr]using hf) hρ) h0
 |mp k' b h=>
  have:k'≠k:=beqF.1 (by simpa[AV.fr]using hf);exact .mp k' b ((hρ k' this).trans h)
 |any v=>exact .any v
inductive Blk:Type 1
 |box(cs:List AV)(E:TypeId)
 |row{α:Type}(enc:α->List AV)(l:List α)(E:TypeId)(s:Nat)
 |hold(vs:List Value)(cs:List AV)
 |obj(b:Nat)(o:Obj)
 |yld(j:Nat)(on:Bool)
 |mpb{κ α:Type}(kenc:κ->AV)(venc:α->AV)(l:List (κ×α))
 |dead
def Blk.fr(k:Nat):Blk->Bool
 |.box cs _=>AV.fr.frL k cs
 |.hold _ cs=>AV.fr.frL k cs
 |_=>true
def lk{α:Type 1}:List (Nat×α)->Nat->Option α
 |[],_=>none
 |(k',a)::r,k=>bif k'.beq k then some a else lk r k
structure St:Type 1 where
 t:List (Nat×AV)
 h:List (Nat×Blk)
def frT(k:Nat):List (Nat×AV)->Bool
 |[]=>true
 |(_,x)::r=>x.fr k&&frT k r
def frH(k:Nat):List (Nat×Blk)->Bool
 |[]=>true
 |(k',x)::r=>!(k'.beq k)&&x.fr k&&frH k r
def St.fr(st:St)(k:Nat):Bool:=frT k st.t&&frH k st.h
def zju{k:Nat}:∀{l:List (Nat×AV)},frT k l=true->∀{t:Nat}{x:AV},lk l t=some x->x.fr k=true
 |[],_,_,_,h=>by simp[lk]at h
 |(t',y)::r,h,t,x,e=>by
  simp[frT]at h;simp only[lk]at e;cases Z:t'.beq t<;>simp[Z]at e
  ·exact zju h.2 e
  ·exact e▸h.1
theorem zdj{k:Nat}:∀{l:List (Nat×Blk)},frH k l=true->∀{t:Nat}{x:Blk},lk l t=some x->x.fr k=true/\t≠k
 |[],_,_,_,h=>by simp[lk]at h
 |(t',y)::r,h,t,x,e=>by
  simp[frH]at h;simp only[lk]at e;cases Z:t'.beq t<;>simp[Z]at e
  ·exact zdj h.2 e
  grind
abbrev Owns:=Nat->Option (Nat×Nat)
structure Gh where
 ρ:Nat->Value
 I:Im
 O:Owns
def GC.v:GC->Value
 |.n x=>.int .i64 x
 |.b x=>.bool x
def zCQ:GC->AV
 |.n x=>.int .i64 x
 |.b x=>.bool x
def gIm:Im:=λb o=>(zmK b).bind λl=>l[o]?.map GC.v
def ObO(I:Im)(O:Owns)(w:World):Prop:=(∀b k,O b=some k->b<w.heap.size)/\Im.le gIm I
def ImO(I:Im)(O:Owns)(w:World):Prop:=(∀b o u,I b o=some u->w.cell? ⟨b,o,none⟩=some u/\O b=none)/\ObO I O w
def ObO.up{I J:Im}{O:Owns}{w w':World}(h:ObO I O w)(hI:Im.le I J)(hs:w.heap.size<=w'.heap.size):ObO J O w':=⟨λb k Z=>jV (h.1 b k Z) hs,Im.le_trans h.2 hI⟩
abbrev gcE:List GC->List AV:=λl=>l.map zCQ
def gEv(n:Nat):Option AV:=(zmK n).map λl=>.ept gcE l 0
def zxp{I:Im}{ρ:Nat->Value}{n:Nat}{y:AV}(h:Im.le gIm I)(he:gEv n=some y):RV I ρ y (.pointer (some ⟨n,0,none⟩)):=by
 unfold gEv at he;cases Z:zmK n with
 |none=>simp[Z]at he
 |some l=>
  simp[Z]at he;subst he;refine .ept gcE l 0 n 0 (λj=>(l.getD j (.n 0)).v) (λj T=>h _ _ _ ?_) (λj cell V=>?_)
  ·simp_all[gIm]
  ·simp at V;obtain⟨a,U,rfl⟩:=V;rw[j8,U];cases a with
   |n x=>exact .int _ _
   |b x=>exact .bool _
def ImOB(g:Gh)(w:World):Prop:=ImO g.I g.O w
structure Ctx where
 rd:Option Nat
 n:Nat
 d:Nat
 ds:List Nat
 yB:Nat
 Y:Nat->Bool->Im->Owns->World->Prop
 g0:Gh
 w0:World
 df:List (_root_.Go.Fn×Array Value×Array Value)
def dfD(p:_root_.Go.Fn×Array Value×Array Value):Deferred:={target:=.fn p.1 p.2.1,args:=p.2.2}
def Ctx.okb(C:Ctx)(b:Nat):Prop:=C.w0.heap.size<=b\/∃n,C.g0.O b=some (C.d,n)
def Ctx.oth(C:Ctx)(b:Nat):Prop:=∃y n,y∈C.ds/\C.g0.O b=some (y,n)
def YCl(Y:Nat->Bool->Im->Owns->World->Prop)(ds:List Nat)(B:Nat):Prop:=∀(j:Nat)(on:Bool)(I:Im)(O:Owns)(w:World)(I':Im)(O':Owns)(w':World),Y j on I O w->Im.le I I'→
 (∀b,b<w.heap.size->(b<B\/∃y n,y∈ds/\O b=some (y,n))->w'.heap[b]? =w.heap[b]? /\O' b=O b)->w'.os=w.os->w'.tape=w.tape->w'.output=w.output->w.drawn<=w'.drawn->w.heap.size<=w'.heap.size->ImO I' O' w'->Y j on I' O' w'
def yP(C:Ctx)(g:Gh)(w:World)(k:Nat):Blk->Prop
 |.box cs E=>∃b vs,g.ρ k=.pointer (some ⟨b,0,none⟩)/\g.O b=some (C.d,k)/\C.okb b/\w.heap[b]? =some (.cells vs E (0,0))/\vs.size=cs.length∧
  ∀(j:Nat)c v,cs[j]? =some c->vs[j]? =some v->RV g.I g.ρ c v
 |.row enc l E s=>∃xs,w.ownsRow 0 E s (g.ρ k) l.length xs/\(∀(i:Nat)x,l[i]? =some x->(enc x).length=s)∧
  (∀(i:Nat)x(j:Nat)c v,l[i]? =some x->(enc x)[j]? =some c->xs[i*s+j]? =some v->RV g.I noNames c v)∧
  ∀b,yX (g.ρ k)=some b->g.O b=some (C.d,k)/\C.okb b
 |.hold vs cs=>vs.length=cs.length/\∀(j:Nat)c v,cs[j]? =some c->vs[j]? =some v->RV g.I g.ρ c v
 |.obj b o=>w.heap[b]? =some o/\g.O b=some (C.d,k)/\C.okb b
 |.mpb kenc venc l=>∃b es ck,g.ρ k=.map (some b)/\g.O b=some (C.d,k)/\C.okb b/\w.heap[b]? =some (.map es ck)/\(es.size=l.length/\ck=l.length/\∀(i:Nat)e,es[i]? =some e->e.born=i)∧
  ∀(i:Nat)e p,es[i]? =some e->l[i]? =some p->RV g.I noNames (kenc p.1) e.key/\RV g.I noNames (venc p.2) e.val
 |.yld j on=>C.d∉C.ds/\YCl C.Y C.ds C.yB/\C.yB<=C.w0.heap.size/\(∀b n,g.O b=some (C.d,n)->C.yB<=b)/\C.Y j on g.I g.O w
 |.dead=>True
structure Sat(C:Ctx)(h:List (Nat×Blk))(g:Gh)(w:World):Prop where
 im:∀b o v,g.I b o=some v->w.cell? ⟨b,o,none⟩=some v/\g.O b=none
 ob:ObO g.I g.O w
 blk:∀k B,lk h k=some B->yP C g w k B
def zhd{C:Ctx}{g g':Gh}{w w':World}{k j:Nat}{on:Bool}{bo:Option Nat}(h:yP C g w k (.yld j on))(hI:Im.le g.I g'.I)(J:∀b,b<w.heap.size->bo≠some b->g'.O b=g.O b)
 (hb:∀b,bo=some b->(∃n,g.O b=some (C.d,n))\/(g.O b=none/\C.w0.heap.size<=b))(hm:w.grownBy w' bo)(U:w.drawn<=w'.drawn)(H:∀b n,g'.O b=some (C.d,n)->C.yB<=b)(T:ImOB g' w'):yP C g' w' k (.yld j on):=by
 obtain⟨E,N,h3,h4,h5⟩:=h;refine⟨E,N,h3,H,N j on _ _ _ _ _ _ h5 hI (λb Z hy=>?_) hm.os hm.tape hm.output U hm.size T⟩
 have V:bo≠some b:=λe=>by
  grind
 exact⟨hm.block b Z (λe=>V e.symm),J b Z V⟩
structure Ext(C:Ctx)(g:Gh)(w:World):Prop where
 I:Im.le C.g0.I g.I
 os:w.os=C.w0.os
 tape:w.tape=C.w0.tape
 output:w.output=C.w0.output
 drawn:C.w0.drawn<=w.drawn
 size:C.w0.heap.size<=w.heap.size
 keep:∀b,b<C.w0.heap.size->¬C.okb b->¬C.oth b->w.heap[b]? =C.w0.heap[b]? /\g.O b=C.g0.O b
 own:∀b y n,b<C.w0.heap.size->g.O b=some (y,n)->∃n',C.g0.O b=some (y,n')
def mkD(r:Nat):Deferred:={target:=.collected r,args:= #[]}
def Sh(C:Ctx)(ds:List Deferred)(D:List Nat):Prop:=∃D1 D2:List Nat,D=D1++D2/\ds=D1.map mkD++(C.df.map dfD++D2.map mkD)
def zo0{x y:Nat}(h:mkD x=mkD y):x=y:=by simpa[mkD]using h
def Sh.mem{C:Ctx}{ds:List Deferred}{D:List Nat}(h:Sh C ds D){r:Nat}:mkD r∈ds↔r∈D:=by
 obtain⟨D1,D2,rfl,rfl⟩:=h;simp[mkD,dfD]
def Sh.push{C:Ctx}{ds:List Deferred}{D:List Nat}(h:Sh C ds D)(r:Nat):Sh C (mkD r::ds) (r::D):=by
 grind[Sh]
def Sh.plain{C:Ctx}{ds:List Deferred}{D:List Nat}(h:Sh C ds D)(Z:C.df=[]:=by rfl):ds=D.map mkD++C.df.map dfD:=by
 obtain⟨D1,D2,rfl,rfl⟩:=h;rw[Z];simp
def Dfs(C:Ctx)(g:Gh)(ds:List Deferred)(w:World):Prop:=∃D:List Nat,Sh C ds D/\D.Nodup/\∀r,r∈D->w.heap[r]? =some (.deferred (some []))/\g.O r=none/\C.w0.heap.size<=r
def Dfs.nil(C:Ctx)(g:Gh)(w:World)(h:C.df=[]:=by rfl):Dfs C g [] w:=⟨[],⟨[],[],rfl,by rw[h];rfl⟩,List.nodup_nil,λr h=>by simp at h⟩
structure Rel(C:Ctx)(st:St)(g:Gh)(a:Act)(w:World):Prop where
 size:a.tmps.size=C.n
 defers:Dfs C g a.defers w
 tmps:∀t x,lk st.t t=some x->RV g.I g.ρ x (a.tmps.getD t undef)
 sat:Sat C st.h g w
 ext:Ext C g w
structure Grow(w w':World):Prop where
 os:w'.os=w.os
 tape:w'.tape=w.tape
 output:w'.output=w.output
 drawn:w.drawn<=w'.drawn
 size:w.heap.size<=w'.heap.size
 keep:∀b,b<w.heap.size->w'.heap[b]? =w.heap[b]?
def Grow.refl(w:World):Grow w w:=⟨rfl,rfl,rfl,jE _,jE _,λ_ _=>rfl⟩
def Grow.trans{a b c:World}(h:Grow a b)(k:Grow b c):Grow a c:=
 ⟨k.os.trans h.os,k.tape.trans h.tape,k.output.trans h.output,jR h.drawn k.drawn,jR h.size k.size,λi hi=>(k.keep i (jV hi h.size)).trans (h.keep i hi)⟩
def Grow.drew(w:World):Grow w w.drew:=⟨rfl,rfl,rfl,Nat.le_succ _,jE _,λ_ _=>rfl⟩
theorem Grow.alloc(w:World)(o:Obj):Grow w (w.alloc o):=⟨rfl,rfl,rfl,jE _,by simp,λk Z=>Below.heap_alloc _ _ _ Z⟩
def za{w:World}{b:Nat}{o:Obj}(h:w.heap[b]? =some o):b<w.heap.size:=by
 grind
def zcQ{w:World}{b o:Nat}{v:Value}(h:w.cell? ⟨b,o,none⟩=some v):b<w.heap.size:=by
 grind[World.cell?]
def Grow.cell{w w':World}(h:Grow w w'){b o:Nat}{v:Value}(Z:w.cell? ⟨b,o,none⟩=some v):w'.cell? ⟨b,o,none⟩=some v:=by
 rw[World.cell?_of_block (w:=w) (a:=⟨b,o,none⟩) (h.keep b (zcQ Z))];exact Z
structure Add(nk:Option Nat)(g:Gh)(w:World)(g':Gh)(w':World):Prop where
 I:Im.le g.I g'.I
 ρ:∀n,nk≠some n->g'.ρ n=g.ρ n
 O:∀b,b<w.heap.size->g'.O b=g.O b
 grow:Grow w w'
theorem Dfs.add{C:Ctx}{g g':Gh}{w w':World}{nk:Option Nat}{ds:List Deferred}(h:Dfs C g ds w)(V:Add nk g w g' w'):Dfs C g' ds w':=by
 obtain⟨D,U,T,N⟩:=h;refine⟨D,U,T,λr hr=>?_⟩;obtain⟨J,H,E⟩:=N r hr
 have Z:r<w.heap.size:=by
  grind
 exact⟨(V.grow.keep r Z).trans J,(V.O r Z).trans H,E⟩
def Add.refl(nk:Option Nat)(g:Gh)(w:World):Add nk g w g w:=⟨Im.le_refl _,λ_ _=>rfl,λ_ _=>rfl,Grow.refl w⟩
def zlI{w w':World}{E s:Nat}{v:Value}{n:Nat}{xs:List Value}(h:w.ownsRow 0 E s v n xs)(U:Grow w w'):w'.ownsRow 0 E s v n xs:=by
 obtain⟨T,Z⟩:=h;refine⟨T,?_⟩;rcases Z with Z|⟨g,cap,cur,hv,N,J,r⟩
 ·exact Or.inl Z
 ·refine Or.inr ⟨g,cap,cur,hv,N,?_,r⟩
  have V:g<w.heap.size:=by
   grind
  rw[U.keep g V];exact J
theorem zci{w:World}{E s:Nat}{v:Value}{n:Nat}{xs:List Value}(h:w.ownsRow 0 E s v n xs){b:Nat}(Z:yX v=some b):b<w.heap.size:=by
 refine(h.lt b ?_).2;cases v<;>simp[yX]at Z
 case slice a n c=>all_goals grind[Value.ownBlock]
 case pointer a=>rcases h.2 with⟨h,_⟩|⟨_,_,_,h,_⟩<;>cases h
def RV.renameOpt{I:Im}{ρ ρ':Nat->Value}{x:AV}{v:Value}{nk:Option Nat}(h:RV I ρ x v)(hf:∀k,nk=some k->x.fr k=true)(hρ:∀n,nk≠some n->ρ' n=ρ n):RV I ρ' x v:=by
 cases nk with
 |none=>
  have:ρ'=ρ:=funext λn=>hρ n (by simp)
  rw[this];exact h
 |some k=>exact h.rename (k:=k) (hf k rfl) (λn Z=>hρ n (by grind))
theorem yP.add{C:Ctx}{g g':Gh}{w w':World}{nk:Option Nat}{k:Nat}{B:Blk}(h:yP C g w k B)(Z:Add nk g w g' w')(hk:nk≠some k)(hf:∀n,nk=some n->B.fr n=true)(hw:C.w0.heap.size<=w.heap.size)(xT:ImOB g' w'):yP C g' w' k B:=by
 cases B with
 |box cs E=>
  obtain⟨b,vs,U,T,N,J,h5,h6⟩:=h
  have V:b<w.heap.size:=by
   grind
  refine⟨b,vs,(Z.ρ k hk).trans U,(Z.O b V).trans T,N,(Z.grow.keep b V).trans J,h5,λj c v H hv=>?_⟩;exact((h6 j c v H hv).renameOpt (nk:=nk) (λn hn=>zo (by simpa[Blk.fr]using hf n hn) H) Z.ρ).mono Z.I
 |row enc l E s=>
  obtain⟨xs,U,T,N,J⟩:=h;refine⟨xs,?_,T,λi x j c v hx H hv=>(N i x j c v hx H hv).mono Z.I,λb V=>?_⟩
  ·rw[Z.ρ k hk];exact zlI U Z.grow
  ·rw[Z.ρ k hk]at V;exact⟨(Z.O b (zci U V)).trans (J b V).1,(J b V).2⟩
 |hold vs cs=>exact⟨h.1,λj c v H hv=>((h.2 j c v H hv).renameOpt (nk:=nk) (λn hn=>zo (by simpa[Blk.fr]using hf n hn) H) Z.ρ).mono Z.I⟩
 |obj b o=>
  obtain⟨U,T,N⟩:=h;have V:b<w.heap.size:=za U;exact⟨(Z.grow.keep b V).trans U,(Z.O b V).trans T,N⟩
 |yld j on=>
  obtain⟨U,T,N,J,h5⟩:=h;refine⟨U,T,N,λb n hn=>?_,T j on _ _ _ _ _ _ h5 Z.I (λb V _=>⟨Z.grow.keep b V,Z.O b V⟩) Z.grow.os Z.grow.tape Z.grow.output Z.grow.drawn Z.grow.size xT⟩;rcases wD b w.heap.size with hl|hl
  ·exact J b n ((Z.O b hl).symm.trans hn)
  ·omega
 |mpb kenc venc l=>
  obtain⟨b,es,ck,U,T,N,J,h5,h6⟩:=h;have V:=za J;exact⟨b,es,ck,(Z.ρ k hk).trans U,(Z.O b V).trans T,N,(Z.grow.keep b V).trans J,h5,λi e p he hp=>⟨(h6 i e p he hp).1.mono Z.I,(h6 i e p he hp).2.mono Z.I⟩⟩
 |dead=>trivial
theorem Ext.add{C:Ctx}{g g':Gh}{w w':World}{nk:Option Nat}(h:Ext C g w)(Z:Add nk g w g' w'):Ext C g' w':=
 ⟨Im.le_trans h.I Z.I,Z.grow.os.trans h.os,Z.grow.tape.trans h.tape,Z.grow.output.trans h.output,jR h.drawn Z.grow.drawn,jR h.size Z.grow.size,
  λb V U ho=>⟨(Z.grow.keep b (jV V h.size)).trans (h.keep b V U ho).1,(Z.O b (jV V h.size)).trans (h.keep b V U ho).2⟩,
  λb y n V T=>h.own b y n V ((Z.O b (jV V h.size)).symm.trans T)⟩
def putT(st:St)(d:Option Nat)(x:AV):St:=
 match d with
 |some d=>{st with t:=(d,x)::st.t}
 |none=>st
def putH(st:St)(k:Nat)(B:Blk):St:={st with h:=(k,B)::st.h}
theorem yp{α:Type 1}(k':Nat)(a:α)(r:List (Nat×α))(k:Nat):lk ((k',a)::r) k=bif k'.beq k then some a else lk r k:=rfl
theorem zbb{a:Act}{d t:Nat}{v:Value}(h:d<a.tmps.size):(a.put (some d) v).tmps.getD t undef=if d=t then v else a.tmps.getD t undef:=by
 simp only[Act.put,jK,u8]
 grind
theorem Rel.add{C:Ctx}{st:St}{g g':Gh}{a:Act}{w w':World}{nk:Option Nat}{d:Option Nat}{x:AV}{v:Value}(h:Rel C st g a w)(U:Add nk g w g' w')
 (T:∀k,nk=some k->st.fr k=true)(hd:∀t,d=some t->t<C.n)(hx:RV g'.I g'.ρ x v)
 (N:∀b o u,g'.I b o=some u->w'.cell? ⟨b,o,none⟩=some u/\g'.O b=none)(J:ObO g'.I g'.O w'):
 Rel C (putT st d x) g' (a.put d v) w':=by
 have H:∀t y,lk st.t t=some y->RV g'.I g'.ρ y (a.tmps.getD t undef):=λt y Z=>
  ((h.tmps t y Z).renameOpt (nk:=nk) (λn E=>zju (by have:=T n E;simp[St.fr]at this;exact this.1) Z) U.ρ).mono U.I
 have V:Sat C st.h g' w':=⟨N,J,λk B hB=>by
  refine(h.sat.blk k B hB).add U ?_ ?_ h.ext.size ⟨N,J⟩
  ·intro hk;have:=T k hk;simp[St.fr]at this;exact(zdj this.2 hB).2 rfl
  ·intro n E;have:=T n E;simp[St.fr]at this;exact(zdj this.2 hB).1⟩
 cases d with
 |none=>exact⟨h.size,h.defers.add U,H,V,h.ext.add U⟩
 |some d=>
  refine⟨by simp[Act.put,h.size],h.defers.add U,λt y Z=>?_,V,h.ext.add U⟩;rw[zbb (by rw[h.size];exact hd d rfl)];simp only[putT,yp]at Z;by_cases e:d=t
  ·subst e;simp at Z;rw[j4 rfl,←Z];exact hx
  ·have:d.beq t=false:=beqF.2 e;simp[this]at Z;rw[j3 e];exact H t y Z
def Rel.withBlk{C:Ctx}{st:St}{g:Gh}{a:Act}{w:World}(h:Rel C st g a w){k:Nat}{B:Blk}(U:yP C g w k B):Rel C (putH st k B) g a w:=
 ⟨h.size,h.defers,h.tmps,⟨h.sat.im,h.sat.ob,λk' B' Z=>by
  simp only[putH,yp]at Z;cases V:k.beq k'<;>simp[V]at Z
  ·exact h.sat.blk k' B' Z
  simp_all⟩,h.ext⟩
end Go.Rse
namespace Go.Rse
open Go Go.RowKit
def cv:Value->Option AV
 |.int k n=>some (.int k n)
 |.bool b=>some (.bool b)
 |.string s=>some (.str s)
 |.slice none 0 0=>some .nils
 |.nilFunc=>some .nilf
 |v=>some (.val v)
theorem zvy{I:Im}{ρ:Nat->Value}{v:Value}{x:AV}(h:cv v=some x):RV I ρ x v:=by
 unfold cv at h;split at h<;>(injection h with h;subst h;first|exact .int _ _|exact .bool _|exact .str _|exact .nils|exact .nilf|exact .val _)
def cvL:List Value->Option (List AV)
 |[]=>some []
 |v::r=>match cv v,cvL r with
  |some x,some xs=>some (x::xs)
  |_,_=>none
def zhI{I:Im}{ρ:Nat->Value}:∀{vs:List Value}{xs:List AV},cvL vs=some xs→
 vs.length=xs.length/\∀(j:Nat)(c:AV)(v:Value),xs[j]? =some c->vs[j]? =some v->RV I ρ c v
 |[],xs,h=>by simp_all[cvL]
 |v::r,xs,h=>by
  simp only[cvL]at h;split at h<;>try(simp at h;done)
  rename_i x ys V Z;injection h with h;subst h;obtain⟨hl,hr⟩:=zhI (I:=I) (ρ:=ρ) Z
  grind[zvy]
def cva:Value->Option AV
 |.agg vs=>(cvL vs.toList).map .agg
 |v=>cv v
def zxq{I:Im}{ρ:Nat->Value}{v:Value}{x:AV}(h:cva v=some x):RV I ρ x v:=by
 unfold cva at h;split at h
 ·rename_i vs;cases Z:cvL vs.toList with
  |none=>simp[Z]at h
  |some xs=>
   simp[Z]at h;subst h;obtain⟨hl,hr⟩:=zhI (I:=I) (ρ:=ρ) Z;have:=RV.agg (I:=I) (ρ:=ρ) xs vs.toList hl hr;simpa using this
 ·exact zvy h
def ev(st:St):Operand->Option AV
 |.tmp t=>lk st.t t
 |.const v=>cva v
 |.func f=>some (.fn f [])
 |.global n=>gEv n
theorem yu{C:Ctx}{st:St}{g:Gh}{a:Act}{w:World}(h:Rel C st g a w){x:Operand}{y:AV}(he:ev st x=some y):RV g.I g.ρ y (a.eval x):=by
 cases x with
 |tmp t=>exact h.tmps t y he
 |const v=>exact zxq he
 |func f=>
  simp[ev]at he;subst he;exact .fn f [] [] rfl (λj c v Z=>by simp at Z)
 |global n=>exact zxp h.sat.ob.2 he
section inv
variable{I:Im}{ρ:Nat->Value}{v:Value}
def yW{k:IntKind}{n:Int}(h:RV I ρ (.int k n) v):v=.int k n:=by cases h;rfl
def zn{b:Bool}(h:RV I ρ (.bool b) v):v=.bool b:=by cases h;rfl
def zbU(h:RV I ρ .nils v):v=.slice none 0 0:=by cases h;rfl
def zbW{u:Value}(h:RV I ρ (.val u) v):v=u:=by cases h;rfl
def ztz{f:FuncId}{k s i j:Nat}(h:RV I ρ (.mth f k s i j) v):∃b,yX (ρ k)=some b/\v=.func (.func f) #[.pointer (some ⟨b,i*s+j,none⟩)] #[]:=by cases h;simp_all
def zhe(h:RV I ρ .nilf v):v=.nilFunc:=by cases h;rfl
theorem z7{k:Nat}(h:RV I ρ (.own k) v):ρ k=v:=by cases h;assumption
theorem zbX{cs:List AV}(h:RV I ρ (.agg cs) v):∃vs:List Value,v=.agg vs.toArray/\vs.length=cs.length/\∀(j:Nat)(c:AV)(u:Value),cs[j]? =some c->vs[j]? =some u->RV I ρ c u:=by
 cases h;grind
def ztA{cs:List AV}(h:RV I ρ (.tup cs) v):∃vs:List Value,v=.tuple vs.toArray/\vs.length=cs.length/\∀(j:Nat)(c:AV)(u:Value),cs[j]? =some c->vs[j]? =some u->RV I ρ c u:=by
 cases h;grind
def zdk{f:FuncId}{cs:List AV}(h:RV I ρ (.fn f cs) v):∃vs:List Value,v=.func (.func f) #[] vs.toArray/\vs.length=cs.length/\∀(j:Nat)(c:AV)(u:Value),cs[j]? =some c->vs[j]? =some u->RV I ρ c u:=by
 cases h;grind
theorem zaf{k s i j:Nat}(h:RV I ρ (.ptr k s i j) v):∃b,yX (ρ k)=some b/\v=.pointer (some ⟨b,i*s+j,none⟩):=by
 cases h;simp_all
def ziz{α:Type}{enc:α->List AV}{x:α}{j:Nat}(h:RV I ρ (.ept enc x j) v):∃(b o:Nat)(vs:Nat->Value),v=.pointer (some ⟨b,o+j,none⟩)∧
 (∀j,j<(enc x).length->I b (o+j)=some (vs j))/\∀(j:Nat)(cell:AV),(enc x)[j]? =some cell->RV I noNames cell (vs j):=by
 cases h;exact⟨_,_,_,rfl,by assumption,by assumption⟩
def zo1{b:Bool}{x:AV}(h:RV I ρ (.ifb b x) v)(Z:b=true):RV I ρ x v:=by
 cases h;grind
end inv
def zcJ(P:Program)(dst:Option Tmp)(a:Act)(K:Act->World->Prop):Result Next->Prop
 |.ok (.value v) w'=>K (a.put dst v) w'
 |.ok .skip w'=>K (a.put dst undef) w'
 |.ok (.enter f args) w'=>Calls P f args w' λe w''=>∃v,e=.returned v/\K (a.put dst v) w''
 |.ok (.round l f tmps assign body) w'=>RoundIn Fence.wide 0 P l f tmps assign body w' λe w''=>∃v,e=.returned v/\K (a.put dst v) w''
 |_=>False
def wp1(P:Program)(o:Oper)(a:Act)(w:World)(K:Act->World->Prop):Prop:=zcJ P o.dst a K ((execOp a.eval o).run P w)
def Ctx.F(C:Ctx):Fence:=match C.rd with
 |none=>Fence.wide
 |some l=>Fence.wide.inRound l
def Ctx.F_fn(C:Ctx)(f:FuncId):C.F.fn f:=by
 unfold Ctx.F;split<;>trivial
def Ctx.F_depth(C:Ctx):C.F.depth=none:=by
 unfold Ctx.F;split<;>rfl
def Ctx.calls(C:Ctx){P:Program}{f:FuncId}{args:Array Value}{w:World}{R:Ending->World->Prop}(h:Calls P f args w R):CallsIn C.F 0 P f args w R:=by
 grind[Ctx.F,callsIn_wide,CallsIn.inRound]
def Ctx.rounds(C:Ctx){P:Program}{l:Nat}{f:FuncId}{tmps:Array Value}{assign body:Code}{w:World}{R:Ending->World->Prop}(h:RoundIn Fence.wide 0 P l f tmps assign body w R):RoundIn C.F 0 P l f tmps assign body w R:=by
 unfold Ctx.F;split<;>exact h
def zaz{C:Ctx}{P:Program}{o:Oper}{a:Act}{w:World}{K:Act->World->Prop}{Q:Exit->Act->World->Prop}(h:wp1 P o a w K):o.wpIn C.F 0 P a w K Q:=by
 refine⟨λf _=>C.F_fn f,?_⟩
 have Z:∀c,o.op≠.defer c:=λc V=>by
  unfold wp1 at h;have e:execOp a.eval o=(do pure (.defer (←resolve a.eval c o.type))):=by unfold execOp;rw[V]
  rw[e]at h;simp only[jM]at h;cases hr:(resolve a.eval c o.type).run P w<;>simp_all[zcJ]
 rw[Oper.semAt_eq _ _ _ Z];unfold wp1 at h;generalize(execOp a.eval o).run P w=r at h;unfold zcJ at h;split at h
 ·exact h
 ·exact h
 ·refine⟨λhx=>by rw[C.F_depth]at hx;simp at hx,?_⟩;refine CallsIn.mono (C.calls h) ?_;simp_all
 ·refine⟨λhx=>by rw[C.F_depth]at hx;simp at hx,?_⟩;refine RoundIn.mono (C.rounds h) ?_;simp_all
 ·exact h.elim
def Pur(P:Program)(C:Ctx)(op:Op)(ty:TypeId)(st:St)(x:AV):Prop:=
 ∀(g:Gh)(a:Act)(w:World)dst pos af gd,Rel C st g a w->∃v,(execOp a.eval {dst:=dst,op:=op,type:=ty,pos:=pos,after:=af,guard:=gd}).run P w=.ok (.value v) w/\RV g.I g.ρ x v
def yA(P:Program)(C:Ctx)(op:Op)(ty:TypeId)(st:St)(x:AV)(nb:Option (Nat×Blk)):Prop:=
 ∀(g:Gh)(a:Act)(w:World)(dst:Option Tmp)pos af gd,Rel C st g a w->∀(K:Act->World->Prop),
  (∀v w' g',Add (nb.map (·.1)) g w g' w'->RV g'.I g'.ρ x v->ImOB g' w'->(∀k B,nb=some (k,B)->yP C g' w' k B)->K (a.put dst v) w')→
  wp1 P {dst:=dst,op:=op,type:=ty,pos:=pos,after:=af,guard:=gd} a w K
def zC{P:Program}{C:Ctx}{op:Op}{ty:TypeId}{st:St}{x:AV}{nb:Option (Nat×Blk)}
 (h:∀(g:Gh)(a:Act)(w:World)(dst:Option Tmp)pos af gd,Rel C st g a w->∃v w' g',(execOp a.eval {dst:=dst,op:=op,type:=ty,pos:=pos,after:=af,guard:=gd}).run P w=.ok (.value v) w'∧
  Add (nb.map (·.1)) g w g' w'/\RV g'.I g'.ρ x v/\ImOB g' w'/\∀k B,nb=some (k,B)->yP C g' w' k B):yA P C op ty st x nb:=
 λg a w dst pos af gd hr K Z=>by
  obtain⟨v,w',g',V,U,T,N,J⟩:=h g a w dst pos af gd hr;unfold wp1
  grind[zcJ]
def Pur.stepA{P:Program}{C:Ctx}{op:Op}{ty:TypeId}{st:St}{x:AV}(h:Pur P C op ty st x):yA P C op ty st x none:=
 zC λg a w dst pos af gd hr=>let⟨v,Z,V⟩:=h g a w dst pos af gd hr;⟨v,w,g,Z,Add.refl _ g w,V,⟨hr.sat.im,hr.sat.ob⟩,λ_ _ h=>by cases h⟩
def lift(C:Ctx)(Q:Exit->St->Prop):Exit->Act->World->Prop:=λe a w=>∃st g,Rel C st g a w/\Q e st
def Ex(P:Program)(C:Ctx)(ops:Array Oper)(l:List Oper)(st:St)(Q:Exit->St->Prop):Prop:=∀g a w,Rel C st g a w->wpListIn C.F 0 P ops (lift C Q) l a w
def X(P:Program)(C:Ctx)(c:Code)(st:St)(Q:Exit->St->Prop):Prop:=∀g a w,Rel C st g a w->c.wpIn C.F 0 P (lift C Q) a w
def addSt(st:St)(d:Option Nat)(x:AV)(nb:Option (Nat×Blk)):St:=
 {t:=match d with|some d=>(d,x)::st.t|none=>st.t,h:=match nb with|some b=>b::st.h|none=>st.h}
def dOk(n:Nat):Option Nat->Bool
 |some d=>d.blt n
 |none=>true
def nbOk(st:St):Option (Nat×Blk)->Bool
 |some b=>st.fr b.1
 |none=>true
def Rel.addSt{C:Ctx}{st:St}{g g':Gh}{a:Act}{w w':World}{nb:Option (Nat×Blk)}{d:Option Nat}{x:AV}{v:Value}(h:Rel C st g a w)(N:Add (nb.map (·.1)) g w g' w')
 (J:dOk C.n d=true)(H:nbOk st nb=true)(hx:RV g'.I g'.ρ x v)
 (Z:∀b o u,g'.I b o=some u->w'.cell? ⟨b,o,none⟩=some u/\g'.O b=none)(V:ObO g'.I g'.O w')
 (E:∀k B,nb=some (k,B)->yP C g' w' k B):Rel C (addSt st d x nb) g' (a.put d v) w':=by
 have T:=h.add N (d:=d) (λk U=>by
  cases nb with
  |none=>simp at U
  |some b=>simp at U;subst U;exact H) (λt ht=>by subst ht;simpa[dOk]using J) hx Z V
 cases nb with
 |none=>cases d<;>exact T
 |some b=>cases d<;>exact T.withBlk (E b.1 b.2 rfl)
def Ex.nil{P:Program}{C:Ctx}{ops:Array Oper}{st:St}{Q:Exit->St->Prop}(h:Q .normal st):Ex P C ops [] st Q:=λg a w hr=>⟨st,g,hr,h⟩
def Ex.stepA{P:Program}{C:Ctx}{ops:Array Oper}{st:St}{Q:Exit->St->Prop}{rest:List Oper}{dst:Option Tmp}{op:Op}{ty:TypeId}{pos:String}{af:Array Edge}{x:AV}{nb:Option (Nat×Blk)}
 (hs:yA P C op ty st x nb)(V:dOk C.n dst=true)(U:nbOk st nb=true)(h:Ex P C ops rest (Rse.addSt st dst x nb) Q):
 Ex P C ops ({dst:=dst,op:=op,type:=ty,pos:=pos,after:=af,guard:=none}::rest) st Q:=λg a w hr=>
 wpListIn_plain rfl λK T=>zaz<|hs g a w dst pos af none hr K λv w' g' N J Z H=>T _ _ (h g' _ w' (hr.addSt N V U J Z.1 Z.2 H))
def zak{P:Program}{C:Ctx}{ops:Array Oper}{st:St}{Q:Exit->St->Prop}{rest:List Oper}{d:Nat}{op:Op}{ty:TypeId}{pos:String}{af:Array Edge}{x:AV}
 (hs:Pur P C op ty st x)(Z:d.blt C.n=true)(h:Ex P C ops rest {t:=(d,x)::st.t,h:=st.h} Q):
 Ex P C ops ({dst:=some d,op:=op,type:=ty,pos:=pos,after:=af,guard:=none}::rest) st Q:=
 Ex.stepA hs.stepA Z rfl h
section pure
variable{P:Program}{C:Ctx}{st:St}{ty:TypeId}
def zlJ{x:Operand}{y:AV}(h:ev st x=some y):Pur P C (.move x) ty st y:=λ_ _ _ _ _ _ _ hr=>⟨_,rfl,yu hr h⟩
def zcs{x:Operand}{y:AV}(h:ev st x=some y):Pur P C (.assign x) ty st y:=λ_ _ _ _ _ _ _ hr=>⟨_,rfl,yu hr h⟩
def zpN{x:Operand}{i:Nat}{vs:List AV}{y:AV}(h:ev st x=some (.tup vs))(hi:vs[i]? =some y):Pur P C (.extract x i) ty st y:=λg a w dst pos af gd hr=>by
 obtain⟨us,e,hl,V⟩:=ztA (yu hr h)
 have Z:i<us.length:=by
  grind
 have U:us[i]? =some us[i]:=jC Z;refine⟨us[i],?_,V i y _ hi U⟩;simp[execOp,Instr.extract,e,Z]
def zgt{f:FuncId}{caps:Array Operand}{xs:List AV}(h:caps.toList.mapM (ev st)=some xs):Pur P C (.makeFunc (.func f) #[] caps) ty st (.fn f xs):=λg a w dst pos af gd hr=>by
 refine⟨.func (.func f) #[] (caps.map a.eval),by simp[execOp,Instr.makeFunc],?_⟩
 have key:∀(cs:List Operand)(xs:List AV),cs.mapM (ev st)=some xs->(cs.map a.eval).length=xs.length/\∀(j:Nat)(c:AV)(v:Value),xs[j]? =some c->(cs.map a.eval)[j]? =some v->RV g.I g.ρ c v:=by
  intro cs
  induction cs with
  |nil=>simp_all
  |cons c r ih=>
   intro xs h;simp only[xK]at h;cases V:ev st c with
   |none=>simp[V]at h
   |some y=>
    cases U:r.mapM (ev st)<;>grind[yu]
 obtain⟨hl,Z⟩:=key _ _ h;have:=RV.fn (I:=g.I) (ρ:=g.ρ) f xs (caps.toList.map a.eval) hl Z;have e:(caps.toList.map a.eval).toArray=caps.map a.eval:=by grind
 rwa[e]at this
section ints
variable{x y:Operand}{xt yt:TypeId}{k:IntKind}{p q:Int}
def zaE{op:BinOp}{g:Gh}{a:Act}{w:World}(hr:Rel C st g a w)(hx:ev st x=some (.int k p))(Z:ev st y=some (.int k q))(dst:Option Tmp)(pos:String)(af:Array Edge)(gd:Option (Nat×Bool))(r:Value)
 (h:(binOp op xt (.int k p) (.int k q)).run P w=.ok r w):(execOp a.eval {dst:=dst,op:=.binOp op xt x y yt,type:=ty,pos:=pos,after:=af,guard:=gd}).run P w=.ok (.value r) w:=by
 have ex:=yW (yu hr hx);have ey:=yW (yu hr Z);simp_all[eqGuard,execOp]
def zAe(hx:ev st x=some (.int k p))(V:ev st y=some (.int k q))(Z:k.wrap (p+q)=p+q):Pur P C (.binOp .add xt x y yt) ty st (.int k (p+q)):=λg a w dst pos af gd hr=>
 ⟨_,zaE hr hx V dst pos af gd (.int k (p+q)) (by simp[binOp,Op.intArith,Z]),.int _ _⟩
def zo2(hx:ev st x=some (.int k p))(V:ev st y=some (.int k q))(Z:k.wrap (p-q)=p-q):Pur P C (.binOp .sub xt x y yt) ty st (.int k (p-q)):=λg a w dst pos af gd hr=>
 ⟨_,zaE hr hx V dst pos af gd (.int k (p-q)) (by simp[binOp,Op.intArith,Z]),.int _ _⟩
def zAf(hx:ev st x=some (.int k p))(V:ev st y=some (.int k q))(Z:k.wrap (p*q)=p*q):Pur P C (.binOp .mul xt x y yt) ty st (.int k (p*q)):=λg a w dst pos af gd hr=>
 ⟨_,zaE hr hx V dst pos af gd (.int k (p*q)) (by simp[binOp,Op.intArith,Z]),.int _ _⟩
def zxr(hx:ev st x=some (.int .i64 p))(Z:ev st y=some (.int .i64 q))(h0:0<=p)(V:p<=9223372036854775807)(U:0<q):Pur P C (.binOp .quo xt x y yt) ty st (.int .i64 (p/q)):=λg a w dst pos af gd hr=>
 ⟨_,zaE hr hx Z dst pos af gd (.int .i64 (p/q)) (by simp[binOp,Op.intDiv,show q≠0 by omega,IntWalk.i64_quo p q ⟨h0,V,by omega⟩]),.int _ _⟩
def zAg(hx:ev st x=some (.int k p))(Z:ev st y=some (.int k q))(h0:q≠0):Pur P C (.binOp .rem xt x y yt) ty st (.int k (p.tmod q)):=λg a w dst pos af gd hr=>
 ⟨_,zaE hr hx Z dst pos af gd (.int k (p.tmod q)) (by simp[binOp,Op.intDiv,h0]),.int _ _⟩
def zxs(hx:ev st x=some (.int k p))(Z:ev st y=some (.int k q))(h0:0<=p)(V:0<q):Pur P C (.binOp .rem xt x y yt) ty st (.int k (p%q)):=λg a w dst pos af gd hr=>
 ⟨_,zaE hr hx Z dst pos af gd (.int k (p%q)) (by simp_all[binOp,Op.intDiv,IntWalk.rem_in];omega),.int _ _⟩
def zrB(hx:ev st x=some (.int k p))(Z:ev st y=some (.int k q)):Pur P C (.binOp .eql xt x y yt) ty st (.bool (decide (p=q))):=λg a w dst pos af gd hr=>
 ⟨_,zaE hr hx Z dst pos af gd (.bool (decide (p=q))) (by simp[binOp,Op.intCmp];rfl),.bool _⟩
def zAh(hx:ev st x=some (.int k p))(Z:ev st y=some (.int k q)):Pur P C (.binOp .neq xt x y yt) ty st (.bool (!decide (p=q))):=λg a w dst pos af gd hr=>
 ⟨_,zaE hr hx Z dst pos af gd (.bool (!decide (p=q))) (by simp[binOp,Op.intCmp];rfl),.bool _⟩
def zAi(hx:ev st x=some (.int k p))(Z:ev st y=some (.int k q)):Pur P C (.binOp .lss xt x y yt) ty st (.bool (decide (p<q))):=λg a w dst pos af gd hr=>
 ⟨_,zaE hr hx Z dst pos af gd (.bool (decide (p<q))) (by simp[binOp,Op.intCmp]),.bool _⟩
def zAj(hx:ev st x=some (.int k p))(Z:ev st y=some (.int k q)):Pur P C (.binOp .leq xt x y yt) ty st (.bool (decide (p<=q))):=λg a w dst pos af gd hr=>
 ⟨_,zaE hr hx Z dst pos af gd (.bool (decide (p<=q))) (by simp[binOp,Op.intCmp]),.bool _⟩
def zAk(hx:ev st x=some (.int k p))(Z:ev st y=some (.int k q)):Pur P C (.binOp .gtr xt x y yt) ty st (.bool (decide (q<p))):=λg a w dst pos af gd hr=>
 ⟨_,zaE hr hx Z dst pos af gd (.bool (decide (q<p))) (by simp[binOp,Op.intCmp]),.bool _⟩
def zAl(hx:ev st x=some (.int k p))(Z:ev st y=some (.int k q)):Pur P C (.binOp .geq xt x y yt) ty st (.bool (decide (q<=p))):=λg a w dst pos af gd hr=>
 ⟨_,zaE hr hx Z dst pos af gd (.bool (decide (q<=p))) (by simp[binOp,Op.intCmp]),.bool _⟩
def zAm(hx:ev st x=some (.int k p))(Z:k.wrap (-p)=-p):Pur P C (.unOp .neg xt x) ty st (.int k (-p)):=λg a w dst pos af gd hr=>by
 have ex:=yW (yu hr hx);exact⟨.int k (-p),by simp[execOp,ex,Op.unary,Op.intArith,Z],.int _ _⟩
end ints
def zAn{x:Operand}{xt:TypeId}{b:Bool}(hx:ev st x=some (.bool b)):Pur P C (.unOp .not xt x) ty st (.bool (!b)):=λg a w dst pos af gd hr=>by
 have ex:=zn (yu hr hx);exact⟨.bool (!b),by simp[execOp,ex,Op.unary],.bool _⟩
end pure
end Go.Rse
namespace Go.Rse
open Go Go.RowKit
def tyOk(P:Program)(t:TypeId)(agg:Bool)(n:Nat):Bool:=
 (P.info? t).any (·.size==n)&&(match P.underlying t with|some (.struct _)|some (.array _ _)=>agg|some _=>!agg|none=>false)
def zcU{P:Program}{t:TypeId}{agg:Bool}{n:Nat}(h:tyOk P t agg n=true)(w:World):(isAgg t).run P w=.ok agg w:=by
 simp only[tyOk,j7]at h;obtain⟨_,V⟩:=h;cases Z:P.underlying t with
 |none=>simp[Z]at V
 |some d=>
  simp only[Z]at V;cases d<;>simp_all[isAgg,run_underlying Z]
def yY{P:Program}{t:TypeId}{agg:Bool}{n:Nat}(h:tyOk P t agg n=true)(w:World):(sizeOf t).run P w=.ok n w:=by
 simp only[tyOk,j7]at h;obtain⟨Z,_⟩:=h;cases hi:P.info? t<;>simp_all[sizeOf,typeInfo]
def yV(P:Program)(s:TypeId)(f off:Nat):Bool:=
 match P.underlying s with
 |some (.struct fs)=>match fs[f]? with
  |some fd=>fd.offset==off&&(P.info? fd.type).any (·.size !=0)
  |none=>false
 |_=>false
theorem zK(b o j:Nat):(⟨b,o,none⟩:Addr).add j=⟨b,o+j,none⟩:=by
 simp[Addr.add]
def zhV{P:Program}{s:TypeId}{f off:Nat}(h:yV P s f off=true)(b o:Nat)(w:World):
 (Instr.fieldAt s (.pointer (some ⟨b,o,none⟩)) f).run P w=.ok (.pointer (some ⟨b,o+off,none⟩)) w:=by
 unfold yV at h;split at h<;>try(simp at h;done)
 rename_i fs Z;split at h<;>try(simp at h;done)
 rename_i fd hf;simp only[j7,beq_iff_eq]at h;obtain⟨V,U⟩:=h;cases hi:P.info? fd.type<;>simp_all[Instr.fieldAt,run_underlying,Instr.sureAddr,fieldPlace,sizeOf,typeInfo,zK]
section
variable{P:Program}{C:Ctx}{st:St}{ty:TypeId}
def zes{s:TypeId}{x:Operand}{f off k z i j:Nat}(hx:ev st x=some (.ptr k z i j))(hf:yV P s f off=true):
 Pur P C (.fieldAddr s x f) ty st (.ptr k z i (j+off)):=λg a w dst pos af gd hr=>by
 obtain⟨b,Z,e⟩:=zaf (yu hr hx);refine⟨.pointer (some ⟨b,i*z+(j+off),none⟩),?_,.ptr k z i (j+off) b Z⟩;simp[execOp,e,zhV hf,v2]
def zih{α:Type}{enc:α->List AV}{z:α}{s:TypeId}{x:Operand}{f off j:Nat}(hx:ev st x=some (.ept enc z j))(hf:yV P s f off=true):
 Pur P C (.fieldAddr s x f) ty st (.ept enc z (j+off)):=λg a w dst pos af gd hr=>by
 obtain⟨b,o,vs,e,Z,V⟩:=ziz (yu hr hx);refine⟨.pointer (some ⟨b,o+(j+off),none⟩),?_,.ept enc z (j+off) b o vs Z V⟩;simp[execOp,e,zhV hf,v2]
def ze1{g:Gh}{w:World}{k:Nat}{cs:List AV}{E:TypeId}(h:yP C g w k (.box cs E)):
 ∃(b:Nat)(vs:Array Value),g.ρ k=.pointer (some ⟨b,0,none⟩)/\vs.size=cs.length/\(∀j,w.cell? ⟨b,j,none⟩=vs[j]?)/\∀(j:Nat)c v,cs[j]? =some c->vs[j]? =some v->RV g.I g.ρ c v:=by
 obtain⟨b,vs,Z,V,U,T,N,J⟩:=h
 grind[World.cell?]
theorem zbY{P:Program}{t:TypeId}(h:tyOk P t false 1=true){a:Addr}{w:World}{v:Value}(Z:w.cell? a=some v):(loadVar t a).run P w=.ok v w:=by
 simp[loadVar,zcU h,Z]
theorem zL{P:Program}{t:TypeId}{n:Nat}(h:tyOk P t true n=true){b o:Nat}{w:World}{vs:List Value}(Z:vs.length=n)(V:∀j v,vs[j]? =some v->w.cell? ⟨b,o+j,none⟩=some v):
 (loadVar t ⟨b,o,none⟩).run P w=.ok (.agg vs.toArray) w:=by
 subst Z;have:=run_loadCells_list (P:=P) (w:=w) ⟨b,o,none⟩ vs (λj v hv=>by grind[Addr.add]);simp[loadVar,zcU h,yY h,this]
def zl{t:TypeId}{x:Operand}{k z i j:Nat}{cs:List AV}{E:TypeId}{y:AV}(hx:ev st x=some (.ptr k z i j))(V:lk st.h k=some (.box cs E))(U:cs[i*z+j]? =some y)
 (ht:tyOk P t false 1=true):Pur P C (.load t x) ty st y:=λg a w dst pos af gd hr=>by
 obtain⟨b,J,e⟩:=zaf (yu hr hx);obtain⟨b',vs,H,h2,T,N⟩:=ze1 (hr.sat.blk k _ V);have:b'=b:=by simp_all[yX]
 subst this;have Z:i*z+j<vs.size:=by grind
 have hv:vs[i*z+j]? =some vs[i*z+j]:=jW Z;refine⟨_,?_,N _ y _ U hv⟩;simp only[execOp,e,jM,Instr.loadAt,Instr.sureAddr,jN,jB,zbY ht ((T _).trans hv)]
def zjv{t:TypeId}{x:Operand}{k z i n:Nat}{cs:List AV}{E:TypeId}(hx:ev st x=some (.ptr k z i 0))(V:lk st.h k=some (.box cs E))(hi:i*z=0)(H:cs.length=n)
 (ht:tyOk P t true n=true):Pur P C (.load t x) ty st (.agg cs):=λg a w dst pos af gd hr=>by
 obtain⟨b,Z,e⟩:=zaf (yu hr hx);obtain⟨b',vs,U,T,h3,N⟩:=ze1 (hr.sat.blk k _ V);have:b'=b:=by rw[U]at Z;simpa[yX]using Z
 subst this;refine⟨.agg vs.toList.toArray,?_,.agg cs vs.toList (by simpa using T) (λj c v J hv=>N j c v J (by simpa using hv))⟩
 grind[zL,execOp,Sem.run_bind,Instr.loadAt,Instr.sureAddr,Sem.run_pure,Result.andThen_ok]
def zii{t:TypeId}{x:Operand}{k z i j n:Nat}{cs ys:List AV}{E:TypeId}(hx:ev st x=some (.ptr k z i j))(T:lk st.h k=some (.box cs E))(N:(cs.drop (i*z+j)).take n=ys)(V:ys.length=n)
 (ht:tyOk P t true n=true):Pur P C (.load t x) ty st (.agg ys):=λg a w dst pos af gd hr=>by
 obtain⟨b,U,e⟩:=zaf (yu hr hx);obtain⟨b',vs,J,H,h3,h4⟩:=ze1 (hr.sat.blk k _ T);have:b'=b:=by rw[J]at U;simpa[yX]using U
 subst this;subst N;have Z:((vs.toList.drop (i*z+j)).take n).length=n:=by simp[H]at V⊢;omega
 refine⟨.agg ((vs.toList.drop (i*z+j)).take n).toArray,?_,.agg _ _ (by rw[Z,V]) (λq c v hc hv=>?_)⟩
 ·have:=zL (P:=P) (t:=t) ht (b:=b') (o:=i*z+j) (w:=w) (vs:=(vs.toList.drop (i*z+j)).take n) Z (λq v hv=>by
   rw[h3];rw[w8]at hv;split at hv
   ·rw[w7]at hv;simpa using hv
   ·simp at hv)
  simp only[execOp,e,jM,Instr.loadAt,Instr.sureAddr,jN,jB,this]
 grind
def RV.forget'{I:Im}{ρ ρ':Nat->Value}{x:AV}{v:Value}(h:RV I ρ x v)(hf:∀k,x.fr k=true):RV I ρ' x v:=by
 induction h with
 |int k n=>exact .int k n
 |bool b=>exact .bool b
 |str s=>exact .str s
 |nils=>exact .nils
 |nilf=>exact .nilf
 |val v=>exact .val v
 |sl enc l A b o s c vs T V hm hs hI hv ih=>exact .sl enc l A b o s c vs T V hm hs hI hv
 |own k' A n c h=>exact absurd (hf k') (by simp[AV.fr])
 |ptr k' s i j b h=>exact absurd (hf k') (by simp[AV.fr])
 |mth f k' s i j b h=>exact absurd (hf k') (by simp[AV.fr])
 |sub k' s i m c A h=>exact absurd (hf k') (by simp[AV.fr])
 |ept enc x j b o vs hI hv ih=>exact .ept enc x j b o vs hI hv
 |yv l=>exact .yv l
 |fn f caps vs hl hv ih=>exact .fn f caps vs hl (λj c v V Z=>ih j c v V Z (λk=>zo (by simpa[AV.fr]using hf k) V))
 |agg cs vs hl hv ih=>exact .agg cs vs hl (λj c v V Z=>ih j c v V Z (λk=>zo (by simpa[AV.fr]using hf k) V))
 |tup cs vs hl hv ih=>exact .tup cs vs hl (λj c v V Z=>ih j c v V Z (λk=>zo (by simpa[AV.fr]using hf k) V))
 |ifb b x v h ih=>exact .ifb b x v (λU=>ih U (λk=>by simpa[AV.fr]using hf k))
 |opt b x v h h0 ih=>exact .opt b x v (λU=>ih U (λk=>by simpa[AV.fr]using hf k)) h0
 |mp k' b h=>exact absurd (hf k') (by simp[AV.fr])
 |any v=>exact .any v
def AV.nm:AV->Bool
 |.own _=>false
 |.ptr _ _ _ _=>false
 |.mth _ _ _ _ _=>false
 |.sub _ _ _ _=>false
 |.fn _ cs=>nmL cs
 |.agg cs=>nmL cs
 |.tup cs=>nmL cs
 |.ifb _ x=>x.nm
 |.opt _ x=>x.nm
 |.mp _=>false
 |_=>true
where nmL:List AV->Bool
 |[]=>true
 |x::r=>x.nm&&nmL r
def zq:∀{cs:List AV},AV.nm.nmL cs=true->∀{j:Nat}{c:AV},cs[j]? =some c->c.nm=true
 |[],_,_,_,h=>by simp at h
 |x::r,h,0,c,e=>by
  simp_all[AV.nm.nmL]
 |x::r,h,j+1,c,e=>by
  simp[AV.nm.nmL]at h;exact zq h.2 (by simpa using e)
def RV.forget{I:Im}{ρ ρ':Nat->Value}{x:AV}{v:Value}(h:RV I ρ x v)(hf:x.nm=true):RV I ρ' x v:=by
 induction h with
 |int k n=>exact .int k n
 |bool b=>exact .bool b
 |str s=>exact .str s
 |nils=>exact .nils
 |nilf=>exact .nilf
 |val v=>exact .val v
 |sl enc l A b o s c vs T V hm hs hI hv ih=>exact .sl enc l A b o s c vs T V hm hs hI hv
 |own k' A n c h=>simp[AV.nm]at hf
 |ptr k' s i j b h=>simp[AV.nm]at hf
 |mth f k' s i j b h=>simp[AV.nm]at hf
 |sub k' s i m c A h=>simp[AV.nm]at hf
 |ept enc x j b o vs hI hv ih=>exact .ept enc x j b o vs hI hv
 |yv l=>exact .yv l
 |fn f caps vs hl hv ih=>exact .fn f caps vs hl (λj c v V Z=>ih j c v V Z (zq (by simpa[AV.nm]using hf) V))
 |agg cs vs hl hv ih=>exact .agg cs vs hl (λj c v V Z=>ih j c v V Z (zq (by simpa[AV.nm]using hf) V))
 |tup cs vs hl hv ih=>exact .tup cs vs hl (λj c v V Z=>ih j c v V Z (zq (by simpa[AV.nm]using hf) V))
 |ifb b x v h ih=>exact .ifb b x v (λU=>ih U (by simpa[AV.nm]using hf))
 |opt b x v h h0 ih=>exact .opt b x v (λU=>ih U (by simpa[AV.nm]using hf)) h0
 |mp k b h=>simp[AV.nm]at hf
 |any v=>exact .any v
def zbm{α:Type}{enc:α->List AV}{u:α}{t:TypeId}{x:Operand}{j:Nat}{y:AV}(hx:ev st x=some (.ept enc u j))(V:(enc u)[j]? =some y)(U:y.nm=true)
 (ht:tyOk P t false 1=true):Pur P C (.load t x) ty st y:=λg a w dst pos af gd hr=>by
 obtain⟨b,o,vs,e,T,N⟩:=ziz (yu hr hx);have Z:j<(enc u).length:=(j1.1 V).1;refine⟨vs j,?_,(N j y V).forget U⟩;simp only[execOp,e,jM,Instr.loadAt,Instr.sureAddr,jN,jB,zbY ht (hr.sat.im _ _ _ (T j Z)).1]
def zjw{α:Type}{enc:α->List AV}{u:α}{t:TypeId}{x:Operand}{n:Nat}(hx:ev st x=some (.ept enc u 0))(hl:(enc u).length=n)(T:AV.nm.nmL (enc u)=true)
 (ht:tyOk P t true n=true):Pur P C (.load t x) ty st (.agg (enc u)):=λg a w dst pos af gd hr=>by
 obtain⟨b,o,vs,e,N,J⟩:=ziz (yu hr hx);have Z:((List.range n).map vs).length=n:=by simp
 refine⟨.agg ((List.range n).map vs).toArray,?_,.agg _ _ (by rw[Z,hl]) (λj c v U hv=>?_)⟩
 ·have:=zL (P:=P) (t:=t) ht (b:=b) (o:=o) (w:=w) (vs:=(List.range n).map vs) Z (λj v hv=>by
   rw[jJ]at hv;by_cases V:j<n
   ·simp[vK V]at hv;subst hv;exact(hr.sat.im _ _ _ (N j (by omega))).1
   ·simp[wT (l:=List.range n) (i:=j) (by simp;omega)]at hv)
  simp_all[execOp,Instr.loadAt,Instr.sureAddr]
 ·have V:j<n:=by grind
  rw[jJ,vK V]at hv;simp at hv;subst hv;exact(J j c U).forget (zq T U)
def zdl{I:Im}{ρ:Nat->Value}{α:Type}{enc:α->List AV}{l:List α}{v:Value}(h:RV I ρ (.sl enc l) v):∃(A:Option Addr)(b o s c:Nat)(vs:Nat->Nat->Value),v=.slice A l.length c∧
 (l≠[]->A=some ⟨b,o,none⟩)/\l.length<=c/\c<=maxLen/\(∀(i:Nat)(x:α),l[i]? =some x->(enc x).length=s)∧
 (∀(i:Nat)(x:α)(j:Nat),l[i]? =some x->j<s->I b (o+i*s+j)=some (vs i j))/\∀(i:Nat)(x:α)(j:Nat)(cell:AV),l[i]? =some x->(enc x)[j]? =some cell->RV I noNames cell (vs i j):=by
 cases h;exact⟨_,_,_,_,_,_,rfl,by assumption,by assumption,by assumption,by assumption,by assumption,by assumption⟩
def ztB{g:Gh}{w:World}{k:Nat}{α:Type}{enc:α->List AV}{l:List α}{E:TypeId}{s:Nat}(h:yP C g w k (.row enc l E s)):∃A c,g.ρ k=.slice A l.length c/\l.length<=maxLen:=by
 obtain⟨xs,Z,_⟩:=h;rcases Z.2 with⟨h,h0⟩|⟨b,cap,cur,h,_,_,V,hm,_⟩;all_goals grind
def slOk(P:Program)(t E:TypeId):Bool:=match P.underlying t with|some (.slice e)=>e==E|_=>false
def yZ{P:Program}{t E:TypeId}(h:slOk P t E=true):P.underlying t=some (.slice E):=by
 grind[slOk]
def zkb{P:Program}{t E ty:TypeId}(h:slOk P t E=true)(A:Option Addr)(n c:Nat)(w:World):(Builtin.len_ #[t] ty #[.slice A n c]).run P w=.ok (.int .i64 n) w:=by
 simp[Builtin.len_,run_underlying (yZ h),goInt]
def zfx{a:Act}{w:World}{dst:Option Tmp}{x:Operand}{t E:TypeId}{pos:String}{af:Array Edge}{gd:Option (Nat×Bool)}{A:Option Addr}{n c:Nat}(h:slOk P t E=true)(e:a.eval x=.slice A n c):
 (execOp a.eval {dst:=dst,op:=.call {callee:=.builtin .len,args:= #[x],argTypes:= #[t]},type:=ty,pos:=pos,after:=af,guard:=gd}).run P w=.ok (.value (.int .i64 n)) w:=by
 simp[execOp,resolve,invoke,builtin,e,zkb h]
def zhf{α:Type}{enc:α->List AV}{l:List α}{x:Operand}{t E:TypeId}(hx:ev st x=some (.sl enc l))(h:slOk P t E=true):
 Pur P C (.call {callee:=.builtin .len,args:= #[x],argTypes:= #[t]}) ty st (.int .i64 l.length):=λg a w dst pos af gd hr=>by
 obtain⟨A,b,o,s,c,vs,e,_⟩:=zdl (yu hr hx);exact⟨_,zfx h e,.int _ _⟩
def zfy{α:Type}{enc:α->List AV}{l:List α}{x:Operand}{t E E':TypeId}{k s:Nat}(hx:ev st x=some (.own k))(Z:lk st.h k=some (.row enc l E' s))(h:slOk P t E=true):
 Pur P C (.call {callee:=.builtin .len,args:= #[x],argTypes:= #[t]}) ty st (.int .i64 l.length):=λg a w dst pos af gd hr=>by
 obtain⟨A,c,e,_⟩:=ztB (hr.sat.blk k _ Z);rw[z7 (yu hr hx)]at e;exact⟨_,zfx h e,.int _ _⟩
def zej{x:Operand}{t E:TypeId}(hx:ev st x=some .nils)(h:slOk P t E=true):
 Pur P C (.call {callee:=.builtin .len,args:= #[x],argTypes:= #[t]}) ty st (.int .i64 0):=λg a w dst pos af gd hr=>
 ⟨_,zfx h (zbU (yu hr hx)),.int _ _⟩
def zhW{a:Act}{w:World}{dst:Option Tmp}{x y:Operand}{t E:TypeId}{ag:Bool}{pos:String}{af:Array Edge}{gd:Option (Nat×Bool)}{b o n c s:Nat}{kk:IntKind}{i:Int}(h:slOk P t E=true)(hs:tyOk P E ag s=true)
 (ex:a.eval x=.slice (some ⟨b,o,none⟩) n c)(ey:a.eval y=.int kk i)(h0:0<=i)(Z:i<n):
 (execOp a.eval {dst:=dst,op:=.indexAddr t x y,type:=ty,pos:=pos,after:=af,guard:=gd}).run P w=.ok (.value (.pointer (some ⟨b,o+i.toNat*s,none⟩))) w:=by
 simp[execOp,Instr.indexAt,asIntOf,ex,ey,run_underlying (yZ h),h0,Z,yY hs,zK]
def zal{α:Type}{enc:α->List AV}{l:List α}{u:α}{x y:Operand}{t E:TypeId}{ag:Bool}{s:Nat}{kk:IntKind}{i:Int}(hx:ev st x=some (.sl enc l))(T:ev st y=some (.int kk i))
 (h:slOk P t E=true)(hs:tyOk P E ag s=true)(he:∀z,(enc z).length=s)(h0:0<=i)(Z:l[i.toNat]? =some u):
 Pur P C (.indexAddr t x y) ty st (.ept enc u 0):=λg a w dst pos af gd hr=>by
 obtain⟨A,b,o,s',c,vs,e,N,_,_,J,H,h3⟩:=zdl (yu hr hx);have xT:i.toNat<l.length:=(j1.1 Z).1;have V:l≠[]:=by grind
 rw[N V]at e;have U:s'=s:=(J _ _ Z).symm.trans (he u);subst U;refine⟨_,zhW h hs e (yW (yu hr T)) h0 (by omega),?_⟩;exact .ept enc u 0 b (o+i.toNat*s') (vs i.toNat) (λj hj=>H _ u j Z (by simp_all)) (λj cell hc=>h3 _ u j cell Z hc)
def ze2{α:Type}{enc:α->List AV}{l:List α}{x y:Operand}{t E E':TypeId}{ag:Bool}{k s:Nat}{kk:IntKind}{i:Int}(hx:ev st x=some (.own k))(Z:lk st.h k=some (.row enc l E' s))(V:ev st y=some (.int kk i))
 (h:slOk P t E=true)(hs:tyOk P E ag s=true)(h0:0<=i)(U:i<l.length):
 Pur P C (.indexAddr t x y) ty st (.ptr k s i.toNat 0):=λg a w dst pos af gd hr=>by
 obtain⟨xs,T,_⟩:=hr.sat.blk k _ Z;have ek:=z7 (yu hr hx);rcases T.2 with⟨_,e0⟩|⟨b,cap,cur,hv,_⟩
 ·omega
 ·rw[hv]at ek;refine⟨_,zhW h hs ek.symm (yW (yu hr V)) h0 U,?_⟩;have:=RV.ptr (I:=g.I) (ρ:=g.ρ) k s i.toNat 0 b (by rw[hv];rfl);simpa using this
def zbn{α:Type}{enc:α->List AV}{l:List α}{u:α}{t:TypeId}{x:Operand}{k s i j:Nat}{E:TypeId}{y:AV}(hx:ev st x=some (.ptr k s i j))(hk:lk st.h k=some (.row enc l E s))(U:l[i]? =some u)(J:(enc u)[j]? =some y)(hn:y.nm=true)
 (ht:tyOk P t false 1=true):Pur P C (.load t x) ty st y:=λg a w dst pos af gd hr=>by
 obtain⟨b,H,e⟩:=zaf (yu hr hx);obtain⟨xs,hw,h1,h2,h3⟩:=hr.sat.blk k _ hk;rcases hw.2 with⟨hv,_⟩|⟨b',cap,cur,hv,_,hh,x4,_,xT,T⟩
 ·simp_all
 ·have:b'=b:=by rw[hv]at H;simpa[yX]using H
  subst this;have N:i<l.length:=(j1.1 U).1;have x3:j<s:=by rw[←h1 i u U];exact(j1.1 J).1
  have Z:i*s+j<l.length*s:=by
   have h2:(i+1)*s<=l.length*s:=jU s N;have h3:(i+1)*s=i*s+s:=uZ i s;omega
  have V:i*s+j<xs.length:=by rw[hw.1];exact Z
  have hc:w.cell? ⟨b',i*s+j,none⟩=some xs[i*s+j]:=by
   simp only[World.cell?,hh]
   have h0:cur.toList[i*s+j]? =some xs[i*s+j]:=by
    rw[←jC V];conv=>rhs;rw[←T]
    rw[w8,j4 Z]
   simpa using h0
  refine⟨_,?_,(h2 i u j y _ U J (jC V)).forget hn⟩;simp_all[execOp,Instr.loadAt,Instr.sureAddr,zbY]
end
end Go.Rse
namespace Go.Rse
open Go Go.RowKit
def vSc:Value->Bool
 |.pointer _|.map _|.nilIface|.iface _ _=>true
 |_=>false
def AV.sc:AV->Bool
 |.int _ _|.bool _|.str _|.nils|.nilf|.sl _ _|.own _|.ptr _ _ _ _|.ept _ _ _|.fn _ _|.yv _|.sub _ _ _ _|.mp _|.mth _ _ _ _ _=>true
 |.val v=>vSc v
 |_=>false
theorem zbZ{I:Im}{ρ:Nat->Value}{x:AV}{v:Value}(h:RV I ρ x v)(hs:x.sc=true):v.cells= #[v]/\v.oneCell'=true:=by
 cases x with
 |val u=>
  have e:=zbW h;subst e;cases v<;>simp[AV.sc,vSc]at hs<;>exact⟨rfl,rfl⟩
 |_=>cases h<;>simp[AV.sc]at hs<;>exact⟨rfl,rfl⟩
def scL:List AV->Bool
 |[]=>true
 |x::r=>x.sc&&scL r
def zfz:∀{cs:List AV},scL cs=true->∀{j:Nat}{c:AV},cs[j]? =some c->c.sc=true
 |[],_,_,_,h=>by simp at h
 |x::r,h,0,c,e=>by simp_all[scL]
 |x::r,h,j+1,c,e=>by simp[scL]at h;exact zfz h.2 (by simpa using e)
def Gh.nw(g:Gh)(d b k:Nat)(v:Value):Gh:={ρ:=λn=>if n=k then v else g.ρ n,I:=g.I,O:=λb'=>if b'=b then some (d,k)else g.O b'}
theorem ImOB.nw{g:Gh}{w w':World}(h:ImOB g w)(T:Grow w w')(Z:w.heap.size<w'.heap.size)(d k:Nat)(v:Value):ImOB (g.nw d w.heap.size k v) w':=by
 refine⟨λb o u hI=>?_,λb k' V=>?_,h.2.2⟩
 ·obtain⟨U,N⟩:=h.1 b o u hI;refine⟨T.cell U,?_⟩;have:=zcQ U
  grind[Gh.nw]
 ·simp only[Gh.nw]at V;split at V
  ·omega
  ·exact Nat.lt_trans (h.2.1 b k' V) Z
theorem Add.nw{g:Gh}{w w':World}(Z:Grow w w')(d k:Nat)(v:Value):Add (some k) g w (g.nw d w.heap.size k v) w':=
 ⟨Im.le_refl _,λn V=>by grind[Gh.nw],λb U=>by grind[Gh.nw],Z⟩
def y9(P:Program)(T:TypeId)(cs:List AV):Prop:=∃z,(P.info? T).bind (·.zero)=some z/\cvL z.cells.toList=some cs
section
variable{P:Program}{C:Ctx}{st:St}{ty:TypeId}
def zlK{g:Gh}{a:Act}{w:World}(hr:Rel C st g a w){T:TypeId}{cs:List AV}{vs:Array Value}{k:Nat}(hl:vs.size=cs.length)(hv:∀(j:Nat)c v,cs[j]? =some c->vs[j]? =some v->RV g.I g.ρ c v)(hf:AV.fr.frL k cs=true):
 Add (some k) g w (g.nw C.d w.heap.size k (.pointer (some ⟨w.heap.size,0,none⟩))) (w.alloc (.cells vs T))∧
 RV (g.nw C.d w.heap.size k (.pointer (some ⟨w.heap.size,0,none⟩))).I (g.nw C.d w.heap.size k (.pointer (some ⟨w.heap.size,0,none⟩))).ρ (.ptr k 0 0 0) (.pointer (some ⟨w.heap.size,0,none⟩))∧
 ImOB (g.nw C.d w.heap.size k (.pointer (some ⟨w.heap.size,0,none⟩))) (w.alloc (.cells vs T))∧
 yP C (g.nw C.d w.heap.size k (.pointer (some ⟨w.heap.size,0,none⟩))) (w.alloc (.cells vs T)) k (.box cs T):=by
 have Z:=Add.nw (g:=g) (Grow.alloc w (.cells vs T)) C.d k (.pointer (some ⟨w.heap.size,0,none⟩));refine⟨Z,?_,ImOB.nw ⟨hr.sat.im,hr.sat.ob⟩ (Grow.alloc _ _) (by simp) C.d k _,?_⟩
 ·exact .ptr k 0 0 0 w.heap.size (by simp[Gh.nw,yX])
 ·refine⟨w.heap.size,vs,by simp[Gh.nw],by simp[Gh.nw],.inl hr.ext.size,heap_alloc_new w _,hl,λj c v U V=>?_⟩;exact(hv j c v U V).renameOpt (nk:=some k) (λn N=>by grind[zo]) Z.ρ
def zAo{T:TypeId}{x:Operand}{y:AV}{k:Nat}(hx:ev st x=some y)(hs:y.sc=true)(hf:y.fr k=true):yA P C (.box T x) ty st (.ptr k 0 0 0) (some (k,.box [y] T)):=
 zC λg a w dst pos af gd hr=>by
  have Z:=yu hr hx
  obtain⟨V,U,N,J⟩:=zlK hr (T:=T) (cs:=[y]) (vs:= #[a.eval x]) (k:=k) rfl (λj c v H hv=>by
   grind) (by simp[AV.fr.frL,hf])
  refine⟨_,_,_,?_,V,U,N,λk' B E=>by simp_all⟩;simp only[execOp,Instr.box,newVar,newRow,(zbZ Z hs).1];rfl
def zfA{T:TypeId}{x:Operand}{cs:List AV}{k:Nat}(hx:ev st x=some (.agg cs))(hf:AV.fr.frL k cs=true):yA P C (.box T x) ty st (.ptr k 0 0 0) (some (k,.box cs T)):=
 zC λg a w dst pos af gd hr=>by
  obtain⟨vs,e,hl,hv⟩:=zbX (yu hr hx);obtain⟨V,U,N,H⟩:=zlK hr (T:=T) (cs:=cs) (vs:=vs.toArray) (k:=k) (by simpa using hl) (λj c v J Z=>hv j c v J (by simpa using Z)) hf;refine⟨_,_,_,?_,V,U,N,λk' B E=>by simp_all⟩;simp only[execOp,Instr.box,newVar,newRow,e,Value.cells];rfl
def zAp{v:Value}{x:AV}(h:cv v=some x)(k:Nat):x.fr k=true:=by
 unfold cv at h
 split at h<;>first
  |grind[AV.fr]
  |exact absurd h (by simp)
def zrC(k:Nat):∀{vs:List Value}{xs:List AV},cvL vs=some xs->AV.fr.frL k xs=true
 |[],xs,h=>by simp[cvL]at h;subst h;rfl
 |v::r,xs,h=>by
  simp only[cvL]at h;split at h<;>try(simp at h;done)
  rename_i x ys Z V;injection h with h;subst h;simp[AV.fr.frL,zAp Z k,zrC k V]
def zw{T:TypeId}{cs:List AV}{k:Nat}(Z:y9 P T cs):yA P C (.alloc T) ty st (.ptr k 0 0 0) (some (k,.box cs T)):=
 zC λg a w dst pos af gd hr=>by
  obtain⟨z,hz,J⟩:=Z;obtain⟨hl,hv⟩:=zhI (I:=g.I) (ρ:=g.ρ) J;obtain⟨H,E,h3,h4⟩:=zlK hr (T:=T) (cs:=cs) (vs:=z.cells) (k:=k) (by simpa using hl) (λj c v V U=>hv j c v V (by simpa using U)) (zrC k J);refine⟨_,_,_,?_,H,E,h3,λk' B N=>by injection N with N;injection N with e1 e2;subst e1;subst e2;exact h4⟩;cases hi:P.info? T<;>simp_all[execOp,Instr.alloc,zeroValue,typeInfo,newVar,newRow]
def yP.far{g:Gh}{w w':World}{k b k2:Nat}{B:Blk}(h:yP C g w k2 B)(hm:w.grownBy w' (some b))(J:w.drawn<=w'.drawn)(hb:g.O b=some (C.d,k))(H:k2≠k)(xT:ImOB g w'):yP C g w' k2 B:=by
 cases B with
 |box cs E=>
  obtain⟨b2,vs,V,U,T,N,h5,h6⟩:=h
  have x4:b2<w.heap.size:=by
   grind
  have Z:b2≠b:=λe=>H (by simp_all)
  exact⟨b2,vs,V,U,T,(hm.block b2 x4 (by simpa using Z)).trans N,h5,h6⟩
 |row enc l E s=>
  obtain⟨xs,V,U,T,N⟩:=h;refine⟨xs,V.kept hm ?_,U,T,N⟩;cases ho:(g.ρ k2).ownBlock with
  |none=>exact .inl rfl
  |some b2=>
   refine .inr ?_;intro e;injection e with e;subst e
   have x3:yX (g.ρ k2)=some b2:=by
    revert ho;cases g.ρ k2<;>simp[Value.ownBlock];rename_i A n c;cases A<;>simp[yX]
   simp_all
 |hold vs cs=>exact h
 |obj b2 o=>
  obtain⟨V,U,T⟩:=h;have Z:b2≠b:=λe=>H (by simp_all)
  exact⟨(hm.block b2 (za V) (by simpa using Z)).trans V,U,T⟩
 |yld j on=>exact zhd h (Im.le_refl _) (λ_ _ _=>rfl) (λb' e=>by simp_all) hm J h.2.2.2.1 xT
 |mpb kenc venc l=>
  obtain⟨b2,es,ck,V,U,T,N,h5,h6⟩:=h;have Z:b2≠b:=λe=>H (by simp_all)
  exact⟨b2,es,ck,V,U,T,(hm.block b2 (za N) (by simpa using Z)).trans N,h5,h6⟩
 |dead=>trivial
def Dfs.grown{g:Gh}{w w':World}{b d k:Nat}{ds:List Deferred}(h:Dfs C g ds w)(hm:w.grownBy w' (some b))(E:g.O b=some (d,k)):Dfs C g ds w':=by
 obtain⟨D,V,U,T⟩:=h;refine⟨D,V,U,λr hr=>?_⟩;obtain⟨N,J,H⟩:=T r hr
 have Z:r<w.heap.size:=by
  grind
 exact⟨(hm.block r Z (λe=>by simp_all)).trans N,J,H⟩
def Rel.modify{g:Gh}{a:Act}{w w':World}{k b:Nat}{B:Blk}(h:Rel C st g a w)(hb:g.O b=some (C.d,k))(hok:C.okb b)(hm:w.grownBy w' (some b))(U:w.drawn<=w'.drawn)(hB:yP C g w' k B):Rel C (putH st k B) g a w':=by
 have T:∀b' o u,g.I b' o=some u->w'.cell? ⟨b',o,none⟩=some u/\g.O b'=none:=λb' o u hI=>by
  obtain⟨E,h2⟩:=h.sat.im b' o u hI;refine⟨?_,h2⟩;have Z:b'≠b:=λe=>by simp_all
  rw[World.cell?_of_block (w:=w) (a:=⟨b',o,none⟩) (hm.block b' (zcQ E) (by simpa using Z))];exact E
 have N:ObO g.I g.O w':=h.sat.ob.up (Im.le_refl _) hm.size;refine⟨h.size,h.defers.grown hm hb,h.tmps,⟨T,N,λk' B' V=>?_⟩,?_⟩
 ·simp only[putH,yp]at V;cases J:k.beq k'<;>simp[J]at V
  ·exact(h.sat.blk k' B' V).far hm U hb (λe=>by subst e;simp at J) ⟨T,N⟩
  simp_all
 ·exact⟨h.ext.I,hm.os.trans h.ext.os,hm.tape.trans h.ext.tape,hm.output.trans h.ext.output,jR h.ext.drawn U,jR h.ext.size hm.size,λb' H hn ho=>by
   have Z:b'≠b:=λe=>hn (e▸hok)
   obtain⟨E,h2⟩:=h.ext.keep b' H hn ho;exact⟨(hm.block b' (jV H h.ext.size) (by simpa using Z)).trans E,h2⟩,h.ext.own⟩
def zdm{w:World}{b:Nat}{cs:Array Value}:w.grownBy (w.setRow b cs) (some b):=
 ⟨rfl,rfl,rfl,by simp,λk V Z=>by
  grind[World.setRow]⟩
def yC(P:Program)(C:Ctx)(op:Op)(ty:TypeId)(dst:Option Tmp)(st st':St):Prop:=
 ∀(g:Gh)(a:Act)(w:World)pos af gd,Rel C st g a w->∀(K:Act->World->Prop),
  (∀a' w' g',Rel C st' g' a' w'->K a' w')->wp1 P {dst:=dst,op:=op,type:=ty,pos:=pos,after:=af,guard:=gd} a w K
def zag{ops:Array Oper}{st':St}{Q:Exit->St->Prop}{rest:List Oper}{dst:Option Tmp}{op:Op}{pos:String}{af:Array Edge}
 (hs:yC P C op ty dst st st')(h:Ex P C ops rest st' Q):Ex P C ops ({dst:=dst,op:=op,type:=ty,pos:=pos,after:=af,guard:=none}::rest) st Q:=λg a w hr=>
 wpListIn_plain rfl λK Z=>zaz<|hs g a w pos af none hr K λa' w' g' V=>Z _ _ (h g' a' w' V)
def setAt(cs:List AV)(n:Nat)(xs:List AV):List AV:=cs.take n++xs++cs.drop (n+xs.length)
def zf0{g:Gh}{a:Act}{w:World}(hr:Rel C st g a w){T:TypeId}{k z i j n:Nat}{cs ys:List AV}{E:TypeId}{ag:Bool}{x:Operand}{p:Value}{v:Value}{vs:List Value}(hx:ev st x=some (.ptr k z i j))(Z:lk st.h k=some (.box cs E))
 (ht:tyOk P T ag n=true)(hv:v.cells=vs.toArray)(V:vs.length=ys.length)(U:∀(q:Nat)c u,ys[q]? =some c->vs[q]? =some u->RV g.I g.ρ c u)(N:∀u∈vs,u.oneCell'=true)
 (hn:ys.length=n)(J:i*z+j+ys.length<=cs.length):
 ∃w',(Instr.storeAt T (a.eval x) v).run P w=.ok () w'/\Rel C (putH st k (.box (setAt cs (i*z+j) ys) E)) g a w':=by
 obtain⟨b,hb,e⟩:=zaf (yu hr hx);obtain⟨b',cur,c1,c2,c3,c4,c5,c6⟩:=hr.sat.blk k _ Z;have:b'=b:=by simp_all[yX]
 subst this;have H:=run_storeCells_at (P:=P) b' (i*z+j) E vs 0 cur w c4 (by omega) N;refine⟨w.setRow b' (List.take (i*z+j) cur.toList++vs++List.drop (i*z+j+vs.length) cur.toList).toArray,?_,hr.modify c2 c3 zdm (jE _) ?_⟩
 ·simp only[Instr.storeAt,e,Instr.sureAddr,jM,jN,jB,storeVar,yY ht,hv];simp_all
 ·refine⟨b',_,c1,c2,c3,setRow_heap w b' cur _ E _ c4,?_,λq c u hc hu=>?_⟩;all_goals grind[setAt]
def zar{T:TypeId}{x y:Operand}{k z i j:Nat}{cs:List AV}{E:TypeId}{u:AV}(hx:ev st x=some (.ptr k z i j))(V:lk st.h k=some (.box cs E))(U:ev st y=some u)(hs:u.sc=true)
 (ht:tyOk P T false 1=true)(N:i*z+j<cs.length):yC P C (.store T x y) ty none st (putH st k (.box (setAt cs (i*z+j) [u]) E)):=λg a w pos af gd hr K J=>by
 have Z:=yu hr U
 obtain⟨w',H,h2⟩:=zf0 hr hx V ht (v:=a.eval y) (vs:=[a.eval y]) (ys:=[u]) (p:=.nilIface) (zbZ Z hs).1 rfl (λq c v hc hv=>by
  grind) (by simpa using(zbZ Z hs).2) rfl (by simp;omega)
 simp only[wp1,execOp,jM,H,jB,jN,zcJ];exact J _ _ _ h2
def zdz{T:TypeId}{x y:Operand}{k z i j n:Nat}{cs ys:List AV}{E:TypeId}(hx:ev st x=some (.ptr k z i j))(U:lk st.h k=some (.box cs E))(N:ev st y=some (.agg ys))(hs:scL ys=true)
 (ht:tyOk P T true n=true)(J:ys.length=n)(V:i*z+j+ys.length<=cs.length):yC P C (.store T x y) ty none st (putH st k (.box (setAt cs (i*z+j) ys) E)):=λg a w pos af gd hr K H=>by
 obtain⟨vs,e,hl,hv⟩:=zbX (yu hr N)
 obtain⟨w',h1,h2⟩:=zf0 hr hx U ht (v:=a.eval y) (vs:=vs) (ys:=ys) (p:=.nilIface) (by rw[e];rfl) hl hv (λu hu=>by
  obtain⟨q,hq⟩:=jS.1 hu;have Z:q<ys.length:=by grind
  exact(zbZ (hv q _ u (jC Z) hq) (zfz hs (jC Z))).2) J V
 simp only[wp1,execOp,jM,h1,jB,jN,zcJ];exact H _ _ _ h2
end
end Go.Rse
namespace Go.Rse
open Go Go.RowKit
def AV.cl:AV->List AV
 |.agg cs=>cs
 |x=>[x]
def RVL(I:Im)(ρ:Nat->Value)(cs:List AV)(vs:List Value):Prop:=vs.length=cs.length/\∀(j:Nat)(c:AV)(v:Value),cs[j]? =some c->vs[j]? =some v->RV I ρ c v
theorem RVL.setAt{I:Im}{ρ:Nat->Value}{cs ys:List AV}{vs us:List Value}(h:RVL I ρ cs vs)(N:RVL I ρ ys us)(n:Nat)(J:n+ys.length<=cs.length):
 RVL I ρ (setAt cs n ys) (vs.take n++us++vs.drop (n+us.length)):=by
 obtain⟨hl,hv⟩:=h;obtain⟨U,T⟩:=N;refine⟨by simp[Rse.setAt];omega,λq c u V Z=>?_⟩;simp only[Rse.setAt,uT,jI,jL]at V Z;rw[show min n cs.length=n by omega]at V;rw[show min n vs.length=n by omega]at Z;by_cases q1:q<n
 ·rw[j4 (by omega),j4 q1]at V;rw[j4 (by omega),j4 q1]at Z;rw[w8,j4 q1]at V Z;exact hv q c u V Z
 ·by_cases q2:q<n+ys.length
  ·rw[j4 q2,j3 q1]at V;rw[j4 (by omega),j3 q1]at Z;exact T _ c u V Z
  ·rw[j3 q2]at V;rw[j3 (by omega)]at Z;rw[w7]at V Z;rw[U]at Z;exact hv _ c u V Z
def zmL(off:Nat):∀(us:List Value)(s:Nat)(cs:Array Value),off+s+us.length<=cs.size→
 ((us.zipIdx s).foldl (λcs(c,j)=>cs.setIfInBounds (off+j) c) cs).toList=cs.toList.take (off+s)++us++cs.toList.drop (off+s+us.length)
 |[],s,cs,_=>by simp
 |u::r,s,cs,h=>by
  simp only[jY]at h;have ih:=zmL off r (s+1) (cs.setIfInBounds (off+s) u) (by simp;omega);simp only[List.zipIdx_cons,xC];rw[ih];simp only[Array.toList_setIfInBounds,jY];have Z:off+s<cs.toList.length:=by simp;omega
  grind[List.drop_set_of_lt,List.take_set,List.take_succ_eq_append_getElem]
def zpO(off:Nat)(us cs:Array Value)(h:off+us.size<=cs.size):
 (us.zipIdx.foldl (λcs(c,j)=>cs.setIfInBounds (off+j) c) cs).toList=cs.toList.take off++us.toList++cs.toList.drop (off+us.size):=by
 have:=zmL off us.toList 0 cs (by simpa using h)
 grind[Array.toList_zipIdx]
def zf1(place:Nat->Option (Nat×Nat)):List AV->List (Nat×AV)->Option (List AV)
 |cs,[]=>some cs
 |cs,(i,x)::r=>match place i with
  |none=>none
  |some (off,size)=>bif(x.cl.length.beq size&&(off+size).ble cs.length)then zf1 place (setAt cs off x.cl) r else none
def zjx:AV->Bool
 |.agg _=>true
 |x=>x.sc
def zjy{I:Im}{ρ:Nat->Value}{x:AV}{v:Value}(h:RV I ρ x v)(hs:zjx x=true):RVL I ρ x.cl v.cells.toList:=by
 cases x<;>grind[zbX,Value.cells,AV.cl,zjx,zbZ,RVL]
def zcR:List (Nat×AV)->Bool
 |[]=>true
 |(_,x)::r=>zjx x&&zcR r
def zlL(I:Im)(ρ:Nat->Value):List (Nat×AV)->List (Nat×Value)->Prop
 |[],[]=>True
 |(i,x)::r,(j,v)::q=>i=j/\RV I ρ x v/\zlL I ρ r q
 |_,_=>False
def zhg{I:Im}{ρ:Nat->Value}(place:Nat->Option (Nat×Nat)):∀(ps:List (Nat×AV))(qs:List (Nat×Value))(cs cs':List AV)(vs:Array Value),zlL I ρ ps qs->zcR ps=true->RVL I ρ cs vs.toList->zf1 place cs ps=some cs'→
 ∃vs',Instr.fill place vs qs=some vs'/\RVL I ρ cs' vs'.toList
 |[],[],cs,cs',vs,_,_,h,e=>by grind[zf1,Instr.fill]
 |(i,x)::r,(j,v)::q,cs,cs',vs,V,N,h,e=>by
  obtain⟨rfl,hx,hr⟩:=V;simp only[zcR,j7]at N;have J:=zjy hx N.1;simp only[zf1]at e;cases U:place i with
  |none=>simp[U]at e
  |some os=>
   obtain⟨off,size⟩:=os;simp only[U]at e;cases T:(x.cl.length.beq size&&(off+size).ble cs.length)with
   |false=>simp[T]at e
   |true=>
    simp only[T,cond_true]at e;simp only[j7]at T;have e1:x.cl.length=size:=by simpa using T.1
    have e2:off+size<=cs.length:=by simpa using T.2
    have H:v.cells.size=size:=by rw[←e1,←J.1];simp
    have E:vs.size=cs.length:=by simpa using h.1
    have hf:=zpO off v.cells vs (by omega);have Z:=h.setAt J off (by omega);rw[show v.cells.toList.length=v.cells.size by simp,←hf]at Z;obtain⟨vs',g1,g2⟩:=zhg place r q (setAt cs off x.cl) cs' _ hr N.2 Z e;simp_all[Instr.fill]
 |[],_::_,_,_,_,V,_,_,_=>V.elim
 |_::_,[],_,_,_,V,_,_,_=>V.elim
def zb0(st:St):List (Nat×Operand)->Option (List (Nat×AV))
 |[]=>some []
 |(i,x)::r=>match ev st x,zb0 st r with
  |some y,some ys=>some ((i,y)::ys)
  |_,_=>none
def zdn{C:Ctx}{st:St}{g:Gh}{a:Act}{w:World}(hr:Rel C st g a w):∀{ps:List (Nat×Operand)}{ys:List (Nat×AV)},zb0 st ps=some ys->zlL g.I g.ρ ys (ps.map λ(i,x)=>(i,a.eval x))
 |[],ys,h=>by simp[zb0]at h;subst h;trivial
 |(i,x)::r,ys,h=>by
  simp only[zb0]at h;cases Z:ev st x with
  |none=>simp[Z]at h
  |some y=>
   cases V:zb0 st r with
   |none=>simp[Z,V]at h
   |some zs=>
    simp[Z,V]at h;subst h;exact⟨rfl,yu hr Z,zdn hr V⟩
def zY(P:Program)(t:TypeId):Option (List (Nat×Nat)):=
 match P.underlying t with
 |some (.struct fs)=>some (fs.toList.map λf=>(f.offset,P.cellsOf f.type))
 |_=>none
def zr(P:Program)(t:TypeId):Bool:=match P.underlying t with
 |some (.struct fs)=>fs.toList.all λf=>(P.info? f.type).isSome
 |_=>true
def zjz{P:Program}(w:World):∀(fs:List Field),(fs.all λf=>(P.info? f.type).isSome)=true→
 (fs.mapM λf=>do pure (f.offset,←sizeOf f.type):Sem (List (Nat×Nat))).run P w=.ok (fs.map λf=>(f.offset,P.cellsOf f.type)) w
 |[],_=>rfl
 |f::r,h=>by
  simp only[x8,j7]at h;obtain⟨i,hi⟩:=wS.1 h.1;have ih:=zjz w r h.2;simp only[xK,jM,sizeOf,typeInfo,run_program,jB,hi,jN,u5]at ih⊢;simp_all[Program.cellsOf]
section
variable{P:Program}{C:Ctx}{st:St}{ty:TypeId}
def ztC{t:TypeId}{parts:Array (Nat×Operand)}{pl:List (Nat×Nat)}{cs cs':List AV}{ps:List (Nat×AV)}(Z:zY P t=some pl)(V:zr P t=true)(U:y9 P t cs)
 (E:zb0 st parts.toList=some ps)(hk:zcR ps=true)(hf:zf1 (pl[·]?) cs ps=some cs'):Pur P C (.build t parts) ty st (.agg cs'):=λg a w dst pos af gd hr=>by
 obtain⟨z,T,hc⟩:=U;obtain⟨hl,hv⟩:=zhI (I:=g.I) (ρ:=g.ρ) hc;obtain⟨vs',h1,J⟩:=zhg (I:=g.I) (ρ:=g.ρ) (pl[·]?) ps _ cs cs' z.cells (zdn hr E) hk ⟨hl,hv⟩ hf;refine⟨.agg vs',?_,by simpa using RV.agg (I:=g.I) (ρ:=g.ρ) cs' vs'.toList J.1 J.2⟩;unfold zY at Z;unfold zr at V;split at Z<;>try(simp at Z;done)
 rename_i fs H;simp only[H]at V;injection Z with Z;subst Z;cases hi:P.info? t with
 |none=>simp[hi]at T
 |some i=>
  simp[hi]at T
  have hm:(fs.mapM λf=>do pure (f.offset,←sizeOf f.type):Sem (Array (Nat×Nat))).run P w=.ok (fs.toList.map λf=>(f.offset,P.cellsOf f.type)).toArray w:=by
   have:=zjz (P:=P) w fs.toList V;rw[←Array.toArray_toList (xs:=fs),List.mapM_toArray];simp_all
  have e:(parts.map λ(i,x)=>(i,a.eval x)).toList=parts.toList.map λ(i,x)=>(i,a.eval x):=by simp
  have N:Instr.fill (λx=>(fs.toList.map λf=>(f.offset,P.cellsOf f.type)).toArray[x]?) z.cells (parts.toList.map λ(i,x)=>(i,a.eval x))=some vs':=by
   simp_all
  simp only[execOp,Instr.build,jM,zeroValue,typeInfo,run_program,jB,hi,jN,T,run_underlying H,hm,e,N]
end
end Go.Rse
namespace Go.Rse
open Go Go.RowKit
def cln(k:Nat)(x:AV):AV:=bif x.fr k then x else .any
def clT(k:Nat):List (Nat×AV)->List (Nat×AV)
 |[]=>[]
 |(t,x)::r=>(t,cln k x)::clT k r
def clB(k:Nat):Blk->Blk
 |.box cs E=>.box (cs.map (cln k)) E
 |.hold vs cs=>.hold vs (cs.map (cln k))
 |B=>B
def clH(k:Nat):List (Nat×Blk)->List (Nat×Blk)
 |[]=>[]
 |(n,B)::r=>(n,clB k B)::clH k r
def zrD(k t:Nat):∀l,lk (clT k l) t=(lk l t).map (cln k)
 |[]=>rfl
 |(t',x)::r=>by
  simp only[clT,yp];cases t'.beq t<;>simp[zrD k t r]
def zrE(k t:Nat):∀l,lk (clH k l) t=(lk l t).map (clB k)
 |[]=>rfl
 |(t',x)::r=>by
  simp only[clH,yp];cases t'.beq t<;>simp[zrE k t r]
def RV.cln{I:Im}{ρ ρ':Nat->Value}{x:AV}{v:Value}{k:Nat}(h:RV I ρ x v)(hρ:∀n,n≠k->ρ' n=ρ n):RV I ρ' (cln k x) v:=by
 unfold Rse.cln;cases hf:x.fr k with
 |true=>exact h.rename hf hρ
 |false=>exact .any v
def consT(d:Option Nat)(x:AV)(l:List (Nat×AV)):List (Nat×AV):=match d with|some d=>(d,x)::l|none=>l
def Rel.modifyR{C:Ctx}{st:St}{g g':Gh}{a:Act}{w w':World}{k:Nat}{bo:Option Nat}{B:Blk}{d:Option Nat}{x:AV}{v:Value}(h:Rel C st g a w)(hI:g'.I=g.I)(hρ:∀n,n≠k->g'.ρ n=g.ρ n)
 (hO:∀b,b<w.heap.size->g'.O b=g.O b)(H:∀b,bo=some b->g.O b=some (C.d,k)/\C.okb b)(hm:w.grownBy w' bo)(x2:w.drawn<=w'.drawn)(x1:ObO g'.I g'.O w')
 (hd:dOk C.n d=true)(hx:RV g'.I g'.ρ x v)(hB:yP C g' w' k B):
 Rel C {t:=consT d x (clT k st.t),h:=(k,B)::clH k st.h} g' (a.put d v) w':=by
 have v5:∀t y,lk (clT k st.t) t=some y->RV g'.I g'.ρ y (a.tmps.getD t undef):=λt y hy=>by
  rw[zrD]at hy;cases hz:lk st.t t with
  |none=>simp[hz]at hy
  |some z=>
   simp[hz]at hy;subst hy;rw[hI];exact(h.tmps t z hz).cln hρ
 have x4:Sat C ((k,B)::clH k st.h) g' w':=by
  have x0:∀b o u,g'.I b o=some u->w'.cell? ⟨b,o,none⟩=some u/\g'.O b=none:=λb o u hi=>by
   rw[hI]at hi;obtain⟨T,N⟩:=h.sat.im b o u hi;have Z:=zcQ T;refine⟨?_,(hO b Z).trans N⟩;have V:some b≠bo:=λe=>by simp_all
   rw[World.cell?_of_block (w:=w) (a:=⟨b,o,none⟩) (hm.block b Z V)];exact T
  refine⟨x0,x1,λk' B' xT=>?_⟩
  ·simp only[yp]at xT;cases w2:k.beq k'<;>simp[w2]at xT
   ·have U:k'≠k:=λe=>by subst e;simp at w2
    rw[zrE]at xT;cases hz:lk st.h k' with
    |none=>simp[hz]at xT
    |some B0=>
     simp[hz]at xT;subst xT;have h0:=h.sat.blk k' B0 hz;cases B0 with
     |box cs E=>
      obtain⟨b2,vs,T,N,h3,h4,h5,h6⟩:=h0
      have Z:b2<w.heap.size:=by
       rcases wD b2 w.heap.size with hl|hl
       ·exact hl
       ·simp[uY hl]at h4
      have V:some b2≠bo:=λe=>U (by have:=(H b2 e.symm).1;rw[N]at this;simpa using this)
      refine⟨b2,vs,(hρ k' U).trans T,(hO b2 Z).trans N,h3,(hm.block b2 Z V).trans h4,by simpa using h5,λj c v hc hv=>?_⟩;rw[jJ]at hc;cases J:cs[j]? with
      |none=>simp[J]at hc
      |some c0=>
       simp[J]at hc;subst hc;rw[hI];exact(h6 j c0 v J hv).cln hρ
     |row enc l E s=>
      obtain⟨xs,T,N,h3,h4⟩:=h0;refine⟨xs,?_,N,λi x j c v hx hc hv=>by rw[hI];exact h3 i x j c v hx hc hv,λb hb=>?_⟩
      ·rw[hρ k' U];refine T.kept hm ?_;cases ho:(g.ρ k').ownBlock with
       |none=>exact .inl rfl
       |some b2=>
        refine .inr λe=>?_
        have v4:yX (g.ρ k')=some b2:=by
         revert ho;cases g.ρ k'<;>simp[Value.ownBlock];rename_i A n c;cases A<;>simp[yX]
        have h5:=(h4 b2 v4).1;have h6:=(H b2 e.symm).1;rw[h5]at h6;exact U (by simpa using h6)
      ·rw[hρ k' U]at hb;exact⟨(hO b (zci T hb)).trans (h4 b hb).1,(h4 b hb).2⟩
     |hold vs cs=>
      refine⟨by simpa using h0.1,λj c v hc hv=>?_⟩;rw[jJ]at hc;cases J:cs[j]? with
      |none=>simp[J]at hc
      |some c0=>
       simp[J]at hc;subst hc;rw[hI];exact(h0.2 j c0 v J hv).cln hρ
     |obj b2 o=>
      obtain⟨T,N,h3⟩:=h0;have Z:=za T;have V:some b2≠bo:=λe=>U (by have:=(H b2 e.symm).1;rw[N]at this;simpa using this)
      exact⟨(hm.block b2 Z V).trans T,(hO b2 Z).trans N,h3⟩
     |yld j on=>
      refine zhd h0 (by rw[hI];exact Im.le_refl _) (λb Z _=>hO b Z) (λb e=>.inl ⟨k,(H b e).1⟩) hm x2 (λb n hn=>?_) ⟨x0,x1⟩;rcases wD b w.heap.size with hl|hl
      ·exact h0.2.2.2.1 b n ((hO b hl).symm.trans hn)
      ·have:=h.ext.size;have:=h0.2.2.1;omega
     |mpb kenc venc l=>
      obtain⟨b2,es,ck,T,N,h3,h4,h5,h6⟩:=h0;have Z:=za h4;have V:some b2≠bo:=λe=>U (by have:=(H b2 e.symm).1;rw[N]at this;simpa using this)
      exact⟨b2,es,ck,(hρ k' U).trans T,(hO b2 Z).trans N,h3,(hm.block b2 Z V).trans h4,h5,by rw[hI];exact h6⟩
     |dead=>trivial
   simp_all
 have x3:Ext C g' w':=⟨by rw[hI];exact h.ext.I,hm.os.trans h.ext.os,hm.tape.trans h.ext.tape,hm.output.trans h.ext.output,jR h.ext.drawn x2,jR h.ext.size hm.size,λb' v9 hn ho=>by
  have V:some b'≠bo:=λe=>hn (H b' e.symm).2
  obtain⟨T,N⟩:=h.ext.keep b' v9 hn ho;have Z:=jV v9 h.ext.size;exact⟨(hm.block b' Z V).trans T,(hO b' Z).trans N⟩,λb y n hb hy=>h.ext.own b y n hb ((hO b (jV hb h.ext.size)).symm.trans hy)⟩
 have v8:Dfs C g' a.defers w':=by
  obtain⟨D,T,hn,N⟩:=h.defers;refine⟨D,T,hn,λr hr=>?_⟩;obtain⟨h3,h4,h5⟩:=N r hr
  have Z:r<w.heap.size:=by
   grind
  exact⟨(hm.block r Z (λe=>by simp_all)).trans h3,(hO r Z).trans h4,h5⟩
 cases d with
 |none=>exact⟨h.size,v8,v5,x4,x3⟩
 |some d=>
  refine⟨by simp[Act.put,h.size],v8,λt y hy=>?_,x4,x3⟩;rw[zbb (by rw[h.size];simpa[dOk]using hd)]
  grind[consT,yp,beqF]
theorem zd0{α:Type}{enc:α->List AV}{s:Nat}:∀(l:List α),(∀(i:Nat)x,l[i]? =some x->(enc x).length=s)->∀(i:Nat)(x:α)(j:Nat),l[i]? =some x->j<s->(l.flatMap enc)[i*s+j]? =(enc x)[j]?
 |[],_,_,_,_,h,_=>by simp at h
 |y::r,hs,0,x,j,h,Z=>by
  grind
 |y::r,hs,i+1,x,j,h,Z=>by
  have V:=hs 0 y (by simp);simp only[wV];rw[wK (by grind),V];rw[show(i+1)*s+j-s=i*s+j by grind];exact zd0 r (λi x h=>hs (i+1) x (by simpa using h)) i x j (by simpa using h) Z
theorem zI{α:Type}{enc:α->List AV}{s:Nat}:∀(l:List α),(∀(i:Nat)x,l[i]? =some x->(enc x).length=s)->(l.flatMap enc).length=l.length*s
 |[],_=>by simp
 |y::r,hs=>by
  simp only[wV,jI,jY,uZ];rw[hs 0 y (by simp),zI r (λi x h=>hs (i+1) x (by simpa using h))];omega
theorem zby{I:Im}{α:Type}{enc:α->List AV}{l:List α}{s:Nat}{xs:List Value}(hs:∀(i:Nat)x,l[i]? =some x->(enc x).length=s)(h:RVL I noNames (l.flatMap enc) xs):
 ∀(i:Nat)x(j:Nat)c v,l[i]? =some x->(enc x)[j]? =some c->xs[i*s+j]? =some v->RV I noNames c v:=λi x j c v hx Z hv=>
 h.2 (i*s+j) c v (by grind[zd0]) hv
section
variable{P:Program}{C:Ctx}{st:St}{ty:TypeId}
def zD{α:Type}{enc:α->List AV}{l:List α}{t E:TypeId}{ag:Bool}{s n k:Nat}{parts:Array (Nat×Operand)}{ps:List (Nat×AV)}{z:Value}(ht:slOk P t E=true)(hE:tyOk P E ag s=true)(hz:(P.info? E).bind (·.zero)=some z)
 (x3:0<s)(hp:zb0 st parts.toList=some ps)(hk:zcR ps=true)(hf:zf1 (λi=>some (i*s,s)) (List.replicate (n*s) .any) ps=some (l.flatMap enc))(N:l.length=n)(hn:n*s<=16777216)(hm:n<=1000000)
 (hs:∀x,(enc x).length=s)(hnm:AV.nm.nmL (l.flatMap enc)=true):yA P C (.buildSlice t n parts) ty st (.own k) (some (k,.row enc l E s)):=
 zC λg a w dst pos af gd hr=>by
  have xT:n<=maxLen:=by simp only[maxLen];omega
  have main:∀zc:Array Value,∃vs',Instr.fill (λi=>some (i*s,s)) ((Array.range (n*s)).map (zc[· %zc.size]!)) (parts.map λ(i,x)=>(i,a.eval x)).toList=some vs'/\RVL g.I g.ρ (l.flatMap enc) vs'.toList:=λzc=>by
   have:=zhg (I:=g.I) (ρ:=g.ρ) (λi=>some (i*s,s)) ps (parts.toList.map λ(i,x)=>(i,a.eval x)) (List.replicate (n*s) .any) (l.flatMap enc) ((Array.range (n*s)).map (zc[· %zc.size]!)) (zdn hr hp) hk
    ⟨by simp,λj c v Z hv=>by
     rw[uB]at Z;split at Z
     ·injection Z with Z;subst Z;exact .any v
     ·simp at Z⟩ hf
   simpa using this
  have V:∀(i:Nat)x,l[i]? =some x->(enc x).length=s:=λi x _=>hs x
  have fin:∀vs':Array Value,RVL g.I g.ρ (l.flatMap enc) vs'.toList→
   Add (some k) g w (g.nw C.d w.heap.size k (.slice (some ⟨w.heap.size,0,none⟩) n n)) (w.alloc (.cells vs' E))/\RV (g.nw C.d w.heap.size k (.slice (some ⟨w.heap.size,0,none⟩) n n)).I (g.nw C.d w.heap.size k (.slice (some ⟨w.heap.size,0,none⟩) n n)).ρ (.own k) (.slice (some ⟨w.heap.size,0,none⟩) n n)∧
   ImOB (g.nw C.d w.heap.size k (.slice (some ⟨w.heap.size,0,none⟩) n n)) (w.alloc (.cells vs' E))/\yP C (g.nw C.d w.heap.size k (.slice (some ⟨w.heap.size,0,none⟩) n n)) (w.alloc (.cells vs' E)) k (.row enc l E s):=λvs' hv=>by
   refine⟨Add.nw (Grow.alloc _ _) C.d k _,.own k _ _ _ (by simp[Gh.nw]),ImOB.nw ⟨hr.sat.im,hr.sat.ob⟩ (Grow.alloc _ _) (by simp) C.d k _,?_⟩;have x4:vs'.toList.length=n*s:=by rw[hv.1,zI l V,N]
   refine⟨vs'.toList,?_,V,zby V ⟨hv.1,λj c v Z J=>(hv.2 j c v Z J).forget (zq hnm Z)⟩,λb T=>?_⟩
   ·grind[Gh.nw,World.ownsRow,World.alloc]
   ·simp only[Gh.nw,if_true,yX]at T;injection T with T;subst T;exact⟨by simp[Gh.nw],.inl hr.ext.size⟩
  cases hi:P.info? E with
  |none=>simp[hi]at hz
  |some i=>
   simp[hi]at hz;have x2:i.size=s:=by simp_all[tyOk]
   by_cases h0:n*s=0
   ·obtain⟨vs',h1,H⟩:=main #[];obtain⟨f1,f2,f3,f4⟩:=fin vs' H;refine⟨_,_,_,?_,f1,f2,f3,λk' B U=>by injection U with U;injection U with e1 e2;subst e1;subst e2;exact f4⟩;simp only[execOp,Instr.buildSlice,jM,run_underlying (yZ ht),jB,yY hE,h0,if_true,jN];simp_all[newRow]
   ·obtain⟨vs',h1,H⟩:=main z.cells;obtain⟨f1,f2,f3,f4⟩:=fin vs' H;refine⟨_,_,_,?_,f1,f2,f3,λk' B U=>by injection U with U;injection U with e1 e2;subst e1;subst e2;exact f4⟩;simp only[execOp,Instr.buildSlice,jM,run_underlying (yZ ht),jB,yY hE,h0,if_false,jN];simp_all[zeroValue,typeInfo,newRow]
end
end Go.Rse
namespace Go.Rse
open Go Go.RowKit
def zz(P:Program)(E:TypeId)(z:Value)(s bytes:Nat):Prop:=∃i,P.info? E=some i/\i.zero=some z/\i.size=s/\i.bytes=bytes/\z.cells.size=s
def zu{P:Program}{E:TypeId}{z:Value}{s bytes:Nat}(h:(P.info? E).map (λi=>(i.zero,i.size,i.bytes))=some (some z,s,bytes))(Z:z.cells.size=s):zz P E z s bytes:=by
 cases hi:P.info? E<;>grind[zz]
def znI{P:Program}(w:World){t ty E:TypeId}{z:Value}{s bytes:Nat}(ht:slOk P t E=true)(hi:zz P E z s bytes)(hs:0<s)(x2:bytes<=1024)
 {v:Value}{n:Nat}{xs:List Value}(Z:w.ownsRow 0 E s v n xs){A:Option Addr}{m c:Nat}{news:List Value}(hl:news.length=m*s)
 (T:m≠0->∃b o,A=some ⟨b,o,none⟩/\∀j u,news[j]? =some u->w.cell? ⟨b,o+j,none⟩=some u)(h1:∀u∈news,u.oneCell'=true)(hnm:n+m<=4294967296):
 ∃v' w',(Builtin.append_ #[t,t] ty #[v,.slice A m c]).run P w=.ok v' w'/\w'.ownsRow 0 E s v' (n+m) (xs++news)/\w.grownBy w' v.ownBlock/\(v'.ownBlock=v.ownBlock\/v'.ownBlock=some w.heap.size):=by
 obtain⟨i,V,N,J,H,xT⟩:=hi;have U:=yZ ht;have x4:n+m<=maxLen:=by simp only[maxLen];omega
 have x3:(n+m)*bytes<=140737488355328:=by
  have:(n+m)*bytes<=4294967296*1024:=vZ hnm x2;omega
 by_cases hm:m=0
 ·subst hm;have hn:news=[]:=jQ (by simpa using hl);subst hn;cases A with
  |none=>
   refine⟨v,w,?_,by simpa using Z,World.grownBy.refl w _,.inl rfl⟩;rcases Z.2 with⟨rfl,rfl⟩|⟨g,cap,cur,rfl,_,_,x1,_⟩
   ·simp[Builtin.append_,run_underlying U,sizeOf,typeInfo,V,Builtin.lenOf,Builtin.firstCells]
   ·simp[Builtin.append_,run_underlying U,sizeOf,typeInfo,V,Builtin.lenOf,Builtin.firstCells,x1,storeCells]
  |some ad=>
   obtain⟨v',w',h,h2,h3,_,h5⟩:=run_append_own_at (P:=P) w 0 t ty E i z s bytes U V N J H xT hs v n xs Z ad 0 c [] (by simp) (λj u U=>by simp at U) (by simp) x4 x3 (wH _)
   grind
 ·obtain⟨b,o,rfl,hc⟩:=T hm;obtain⟨v',w',h,h2,h3,_,h5⟩:=run_append_own_at (P:=P) w 0 t ty E i z s bytes U V N J H xT hs v n xs Z ⟨b,o,none⟩ m c news hl (λj u U=>by rw[zK];exact hc j u U) h1 x4 x3 (wH _)
  grind
theorem zd1{w:World}{E s:Nat}{v:Value}{n:Nat}{xs:List Value}(h:w.ownsRow 0 E s v n xs):yX v=v.ownBlock:=by
 rcases h.2 with⟨rfl,_⟩|⟨g,cap,cur,rfl,_⟩<;>rfl
def Gh.mv(g:Gh)(d k:Nat)(v:Value)(nb:Option Nat):Gh:={ρ:=λn=>if n=k then v else g.ρ n,I:=g.I,O:=λb'=>if nb=some b' then some (d,k)else g.O b'}
section
variable{P:Program}{C:Ctx}{st:St}{ty:TypeId}
theorem zdM{α:Type}{enc:α->List AV}{l l2:List α}{g:Gh}{a:Act}{w:World}(hr:Rel C st g a w){t E:TypeId}{z:Value}{s bytes k:Nat}{A:Option Addr}{c:Nat}{news:List Value}{dst:Option Tmp}{y:Operand}{pos:String}{af:Array Edge}{gd:Option (Nat×Bool)}{x:Operand}
 (hx:ev st x=some (.own k))(hk:lk st.h k=some (.row enc l E s))(ht:slOk P t E=true)(hi:zz P E z s bytes)(hs:0<s)(x1:bytes<=1024)(he:∀z,(enc z).length=s)
 (ey:a.eval y=.slice A l2.length c)(N:l2≠[]->∃b o,A=some ⟨b,o,none⟩/\∀j u,news[j]? =some u->w.cell? ⟨b,o+j,none⟩=some u)(Z:RVL g.I noNames (l2.flatMap enc) news)(x0:∀z,scL (enc z)=true)
 (J:l.length+l2.length<=4294967296)(hd:dOk C.n dst=true)(K:Act->World->Prop)
 (hK:∀a' w' g',Rel C {t:=consT dst (.own k) (clT k st.t),h:=(k,.row enc (l++l2) E s)::clH k st.h} g' a' w'->K a' w'):
 wp1 P {dst:=dst,op:=.call {callee:=.builtin .append,args:= #[x,y],argTypes:= #[t,t]},type:=ty,pos:=pos,after:=af,guard:=gd} a w K:=by
 obtain⟨xs,H,h1,h2,h3⟩:=hr.sat.blk k _ hk;have w2:∀(i:Nat)x,l2[i]? =some x->(enc x).length=s:=λi x _=>he x
 have v9:news.length=l2.length*s:=by rw[Z.1,zI l2 w2]
 have xT:∀u∈news,u.oneCell'=true:=λu hu=>by
  obtain⟨q,hq⟩:=jS.1 hu;have V:q<(l2.flatMap enc).length:=by rw[←Z.1];grind
  have hc:=jC V;have x4:(l2.flatMap enc)[q]∈l2.flatMap enc:=v6 V;obtain⟨p,hp,v8⟩:=xN.1 x4;obtain⟨q',v5⟩:=jS.1 v8;exact(zbZ (Z.2 q _ u hc hq) (zfz (x0 p) v5)).2
 obtain⟨v',w',T,U,hg,hb⟩:=znI (P:=P) w (t:=t) (ty:=ty) ht hi hs x1 H (A:=A) (m:=l2.length) (c:=c) v9 (λhm=>N (λe=>hm (by simp[e]))) xT J;have ek:=z7 (yu hr hx)
 have e0:(execOp a.eval {dst:=dst,op:=.call {callee:=.builtin .append,args:= #[x,y],argTypes:= #[t,t]},type:=ty,pos:=pos,after:=af,guard:=gd}).run P w=.ok (.value v') w':=by
  simp[execOp,resolve,invoke,builtin,←ek,ey,T]
 unfold wp1;rw[e0];refine hK _ w' (g.mv C.d k v' v'.ownBlock) ?_
 have hold:∀b,v'.ownBlock=some b->b<w.heap.size->g.O b=some (C.d,k)/\C.okb b:=λb v1 V=>by
  grind[zd1]
 refine hr.modifyR (g':=g.mv C.d k v' v'.ownBlock) (bo:=(g.ρ k).ownBlock) rfl (λn hn=>by simp[Gh.mv,hn]) (λb V=>?_) (λb v4=>h3 b (by rw[zd1 H];exact v4)) hg (zka _ _ T) ⟨λb k' hO=>?_,hr.sat.ob.2⟩ hd ?_ ?_
 ·simp_all[Gh.mv]
 ·simp only[Gh.mv]at hO;split at hO
  ·rename_i e;exact zci U (by rw[zd1 U];exact e)
  ·exact jV (hr.sat.ob.1 b k' hO) hg.size
 ·rcases U.2 with⟨e,_⟩|⟨b,cap,cur,e,_⟩<;>subst e<;>exact .own k _ _ _ (by simp[Gh.mv])
 ·have v3:∀(i:Nat)x,(l++l2)[i]? =some x->(enc x).length=s:=λi x _=>he x
  refine⟨xs++news,?_,v3,?_,λb x3=>?_⟩
  ·simp_all[Gh.mv]
  ·intro i p j cc v hp hc hv;have v0:j<s:=by grind
   by_cases x2:i<l.length
   ·rw[uI x2]at hp
    have V:i*s+j<l.length*s:=by
     have h2:(i+1)*s<=l.length*s:=jU s x2;have h3:(i+1)*s=i*s+s:=uZ i s;omega
    rw[uI (by rw[H.1];exact V)]at hv
    grind[Gh.mv]
   ·rw[wK (by omega)]at hp
    have e2:i*s+j=l.length*s+((i-l.length)*s+j):=by
     have:i=l.length+(i-l.length):=by omega
     rw[this,Nat.add_mul];simp;omega
    rw[e2,wK (by rw[H.1];omega),H.1,show l.length*s+((i-l.length)*s+j)-l.length*s=(i-l.length)*s+j by omega]at hv
    grind[zby,Gh.mv]
  ·have e1:(g.mv C.d k v' v'.ownBlock).ρ k=v':=by simp[Gh.mv]
   rw[e1,zd1 U]at x3;refine⟨by simp[Gh.mv,x3],?_⟩;by_cases V:b<w.heap.size
   ·simp_all
   ·exact .inl (jR hr.ext.size (by omega))
def zek{α:Type}{enc:α->List AV}{l l2:List α}{t E E2:TypeId}{z:Value}{s s2 bytes k k2:Nat}{dst:Option Tmp}{x y:Operand}
 (hx:ev st x=some (.own k))(hk:lk st.h k=some (.row enc l E s))(hy:ev st y=some (.own k2))(U:lk st.h k2=some (.row enc l2 E2 s2))(ht:slOk P t E=true)(hi:zz P E z s bytes)(hs:0<s)(T:bytes<=1024)(he:∀z,(enc z).length=s)(N:∀z,scL (enc z)=true)
 (Z:l.length+l2.length<=4294967296)(hd:dOk C.n dst=true):
 yC P C (.call {callee:=.builtin .append,args:= #[x,y],argTypes:= #[t,t]}) ty dst st {t:=consT dst (.own k) (clT k st.t),h:=(k,.row enc (l++l2) E s)::clH k st.h}:=λg a w pos af gd hr K hK=>by
 obtain⟨xs,J,h1,h2,h3⟩:=hr.sat.blk k2 _ U;have ek:=z7 (yu hr hy)
 have H:l2≠[]->s2=s:=λxT=>by
  cases l2 with
  |nil=>grind
  |cons p r=>exact(h1 0 p (by simp)).symm.trans (he p)
 have x4:xs.length=l2.length*s:=by
  cases l2 with
  |nil=>simpa using J.1
  |cons p r=>rw[J.1,H (by simp)]
 have V:∀(i:Nat)x,l2[i]? =some x->(enc x).length=s:=λi x _=>he x
 have x3:RVL g.I noNames (l2.flatMap enc) xs:=by
  refine⟨by rw[x4,zI l2 V],λj c v hc hv=>?_⟩;have hj:j<l2.length*s:=by rw[←zI l2 V];exact(j1.1 hc).1
  have hq:j/s<l2.length:=uU (by rw[wM];exact hj);have x1:j/s*s+j%s=j:=by rw[wM];exact vG j s
  have x0:j%s<s:=vY _ hs;have hp:=jC hq
  grind[zd0]
 rcases J.2 with⟨e,h0⟩|⟨b,cap,cur,e,_,hh,w2,v9,x2,v8⟩
 ·grind[zdM]
 ·rw[ek]at e;refine zdM hr hx hk ht hi hs T he (A:=some ⟨b,0,none⟩) (c:=cap) (news:=xs) e (λxT=>⟨b,0,rfl,λj u hu=>?_⟩) x3 N Z hd K hK
  grind[World.cell?]
def zv{α:Type}{enc:α->List AV}{l l2:List α}{t E:TypeId}{z:Value}{s bytes k:Nat}{dst:Option Tmp}{x y:Operand}
 (hx:ev st x=some (.own k))(hk:lk st.h k=some (.row enc l E s))(hy:ev st y=some (.sl enc l2))(ht:slOk P t E=true)(hi:zz P E z s bytes)(hs:0<s)(T:bytes<=1024)(he:∀z,(enc z).length=s)(N:∀z,scL (enc z)=true)
 (U:l.length+l2.length<=4294967296)(hd:dOk C.n dst=true):
 yC P C (.call {callee:=.builtin .append,args:= #[x,y],argTypes:= #[t,t]}) ty dst st {t:=consT dst (.own k) (clT k st.t),h:=(k,.row enc (l++l2) E s)::clH k st.h}:=λg a w pos af gd hr K hK=>by
 obtain⟨A,b,o,s',c,vs,e,hA,_,_,h1,h2,h3⟩:=zdl (yu hr hy)
 have J:l2≠[]->s'=s:=λV=>by
  cases l2 with
  |nil=>grind
  |cons p r=>exact(h1 0 p (by simp)).symm.trans (he p)
 have H:∀(i:Nat)x,l2[i]? =some x->(enc x).length=s:=λi x _=>he x
 let news:=(List.range (l2.length*s)).map λq=>vs (q/s) (q%s)
 have Z:∀j u,news[j]? =some u->j<l2.length*s/\u=vs (j/s) (j%s):=λj u hu=>by
  grind
 refine zdM hr hx hk ht hi hs T he (A:=A) (c:=c) (news:=news) e (λV=>⟨b,o,hA V,λj u hu=>?_⟩) ⟨by simp[news,zI l2 H],λj c v hc hv=>?_⟩ N U hd K hK
 ·obtain⟨hj,rfl⟩:=Z j u hu;have hq:j/s<l2.length:=uU (by rw[wM];exact hj);have xT:j/s*s+j%s=j:=by rw[wM];exact vG j s
  have e2:=J V;subst e2;have:=h2 (j/s') _ (j%s') (jC hq) (vY _ hs);have h4:=(hr.sat.im _ _ _ this).1
  grind
 ·obtain⟨hj,rfl⟩:=Z j v hv;have hq:j/s<l2.length:=uU (by rw[wM];exact hj);have xT:j/s*s+j%s=j:=by rw[wM];exact vG j s
  have x4:j%s<s:=vY _ hs;have hp:=jC hq
  grind[zd0]
end
end Go.Rse
namespace Go.Rse
open Go Go.RowKit
def Imp(C:Ctx)(st st':St):Prop:=∀g a w,Rel C st g a w->∃g',Rel C st' g' a w
def Imp.refl{C:Ctx}{st:St}:Imp C st st:=λg a w h=>⟨g,h⟩
def Imp.trans{C:Ctx}{st st' st'':St}(h:Imp C st st')(Z:Imp C st' st''):Imp C st st'':=λg a w hr=>let⟨g',V⟩:=h g a w hr;Z g' a w V
theorem X.imp{P:Program}{C:Ctx}{c:Code}{st st':St}{Q:Exit->St->Prop}(h:Imp C st st')(hx:X P C c st' Q):X P C c st Q:=λg a w hr=>let⟨g',Z⟩:=h g a w hr;hx g' a w Z
theorem Ex.imp{P:Program}{C:Ctx}{ops:Array Oper}{l:List Oper}{st st':St}{Q:Exit->St->Prop}(h:Imp C st st')(hx:Ex P C ops l st' Q):Ex P C ops l st Q:=λg a w hr=>let⟨g',Z⟩:=h g a w hr;hx g' a w Z
def LeV(x y:AV):Prop:=∀(I:Im)(ρ:Nat->Value)(v:Value),RV I ρ x v->RV I ρ y v
def LeV.refl(x:AV):LeV x x:=λ_ _ _ h=>h
def LeV.eq{x y:AV}(h:x=y):LeV x y:=h▸LeV.refl x
def LeV.any(x:AV):LeV x .any:=λ_ _ v _=>.any v
def LeV.nils{α:Type}(enc:α->List AV):LeV .nils (.sl enc []):=λI ρ v h=>by
 rw[zbU h];exact .sl enc [] none 0 0 0 0 (λ_ _=>.nilIface) (λh=>absurd rfl h) (jE _) (wH _) (λi x h=>by simp at h) (λi x j h=>by simp at h) (λi x j c h=>by simp at h)
def LeV.ifb{x y:AV}(h:LeV x y):LeV (.ifb true x) y:=λI ρ v hv=>h I ρ v (zo1 hv rfl)
inductive LeL:List AV->List AV->Prop
 |nil:LeL [] []
 |cons{x y:AV}{xs ys:List AV}(h:LeV x y)(hs:LeL xs ys):LeL (x::xs) (y::ys)
def LeL.refl:∀xs,LeL xs xs
 |[]=>.nil
 |x::r=>.cons (LeV.refl x) (LeL.refl r)
def LeL.rvl{I:Im}{ρ:Nat->Value}{xs ys:List AV}(h:LeL xs ys):∀{vs:List Value},RVL I ρ xs vs->RVL I ρ ys vs:=by
 induction h with
 |nil=>simp
 |cons hx hs ih=>
  intro vs h;cases vs with
  |nil=>have:=h.1;simp at this
  |cons v r=>
   have ih':=ih (vs:=r) ⟨by simpa using h.1,λj c u Z V=>h.2 (j+1) c u (by simpa using Z) (by simpa using V)⟩;refine⟨by simpa using ih'.1,λj c u Z V=>?_⟩;cases j with
   |zero=>simp at Z V;subst Z;subst V;exact hx I ρ v (h.2 0 _ v (by simp) (by simp))
   |succ j=>exact ih'.2 j c u (by simpa using Z) (by simpa using V)
def LeB(B B':Blk):Prop:=∀(C:Ctx)(g:Gh)(w:World)(k:Nat),yP C g w k B->yP C g w k B'
def LeB.refl(B:Blk):LeB B B:=λ_ _ _ _ h=>h
def LeB.eq{B B':Blk}(h:B=B'):LeB B B':=h▸LeB.refl B
def LeB.row{α:Type}{enc:α->List AV}{l l':List α}{E:TypeId}{s:Nat}(h:l=l'):LeB (.row enc l E s) (.row enc l' E s):=h▸LeB.refl _
def LeB.box{cs cs':List AV}{E:TypeId}(h:LeL cs cs'):LeB (.box cs E) (.box cs' E):=λC g w k V=>by
 obtain⟨b,vs,U,T,N,J,H,h6⟩:=V;have:=h.rvl (I:=g.I) (ρ:=g.ρ) (vs:=vs.toList) ⟨by simpa using H,λj c v Z hv=>h6 j c v Z (by simpa using hv)⟩;exact⟨b,vs,U,T,N,J,by simpa using this.1,λj c v Z hv=>this.2 j c v Z (by simpa using hv)⟩
def impT(st:St):List (Nat×AV)->Prop
 |[]=>True
 |(t,x)::r=>(∃y,lk st.t t=some y/\LeV y x)/\impT st r
def impH(st:St):List (Nat×Blk)->Prop
 |[]=>True
 |(k,B)::r=>(∃B',lk st.h k=some B'/\LeB B' B)/\impH st r
def zo3{st:St}:∀{l:List (Nat×AV)},impT st l->∀{t:Nat}{x:AV},lk l t=some x->∃y,lk st.t t=some y/\LeV y x
 |[],_,_,_,h=>by simp[lk]at h
 |(t',x')::r,h,t,x,e=>by
  simp only[yp]at e;cases Z:t'.beq t<;>simp[Z]at e
  ·exact zo3 h.2 e
  ·have:t'=t:=by simpa using Z
   subst this;subst e;exact h.1
def zo4{st:St}:∀{l:List (Nat×Blk)},impH st l->∀{t:Nat}{x:Blk},lk l t=some x->∃y,lk st.h t=some y/\LeB y x
 |[],_,_,_,h=>by simp[lk]at h
 |(t',x')::r,h,t,x,e=>by
  simp only[yp]at e;cases Z:t'.beq t<;>simp[Z]at e
  ·exact zo4 h.2 e
  ·have:t'=t:=by simpa using Z
   subst this;subst e;exact h.1
def Imp.of{C:Ctx}{st:St}{ts:List (Nat×AV)}{hs:List (Nat×Blk)}(U:impT st ts)(T:impH st hs):Imp C st ⟨ts,hs⟩:=λg a w hr=>
 ⟨g,hr.size,hr.defers,λt x hx=>let⟨y,N,Z⟩:=zo3 U hx;Z _ _ _ (hr.tmps t y N),⟨hr.sat.im,hr.sat.ob,λk B J=>let⟨B',V,Z⟩:=zo4 T J;Z C g w k (hr.sat.blk k B' V)⟩,hr.ext⟩
def yE{C:Ctx}{st:St}{α:Type}(enc:α->List AV)(E s t k:Nat)(ht:lk st.t t=some .nils)(hf:st.fr k=true):Imp C st {t:=(t,.own k)::st.t,h:=(k,.row enc [] E s)::st.h}:=λg a w hr=>by
 have hv:=zbU (hr.tmps t _ ht)
 have U:Add (some k) g w {ρ:=λn=>if n=k then .slice none 0 0 else g.ρ n,I:=g.I,O:=g.O} w:=⟨Im.le_refl _,λn T=>by
  grind,λ_ _=>rfl,Grow.refl w⟩
 have Z:=hr.add (d:=none) (x:=.any) (v:=.nilIface) U (λn T=>by simp_all) (λt h=>by simp at h) (.any _) hr.sat.im hr.sat.ob;refine⟨_,Z.size,Z.defers,λt' x hx=>?_,(Z.withBlk (k:=k) (B:=.row enc [] E s) ⟨[],⟨by simp,.inl ⟨by simp,rfl⟩⟩,λi x h=>by simp at h,λi x j c v h=>by simp at h,λb V=>by simp[yX]at V⟩).sat,Z.ext⟩;simp only[yp]at hx;cases V:t.beq t'<;>simp[V]at hx
 ·exact Z.tmps t' x hx
 ·have:t=t':=by simpa using V
  subst this;subst hx;show RV _ _ _ (a.tmps.getD t undef);rw[hv];exact .own k none 0 0 (by simp)
def frz{α:Type}(k:Nat)(enc:α->List AV)(l:List α):AV->AV
 |.own k'=>bif k'.beq k then .sl enc l else .own k'
 |x=>cln k x
def mapT(f:AV->AV):List (Nat×AV)->List (Nat×AV)
 |[]=>[]
 |(t,x)::r=>(t,f x)::mapT f r
def mapB(f:AV->AV):Blk->Blk
 |.box cs E=>.box (cs.map f) E
 |.hold vs cs=>.hold vs (cs.map f)
 |B=>B
def mapH(f:AV->AV):List (Nat×Blk)->List (Nat×Blk)
 |[]=>[]
 |(n,B)::r=>(n,mapB f B)::mapH f r
def ziA(f:AV->AV)(t:Nat):∀l,lk (mapT f l) t=(lk l t).map f
 |[]=>rfl
 |(t',x)::r=>by
  simp only[mapT,yp];cases t'.beq t<;>simp[ziA f t r]
def ziB(f:AV->AV)(t:Nat):∀l,lk (mapH f l) t=(lk l t).map (mapB f)
 |[]=>rfl
 |(t',x)::r=>by
  simp only[mapH,yp];cases t'.beq t<;>simp[ziB f t r]
def Rel.letgo{C:Ctx}{st:St}{g:Gh}{a:Act}{w:World}(h:Rel C st g a w){k:Nat}{b:Nat}{J:Nat->Option Value}(f:AV->AV)(hb:g.O b=some (C.d,k)/\C.okb b)(hJ:∀o v,J o=some v->w.cell? ⟨b,o,none⟩=some v)
 (hf:∀x v,RV g.I g.ρ x v->RV (λb' o=>if b'=b then J o else g.I b' o) g.ρ (f x) v):
 Rel C {t:=mapT f st.t,h:=(k,.dead)::mapH f st.h} {ρ:=g.ρ,I:=λb' o=>if b'=b then J o else g.I b' o,O:=λb'=>if b'=b then none else g.O b'} a w:=by
 have Z:Im.le g.I (λb' o=>if b'=b then J o else g.I b' o):=λb' o v hI=>by
  have:b'≠b:=λe=>by have:=(h.sat.im b' o v hI).2;simp_all
  simp[this,hI]
 have x3:Dfs C {ρ:=g.ρ,I:=λb' o=>if b'=b then J o else g.I b' o,O:=λb'=>if b'=b then none else g.O b'} a.defers w:=by
  obtain⟨D,h1,V,h2⟩:=h.defers
  grind[Dfs]
 have U:ImOB {ρ:=g.ρ,I:=λb' o=>if b'=b then J o else g.I b' o,O:=λb'=>if b'=b then none else g.O b'} w:=by
  refine⟨λb' o u hI=>?_,λb' k' hO=>?_,Im.le_trans h.sat.ob.2 Z⟩
  ·by_cases e:b'=b
   ·simp_all
   ·simp[e]at hI;simp only[e,if_false];exact h.sat.im b' o u hI
  ·simp only at hO;split at hO
   ·simp at hO
   ·exact h.sat.ob.1 b' k' hO
 refine⟨h.size,x3,λt x hx=>?_,⟨U.1,U.2,λk' B T=>?_⟩,?_⟩
 ·rw[ziA]at hx;cases N:lk st.t t with
  |none=>simp[N]at hx
  |some z=>simp[N]at hx;subst hx;exact hf z _ (h.tmps t z N)
 ·simp only[yp]at T;cases xT:k.beq k'<;>simp[xT]at T
  ·have x2:k'≠k:=λe=>by subst e;simp at xT
   rw[ziB]at T;cases N:lk st.h k' with
   |none=>simp[N]at T
   |some B0=>
    simp[N]at T;subst T;have h0:=h.sat.blk k' B0 N;cases B0 with
    |box cs E=>
     grind[yP,mapB]
    |row enc l E s=>
     obtain⟨xs,h1,h2,h3,h4⟩:=h0;refine⟨xs,h1,h2,λi x j c v hx hc hv=>(h3 i x j c v hx hc hv).mono Z,λb2 w2=>?_⟩
     grind
    |hold vs cs=>
     refine⟨by simpa using h0.1,λj c v hc hv=>?_⟩;rw[jJ]at hc;cases H:cs[j]? with
     |none=>simp[H]at hc
     |some c0=>simp[H]at hc;subst hc;exact hf c0 v (h0.2 j c0 v H hv)
    |obj b2 o=>
     grind[yP,mapB]
    |yld j on=>
     refine zhd (bo:=some b) h0 Z (λb' _ x4=>?_) (λb' e=>by simp_all) ⟨rfl,rfl,rfl,jE _,λ_ _ _=>rfl⟩ (jE _) (λb' n V=>?_) U
     ·grind
     ·simp only at V;split at V
      ·simp at V
      ·exact h0.2.2.2.1 b' n V
    |mpb kenc venc l=>
     obtain⟨b2,es,ck,h1,h2,h3,h4,h5,h6⟩:=h0;have x4:b2≠b:=λe=>x2 (by simp_all)
     exact⟨b2,es,ck,h1,by grind,h3,h4,h5,λi e p he hp=>⟨(h6 i e p he hp).1.mono Z,(h6 i e p he hp).2.mono Z⟩⟩
    |dead=>trivial
  ·subst T;trivial
 ·exact⟨Im.le_trans h.ext.I Z,h.ext.os,h.ext.tape,h.ext.output,h.ext.drawn,h.ext.size,λb' x1 V ho=>by
   have x4:b'≠b:=λe=>V (e▸hb.2)
   obtain⟨h1,h2⟩:=h.ext.keep b' x1 V ho
   simp_all,λb' y n x0 hy=>by
    simp only at hy;split at hy
    ·simp at hy
    ·exact h.ext.own b' y n x0 hy⟩
def Imp.freeze{C:Ctx}{st:St}{α:Type}{enc:α->List AV}{l:List α}{E s k:Nat}(hk:lk st.h k=some (.row enc l E s)):Imp C st {t:=mapT (frz k enc l) st.t,h:=(k,.dead)::mapH (frz k enc l) st.h}:=λg a w hr=>by
 obtain⟨xs,hw,h1,h2,h3⟩:=hr.sat.blk k _ hk;rcases hw.2 with⟨e,h0⟩|⟨b,cap,cur,e,_,hh,x1,x0,v5,v4⟩
 ·have w2:l=[]:=jQ h0;subst w2
  have x3:∀x v,RV g.I g.ρ x v->RV g.I g.ρ (frz k enc [] x) v:=λx v hx=>by
   have Z:RV g.I g.ρ (cln k x) v:=hx.cln (λ_ _=>rfl);cases x<;>try exact Z
   case own k'=>
    simp only[frz];cases hb:k'.beq k with
    |false=>exact hx
    |true=>
     have:k'=k:=by simpa using hb
     subst this;have:=z7 hx;rw[e]at this;subst this;exact .sl enc [] none 0 0 0 0 (λ_ _=>.nilIface) (λh=>absurd rfl h) (jE _) (wH _) (λi x h=>by simp at h) (λi x j h=>by simp at h) (λi x j c h=>by simp at h)
  refine⟨g,hr.size,hr.defers,λt x hx=>?_,⟨hr.sat.im,hr.sat.ob,λk' B V=>?_⟩,hr.ext⟩
  ·rw[ziA]at hx;cases U:lk st.t t with
   |none=>simp[U]at hx
   |some z=>simp[U]at hx;subst hx;exact x3 z _ (hr.tmps t z U)
  ·simp only[yp]at V;cases v9:k.beq k'<;>simp[v9]at V
   ·rw[ziB]at V;cases U:lk st.h k' with
    |none=>simp[U]at V
    |some B0=>
     simp[U]at V;subst V;have h0:=hr.sat.blk k' B0 U;cases B0 with
     |box cs E=>
      grind[yP,mapB]
     |hold vs cs=>
      refine⟨by simpa using h0.1,λj c v hc hv=>?_⟩;rw[jJ]at hc;cases T:cs[j]? with
      |none=>simp[T]at hc
      |some c0=>simp[T]at hc;subst hc;exact x3 c0 v (h0.2 j c0 v T hv)
     |row _ _ _ _=>exact h0
     |obj _ _=>exact h0
     |yld _ _=>exact h0
     |mpb _ _ _=>exact h0
     |dead=>trivial
   ·subst V;trivial
 ·have ho:=h3 b (by rw[e];rfl);let J:Nat->Option Value:=λo=>if o<l.length*s then w.cell? ⟨b,o,none⟩else none
  have N:∀o,o<l.length*s->w.cell? ⟨b,o,none⟩=xs[o]? :=λo ho=>by
   grind[World.cell?]
  refine⟨_,hr.letgo (b:=b) (J:=J) (frz k enc l) ho (λo v hv=>by grind) λx v hx=>?_⟩
  have H:Im.le g.I (λb' o=>if b'=b then J o else g.I b' o):=λb' o v hI=>by
   have:b'≠b:=λe=>by have:=(hr.sat.im b' o v hI).2;simp_all
   simp[this,hI]
  have Z:RV (λb' o=>if b'=b then J o else g.I b' o) g.ρ (cln k x) v:=(hx.mono H).cln (λ_ _=>rfl);cases x<;>try exact Z
  case own k'=>
   simp only[frz];cases hb:k'.beq k with
   |false=>exact hx.mono H
   |true=>
    have:k'=k:=by simpa using hb
    subst this;have:=z7 hx;rw[e]at this;subst this
    have x2:∀(i:Nat)(x:α)(j:Nat),l[i]? =some x->j<s->i*s+j<l.length*s:=λi x j hx hj=>by
     have v8:i<l.length:=(j1.1 hx).1;have h2:(i+1)*s<=l.length*s:=jU s v8
     grind
    refine .sl enc l _ b 0 s cap (λi j=>xs.getD (i*s+j) .nilIface) (λ_=>rfl) x1 x0 h1 (λi x j hx hj=>?_) (λi x j c hx hc=>?_)
    ·have xT:=x2 i x j hx hj;simp only[if_true,vP,J];rw[j4 xT,N _ xT];have x4:i*s+j<xs.length:=by rw[hw.1];exact xT
     simp_all
    ·have v3:j<s:=by grind
     have x4:i*s+j<xs.length:=by rw[hw.1];simp_all
     have:=h2 i x j c _ hx hc (jC x4);simp only[List.getD,jC x4,uQ];exact this.mono H
def frzB(k:Nat)(cs:List AV):AV->AV
 |.ptr k' s i j=>bif k'.beq k then .ept (λ_:Unit=>cs) () (i*s+j)else .ptr k' s i j
 |.fn f caps=>.fn f (caps.map λc=>match c with|.ptr k' s i j=>(bif k'.beq k then .ept (λ_:Unit=>cs) () (i*s+j)else .ptr k' s i j)|c=>cln k c)
 |x=>cln k x
def yR{C:Ctx}{st:St}{cs:List AV}{E k:Nat}(H:lk st.h k=some (.box cs E))(hn:AV.nm.nmL cs=true):Imp C st {t:=mapT (frzB k cs) st.t,h:=(k,.dead)::mapH (frzB k cs) st.h}:=λg a w hr=>by
 obtain⟨b,vs,h1,h2,h3,h4,h5,h6⟩:=hr.sat.blk k _ H;let J:Nat->Option Value:=λo=>vs[o]?
 refine⟨_,hr.letgo (b:=b) (J:=J) (frzB k cs) ⟨h2,h3⟩ (λo v hv=>by grind[World.cell?]) λx v hx=>?_⟩
 have V:Im.le g.I (λb' o=>if b'=b then J o else g.I b' o):=λb' o v hI=>by
  have:b'≠b:=λe=>by have:=(hr.sat.im b' o v hI).2;simp_all
  simp[this,hI]
 have U:∀{k' s i j:Nat}{v:Value},RV g.I g.ρ (.ptr k' s i j) v->RV (λb' o=>if b'=b then J o else g.I b' o) g.ρ (bif k'.beq k then .ept (λ_:Unit=>cs) () (i*s+j)else .ptr k' s i j) v:=λ{k' s i j v}hx=>by
  cases hb:k'.beq k with
  |false=>exact hx.mono V
  |true=>
   have:k'=k:=by simpa using hb
   subst this;obtain⟨b',xT,e⟩:=zaf hx;have:b'=b:=by simp_all[yX]
   subst this;subst e
   have h0:=RV.ept (I:=λb'' o=>if b''=b' then J o else g.I b'' o) (ρ:=g.ρ) (λ_:Unit=>cs) () (i*s+j) b' 0 (λj=>vs.getD j .nilIface) (λj hj=>by
    have Z:j<vs.size:=by rw[h5];exact hj
    simp[J,Z]) (λj c T=>by
    have Z:j<vs.size:=by grind
    have:=h6 j c _ T (jW Z);simpa[Z]using(this.mono V).forget (zq hn T))
   simpa using h0
 have N:∀{x:AV}{v:Value},RV g.I g.ρ x v->RV (λb' o=>if b'=b then J o else g.I b' o) g.ρ (cln k x) v:=λhx=>(hx.mono V).cln (λ_ _=>rfl)
 cases x<;>try exact N hx
 case ptr k' s i j=>exact U hx
 case fn f caps=>
  obtain⟨us,e,hl,hu⟩:=zdk hx;subst e;refine .fn f _ us (by simpa using hl) λj c u T x4=>?_
  grind
end Go.Rse
namespace Go.Rse
open Go Go.RowKit
def zd2(next:St->Prop)(Q:Exit->St->Prop):Exit->St->Prop
 |.normal,st=>next st
 |e,st=>Q e st
def inB(id:Nat)(Q:Exit->St->Prop):Exit->St->Prop
 |.exit id',st=>if id'=id then Q .normal st else Q (.exit id') st
 |e,st=>Q e st
section
variable{P:Program}{C:Ctx}{st:St}{Q:Exit->St->Prop}
def yl(h:Q .normal st):X P C .skip st Q:=λg a w hr=>wpIn_skip ⟨st,g,hr,h⟩
def X.exit{id:Nat}(h:Q (.exit id) st):X P C (.exit id) st Q:=λg a w hr=>wpIn_exit ⟨st,g,hr,h⟩
def X.ret(h:Q .ret st):X P C .ret st Q:=λg a w hr=>wpIn_ret ⟨st,g,hr,h⟩
def X.label{l:Nat}(h:Q .normal st):X P C (.label l) st Q:=λg a w hr=>wpIn_label ⟨st,g,hr,h⟩
def yf{x y:Code}(h:X P C x st (zd2 (λst=>X P C y st Q) Q)):X P C (.seq x y) st Q:=λg a w hr=>
 wpIn_seq (wpIn_mono (h g a w hr) λe a w⟨st,g,hr,q⟩=>by
  cases e<;>first
   |exact q g a w hr
   |exact⟨st,g,hr,q⟩)
def X.cond{c:Operand}{x y:Code}{b:Bool}(Z:ev st c=some (.bool b))(ht:b=true->X P C x st Q)(hf:b=false->X P C y st Q):X P C (.cond c x y) st Q:=λg a w hr=>
 wpIn_cond_split (zn (yu hr Z)) (λh=>ht h g a w hr) (λh=>hf h g a w hr)
def X.block{id:Nat}{c:Code}(h:X P C c st (inB id Q)):X P C (.block id c) st Q:=λg a w hr=>
 wpIn_block (wpIn_mono (h g a w hr) λe a w⟨st,g,hr,q⟩=>by
  cases e
  case exit id'=>
   grind[inB,Exit.inBlock,lift]
  all_goals exact⟨st,g,hr,q⟩)
def yj{id:Nat}{l:List Oper}(h:Ex P C l.toArray l st Q):X P C (.region id l.toArray false) st Q:=λg a w hr=>wpIn_region_lit (h g a w hr)
def ye{id:Nat}{l:List Oper}{y:Code}(h:Ex P C l.toArray l st (zd2 (λst=>X P C y st Q) Q)):X P C (.seq (.region id l.toArray false) y) st Q:=yf (yj h)
def yG{id:Nat}{ops:Array Oper}{l:List Oper}{y:Code}(h:Ex P C l.toArray l st (zd2 (λst=>X P C y st Q) Q)):Ex P C ops [] st (zd2 (λst=>X P C (.seq (.region id l.toArray false) y) st Q) Q):=Ex.nil (yf (yj h))
def X.loop{ι:Type}{c:Code}(I:ι->St)(J:ι->Prop)(μ:ι->Nat)(i0:ι)(h0:Imp C st (I i0))(hJ:J i0)
 (h:∀i,J i->X P C c (I i) (zd2 (λst'=>∃i',Imp C st' (I i')/\J i'/\μ i'<μ i) Q)):X P C (.loop c) st Q:=λg a w hr=>by
 obtain⟨g0,Z⟩:=h0 g a w hr;refine wpIn_loop_ghost (λn a w=>∃i g,Rel C (I i) g a w/\J i/\μ i=n) (μ i0) ⟨i0,g0,Z,hJ,rfl⟩ ?_
 rintro n a w⟨i,g,hr,V,rfl⟩
 refine wpIn_mono (h i V g a w hr) λe a w⟨st,g,hr,q⟩=>?_
 cases e<;>first
  |(obtain⟨i',hi,U,T⟩:=q
    obtain⟨g',N⟩:=hi g a w hr
    grind[Exit.then])
  |exact⟨st,g,hr,q⟩
end
def zam(P:Program)(f:FuncId):Bool:=
 match P.funcs[f]? with
 |some fn=>!(fn.name== "runtime.NumGoroutine")&&fn.body.isSome
 |none=>false
def zT{P:Program}{f:FuncId}(h:zam P f=true)(args:Array Value)(w:World):(callFunc f args).run P w=.ok (.enter f args) w:=by
 unfold zam at h;split at h
 ·rename_i fn hf;simp only[j7,wG]at h
  have Z:fn.body.isNone=false:=by
   simp_all
  simp only[callFunc,jM,run_program,jB,hf,h.1,Z];rfl
 ·simp at h
def Fn(P:Program)(f:FuncId)(as:List AV)(r:AV):Prop:=
 zam P f=true/\r.nm=true/\∀(g:Gh)(w:World)(args:List Value),ImOB g w->RVL g.I noNames as args→
  Calls P f args.toArray w λe w'=>∃v g',e=.returned v/\RV g'.I noNames r v/\Add none g w g' w'/\ImOB g' w'
def evs(st:St):List Operand->Option (List AV)
 |[]=>some []
 |x::r=>match ev st x,evs st r with
  |some y,some ys=>some (y::ys)
  |_,_=>none
def ze5{C:Ctx}{st:St}{g:Gh}{a:Act}{w:World}(hr:Rel C st g a w):∀{xs:List Operand}{ys:List AV},evs st xs=some ys->RVL g.I g.ρ ys (xs.map a.eval)
 |[],ys,h=>by grind[evs,RVL]
 |x::r,ys,h=>by
  simp only[evs]at h;cases Z:ev st x with
  |none=>simp[Z]at h
  |some y=>
   cases V:evs st r with
   |none=>simp[Z,V]at h
   |some zs=>
    simp[Z,V]at h;subst h;obtain⟨hl,hv⟩:=ze5 hr V
    grind[yu,RVL]
def RVL.forget{I:Im}{ρ ρ':Nat->Value}{xs:List AV}{vs:List Value}(h:RVL I ρ xs vs)(V:AV.nm.nmL xs=true):RVL I ρ' xs vs:=⟨h.1,λj c v Z hv=>(h.2 j c v Z hv).forget (zq V Z)⟩
def RVL.append{I:Im}{ρ:Nat->Value}{xs ys:List AV}{vs us:List Value}(h:RVL I ρ xs vs)(Z:RVL I ρ ys us):RVL I ρ (xs++ys) (vs++us):=by
 grind[RVL]
section
variable{P:Program}{C:Ctx}{st:St}{ty:TypeId}
def zau{fop:Operand}{args:Array Operand}{ts:Array TypeId}{f:FuncId}{caps xs as:List AV}{r:AV}(hf:ev st fop=some (.fn f caps))(hx:evs st args.toList=some xs)(J:AV.nm.nmL (xs++caps)=true)(U:LeL (xs++caps) as)
 (h:Fn P f as r):yA P C (.call {callee:=.value fop,args:=args,argTypes:=ts}) ty st r none:=λg a w dst pos af gd hr K H=>by
 obtain⟨us,e,hl,E⟩:=zdk (yu hr hf);have Z:=ze5 hr hx;have V:RVL g.I noNames as (args.toList.map a.eval++us):=U.rvl ((Z.append ⟨hl,E⟩).forget J);have h0:=h.2.2 g w _ ⟨hr.sat.im,hr.sat.ob⟩ V;have e1:(args.toList.map a.eval++us).toArray=args.map a.eval++us.toArray:=by simp_all
 rw[e1]at h0
 have e2:(execOp a.eval {dst:=dst,op:=.call {callee:=.value fop,args:=args,argTypes:=ts},type:=ty,pos:=pos,after:=af,guard:=gd}).run P w=.ok (.enter f (args.map a.eval++us.toArray)) w:=by
  simp only[execOp,resolve,e,Deferred.ofValue,jM,jN,jB,invoke,zT h.1];simp
 unfold wp1;rw[e2];refine Calls.mono h0 ?_
 rintro e w'⟨v,g',rfl,h1,T,h3⟩
 refine⟨v,rfl,?_⟩;have N:Add none g w {ρ:=g.ρ,I:=g'.I,O:=g'.O} w':=⟨T.I,λ_ _=>rfl,T.O,T.grow⟩;exact H v w' {ρ:=g.ρ,I:=g'.I,O:=g'.O} N (h1.forget h.2.1) h3 (λ_ _ h=>by cases h)
def Ex.call{ops:Array Oper}{Q:Exit->St->Prop}{rest:List Oper}{d:Nat}{pos:String}{af:Array Edge}{fop:Operand}{args:Array Operand}{ts:Array TypeId}{f:FuncId}{caps xs:List AV}{r:AV}
 (hf:ev st fop=some (.fn f caps))(hx:evs st args.toList=some xs)(Z:AV.nm.nmL (xs++caps)=true)(h:Fn P f (xs++caps) r)(V:d.blt C.n=true)(hr:Ex P C ops rest {t:=(d,r)::st.t,h:=st.h} Q):
 Ex P C ops ({dst:=some d,op:=.call {callee:=.value fop,args:=args,argTypes:=ts},type:=ty,pos:=pos,after:=af,guard:=none}::rest) st Q:=
 Ex.stepA (zau hf hx Z (LeL.refl _) h) V rfl hr
end
def zbz:Nat->List AV->List (Nat×AV)
 |_,[]=>[]
 |i,x::r=>(i,x)::zbz (i+1) r
inductive RetV(P:Program)(st:St):ResultVar->AV->Prop
 |tmp{t:Nat}{x y:AV}(h:lk st.t t=some x)(hle:LeV x y):RetV P st (.tmp t) y
 |cellS{t T k s i j:Nat}{cs:List AV}{E:TypeId}{x y:AV}(h:lk st.t t=some (.ptr k s i j))(hk:lk st.h k=some (.box cs E))(hx:cs[i*s+j]? =some x)(ht:tyOk P T false 1=true)(hle:LeV x y):RetV P st (.cell t T) y
 |cellA{t T k s i n:Nat}{cs:List AV}{E:TypeId}{y:AV}(h:lk st.t t=some (.ptr k s i 0))(hk:lk st.h k=some (.box cs E))(hi:i*s=0)(hn:cs.length=n)(ht:tyOk P T true n=true)(hle:LeV (.agg cs) y):RetV P st (.cell t T) y
inductive RetL(P:Program)(st:St):List ResultVar->List AV->Prop
 |nil:RetL P st [] []
 |cons{v:ResultVar}{y:AV}{vs:List ResultVar}{ys:List AV}(h:RetV P st v y)(hs:RetL P st vs ys):RetL P st (v::vs) (y::ys)
inductive RetVs(P:Program)(st:St):List ResultVar->AV->Prop
 |one{v:ResultVar}{y:AV}(h:RetV P st v y):RetVs P st [v] y
 |many{vs:List ResultVar}{ys:List AV}(hl:vs.length≠1)(h:RetL P st vs ys):RetVs P st vs (.tup ys)
def RetQ(P:Program)(C:Ctx)(rv:List ResultVar)(r:AV):Exit->St->Prop:=λe st=>(e=.normal\/e=.ret)/\∃st',Imp C st st'/\RetVs P st' rv r
def RetQ.ret{P:Program}{C:Ctx}{rv:List ResultVar}{r:AV}{st:St}(h:RetVs P st rv r):RetQ P C rv r .ret st:=⟨.inr rfl,st,Imp.refl,h⟩
def zaA{P:Program}{C:Ctx}{st:St}{t:Nat}{x y:AV}(Z:x=y)(h:lk st.t t=some x:=by exact rfl):RetQ P C [.tmp t] y .ret st:=.ret (.one (.tmp h (.eq Z)))
def yh{P:Program}{C:Ctx}{st:St}{t t':Nat}{x y x' y':AV}(V:x=y)(Z:x'=y')(h:lk st.t t=some x:=by exact rfl)(U:lk st.t t'=some x':=by exact rfl):RetQ P C [.tmp t,.tmp t'] (.tup [y,y']) .ret st:=.ret (.many (by simp) (.cons (.tmp h (.eq V)) (.cons (.tmp U (.eq Z)) .nil)))
def yD{P:Program}{C:Ctx}{st:St}{t t' T k s i n:Nat}{cs:List AV}{E:TypeId}{y x' y':AV}(ht:tyOk P T true n=true)(V:.agg cs=y)(Z:x'=y')(h:lk st.t t=some (.ptr k s i 0):=by exact rfl)(U:lk st.h k=some (.box cs E):=by exact rfl)(hi:i*s=0:=by exact rfl)(N:cs.length=n:=by exact rfl)(J:lk st.t t'=some x':=by exact rfl):RetQ P C [.cell t T,.tmp t'] (.tup [y,y']) .ret st:=.ret (.many (by simp) (.cons (.cellA h U hi N ht (.eq V)) (.cons (.tmp J (.eq Z)) .nil)))
theorem RetQ.imp{P:Program}{C:Ctx}{rv:List ResultVar}{r:AV}{st st':St}{e:Exit}(hi:Imp C st st')(h:RetQ P C rv r e st'):RetQ P C rv r e st:=⟨h.1,let⟨s,Z,V⟩:=h.2;⟨s,hi.trans Z,V⟩⟩
def zhX(tmps:Array Value):ResultVar->Sem Value
 |.tmp t=>pure (tmps.getD t undef)
 |.cell a t=>do loadVar t (←asAddr (tmps.getD a undef))
def zkG{P:Program}{C:Ctx}{st:St}{g:Gh}{a:Act}{w:World}(hr:Rel C st g a w){v:ResultVar}{y:AV}(h:RetV P st v y):∃u,(zhX a.tmps v).run P w=.ok u w/\RV g.I g.ρ y u:=by
 cases h with
 |tmp h Z=>exact⟨_,rfl,Z _ _ _ (hr.tmps _ _ h)⟩
 |cellS h U hx ht Z=>
  rename_i t T k s i j cs E x;obtain⟨b,V,e⟩:=zaf (hr.tmps _ _ h);obtain⟨b',vs,N,J,h3,H⟩:=ze1 (hr.sat.blk k _ U);have:b'=b:=by rw[N]at V;simpa[yX]using V
  subst this;have xT:i*s+j<vs.size:=by rw[J];exact(j1.1 hx).1
  have hv:vs[i*s+j]? =some vs[i*s+j]:=jW xT;refine⟨_,?_,Z _ _ _ (H _ _ _ hx hv)⟩
  grind[zhX,asAddr,zbY]
 |cellA h U hi hn ht Z=>
  rename_i t T k s i n cs E;obtain⟨b,V,e⟩:=zaf (hr.tmps _ _ h);obtain⟨b',vs,N,J,h3,H⟩:=ze1 (hr.sat.blk k _ U);have:b'=b:=by rw[N]at V;simpa[yX]using V
  subst this;refine⟨.agg vs.toList.toArray,?_,Z _ _ _ (.agg cs vs.toList (by simpa using J) (λj c v hc hv=>H j c v hc (by simpa using hv)))⟩
  grind[zL,zhX,asAddr]
def zrF{P:Program}{C:Ctx}{st:St}{g:Gh}{a:Act}{w:World}(hr:Rel C st g a w){vs:List ResultVar}{ys:List AV}(h:RetL P st vs ys):∃us,(vs.mapM (zhX a.tmps)).run P w=.ok us w/\RVL g.I g.ρ ys us:=by
 induction h with
 |nil=>exact⟨[],rfl,rfl,λj c v Z=>by simp at Z⟩
 |cons h hs ih=>
  obtain⟨u,U,T⟩:=zkG hr h;obtain⟨us,N,V⟩:=ih;refine⟨u::us,?_,by simpa using V.1,λj c v Z hv=>?_⟩
  ·simp_all
  ·cases j with
   |zero=>simp_all
   |succ j=>exact V.2 j c v (by simpa using Z) (by simpa using hv)
def zhY{P:Program}{C:Ctx}{st:St}{g:Gh}{a:Act}{w:World}(hr:Rel C st g a w){fn:Func}{rv:List ResultVar}{r:AV}(V:fn.results=rv.toArray)(h:RetVs P st rv r):∃u,(results fn a.tmps).run P w=.ok u w/\RV g.I g.ρ r u:=by
 have e:results fn a.tmps=(do let vs←rv.toArray.mapM (zhX a.tmps);pure (if h:vs.size=1 then vs[0]else .tuple vs)):=by
  have ef:zhX a.tmps=(λv:ResultVar=>match v with
   |.tmp t=>(pure (a.tmps.getD t undef):Sem Value)
   |.cell b t=>(do loadVar t (←asAddr (a.tmps.getD b undef)))):=funext λv=>by cases v<;>rfl
  simp only[results,V,ef];rfl
 have em:∀us,(rv.mapM (zhX a.tmps)).run P w=.ok us w->(rv.toArray.mapM (zhX a.tmps)).run P w=.ok us.toArray w:=λus N=>by
  simp_all
 rw[e];cases h with
 |one h=>
  obtain⟨u,J,Z⟩:=zkG hr h;simp_all
 |many hl h=>
  obtain⟨us,J,Z⟩:=zrF hr h
  have T:us.length≠1:=by
   have:=Z.1;rename_i ys
   have U:∀{vs:List ResultVar}{ys:List AV},RetL P st vs ys->vs.length=ys.length:=λh=>by
    induction h with
    |nil=>rfl
    |cons _ _ ih=>simp[ih]
   rw[this,←U h];exact hl
  refine⟨.tuple us.toArray,?_,.tup _ us Z.1 Z.2⟩;simp_all
def zdo{I:Im}{ρ:Nat->Value}:∀(as:List AV)(i:Nat)(t:Nat)(x:AV),lk (zbz i as) t=some x->i<=t/\as[t-i]? =some x
 |[],_,_,_,h=>by simp[zbz,lk]at h
 |y::r,i,t,x,h=>by
  simp only[zbz,yp]at h;cases Z:i.beq t<;>simp[Z]at h
  ·have V:i≠t:=beqF.1 Z;obtain⟨T,U⟩:=zdo (I:=I) (ρ:=ρ) r (i+1) t x h;refine⟨by omega,?_⟩;rw[show t-i=(t-(i+1))+1 by omega];simpa using U
  simp_all
def yP.farN{C:Ctx}{g:Gh}{w w':World}{b k2:Nat}{B:Blk}(h:yP C g w k2 B)(hm:w.grownBy w' (some b))(J:w.drawn<=w'.drawn)(hb:g.O b=none)(hw:C.w0.heap.size<=b)(H:ImOB g w'):yP C g w' k2 B:=by
 cases B with
 |box cs E=>
  obtain⟨b2,vs,V,U,T,N,h5,h6⟩:=h
  have xT:b2<w.heap.size:=by
   grind
  have Z:b2≠b:=λe=>by simp_all
  exact⟨b2,vs,V,U,T,(hm.block b2 xT (by simpa using Z)).trans N,h5,h6⟩
 |row enc l E s=>
  obtain⟨xs,V,U,T,N⟩:=h;refine⟨xs,V.kept hm ?_,U,T,N⟩
  grind[zd1]
 |hold vs cs=>exact h
 |obj b2 o=>
  obtain⟨V,U,T⟩:=h;have Z:b2≠b:=λe=>by simp_all
  exact⟨(hm.block b2 (za V) (by simpa using Z)).trans V,U,T⟩
 |yld j on=>exact zhd h (Im.le_refl _) (λ_ _ _=>rfl) (λb' e=>by simp_all) hm J h.2.2.2.1 H
 |mpb kenc venc l=>
  obtain⟨b2,es,ck,V,U,T,N,h5,h6⟩:=h;have Z:b2≠b:=λe=>by simp_all
  exact⟨b2,es,ck,V,U,T,(hm.block b2 (za N) (by simpa using Z)).trans N,h5,h6⟩
 |dead=>trivial
def zaU{C:Ctx}{P:Program}{fn:Func}{rv:List ResultVar}{r:AV}{R:Ending->World->Prop}(T:fn.results=rv.toArray){st:St}(V:RetVs P st rv r){tmps:Array Value}(Z:C.df=[])
 (hR:∀g w v,Rel C st g {tmps:=tmps,defers:=[]} w->RV g.I g.ρ r v->R (.returned v) w):∀(D:List Nat){g:Gh}{w:World}{ds:List Deferred},ds=D.map mkD++C.df.map dfD->D.Nodup→
 (∀x,x∈D->w.heap[x]? =some (.deferred (some []))/\g.O x=none/\C.w0.heap.size<=x)->Rel C st g {tmps:=tmps,defers:=[]} w→
 LeavesInM Fence.wide 0 P fn tmps R ds .returning w
 |[],g,w,ds,U,_,_,hr=>by
  rw[Z]at U;simp only[xU,w4]at U;subst U;obtain⟨u,H,E⟩:=zhY hr T V;exact⟨u,H,hR g w u hr E⟩
 |x::D,g,w,ds,U,xT,x4,hr=>by
  rw[Z]at U;simp only[xU,w4]at U;subst U;obtain⟨h1,h2,h3⟩:=x4 x (by simp);have x2:x<w.heap.size:=za h1;let w':World:={w with heap:=w.heap.setIfInBounds x (.deferred none)}
  have hm:w.grownBy w' (some x):=⟨rfl,rfl,rfl,by simp[w'],λk hk x3=>by
   grind⟩
  refine⟨by simp,.inl ⟨x,w',rfl,run_takeDeferred h1,?_⟩⟩;refine zaU T V Z hR D (by rw[Z];simp) (vE.1 xT).2 (λy hy=>?_) (g:=g) ?_
  ·grind
  ·have N:∀b o u,g.I b o=some u->w'.cell? ⟨b,o,none⟩=some u/\g.O b=none:=λb o u hI=>by
    obtain⟨h4,h5⟩:=hr.sat.im b o u hI
    grind[World.cell?]
   have J:ObO g.I g.O w':=hr.sat.ob.up (Im.le_refl _) hm.size;refine⟨hr.size,Dfs.nil _ _ _ Z,hr.tmps,⟨N,J,λk B hB=>(hr.sat.blk k B hB).farN hm (jE _) h2 h3 ⟨N,J⟩⟩,?_⟩
   exact⟨hr.ext.I,hm.os.trans hr.ext.os,hm.tape.trans hr.ext.tape,hm.output.trans hr.ext.output,hr.ext.drawn,jR hr.ext.size hm.size,λb hb hn ho=>by
    have x3:b≠x:=λe=>by subst e;omega
    obtain⟨h4,h5⟩:=hr.ext.keep b hb hn ho
    grind,hr.ext.own⟩
abbrev C0(n d:Nat)(g:Gh)(w:World):Ctx:=⟨none,n,d,[],0,λ_ _ _ _ _=>True,g,w,[]⟩
def zdp(O:Owns)(N:Nat)(l:List Nat)(h:∀b k,O b=some k->b<N):∃d,(∀b n,O b≠some (d,n))/\d∉l:=by
 have T:∀(M:Nat),∃d0,∀b n y,b<M->O b=some (y,n)->y<d0:=by
  intro M
  induction M with
  |zero=>exact⟨0,λb n y J=>by omega⟩
  |succ M ih=>
   obtain⟨d0,V⟩:=ih;cases U:O M with
   |none=>exact⟨d0,λb n y J Z=>by
    rcases wD b M with hl|hl
    ·exact V b n y hl Z
    ·have:b=M:=by omega
     subst this;rw[U]at Z;simp at Z⟩
   |some p=>exact⟨max d0 (p.1+1),λb n y J Z=>by
    rcases wD b M with hl|hl
    ·have:=V b n y hl Z;omega
    ·have:b=M:=by omega
     subst this;rw[U]at Z;injection Z with Z;subst Z;simp;omega⟩
 have H:∃d1,∀y∈l,y<d1:=by
  clear h T
  induction l with
  |nil=>exact⟨0,λy Z=>by simp at Z⟩
  |cons x r ih=>
   obtain⟨d1,V⟩:=ih
   exact⟨max d1 (x+1),λy Z=>by
    rcases w6.1 Z with rfl|Z
    ·omega
    ·have:=V y Z;omega⟩
 obtain⟨d0,E⟩:=T N;obtain⟨d1,xT⟩:=H;refine⟨max d0 d1,λb n U=>?_,λhm=>?_⟩;all_goals grind
def zfB{C:Ctx}{I:Im}{O:Owns}{as:List AV}{args:List Value}{m:Nat}{w:World}(N:C.g0=⟨noNames,I,O⟩)(T:C.w0=w)(hm:m=C.n)(H:as.length<=C.n)(V:ImO I O w)(Z:RVL I noNames as args)(J:C.df=[]:=by rfl):
 Rel C ⟨zbz 0 as,[]⟩ {ρ:=noNames,I:=I,O:=O} {tmps:=args.toArray++Array.replicate (m-args.toArray.size) undef,defers:=[]} w:=by
 have E:args.length=as.length:=Z.1;subst hm;refine⟨by simp;omega,Dfs.nil _ _ _ J,λt x hx=>?_,⟨V.1,V.2,λk B hB=>by simp[lk]at hB⟩,⟨by rw[N];exact Im.le_refl _,by rw[T],by rw[T],by rw[T],by simp_all,by simp_all,λ_ _ _ _=>⟨by rw[T],by rw[N]⟩,λb y n _ hy=>⟨n,by rw[N];exact hy⟩⟩⟩;obtain⟨_,U⟩:=zdo (I:=I) (ρ:=noNames) as 0 t x hx;simp only[x5]at U;have ht:t<args.length:=by grind
 have e:(args.toArray++Array.replicate (C.n-args.toArray.size) undef).getD t undef=args[t]:=by
  simp[jK,uJ,ht]
 rw[e];exact Z.2 t x _ U (jC ht)
def Fn.intro{P:Program}{f:FuncId}{fn:Func}{c:Code}{n:Nat}{as:List AV}{ts:List (Nat×AV)}{rv:List ResultVar}{r:AV}(hc:zam P f=true)(hf:P.funcs[f]? =some fn)(hb:fn.body=some c)(hn:fn.ntmps=n)(x1:fn.results=rv.toArray)
 (hnm:r.nm=true)(x0:zbz 0 as=ts)(N:as.length<=n)(h:∀g w d,X P (C0 n d g w) c ⟨ts,[]⟩ (RetQ P (C0 n d g w) rv r)):Fn P f as r:=by
 refine⟨hc,hnm,λg w args J T=>(callsIn_wide (n:=0)).1 (callsIn_of_wp_marks hf hb trivial ?_)⟩;subst x0;obtain⟨d,hd,-⟩:=zdp g.O w.heap.size [] J.2.1;have H:=zfB (C:=C0 n d ⟨noNames,g.I,g.O⟩ w) (I:=g.I) (O:=g.O) (m:=fn.ntmps) rfl rfl hn N J T;refine wpIn_mono (h _ w d _ _ w H) ?_
 rintro e a w'⟨st,g1,w2,he,st',E,xT⟩
 obtain⟨g2,V⟩:=E g1 a w' w2
 have x4:LeavesInM Fence.wide 0 P fn a.tmps (λe w'=>∃v g',e=Ending.returned v/\RV g'.I noNames r v/\Add none g w g' w'/\ImOB g' w') a.defers .returning w':=by
  obtain⟨D,hD,v9,v8⟩:=V.defers;refine zaU x1 xT rfl (λg3 w3 v Z hv=>?_) D hD.plain v9 v8 ⟨V.size,Dfs.nil _ _ _,V.tmps,V.sat,V.ext⟩
  have x3:∀b,b<w.heap.size->¬(C0 n d ⟨noNames,g.I,g.O⟩ w).okb b:=λb hb hk=>by
   rcases hk with hk|⟨m,hk⟩;all_goals grind
  have x2:∀b,¬(C0 n d ⟨noNames,g.I,g.O⟩ w).oth b:=λb⟨y,m,hy,_⟩=>by simp at hy
  refine⟨v,{ρ:=g.ρ,I:=g3.I,O:=g3.O},rfl,hv.forget hnm,⟨Z.ext.I,λ_ _=>rfl,λb U=>?_,⟨Z.ext.os,Z.ext.tape,Z.ext.output,Z.ext.drawn,Z.ext.size,λb U=>?_⟩⟩,⟨Z.sat.im,Z.sat.ob⟩⟩
  ·exact(Z.ext.keep b U (x3 b U) (x2 b)).2
  ·exact(Z.ext.keep b U (x3 b U) (x2 b)).1
 rcases he with rfl|rfl<;>exact x4
end Go.Rse
namespace Go.Rse
open Go Go.RowKit
def zdA(P:Program)(t n E:Nat):Bool:=match P.underlying t with|some (.array m e)=>m==n&&e==E|_=>false
def zdB{P:Program}{t n E:Nat}(h:zdA P t n E=true):P.underlying t=some (.array n E):=by
 grind[zdA]
section
variable{P:Program}{C:Ctx}{st:St}{ty:TypeId}
def znJ{t n E s:Nat}{ag:Bool}{parts:Array (Nat×Operand)}{cs cs':List AV}{ps:List (Nat×AV)}(ht:zdA P t n E=true)(hE:tyOk P E ag s=true)(Z:y9 P t cs)
 (T:zb0 st parts.toList=some ps)(N:zcR ps=true)(hf:zf1 (λi=>some (i*s,s)) cs ps=some cs'):Pur P C (.build t parts) ty st (.agg cs'):=λg a w dst pos af gd hr=>by
 obtain⟨z,V,J⟩:=Z;obtain⟨hl,hv⟩:=zhI (I:=g.I) (ρ:=g.ρ) J;obtain⟨vs',H,U⟩:=zhg (I:=g.I) (ρ:=g.ρ) (λi=>some (i*s,s)) ps _ cs cs' z.cells (zdn hr T) N ⟨hl,hv⟩ hf;refine⟨.agg vs',?_,by simpa using RV.agg (I:=g.I) (ρ:=g.ρ) cs' vs'.toList U.1 U.2⟩;cases hi:P.info? t with
 |none=>simp[hi]at V
 |some i=>
  simp[hi]at V;have e:(parts.map λ(i,x)=>(i,a.eval x)).toList=parts.toList.map λ(i,x)=>(i,a.eval x):=by simp
  simp only[execOp,Instr.build,jM,zeroValue,typeInfo,run_program,jB,hi,jN,V,run_underlying (zdB ht),yY hE,e,H]
def zlM{t n E:Nat}{x y:Operand}{cs:List AV}{kk:IntKind}{i:Int}{c:AV}(ht:zdA P t n E=true)(hE:tyOk P E false 1=true)(hx:ev st x=some (.agg cs))(V:ev st y=some (.int kk i))(h0:0<=i)(U:i<n)(T:cs[i.toNat]? =some c):
 Pur P C (.index t x y) ty st c:=λg a w dst pos af gd hr=>by
 obtain⟨vs,e,hl,hv⟩:=zbX (yu hr hx);have ey:=yW (yu hr V);have Z:i.toNat<vs.length:=by grind
 refine⟨vs[i.toNat],?_,hv _ c _ T (jC Z)⟩;simp[execOp,Instr.index,asIntOf,e,ey,run_underlying (zdB ht),h0,U,yY hE,part,zcU hE,Z]
def zF{t n E s:Nat}{x y:Operand}{cs ys:List AV}{kk:IntKind}{i:Int}(ht:zdA P t n E=true)(hE:tyOk P E true s=true)(hx:ev st x=some (.agg cs))(V:ev st y=some (.int kk i))(h0:0<=i)(U:i<n)(Z:(cs.drop (i.toNat*s)).take s=ys):
 Pur P C (.index t x y) ty st (.agg ys):=λg a w dst pos af gd hr=>by
 obtain⟨vs,e,hl,hv⟩:=zbX (yu hr hx);have ey:=yW (yu hr V);subst Z
 have key:vs.toArray.extract (i.toNat*s) (i.toNat*s+s)=((vs.drop (i.toNat*s)).take s).toArray:=by
  simp[List.extract_toArray,List.extract]
 refine⟨.agg ((vs.drop (i.toNat*s)).take s).toArray,?_,.agg _ _ (by simp[hl]) (λq c v Z T=>?_)⟩
 ·simp only[execOp,Instr.index,asIntOf,e,ey,jM,jN,jB,run_underlying (zdB ht)];rw[j4 ⟨h0,U⟩];simp only[jM,yY hE,jB,part,zcU hE,if_true,jN,key]
 grind
def eqAV:AV->AV->Option Bool
 |.int .i64 a,.int .i64 b=>some (decide (a=b))
 |.bool a,.bool b=>some (a==b)
 |_,_=>none
def eqL:List AV->List AV->Option Bool
 |[],[]=>some true
 |x::xs,y::ys=>match eqAV x y,eqL xs ys with
  |some p,some q=>some (p&&q)
  |_,_=>none
 |_,_=>none
def zd3{P:Program}{op:BinOp}{t:TypeId}{x y:Operand}{xs ys:Array Value}(hm:P.eqGuardType P.depth t=false)(w:World):(eqGuard op t x y (.agg xs) (.agg ys)).run P w=.ok () w:=run_eqGuard_agg (P:=P) w op t x y xs ys hm
def znK{t:TypeId}{x y:Operand}{yt:TypeId}{p q:Bool}(V:P.underlying t=some .bool)(hx:ev st x=some (.bool p))(Z:ev st y=some (.bool q)):Pur P C (.binOp .eql t x y yt) ty st (.bool (p==q)):=λg a w dst pos af gd hr=>by
 have ex:=zn (yu hr hx);have ey:=zn (yu hr Z);refine⟨.bool (p==q),?_,.bool _⟩;simp_all[eqGuard,execOp,run_eql_bool]
def znL{t:TypeId}{x y:Operand}{yt:TypeId}{p q:Bool}(V:P.underlying t=some .bool)(hx:ev st x=some (.bool p))(Z:ev st y=some (.bool q)):Pur P C (.binOp .neq t x y yt) ty st (.bool (!(p==q))):=λg a w dst pos af gd hr=>by
 have ex:=zn (yu hr hx);have ey:=zn (yu hr Z);refine⟨.bool (!(p==q)),?_,.bool _⟩;simp_all[eqGuard,execOp,run_neq_bool]
end
end Go.Rse
namespace Go.Rse
open Go Go.RowKit
def memb(n:Nat):List Nat->Bool
 |[]=>false
 |k::r=>n.beq k||memb n r
theorem zi{n:Nat}:∀{l:List Nat},memb n l=true↔n∈l
 |[]=>by simp[memb]
 |k::r=>by simp[memb,zi (l:=r)]
structure Fact:Type 1 where
 i:Nat
 d:Option Nat
 x:AV
 nb:Option (Nat×Blk)
 as:List Nat
def rmK(ks:List Nat):List (Nat×AV)->List (Nat×AV)
 |[]=>[]
 |(t,x)::r=>bif memb t ks then rmK ks r else(t,x)::rmK ks r
def zjA{ks:List Nat}{t:Nat}{x:AV}:∀{l:List (Nat×AV)},lk (rmK ks l) t=some x->memb t ks=false/\lk l t=some x
 |[],h=>by simp[rmK,lk]at h
 |(t',x')::r,h=>by
  simp only[rmK]at h;cases hm:memb t' ks with
  |true=>
   simp only[hm,cond_true]at h;obtain⟨V,U⟩:=zjA h
   grind[yp,beqF]
  |false=>
   simp only[hm,cond_false,yp]at h;rw[yp];cases Z:t'.beq t with
   |true=>
    simp_all
   |false=>
    simp only[Z,cond_false]at h⊢;exact zjA h
def selT(as:List Nat)(b:List (Nat×AV)):List Fact->List (Nat×AV)
 |[]=>b
 |f::r=>bif memb f.i as then consT f.d f.x (selT as b r)else selT as b r
def zkH(nb:Option (Nat×Blk))(l:List (Nat×Blk)):List (Nat×Blk):=match nb with|some b=>b::l|none=>l
def selH(as:List Nat)(b:List (Nat×Blk)):List Fact->List (Nat×Blk)
 |[]=>b
 |f::r=>bif memb f.i as then zkH f.nb (selH as b r)else selH as b r
def stOf(st:St)(Z as:List Nat)(fs:List Fact):St:=⟨selT as (rmK Z st.t) fs,selH as st.h fs⟩
def ziC{as:List Nat}{b:List (Nat×AV)}{t:Nat}{x:AV}:∀{fs:List Fact},lk (selT as b fs) t=some x->(∃f∈fs,memb f.i as=true/\f.d=some t/\f.x=x)\/lk b t=some x
 |[],h=>.inr h
 |f::r,h=>by
  simp only[selT]at h;cases hm:memb f.i as with
  |true=>
   simp only[hm,cond_true]at h;cases V:f.d with
   |none=>
    simp only[V,consT]at h;rcases ziC h with⟨f',Z,U⟩|Z;all_goals grind
   |some d=>
    simp only[V,consT,yp]at h;cases T:d.beq t with
    |true=>
     simp_all
    |false=>
     simp only[T,cond_false]at h;rcases ziC h with⟨f',Z,U⟩|Z;all_goals grind
  |false=>
   simp only[hm,cond_false]at h;rcases ziC h with⟨f',Z,U⟩|Z;all_goals grind
def ziD{as:List Nat}{b:List (Nat×Blk)}{k:Nat}{B:Blk}:∀{fs:List Fact},lk (selH as b fs) k=some B->(∃f∈fs,memb f.i as=true/\f.nb=some (k,B))\/lk b k=some B
 |[],h=>.inr h
 |f::r,h=>by
  simp only[selH]at h;cases hm:memb f.i as with
  |true=>
   simp only[hm,cond_true]at h;cases V:f.nb with
   |none=>
    simp only[V,zkH]at h;rcases ziD h with⟨f',Z,U⟩|Z;all_goals grind
   |some p=>
    obtain⟨k',B'⟩:=p;simp only[V,zkH,yp]at h;cases T:k'.beq k with
    |true=>
     simp_all
    |false=>
     simp only[T,cond_false]at h;rcases ziD h with⟨f',Z,U⟩|Z;all_goals grind
  |false=>
   simp only[hm,cond_false]at h;rcases ziD h with⟨f',Z,U⟩|Z;all_goals grind
def dir(ops:Array Oper)(i:Nat):List Nat:=match ops[i]? with|some o=>(o.after.toList.filter (Region.binds .any ·)).map (·.on)|none=>[]
def ze6(ops:Array Oper)(i:Nat):List Nat->Bool
 |[]=>true
 |a::r=>(memb a (dir ops i)||r.any λb=>memb a (dir ops b))&&ze6 ops i r
def zfC(ops:Array Oper):Bool:=(List.range ops.size).all λi=>(dir ops i).all λj=>j.blt i
def nbFr(nb:Option (Nat×Blk))(k:Nat):Bool:=match nb with|some (k',B)=>!(k'.beq k)&&B.fr k|none=>true
def ze7(f f':Fact):Bool:=
 (match f.d,f'.d with|some d,some d'=>!(d.beq d')|_,_=>true)&&
 (match f.nb with|some (k,_)=>f'.x.fr k&&nbFr f'.nb k|none=>true)&&
 (memb f'.i f.as||match f'.nb with|some (k,_)=>f.x.fr k&&nbFr f.nb k|none=>true)
def okF(st:St)(Z:List Nat):List Fact->Bool
 |[]=>true
 |f::r=>(match f.d with|some d=>memb d Z|none=>true)&&nbOk st f.nb&&r.all (ze7 f)&&okF st Z r
def zhh(ops:Array Oper)(m:Nat):Nat->Bool
 |0=>true
 |n+1=>memb (m+n) (dir ops (m+n+1))&&zhh ops m n
def ze8(ops:Array Oper)(m:Nat)(as:List Nat):Bool:=
 m.ble ops.size&&(ops.size.beq m||(ze6 ops m as&&(List.range m).all (memb · as)&&zhh ops m (ops.size-m-1)))
def zdC(ops:Array Oper)(m e:Nat)(as:List Nat):Bool:=
 ops.size.beq (m+2)&&e.blt m&&ze6 ops m as&&((List.range m).all λj=>j.beq e||memb j as)&&memb m (dir ops (m+1))&&memb e (dir ops (m+1))
def noF(e:Nat)(fs:List Fact):List Fact:=fs.filter λf=>!(f.i==e)
def Good(P:Program)(C:Ctx)(ops:Array Oper)(st:St)(hid:List Nat)(Q:Exit->St->Prop)(f:Fact)(fs0:List Fact):Prop:=
 ze6 ops f.i f.as=true/\dOk C.n f.d=true/\∀g a w,Rel C (stOf st hid f.as fs0) g a w->∀K:Act->World->Prop,
  (∀v w' g',Add (f.nb.map (·.1)) g w g' w'->RV g'.I g'.ρ f.x v->ImOB g' w'->(∀k B,f.nb=some (k,B)->yP C g' w' k B)->K (a.put f.d v) w')->wpOpIn C.F 0 P ops (lift C Q) f.i K a w
inductive Chain(P:Program)(C:Ctx)(ops:Array Oper)(st:St)(hid:List Nat)(Q:Exit->St->Prop):Nat->List Fact->Prop
 |gen{i:Nat}{fs:List Fact}{f:Fact}(hi:f.i=i)(hf:Good P C ops st hid Q f fs)(h:Chain P C ops st hid Q (i+1) (f::fs)):Chain P C ops st hid Q i fs
 |tail{i:Nat}{fs:List Fact}(as:List Nat)(hok:okF st hid fs=true)(hf:ze8 ops i as=true)(h:Ex P C ops (ops.toList.drop i) (stOf st hid (fs.map (·.i)) fs) Q):Chain P C ops st hid Q i fs
 |late{i:Nat}{fs:List Fact}{o1 oe o2:Oper}(e:Nat)(as:List Nat)(hl:ops.toList.drop i=[o1,o2])(hoe:ops[e]? =some oe)(hok:okF st hid fs=true)(hf:zdC ops i e as=true)
  (hA:Ex P C ops [o1,o2] (stOf st hid (fs.map (·.i)) fs) Q)(hB:Ex P C ops [o1,oe,o2] (stOf st hid ((noF e fs).map (·.i)) (noF e fs)) Q):Chain P C ops st hid Q i fs
def Chain.collect{P:Program}{C:Ctx}{ops:Array Oper}{st:St}{Z:List Nat}{Q:Exit->St->Prop}{i:Nat}{fs:List Fact}(h:Chain P C ops st Z Q i fs)(h1:∀j,j<i->∃f∈fs,f.i=j)(H:∀f∈fs,f.i<i/\∃fs0,(∀f'∈fs0,f'∈fs)/\Good P C ops st Z Q f fs0)(hu:∀f∈fs,∀f'∈fs,f'.i=f.i->f'=f):
 ∃m fs' as,(∀j,j<m->∃f∈fs',f.i=j)/\(∀f∈fs',f.i<m/\∃fs0,(∀f'∈fs0,f'∈fs')/\Good P C ops st Z Q f fs0)/\(∀f∈fs',∀f'∈fs',f'.i=f.i->f'=f)∧
  ((okF st Z fs'=true/\ze8 ops m as=true/\Ex P C ops (ops.toList.drop m) (stOf st Z (fs'.map (·.i)) fs') Q)∨
   ∃e o1 oe o2,ops.toList.drop m=[o1,o2]/\ops[e]? =some oe/\okF st Z fs'=true/\zdC ops m e as=true/\Ex P C ops [o1,o2] (stOf st Z (fs'.map (·.i)) fs') Q/\Ex P C ops [o1,oe,o2] (stOf st Z ((noF e fs').map (·.i)) (noF e fs')) Q):=by
 induction h with
 |gen V xT h ih=>
  rename_i i fs fnew
  have J:∀y:Fact,y.i=i->∀f∈y::fs,∀f'∈y::fs,f'.i=f.i->f'=f:=λy E f hf f' T e=>by
   rcases w6.1 hf with e1|N
   ·rcases w6.1 T with e2|U
    ·rw[e1,e2]
    ·have:=(H f' U).1;rw[e,e1,E]at this;omega
   ·rcases w6.1 T with e2|U
    ·have:=(H f N).1;rw[←e,e2,E]at this;omega
    ·exact hu f N f' U e
  refine ih (λj hj=>?_) (λf hf=>?_) (J _ V)
  ·by_cases e:j=i
   ·exact⟨_,xF,V.trans e.symm⟩
   ·obtain⟨f,hf,V⟩:=h1 j (by omega);exact⟨f,by simp[hf],V⟩
  grind
 |tail as hok hf h=>grind
 |late e as hl x4 hok hf hA hB=>grind
structure RelD(C:Ctx)(st:St)(hid:List Nat)(fs:List Fact)(D:Nat->Prop)(g:Gh)(a:Act)(w:World):Prop where
 size:a.tmps.size=C.n
 defers:Dfs C g a.defers w
 tf:∀f∈fs,D f.i->∀t,f.d=some t->RV g.I g.ρ f.x (a.tmps.getD t undef)
 ts:∀t x,memb t hid=false->lk st.t t=some x->RV g.I g.ρ x (a.tmps.getD t undef)
 hf:∀f∈fs,D f.i->∀k B,f.nb=some (k,B)->yP C g w k B
 hs:∀k B,lk st.h k=some B->yP C g w k B
 im:ImOB g w
 ext:Ext C g w
def RelD.rel{C:Ctx}{st:St}{V:List Nat}{fs fs0:List Fact}{D:Nat->Prop}{g:Gh}{a:Act}{w:World}(h:RelD C st V fs D g a w){as:List Nat}(h0:∀f∈fs0,f∈fs)(U:∀i,i∈as->D i):Rel C (stOf st V as fs0) g a w:=by
 refine⟨h.size,h.defers,λt x hx=>?_,⟨h.im.1,h.im.2,λk B J=>?_⟩,h.ext⟩
 ·rcases ziC hx with⟨f,Z,T,N,rfl⟩|Z
  ·exact h.tf f (h0 f Z) (U _ (zi.1 T)) t N
  ·obtain⟨T,N⟩:=zjA Z;exact h.ts t x T N
 ·rcases ziD J with⟨f,Z,T,N⟩|Z
  ·exact h.hf f (h0 f Z) (U _ (zi.1 T)) k B N
  ·exact h.hs k B Z
def zo5{st:St}{Z:List Nat}:∀{fs:List Fact},okF st Z fs=true->∀f∈fs,(∀d,f.d=some d->memb d Z=true)/\nbOk st f.nb=true
 |[],_,f,h=>by simp at h
 |f0::r,h,f,hf=>by
  simp only[okF,j7]at h;rcases w6.1 hf with rfl|hf
  ·grind
  ·exact zo5 h.2 f hf
def zjB{st:St}{Z:List Nat}:∀{fs:List Fact},okF st Z fs=true->∀f∈fs,∀f'∈fs,f.i≠f'.i->ze7 f f'=true\/ze7 f' f=true
 |[],_,f,h=>by simp at h
 |f0::r,h,f,hf=>λf' V U=>by
  simp only[okF,j7]at h;have T:=jF.1 h.1.2;rcases w6.1 hf with e1|N
  ·grind
  ·rcases w6.1 V with e2|J
   ·simp_all
   ·exact zjB h.2 f N f' J U
def zmM{f f':Fact}(h:ze7 f f'=true\/ze7 f' f=true)(T:f.i∉f'.as):(∀d,f.d=some d->f'.d≠some d)/\∀k B,f.nb=some (k,B)->f'.x.fr k=true/\nbFr f'.nb k=true:=by
 rcases h with h|h
 ·simp only[ze7,j7]at h;refine⟨λd V Z=>?_,λk B U=>?_⟩;all_goals simp_all
 ·simp only[ze7,j7]at h;refine⟨λd V Z=>?_,λk B U=>?_⟩;all_goals simp_all[zi]
theorem RelD.add{C:Ctx}{st:St}{H:List Nat}{fs:List Fact}{D D':Nat->Prop}{g g':Gh}{a:Act}{w w':World}(h:RelD C st H fs D g a w){f:Fact}{v:Value}(hf:f∈fs)(hok:okF st H fs=true)(v9:¬D f.i)
 (E:∀f'∈fs,f'.i=f.i->f'=f)(x3:∀j,D' j->D j\/j=f.i)(T:∀f'∈fs,D f'.i->f.i∉f'.as)(hd:dOk C.n f.d=true)
 (N:Add (f.nb.map (·.1)) g w g' w')(hx:RV g'.I g'.ρ f.x v)(xT:ImOB g' w')(hB:∀k B,f.nb=some (k,B)->yP C g' w' k B):RelD C st H fs D' g' (a.put f.d v) w':=by
 have hm:=zo5 hok f hf
 have x2:∀n,f.nb.map (·.1)=some n->∃B,f.nb=some (n,B):=λn U=>by
  simp_all
 have x1:∀n,f.nb.map (·.1)=some n->st.fr n=true:=λn U=>by
  obtain⟨B,hb⟩:=x2 n U;have:=hm.2;rw[hb]at this;exact this
 have J:∀t,f.d≠some t->(a.put f.d v).tmps.getD t undef=a.tmps.getD t undef:=λt ht=>by
  cases x0:f.d<;>grind[zbb,Act.put]
 refine⟨?_,?_,λf' Z x4 t ht=>?_,λt x hh w2=>?_,λf' Z x4 k B hk=>?_,λk B hk=>?_,xT,h.ext.add N⟩
 ·cases x0:f.d<;>simp[Act.put,h.size]
 ·have:=h.defers.add N;cases x0:f.d<;>exact this
 ·by_cases e:f'.i=f.i
  ·obtain rfl:=E f' Z e;rw[ht,zbb (by rw[h.size];simp_all[dOk]),j4 rfl];exact hx
  ·have V:D f'.i:=(x3 _ x4).resolve_right e;obtain⟨p1,p2⟩:=zmM (zjB hok f hf f' Z (λe'=>e e'.symm)) (T f' Z V);rw[J t (λe'=>p1 t e' ht)];exact((h.tf f' Z V t ht).renameOpt (nk:=f.nb.map (·.1)) (λn U=>by grind) N.ρ).mono N.I
 ·have:f.d≠some t:=λe=>by simp_all
  rw[J t this];exact((h.ts t x hh w2).renameOpt (nk:=f.nb.map (·.1)) (λn U=>zju (by simp_all[St.fr]) w2) N.ρ).mono N.I
 ·by_cases e:f'.i=f.i
  ·simp_all
  ·have V:D f'.i:=(x3 _ x4).resolve_right e;obtain⟨p1,p2⟩:=zmM (zjB hok f hf f' Z (λe'=>e e'.symm)) (T f' Z V);refine(h.hf f' Z V k B hk).add N (λU=>?_) (λn U=>?_) h.ext.size xT
   ·obtain⟨B',hb⟩:=x2 k U;have:=(p2 k B' hb).2;rw[hk]at this;simp[nbFr]at this
   grind[nbFr]
 ·refine(h.hs k B hk).add N (λU=>?_) (λn U=>?_) h.ext.size xT
  ·have:=x1 k U;simp[St.fr]at this;exact(zdj this.2 hk).2 rfl
  grind[St.fr,zdj]
theorem zJ{ops:Array Oper}{listed:Array Bool}{i:Nat}:i∈Region.ready .any ops listed↔i<ops.size/\listed.getD i true=false/\∀j∈dir ops i,listed.getD j false=true:=by
 simp only[Region.ready,wL,wY,j7,wG]
 grind[dir,Array.all_eq_true_iff_forall_mem]
def zrG{ops:Array Oper}{i:Nat}(h:ops.size<=i):dir ops i=[]:=by simp[dir,h]
def zgu(ops:Array Oper)(listed:Array Bool):Prop:=∀i,i<ops.size->listed.getD i false=true->∀j∈dir ops i,listed.getD j false=true
theorem zA{ops:Array Oper}{listed:Array Bool}{i:Nat}(J:zgu ops listed)(hi:∀j∈dir ops i,listed.getD j false=true):∀{as:List Nat},ze6 ops i as=true->∀a∈as,listed.getD a false=true
 |[],_,a,h=>by simp at h
 |b::r,h,a,Z=>by
  simp only[ze6,j7,wE]at h;have ih:=zA J hi h.2;rcases w6.1 Z with rfl|Z
  ·rcases h.1 with V|V
   ·exact hi a (zi.1 V)
   ·obtain⟨c,U,T⟩:=uO.1 V;have N:=ih c U;rcases wD c ops.size with hl|hl
    ·exact J c hl N a (zi.1 T)
    simp_all[zrG,memb]
  ·exact ih a Z
def zhi{ops:Array Oper}{m:Nat}:∀{n:Nat},zhh ops m n=true->∀k,m<k->k<=m+n->(k-1)∈dir ops k
 |0,_,k,Z,V=>by omega
 |n+1,h,k,Z,V=>by
  simp only[zhh,j7]at h;by_cases e:k=m+n+1
  ·simp_all[zi]
  ·exact zhi h.2 k Z (by omega)
theorem zav{l:Array Bool}{i j:Nat}(h:i<l.size):(l.setIfInBounds i true).getD j false=if i=j then true else l.getD j false:=by
 simp only[jK,u8]
 grind
def ziE{l:Array Bool}{i:Nat}(h:i<l.size):l.getD i true=l.getD i false:=by
 simp_all
def zjC{F:Fence}{P:Program}{ops:Array Oper}{Q:Exit->Act->World->Prop}{m:Nat}(he:zfC ops=true)(hf:∀k,m<k->k<ops.size->(k-1)∈dir ops k):∀(n k:Nat)(listed:Array Bool)(a:Act)(w:World),m<=k->k+n=ops.size->listed.size=ops.size→
 (∀j,j<ops.size->(listed.getD j false=true↔j<k))->wpListIn F 0 P ops Q (ops.toList.drop k) a w->wpAnyIn F 0 P .any ops Q n listed a w
 |0,k,listed,a,w,U,H,V,hl,h=>by
  have hr:Region.ready .any ops listed=[]:=uP.2 λi hi=>by
   grind[zJ]
  refine⟨hr,?_⟩;rw[wB (by simp;omega)]at h;exact h
 |n+1,k,listed,a,w,U,H,V,hl,h=>by
  have N:k<ops.size:=by omega
  have J:∀i,i<ops.size->∀j∈dir ops i,j<i:=λi hi j T=>by
   have:=jF.1 (jF.1 he i (by simpa using hi)) j T;simpa using this
  have Z:∀i,i∈Region.ready .any ops listed↔i=k:=λi=>by
   grind[zJ]
  refine⟨λe=>?_,λi hi=>?_⟩
  ·simp_all
  ·obtain rfl:=(Z i).1 hi;have ho:ops[i]? =some ops[i]:=jW N;rw[jG (by simpa using N)]at h
   have ih:=λa w=>zjC (F:=F) (P:=P) (Q:=Q) he hf n (i+1) (listed.setIfInBounds i true) a w (by omega) (by omega) (by simpa using V) (λj T=>by
    rw[zav (by omega)];split
    ·rename_i e;subst e;simp
    ·rename_i e;rw[hl j T];omega)
   grind[wpOpIn,wpListIn,Oper.wpIn_mono]
def Ex.wpl{P:Program}{C:Ctx}{ops:Array Oper}{l:List Oper}{st:St}{Q:Exit->St->Prop}(h:Ex P C ops l st Q){g:Gh}{a:Act}{w:World}(hr:Rel C st g a w):wpListIn C.F 0 P ops (lift C Q) l a w:=h g a w hr
def zpP{P:Program}{C:Ctx}{ops:Array Oper}{st:St}{N:List Nat}{Q:Exit->St->Prop}{m:Nat}{fs:List Fact}{as:List Nat}(he:zfC ops=true)(h1:∀j,j<m->∃f∈fs,f.i=j)(h2:∀f∈fs,f.i<m/\∃fs0,(∀f'∈fs0,f'∈fs)/\Good P C ops st N Q f fs0)
 (x4:∀f∈fs,∀f'∈fs,f'.i=f.i->f'=f)(hok:okF st N fs=true)(hf:ze8 ops m as=true)(x0:Ex P C ops (ops.toList.drop m) (stOf st N (fs.map (·.i)) fs) Q):∀(n:Nat)(listed:Array Bool)(c:Nat)(g:Gh)(a:Act)(w:World),listed.size=ops.size->n=c+(ops.size-m)→
 c=((List.range m).filter λj=>!listed.getD j false).length->(∀j,m<=j->j<ops.size->listed.getD j false=false)->zgu ops listed->RelD C st N fs (λj=>listed.getD j false=true) g a w->wpAnyIn C.F 0 P .any ops (lift C Q) n listed a w:=by
 have hZ:m<=ops.size:=by
  simp_all[ze8]
 have hY:∀i,i<ops.size->∀j∈dir ops i,j<i:=λi hi j Z=>by
  have:=jF.1 (jF.1 he i (by simpa using hi)) j Z;simpa using this
 have J:m<ops.size->ze6 ops m as=true/\(∀j,j<m->j∈as)/\∀k,m<k->k<ops.size->(k-1)∈dir ops k:=λw2=>by
  simp only[ze8,j7,wE]at hf;rcases hf.2 with h|h
  ·simp_all
  ·refine⟨h.1.1,λj Z=>zi.1 (jF.1 h.1.2 j (by simpa using Z)),λk H V=>zhi h.2 k H (by omega)⟩
 intro n
 induction n with
 |zero=>
  intro listed c g a w E hn hc u3 U hr;have hm:m=ops.size:=by omega
  have T:∀j,j<m->listed.getD j false=true:=λj Z=>by
   have h0:((List.range m).filter λj=>!listed.getD j false)=[]:=jQ (by omega);have:=uD.1 h0 j (by simpa using Z);simpa using this
  refine zjC (m:=m) he (λk H V=>by omega) 0 m listed a w (jE _) (by omega) E (λj Z=>⟨λ_=>by omega,λh=>T j h⟩) (x0.wpl (hr.rel (λf hf=>hf) λi hi=>?_))
  grind
 |succ n ih=>
  intro listed c g a w E hn hc u3 U hr;by_cases hX:c=0
  ·have T:∀j,j<m->listed.getD j false=true:=λj Z=>by
    have h0:((List.range m).filter λj=>!listed.getD j false)=[]:=jQ (by omega);have:=uD.1 h0 j (by simpa using Z);simpa using this
   have w2:m<ops.size:=by omega
   refine zjC (m:=m) he (J w2).2.2 (n+1) m listed a w (jE _) (by omega) E (λj Z=>⟨λh=>?_,λh=>T j h⟩) (x0.wpl (hr.rel (λf hf=>hf) λi hi=>?_));all_goals grind
  ·have v9:∃j,j<m/\listed.getD j false=false:=by
    simp_all
   have v8:∀i,i∈Region.ready .any ops listed->i<m:=λi hi=>by
    grind[zJ,zA]
   have x3:Region.ready .any ops listed≠[]:=by
    --the least one that is left
    have key:∀k,(∃j,j<k/\j<m/\listed.getD j false=false)->∃j,j<m/\listed.getD j false=false/\∀i,i<j->listed.getD i false=true:=by
     intro k
     induction k with
     |zero=>rintro⟨j,h,_⟩;omega
     |succ k ihk=>
      rintro⟨j,h1,h2,h3⟩
      by_cases xT:∃j,j<k/\j<m/\listed.getD j false=false
      ·exact ihk xT
      ·refine⟨j,h2,h3,λi hi=>?_⟩;cases hb:listed.getD i false with
       |true=>rfl
       |false=>exact absurd ⟨i,by omega,by omega,hb⟩ xT
    obtain⟨j0,v5,v4⟩:=v9;obtain⟨j,u2,hW,hU⟩:=key m ⟨j0,v5,v5,v4⟩
    grind[zJ]
   refine⟨λe=>absurd e x3,λi hi=>?_⟩;have v3:=v8 i hi;obtain⟨r1,r2,r3⟩:=zJ.1 hi;rw[ziE (by omega)]at r2;obtain⟨f,x2,u1⟩:=h1 i v3;subst u1;obtain⟨_,fs0,v1,ga,gd,gk⟩:=h2 f x2;have v0:=zA U r3 ga;refine gk g a w (hr.rel v1 v0) _ λv w' g' k1 k2 k3 k4=>?_
   refine ih (listed.setIfInBounds f.i true) (c-1) g' _ w' (by simpa using E) (by omega) ?_ (λj v4 u2=>?_) (λk H V j Z=>?_) (hr.add x2 hok (by rw[r2];simp) (x4 f x2) (λj Z=>?_) (λf' k5 hD x1=>?_) gd k1 k2 k3 k4)
   ·have e:((List.range m).filter λj=>!(listed.setIfInBounds f.i true).getD j false)=((List.range m).filter λj=>!listed.getD j false).filter (λj=>!(j==f.i)):=by
     rw[List.filter_filter];refine xJ λj Z=>?_
     rw[zav (by omega)];by_cases e:f.i=j
     ·subst e;simp
     ·have:(j==f.i)=false:=by simpa usingλh=>e h.symm
      simp[e,this]
    rw[e];have j2:((List.range m).filter λj=>!listed.getD j false).Nodup:=List.nodup_range.filter _;have x1:f.i∈((List.range m).filter λj=>!listed.getD j false):=wL.2 ⟨wY.2 v3,by rw[r2];rfl⟩;have h3:=List.length_erase_of_mem x1;rw[j2.erase_eq_filter]at h3
    grind
   ·grind[zav]
   ·rw[zav (by omega)]at V⊢;split
    ·rfl
    ·split at V
     ·grind
     ·exact U k H V j Z
   ·grind[zav]
   ·obtain⟨q1,fs1,_,qa,_,_⟩:=h2 f' k5;have h3:=zA U (U f'.i (by omega) hD) qa f.i x1;simp_all
def zvz(ops:Array Oper):List Nat->Prop
 |[]=>True
 |x::r=>x<ops.size/\x∉r/\(∀j∈dir ops x,j<ops.size/\j∉r/\j≠x)/\(∀y∈r,∃j∈dir ops y,j∈x::r)/\zvz ops r
def zjD{F:Fence}{P:Program}{ops:Array Oper}{Q:Exit->Act->World->Prop}{x:Nat}{o:Oper}{rest:List Oper}{K:Act->World->Prop}{a:Act}{w:World}(ho:ops[x]? =some o)(h:wpListIn F 0 P ops Q (o::rest) a w)(Z:∀a w,wpListIn F 0 P ops Q rest a w->K a w):wpOpIn F 0 P ops Q x K a w:=by
 grind[wpOpIn,wpListIn,Oper.wpIn_mono]
def zlN{F:Fence}{P:Program}{ops:Array Oper}{Q:Exit->Act->World->Prop}:∀(L:List Nat)(os:List Oper)(listed:Array Bool)(a:Act)(w:World),listed.size=ops.size->(∀j,j<ops.size->(listed.getD j false=false↔j∈L))->zvz ops L->os.map some=L.map (ops[·]?)→
 wpListIn F 0 P ops Q os a w->wpAnyIn F 0 P .any ops Q L.length listed a w
 |[],os,listed,a,w,U,hl,_,Z,h=>by
  have hr:Region.ready .any ops listed=[]:=uP.2 λi hi=>by
   grind[zJ]
  cases os with
  |nil=>exact⟨hr,h⟩
  |cons _ _=>simp at Z
 |x::r,os,listed,a,w,U,hl,hok,Z,h=>by
  obtain⟨k1,k2,k3,k4,k5⟩:=hok
  have V:∀i,i∈Region.ready .any ops listed↔i=x:=λi=>by
   grind[zJ]
  have ho:ops[x]? =some ops[x]:=jW k1;cases os with
  |nil=>simp at Z
  |cons o rest=>
   simp only[u5,xA]at Z;refine⟨λe=>?_,λi hi=>?_⟩
   ·simp_all
   ·obtain rfl:=(V i).1 hi;refine zjD Z.1.symm h λa' w' T=>zlN r rest (listed.setIfInBounds i true) a' w' (by simpa using U) (λj N=>?_) k5 Z.2 T
    grind[zav]
def zjE:∀{m e:Nat},e<m->((List.range m).filter λj=>j==e)=[e]
 |0,e,h=>by omega
 |m+1,e,h=>by
  rw[vF,wR];by_cases Z:e=m
  ·grind[List.filter_eq_nil_iff]
  ·rw[zjE (by omega)]
   grind
def znM{P:Program}{C:Ctx}{ops:Array Oper}{st:St}{U:List Nat}{Q:Exit->St->Prop}{m e:Nat}{fs:List Fact}{o1 oe o2:Oper}{as:List Nat}(he:zfC ops=true)(h1:∀j,j<m->∃f∈fs,f.i=j)(h2:∀f∈fs,f.i<m/\∃fs0,(∀f'∈fs0,f'∈fs)/\Good P C ops st U Q f fs0)
 (x4:∀f∈fs,∀f'∈fs,f'.i=f.i->f'=f)(v8:ops.toList.drop m=[o1,o2])(u2:ops[e]? =some oe)(hok:okF st U fs=true)(hf:zdC ops m e as=true)
 (hA:Ex P C ops [o1,o2] (stOf st U (fs.map (·.i)) fs) Q)(hB:Ex P C ops [o1,oe,o2] (stOf st U ((noF e fs).map (·.i)) (noF e fs)) Q):
 ∀(n:Nat)(listed:Array Bool)(c:Nat)(g:Gh)(a:Act)(w:World),listed.size=ops.size->n=c+2→
 c=((List.range m).filter λj=>!listed.getD j false).length->listed.getD m false=false->listed.getD (m+1) false=false->zgu ops listed->RelD C st U fs (λj=>listed.getD j false=true) g a w->wpAnyIn C.F 0 P .any ops (lift C Q) n listed a w:=by
 simp only[zdC,j7]at hf;obtain⟨⟨⟨⟨⟨f1,f0⟩,f2⟩,f3⟩,f4⟩,f5⟩:=hf;have hU:ops.size=m+2:=by simpa using f1
 have u1:e<m:=by simpa using f0
 have V:∀i,i<ops.size->∀j∈dir ops i,j<i:=λi hi j Z=>by
  have:=jF.1 (jF.1 he i (by simpa using hi)) j Z;simpa using this
 have f3':∀j,j<m->j≠e->j∈as:=λj Z v5=>by
  have:=jF.1 f3 j (by simpa using Z);simp_all[zi]
 have g1:ops[m]? =some o1:=by have:(ops.toList.drop m)[0]? =some o1:=by rw[v8];rfl
                              simpa using this
 have g3:ops[m+1]? =some o2:=by have:(ops.toList.drop m)[1]? =some o2:=by rw[v8];rfl
                                simpa using this
 intro n
 induction n with
 |zero=>omega
 |succ n ih=>
  intro listed c g a w x3 hn hc k5 hQ T hr
  have x2:Region.ready .any ops listed≠[]:=by
   have key:∀k,(∃j,j<k/\j<ops.size/\listed.getD j false=false)->∃j,j<ops.size/\listed.getD j false=false/\∀i,i<j->listed.getD i false=true:=by
    intro k
    induction k with
    |zero=>rintro⟨j,h,_⟩;omega
    |succ k ihk=>
     rintro⟨j,h1,h2,h3⟩
     by_cases xT:∃j,j<k/\j<ops.size/\listed.getD j false=false
     ·exact ihk xT
     ·refine⟨j,h2,h3,λi hi=>?_⟩;cases hb:listed.getD i false with
      |true=>rfl
      |false=>exact absurd ⟨i,by omega,by omega,hb⟩ xT
   obtain⟨j,v4,j2,j0⟩:=key (m+1) ⟨m,by omega,by omega,k5⟩;have:j∈Region.ready .any ops listed:=zJ.2 ⟨v4,by rw[ziE (by omega)];exact j2,λi hi=>j0 i (V j v4 i hi)⟩
   grind
  refine⟨λe=>absurd e x2,λi hi=>?_⟩;obtain⟨r1,r2,r3⟩:=zJ.1 hi;rw[ziE (by omega)]at r2;by_cases hZ:i=m
  ·subst hZ;have N:∀j,j<i->j≠e->listed.getD j false=true:=λj Z v5=>zA T r3 f2 j (f3' j Z v5)
   cases v3:listed.getD e false with
   |true=>
    have J:∀j,j<i->listed.getD j false=true:=λj Z=>by
     by_cases h:j=e
     ·rw[h];exact v3
     ·exact N j Z h
    have hP:c=0:=by
     rw[hc];rw[uD.2 (λj Z=>?_)]
     ·rfl
     ·have Z:=wY.1 Z;simp[J j Z]
    have x1:n=1:=by omega
    subst x1
    have H:=hr.rel (fs0:=fs) (as:=fs.map (·.i)) (λf hf=>hf) (λj Z=>by
     obtain⟨f,E,rfl⟩:=jX.1 Z;exact J _ (h2 f E).1)
    refine zjD g1 (hA.wpl H) λa' w' h'=>zlN [i+1] [o2] _ a' w' (by simpa using x3) (λj Z=>?_) ⟨by omega,by simp,λj Z=>⟨by have:=V _ (by omega) j Z;omega,by simp,by have:=V _ (by omega) j Z;omega⟩,λy hy=>by simp at hy,trivial⟩ (by simp[g3]) h'
    grind[zav]
   |false=>
    have hM:c=1:=by
     rw[hc,xJ (q:=λj=>j==e) (λj Z=>?_),zjE u1]
     ·rfl
     ·have Z:=wY.1 Z;by_cases h:j=e
      ·subst h;simp[v3]
      ·simp[N j Z h,h]
    have x1:n=2:=by omega
    subst x1
    have H:=hr.rel (fs0:=noF e fs) (as:=(noF e fs).map (·.i)) (λf hf=>(wL.1 hf).1) (λj Z=>by
     obtain⟨f,E,rfl⟩:=jX.1 Z;have h3:=wL.1 E;exact N _ (h2 f h3.1).1 (by simpa using h3.2))
    refine zjD g1 (hB.wpl H) λa' w' h'=>zlN [e,i+1] [oe,o2] _ a' w' (by simpa using x3) (λj Z=>?_)
     ⟨by omega,by simp;omega,λj Z=>⟨by have:=V _ (by omega) j Z;omega,by simp;have:=V _ (by omega) j Z;omega,by have:=V _ (by omega) j Z;omega⟩,λy hy=>by simp at hy;subst hy;exact⟨e,zi.1 f5,by simp⟩,
      by omega,by simp,λj Z=>⟨by have:=V _ (by omega) j Z;omega,by simp,by have:=V _ (by omega) j Z;omega⟩,λy hy=>by simp at hy,trivial⟩ (by simp[u2,g3]) h'
    grind[zav]
  ·have v1:i<m:=by
    grind[zi]
   obtain⟨f,x0,hY⟩:=h1 i v1;subst hY;obtain⟨_,fs0,v0,ga,gd,gk⟩:=h2 f x0;have u3:=zA T r3 ga;refine gk g a w (hr.rel v0 u3) _ λv w' g' k1 k2 k3 k4=>?_
   have e:((List.range m).filter λj=>!(listed.setIfInBounds f.i true).getD j false)=((List.range m).filter λj=>!listed.getD j false).filter (λj=>!(j==f.i)):=by
    rw[List.filter_filter];refine xJ λj Z=>?_
    grind[zav]
   have hX:((List.range m).filter λj=>!listed.getD j false).Nodup:=List.nodup_range.filter _;have w2:f.i∈((List.range m).filter λj=>!listed.getD j false):=wL.2 ⟨wY.2 v1,by simp[r2]⟩;have h3:=List.length_erase_of_mem w2;rw[hX.erase_eq_filter]at h3;have hT:0<c:=by grind
   refine ih (listed.setIfInBounds f.i true) (c-1) g' _ w' (by simpa using x3) (by omega) ?_ ?_ ?_ (λk hW v9 j Z=>?_) (hr.add x0 hok (by rw[r2];simp) (x4 f x0) (λj Z=>?_) (λf' E hD w2=>?_) gd k1 k2 k3 k4)
   ·grind
   ·simp_all
   ·grind[zav]
   ·rw[zav (by omega)]at v9⊢;split
    ·rfl
    ·split at v9
     ·grind
     ·exact T k hW v9 j Z
   ·grind[zav]
   ·obtain⟨q1,fs1,_,qa,_,_⟩:=h2 f' E;have h3:=zA T (T f'.i (by omega) hD) qa f.i w2;simp_all
def zxt{P:Program}{C:Ctx}{id:Nat}{l:List Oper}{st:St}{Q:Exit->St->Prop}(V:List Nat)(hm:P.follows .mixedOrders=true)(he:zfC l.toArray=true)(h:Chain P C l.toArray st V Q 0 []):X P C (.region id l.toArray true) st Q:=λg a w hr=>by
 obtain⟨m,fs,as,h1,h2,hu,N⟩:=h.collect (λj hj=>by omega) (λf hf=>by simp at hf) (λf hf=>by simp at hf);refine wpIn_region_any hm ?_;have Z:Rel C st g a w.drew:=hr.add (nk:=none) (d:=none) (x:=.any) (v:=.nilIface) ⟨Im.le_refl _,λ_ _=>rfl,λ_ _=>rfl,Grow.drew w⟩ (λk h=>by simp at h) (λt h=>by simp at h) (.any _) hr.sat.im hr.sat.ob
 have U:∀j,(Array.replicate l.toArray.size false).getD j false=false:=λj=>by
  simp only[jK,Array.getElem?_replicate];split<;>rfl
 have T:∀fs':List Fact,RelD C st V fs' (λj=>(Array.replicate l.toArray.size false).getD j false=true) g a w.drew:=λfs'=>
  ⟨Z.size,Z.defers,λf _ hD=>by simp_all,λt x _ hx=>Z.tmps t x hx,λf _ hD=>by simp_all,Z.sat.blk,⟨Z.sat.im,Z.sat.ob⟩,Z.ext⟩
 rcases N with⟨hok,hf,J⟩|⟨e,o1,oe,o2,H,E,hok,hf,hA,hB⟩
 ·have xT:m<=l.toArray.size:=by
   simp only[ze8,j7]at hf;simpa using hf.1
  refine zpP he h1 h2 hu hok hf J l.toArray.size (Array.replicate l.toArray.size false) m g a w.drew (by simp) (by omega) ?_ (λj _ _=>U j) (λi _ hi=>by rw[U]at hi;simp at hi) (T fs)
  grind[List.filter_eq_self]
 ·have x4:l.toArray.size=m+2:=by
   simp only[zdC,j7]at hf;simpa using hf.1.1.1.1.1
  refine znM he h1 h2 hu H E hok hf hA hB l.toArray.size (Array.replicate l.toArray.size false) m g a w.drew (by simp) (by omega) ?_ (U _) (U _) (λi _ hi=>by rw[U]at hi;simp at hi) (T fs)
  grind[List.filter_eq_self]
end Go.Rse
namespace Go.Rse
open Go Go.RowKit
def zjF{C:Ctx}{st:St}{g:Gh}{a:Act}{w:World}{ops:Array Oper}{i t:Nat}{b:Bool}(hr:Rel C st g a w)(hi:(ops[i]?).bind (·.dst)=some t)(Z:lk st.t t=some (.bool b)):yielded ops a.tmps i=some b:=by
 have:=zn (hr.tmps t _ Z)
 have e:a.tmps[t]? =some (.bool b):=by
  simp only[jK]at this
  grind[undef]
 simp[yielded,hi,e]
section
variable{P:Program}{C:Ctx}{ops:Array Oper}{st:St}{Q:Exit->St->Prop}{rest:List Oper}{d:Nat}{op:Op}{ty:TypeId}{pos:String}{af:Array Edge}{x:AV}{i t:Nat}{want b:Bool}
def zrH{nb:Option (Nat×Blk)}(hi:(ops[i]?).bind (·.dst)=some t)(V:lk st.t t=some (.bool b))(E:(b==want)=true)(hs:yA P C op ty st x nb)(U:d.blt C.n=true)(T:nbOk st nb=true)(h:Ex P C ops rest (addSt st (some d) x nb) Q):
 Ex P C ops ({dst:=some d,op:=op,type:=ty,pos:=pos,after:=af,guard:=some (i,want)}::rest) st Q:=λg a w hr=>by
 have hy:=zjF hr hi V;unfold wpListIn;rw[j4 (by simp_all[Region.wanted])];exact zaz (hs g a w (some d) pos af (some (i,want)) hr _ λv w' g' N J Z H=>h g' _ w' (hr.addSt N U T J Z.1 Z.2 H))
def zAq(hi:(ops[i]?).bind (·.dst)=some t)(Z:lk st.t t=some (.bool b))(T:(b==want)=false)(V:d.blt C.n=true)(h:Ex P C ops rest {t:=(d,.tup [])::st.t,h:=st.h} Q):
 Ex P C ops ({dst:=some d,op:=op,type:=ty,pos:=pos,after:=af,guard:=some (i,want)}::rest) st Q:=λg a w hr=>by
 have N:=zjF hr hi Z;unfold wpListIn;rw[j3 (by simp_all[Region.wanted])];exact⟨λf _=>C.F_fn f,h g _ w (hr.addSt (d:=some d) (nb:=none) (Add.refl _ g w) V rfl (.tup [] [] rfl (λj c v U=>by simp at U)) hr.sat.im hr.sat.ob (λ_ _ h=>by cases h))⟩
def zmN{l:List Oper}(want:Bool)(_hb:lk st.t t=some (.bool b))(Z:(b==want)=true->Ex P C ops l st Q)(V:(b==want)=false->Ex P C ops l st Q):Ex P C ops l st Q:=by
 grind
def zmO{c y z:Operand}{u:AV}(Z:ev st c=some (.bool b))(V:b=true)(hx:ev st y=some u):Pur P C (.pick c y z) ty st u:=λg a w dst pos af gd hr=>by
 have ec:=zn (yu hr Z);subst V;exact⟨a.eval y,by simp[execOp,ec,asBool],yu hr hx⟩
def zel{c y z:Operand}{u:AV}(Z:ev st c=some (.bool b))(V:b=false)(hx:ev st z=some u):Pur P C (.pick c y z) ty st u:=λg a w dst pos af gd hr=>by
 have ec:=zn (yu hr Z);subst V;exact⟨a.eval z,by simp[execOp,ec,asBool],yu hr hx⟩
end
def ltB{a b:Nat}(h:a.blt b=true):a<b:=by simpa using h
def leB{a b:Nat}(h:a.ble b=true):a<=b:=by simpa using h
end Go.Rse
namespace Go.Rse
open Go Go.RowKit
def zbo(P:Program)(t:TypeId):Bool:=match P.underlying t with|some (.struct _)=>true|some (.array _ _)=>true|_=>false
def kAV:AV->Nat
 |.int .i64 _=>1
 |.int _ _=>3
 |.bool _=>2
 |_=>0
def flat(P:Program):Nat->TypeId->List Nat
 |0,_=>[]
 |d+1,t=>match P.underlying t with
  |some .bool=>[2]
  |some (.int k)=>[if k=.i64 then 1 else 3]
  |some (.struct fs)=>fs.toList.flatMap λf=>flat P d f.type
  |_=>[]
def zdq(P:Program)(E:TypeId->Bool)(F:TypeId->List Nat):Nat->List Field->Nat->Bool
 |off,[],n=>off==n
 |off,f::fs,n=>f.offset==off&&(f.name != "_")&&tyOk P f.type (zbo P f.type) (P.cellsOf f.type)&&((zbo P f.type||P.cellsOf f.type==1)&&(F f.type).length==P.cellsOf f.type)&&E f.type&&zdq P E F (off+P.cellsOf f.type) fs n
def eqOk(P:Program):Nat->TypeId->Bool
 |0,_=>false
 |d+1,t=>match P.underlying t with
  |some .bool=>true
  |some (.int _)=>true
  |some (.struct fs)=>!P.stoodInHeld t&&zdq P (eqOk P d) (flat P d) 0 fs.toList (P.cellsOf t)
  |_=>false
def valT(P:Program)(t:TypeId)(vs:List Value):Value:=if zbo P t then .agg vs.toArray else vs.headD .nilIface
def zkI:∀(n:Nat){xs ys:List AV}{b:Bool},eqL xs ys=some b->∃b1 b2,eqL (xs.take n) (ys.take n)=some b1/\eqL (xs.drop n) (ys.drop n)=some b2/\b=(b1&&b2)
 |0,xs,ys,b,h=>⟨true,b,by simp[eqL],by simpa using h,by simp⟩
 |n+1,[],[],b,h=>by simp[eqL]at h;subst h;exact⟨true,true,by simp[eqL],by simp[eqL],rfl⟩
 |n+1,[],y::ys,b,h=>by simp[eqL]at h
 |n+1,x::xs,[],b,h=>by simp[eqL]at h
 |n+1,x::xs,y::ys,b,h=>by
  simp only[eqL]at h;cases hx:eqAV x y with
  |none=>simp[hx]at h
  |some p=>
   cases Z:eqL xs ys with
   |none=>simp[hx,Z]at h
   |some q=>
    simp only[hx,Z,Option.some.injEq]at h;subst h;obtain⟨b1,b2,V,U,T⟩:=zkI n Z;refine⟨p&&b1,b2,by simp only[List.take_succ_cons,eqL,hx,V],by simpa using U,by rw[T,u7]⟩
def RVL.take{I:Im}{ρ:Nat->Value}{xs:List AV}{vs:List Value}(n:Nat)(h:RVL I ρ xs vs):RVL I ρ (xs.take n) (vs.take n):=by
 refine⟨by simp[h.1],λj c v Z hv=>?_⟩;rw[w8]at Z hv;split at Z
 ·rename_i V;rw[j4 V]at hv;exact h.2 j c v Z hv
 ·simp at Z
def RVL.drop{I:Im}{ρ:Nat->Value}{xs:List AV}{vs:List Value}(n:Nat)(h:RVL I ρ xs vs):RVL I ρ (xs.drop n) (vs.drop n):=by
 refine⟨by simp[h.1],λj c v Z hv=>?_⟩;rw[w7]at Z hv;exact h.2 _ c v Z hv
def EqD(P:Program)(D:Nat)(t:TypeId)(L:List Nat):Prop:=∀(I:Im)(ρ:Nat->Value)(xs ys:List AV)(vs us:List Value)(b:Bool)(w:World),RVL I ρ xs vs->RVL I ρ ys us->xs.map kAV=L->ys.map kAV=L->(zbo P t=true->xs.length=P.cellsOf t)->eqL xs ys=some b→
 (Op.equalIn D t (valT P t vs) (valT P t us)).run P w=.ok b w
def zlO:∀{xs ys:List AV}{b:Bool},eqL xs ys=some b->xs.length=ys.length
 |[],[],_,_=>rfl
 |[],_::_,_,h=>by simp[eqL]at h
 |_::_,[],_,h=>by simp[eqL]at h
 |x::xs,y::ys,b,h=>by
  simp only[eqL]at h;cases hx:eqAV x y with
  |none=>simp[hx]at h
  |some p=>
   cases Z:eqL xs ys with
   |none=>simp[hx,Z]at h
   |some q=>simp[zlO Z]
def zkJ{P:Program}{E:TypeId->Bool}{F:TypeId->List Nat}:∀{fs:List Field}{off n:Nat},zdq P E F off fs n=true->off<=n
 |[],off,n,h=>by simp[zdq]at h;omega
 |f::fs,off,n,h=>by
  simp only[zdq,j7]at h;have:=zkJ h.2;omega
def zhj{P:Program}{t:TypeId}(ht:tyOk P t (zbo P t) (P.cellsOf t)=true)(T:zbo P t=true\/P.cellsOf t=1){vs:List Value}{off:Nat}(hl:off+P.cellsOf t<=vs.length)(w:World):(part t vs.toArray off).run P w=.ok (valT P t ((vs.drop off).take (P.cellsOf t))) w:=by
 have key:vs.toArray.extract off (off+P.cellsOf t)=((vs.drop off).take (P.cellsOf t)).toArray:=by
  simp[List.extract_toArray,List.extract]
 unfold part valT;by_cases U:zbo P t=true
 ·rw[U]at ht;simp only[jM,zcU ht,jB,if_true,yY ht,jN,key,U]
 ·have N:P.cellsOf t=1:=by rcases T with h|h;exact absurd h U;exact h
  have Z:zbo P t=false:=by simpa using U
  rw[Z]at ht;have V:off<vs.length:=by omega
  have e:vs.toArray[off]? =some vs[off]:=by simp[V]
  simp only[jM,zcU ht,jB,xW,if_false,e,jN,Z,N];rw[jG V];rfl
def zjG{P:Program}{D:Nat}{E:TypeId->Bool}{F:TypeId->List Nat}(hE:∀t,E t=true->EqD P D t (F t)):∀(fs:List Field)(off n:Nat),zdq P E F off fs n=true->∀(I:Im)(ρ:Nat->Value)(xs ys:List AV)(vs us:List Value)(b:Bool)(w:World),RVL I ρ xs vs->RVL I ρ ys us->xs.length=n->ys.length=n→
 (xs.drop off).map kAV=fs.flatMap (λf=>F f.type)->(ys.drop off).map kAV=fs.flatMap (λf=>F f.type)→
 eqL (xs.drop off) (ys.drop off)=some b->(Op.eqFields D vs.toArray us.toArray fs).run P w=.ok b w
 |[],off,n,h,I,ρ,xs,ys,vs,us,b,w,hx,U,Z,V,kx,ky,he=>by
  simp[zdq]at h;rw[wB (by omega),wB (by omega)]at he;simp[eqL]at he;subst he;simp[Op.eqFields]
 |f::fs,off,n,h,I,ρ,xs,ys,vs,us,b,w,hx,U,Z,V,kx,ky,he=>by
  simp only[zdq,j7,beq_iff_eq,wE]at h;obtain⟨⟨⟨⟨⟨h1,h2⟩,N⟩,J,T⟩,h5⟩,H⟩:=h;have xT:=zkJ H;have hn:f.name≠ "_" :=by simpa using h2
  simp only[wV]at kx ky
  have spl:∀{zs:List AV},(zs.drop off).map kAV=F f.type++fs.flatMap (λf=>F f.type)->((zs.drop off).take (P.cellsOf f.type)).map kAV=F f.type/\(zs.drop (off+P.cellsOf f.type)).map kAV=fs.flatMap (λf=>F f.type):=λhz=>by
   constructor
   ·rw[List.map_take,hz,wW (by omega),wI (by omega)]
   ·rw[←xX,List.map_drop,hz,←T,List.drop_left]
  obtain⟨b1,b2,e1,e2,e3⟩:=zkI (P.cellsOf f.type) he;have q1:=hE f.type h5 I ρ _ _ _ _ b1 w ((hx.drop off).take (P.cellsOf f.type)) ((U.drop off).take (P.cellsOf f.type)) (spl kx).1 (spl ky).1 (λha=>by simp;omega) e1;have p1:=zhj N J (vs:=vs) (off:=off) (by rw[hx.1];omega) w;have p2:=zhj N J (vs:=us) (off:=off) (by rw[U.1];omega) w;rw[xX,xX]at e2;have q2:=zjG hE fs (off+P.cellsOf f.type) n H I ρ xs ys vs us b2 w hx U Z V (spl kx).2 (spl ky).2 e2;rw[Op.eqFields,j4 hn,h1];simp only[jM,p1,jB,p2,q1];subst e3;cases b1
  ·simp
  ·simpa using q2
def eqAt{P:Program}:∀(d:Nat)(t:TypeId),eqOk P d t=true->∀D,d<=D->EqD P D t (flat P d t)
 |0,t,h,D,hD=>by simp[eqOk]at h
 |d+1,t,h,D,hD=>λI ρ xs ys vs us b w hx N kx ky ha he=>by
  obtain⟨D',rfl⟩:∃D',D=D'+1:=⟨D-1,by omega⟩;unfold eqOk at h;unfold flat at kx ky
  have sc:∀q:Nat,zbo P t=false->xs.map kAV=[q]->ys.map kAV=[q]->(∀x y v u p,kAV x=q->kAV y=q->RV I ρ x v->RV I ρ y u->eqAV x y=some p->(Op.equalIn (D'+1) t v u).run P w=.ok p w)->(Op.equalIn (D'+1) t (valT P t vs) (valT P t us)).run P w=.ok b w:=λq U k1 k2 xT=>by
   have hl:xs.length=1:=by have:=j6 List.length k1;simpa using this
   have x4:=zlO he;unfold valT;rw[U]
   match xs,ys,vs,us,hl,x4,hx,N,he,k1,k2 with
   |[x],[y],[v],[u],_,_,hx,N,he,k1,k2=>
    simp only[eqL]at he;cases hq:eqAV x y with
    |none=>simp[hq]at he
    |some p=>
     simp[hq]at he;subst he;simp at k1 k2;exact xT x y v u p k1 k2 (hx.2 0 x v rfl rfl) (N.2 0 y u rfl rfl) hq
   |[_],[_],[],_,_,_,hx,_,_,_,_=>simp[RVL]at hx
   |[_],[_],_::_::_,_,_,_,hx,_,_,_,_=>simp[RVL]at hx
   |[_],[_],[_],[],_,_,_,N,_,_,_=>simp[RVL]at N
   |[_],[_],[_],_::_::_,_,_,_,N,_,_,_=>simp[RVL]at N
  cases Z:P.underlying t with
  |none=>simp[Z]at h
  |some T=>
   cases T with
   |bool=>
    simp only[Z]at kx ky;refine sc 2 (by simp[zbo,Z]) kx ky λx y v u p h1 h2 J H V=>?_
    unfold eqAV at V;split at V
    ·simp[kAV]at h1
    ·rename_i a c;rw[zn J,zn H];simp at V;subst V;exact run_equalIn_bool' w D' t a c Z
    ·simp at V
   |int k=>
    simp only[Z]at kx ky;refine sc _ (by simp[zbo,Z]) kx ky λx y v u p h1 h2 J H V=>?_
    unfold eqAV at V;split at V
    ·rename_i a c;rw[yW J,yW H];simp at V;subst V;rw[run_equalIn_int w D' t .i64 k a c Z];rfl
    ·simp only[kAV]at h1;split at h1<;>simp at h1
    ·simp at V
   |struct fs=>
    simp only[Z,j7,wG]at h;simp only[Z]at kx ky;have U:zbo P t=true:=by simp[zbo,Z]
    have hf:P.fieldsOf t=fs:=by simp[Program.fieldsOf,Z]
    have hn:=ha U;unfold valT;rw[U];simp only[if_true];rw[run_equalIn_struct w D' t vs.toArray us.toArray (by rw[hf];exact Z) h.1,hf];exact zjG (E:=eqOk P d) (F:=flat P d) (λt' x3=>eqAt d t' x3 D' (by omega)) fs.toList 0 _ h.2 I ρ xs ys vs us b w hx N hn (by rw[←zlO he];exact hn) (by simpa using kx) (by simpa using ky) (by simpa using he)
   |_=>simp[Z]at h
def zcv{P:Program}{t:TypeId}{d:Nat}(h:eqOk P d t=true)(U:d<=10000){xs ys:List AV}{vs us:List Value}{I:Im}{ρ:Nat->Value}{b:Bool}{w:World}(hx:RVL I ρ xs vs)(N:RVL I ρ ys us)(Z:tyOk P t true xs.length=true)
 (kx:xs.map kAV=flat P d t)(ky:ys.map kAV=flat P d t)(he:eqL xs ys=some b):(Op.equal t (.agg vs.toArray) (.agg us.toArray)).run P w=.ok b w:=by
 have J:zbo P t=true:=by
  simp only[tyOk,j7]at Z;obtain⟨_,H⟩:=Z;unfold zbo;cases E:P.underlying t with
  |none=>simp[E]at H
  |some T=>cases T<;>simp_all
 have V:=eqAt d t h 10000 U I ρ xs ys vs us b w hx N kx ky (λ_=>by
  simp only[tyOk,j7]at Z;obtain⟨V,_⟩:=Z;unfold Program.cellsOf;cases hi:P.info? t with
  |none=>simp[hi]at V
  |some i=>simp[hi]at V⊢;omega) he
 unfold valT at V;rw[J]at V;exact V
section
variable{P:Program}{C:Ctx}{st:St}{ty:TypeId}
def zrI{t:TypeId}{x y:Operand}{yt:TypeId}{xs ys:List AV}{b:Bool}{L:List Nat}{d:Nat}(h:(eqOk P d t&&decide (d<=10000))=true)(U:flat P d t=L)(hm:P.eqGuardType P.depth t=false)(ht:tyOk P t true xs.length=true)(hx:ev st x=some (.agg xs))(T:ev st y=some (.agg ys))(kx:xs.map kAV=L)(ky:ys.map kAV=L)(he:eqL xs ys=some b):
 Pur P C (.binOp .eql t x y yt) ty st (.bool b):=λg a w dst pos af gd hr=>by
 simp at h;obtain⟨vs,e,hl,hv⟩:=zbX (yu hr hx);obtain⟨us,e',Z,V⟩:=zbX (yu hr T);refine⟨.bool b,?_,.bool _⟩;have N:=zcv (w:=w) h.1 h.2 ⟨hl,hv⟩ ⟨Z,V⟩ ht (kx.trans U.symm) (ky.trans U.symm) he;simp only[execOp,e,e',jM,zd3 hm,jB,binOp,N,jN]
def zrJ{t:TypeId}{x y:Operand}{yt:TypeId}{xs ys:List AV}{b:Bool}{L:List Nat}{d:Nat}(h:(eqOk P d t&&decide (d<=10000))=true)(U:flat P d t=L)(hm:P.eqGuardType P.depth t=false)(ht:tyOk P t true xs.length=true)(hx:ev st x=some (.agg xs))(T:ev st y=some (.agg ys))(kx:xs.map kAV=L)(ky:ys.map kAV=L)(he:eqL xs ys=some b):
 Pur P C (.binOp .neq t x y yt) ty st (.bool (!b)):=λg a w dst pos af gd hr=>by
 simp at h;obtain⟨vs,e,hl,hv⟩:=zbX (yu hr hx);obtain⟨us,e',Z,V⟩:=zbX (yu hr T);refine⟨.bool (!b),?_,.bool _⟩;have N:=zcv (w:=w) h.1 h.2 ⟨hl,hv⟩ ⟨Z,V⟩ ht (kx.trans U.symm) (ky.trans U.symm) he;simp only[execOp,e,e',jM,zd3 hm,jB,binOp,N,jN]
end
end Go.Rse
