/-
  The program's data as plain structures, and how they lie in memory.
  Structs held against each other, by type.
  Short forms: rules whose premises are looked for by themselves.
  Functions that are handed blocks and leave more of their own; calls of such, in short form.
  Shifts and bits of small ints.
  Maps of one's own by ints: make, update, lookup with its word.
  What holds at a point, with facts on boxes at hand; the zero value of a map's elements.
  Copies into a row of one's own, its head as a slice, functions held against nil, operations behind a guard that is shut.
  The logic: a part of a row, read.
  Rules: blocks of one's own are lent for a call that only reads; maps that do not change.
  Maps of one's own by structs of two integers: update; range over a map of one's own.
  A row's tail is cleared: its zero may hold nil slices.
-/
import Derived.Test.YtkpbljifckjeoaaGreatDoorYTy
import Derived.Test.YtkpbljifckjeoaaGreatDoorYLogB
import Derived.MapKept
import Derived.WideKeyRuns
import Derived.ChangeKeysEq
import Derived.Maps.RangeRun
set_option linter.unusedSimpArgs false
set_option linter.unusedVariables false
namespace Go.Rse
open Go Go.RowKit
structure Mn where
 Max : Int
 Mod : Int
 Tem : Int
 Pro : Int
 deriving DecidableEq
structure Tm where
 N : Int
 D : Int
 deriving DecidableEq
structure Sg where
 Kind : Int
 Value : Int
 Place : Int
 Acc : Int
 Color : Bool
 Stem : Int
 Oblique : Bool
 Last : Bool
 Mens : Mn
 Stroke : Bool
 N : Int
 D : Int
 CStep : Int
 CLine : Int
 deriving DecidableEq
instance : Inhabited Tm := ⟨⟨0, 0⟩⟩
instance : Inhabited Sg := ⟨⟨0, 0, 0, 0, false, 0, false, false, ⟨0, 0, 0, 0⟩, false, 0, 0, 0, 0⟩⟩
abbrev iv (n : Int) : AV := .int .i64 n
def intE : Int -> List AV := fun n => [.int .i64 n]
def y6 : Bool -> List AV := fun b => [.bool b]
def mnE : Mn -> List AV := fun m => [.int .i64 m.Max, .int .i64 m.Mod, .int .i64 m.Tem, .int .i64 m.Pro]
def tmE : Tm -> List AV := fun t => [.int .i64 t.N, .int .i64 t.D]
def sgE : Sg -> List AV := fun s => [.int .i64 s.Kind, .int .i64 s.Value, .int .i64 s.Place, .int .i64 s.Acc, .bool s.Color, .int .i64 s.Stem, .bool s.Oblique, .bool s.Last, .int .i64 s.Mens.Max, .int .i64 s.Mens.Mod, .int .i64 s.Mens.Tem, .int .i64 s.Mens.Pro, .bool s.Stroke, .int .i64 s.N, .int .i64 s.D, .int .i64 s.CStep, .int .i64 s.CLine]
def zml : List Int -> List AV := fun l => [.sl intE l]
abbrev yf (l : List Int) : AV := .sl intE l
abbrev zcu (l : List Bool) : AV := .sl y6 l
abbrev mnA (m : Mn) : AV := .agg (mnE m)
abbrev tmA (t : Tm) : AV := .agg (tmE t)
abbrev sgA (s : Sg) : AV := .agg (sgE s)
abbrev sgsA (l : List Sg) : AV := .sl sgE l
abbrev tmsA (l : List Tm) : AV := .sl tmE l
abbrev zfN (l : List (List Int)) : AV := .sl zml l
end Go.Rse
namespace Go.Rse
open Go Go.RowKit
section
variable {P : Program} {C : Ctx} {st : St} {ty : TypeId}
theorem zm3 {t : TypeId} {x y : Operand} {yt : TypeId} {xs ys : List AV} {b : Bool} {L : List Nat} {d n : Nat} (h : (eqOk P d t && decide (d <= 10000)) = true) (hL : flat P d t = L) (hm : P.eqGuardType P.depth t = false) (ht : tyOk P t true n = true) (hx : ev st x = some (.agg xs)) (hy : ev st y = some (.agg ys)) (hn : xs.length = n) (kx : xs.map kAV = L) (ky : ys.map kAV = L) (he : eqL xs ys = some b) :
 Pur P C (.binOp .eql t x y yt) ty st (.bool b) := zoC h hL hm (hn ▸ ht) hx hy kx ky he
theorem zm4 {t : TypeId} {x y : Operand} {yt : TypeId} {xs ys : List AV} {b : Bool} {L : List Nat} {d n : Nat} (h : (eqOk P d t && decide (d <= 10000)) = true) (hL : flat P d t = L) (hm : P.eqGuardType P.depth t = false) (ht : tyOk P t true n = true) (hx : ev st x = some (.agg xs)) (hy : ev st y = some (.agg ys)) (hn : xs.length = n) (kx : xs.map kAV = L) (ky : ys.map kAV = L) (he : eqL xs ys = some b) :
 Pur P C (.binOp .neq t x y yt) ty st (.bool (!b)) := zoD h hL hm (hn ▸ ht) hx hy kx ky he
end
theorem y8 {x y : AV} {xs ys : List AV} {p q : Bool} (h : eqAV x y = some p) (h' : eqL xs ys = some q) : eqL (x :: xs) (y :: ys) = some (p && q) := by simp only [eqL, h, h']
theorem zmm (a b : Tm) : eqL (tmE a) (tmE b) = some (decide (a = b)) := by
 cases a; cases b;refine (y8 rfl (y8 rfl rfl)).trans ?_;simp [Bool.decide_and]
theorem zmn (a b : Sg) : eqL (sgE a) (sgE b) = some (decide (a = b)) := by
 obtain ⟨a1, a2, a3, a4, a5, a6, a7, a8, ⟨a9, a10, a11, a12⟩, a13, a14, a15, a16, a17⟩ := a;obtain ⟨b1, b2, b3, b4, b5, b6, b7, b8, ⟨b9, b10, b11, b12⟩, b13, b14, b15, b16, b17⟩ := b;refine (y8 rfl (y8 rfl (y8 rfl (y8 rfl (y8 rfl (y8 rfl (y8 rfl (y8 rfl (y8 rfl (y8 rfl (y8 rfl (y8 rfl (y8 rfl (y8 rfl (y8 rfl (y8 rfl (y8 rfl rfl))))))))))))))))).trans ?_;simp only [Sg.mk.injEq, Mn.mk.injEq, Bool.decide_and, Bool.and_assoc, Bool.and_true, Bool.beq_eq_decide_eq]
end Go.Rse
namespace Go.Rse
open Go Go.RowKit
class EncK {α : Type} (enc : α -> List AV) (s : outParam Nat) : Prop where
 h : ∀ z, (enc z).length = s
instance : EncK tmE 2 := ⟨fun _ => rfl⟩
instance : EncK sgE 17 := ⟨fun _ => rfl⟩
class TyK (P : Program) (t : Nat) (ag : outParam Bool) (n : outParam Nat) : Prop where
 h : tyOk P t ag n = true
class SlK (P : Program) (t : Nat) (E : outParam Nat) : Prop where
 h : slOk P t E = true
class FoK (P : Program) (s f : Nat) (off : outParam Nat) : Prop where
 h : yQ P s f off = true
class TiK (P : Program) (E : Nat) (z : outParam Value) (s bytes : outParam Nat) : Prop where
 h : zL P E z s bytes
class ArK (P : Program) (t : Nat) (n E : outParam Nat) : Prop where
 h : zci P t n E = true
class PlK (P : Program) (t : Nat) (pl : outParam (List (Nat × Nat))) : Prop where
 h : zY P t = some pl /\ zw P t = true
class ZcK (P : Program) (t : Nat) (cs : outParam (List AV)) : Prop where
 h : zb P t cs
class ZeK (P : Program) (t : Nat) (z : outParam Value) : Prop where
 h : (P.info? t).bind (·.zero) = some z
class EqK (P : Program) (t : Nat) (L : outParam (List Nat)) : Prop where
 h : (eqOk P 5 t && decide (5 <= 10000)) = true /\ flat P 5 t = L /\ P.eqGuardType P.depth t = false
section
variable {P : Program} {C : Ctx} {st : St} {ty : TypeId} {Q : Exit -> St -> Prop}
theorem zfw {t : TypeId} {x y : Operand} {yt : TypeId} {xs ys : List AV} {b : Bool} {L : List Nat} {n : Nat} (he : eqL xs ys = some b) (h : EqK P t L) (ht : tyOk P t true n = true) (hx : ev st x = some (.agg xs)) (hy : ev st y = some (.agg ys)) (hn : xs.length = n) (kx : xs.map kAV = L) (ky : ys.map kAV = L) :
 Pur P C (.binOp .eql t x y yt) ty st (.bool b) := zm3 h.h.1 h.h.2.1 h.h.2.2 ht hx hy hn kx ky he
theorem zca {t : TypeId} {x y : Operand} {yt : TypeId} {xs ys : List AV} {b : Bool} {L : List Nat} {n : Nat} (he : eqL xs ys = some b) (h : EqK P t L) (ht : tyOk P t true n = true) (hx : ev st x = some (.agg xs)) (hy : ev st y = some (.agg ys)) (hn : xs.length = n) (kx : xs.map kAV = L) (ky : ys.map kAV = L) :
 Pur P C (.binOp .neq t x y yt) ty st (.bool (!b)) := zm4 h.h.1 h.h.2.1 h.h.2.2 ht hx hy hn kx ky he
theorem zgG {I : Im} {ρ : Nat -> Value} {b : Bool} {x : AV} {v : Value} (h : RV I ρ (.opt b x) v) : (b = true -> RV I ρ x v) /\ (b = false -> v = .tuple #[]) := by
 cases h; exact ⟨by assumption, by assumption⟩
theorem ztl {c x : Operand} {b y : Bool} (hc : ev st c = some (.bool b)) (hx : ev st x = some (.opt (b == true) (.bool y))) : Pur P C (.pick c x (.const (.bool false))) ty st (.bool (b && y)) := fun g a w dst pos af gd hr => by
 have ec := zg (yn hr hc);cases b with
 | true =>
  have ex := zg ((zgG (yn hr hx)).1 rfl);exact ⟨a.eval x, by simp [execOp, ec, asBool], by rw [ex]; exact .bool _⟩
 | false =>
  have e0 : a.eval (.const (.bool false)) = .bool false := rfl;exact ⟨.bool false, by simp [execOp, ec, asBool, e0], .bool _⟩
theorem zvN {c x : Operand} {b y : Bool} (hc : ev st c = some (.bool b)) (hx : ev st x = some (.opt (b == false) (.bool y))) : Pur P C (.pick c (.const (.bool true)) x) ty st (.bool (b || y)) := fun g a w dst pos af gd hr => by
 have ec := zg (yn hr hc);cases b with
 | false =>
  have ex := zg ((zgG (yn hr hx)).1 rfl);exact ⟨a.eval x, by simp [execOp, ec, asBool], by rw [ex]; exact .bool _⟩
 | true =>
  have e0 : a.eval (.const (.bool true)) = .bool true := rfl;exact ⟨.bool true, by simp [execOp, ec, asBool, e0], .bool _⟩
theorem zle {α : Type} {enc : α -> List AV} {l : List α} {x y : Operand} {t E : TypeId} {ag : Bool} {s : Nat} {kk : IntKind} {i : Int} (hx : ev st x = some (.sl enc l)) (hy : ev st y = some (.int kk i))
 (h : slOk P t E = true) (hs : tyOk P E ag s = true) [he : EncK enc s] [Inhabited α] (h0 : 0 <= i) (h1 : i < l.length) :
 Pur P C (.indexAddr t x y) ty st (.ept enc (l.getD i.toNat default) 0) := zc2 hx hy h hs he.h h0 (by
 rw [List.getD_eq_getElem?_getD, List.getElem?_eq_getElem (by omega)]; rfl)
theorem zgl {α : Type} {enc : α -> List AV} {u : α} {t : TypeId} {x : Operand} {n j : Nat} {ys : List AV} (hx : ev st x = some (.ept enc u j)) (hy : ((enc u).drop j).take n = ys) (hl : ys.length = n) (hn : AV.nm.nmL ys = true)
 (ht : tyOk P t true n = true) : Pur P C (.load t x) ty st (.agg ys) := fun g a w dst pos af gd hr => by
 obtain ⟨b, o, vs, e, h1, h2⟩ := zgx (yn hr hx);have hlen : ((List.range n).map fun i => vs (j + i)).length = n := by simp
 have hget : ∀ i c, ys[i]? = some c -> i < n /\ (enc u)[j + i]? = some c := fun i c hc => by
  have hi : i < n := by rw [← hl]; exact (List.getElem?_eq_some_iff.1 hc).1
  rw [← hy, List.getElem?_take, if_pos hi, List.getElem?_drop] at hc;exact ⟨hi, hc⟩
 refine ⟨.agg ((List.range n).map fun i => vs (j + i)).toArray, ?_, .agg _ _ (by rw [hlen, hl]) (fun i c v hc hv => ?_)⟩
 ·have := zC (P := P) (t := t) ht (b := b) (o := o + j) (w := w) (vs := (List.range n).map fun i => vs (j + i)) hlen (fun i v hv => by
   rw [List.getElem?_map] at hv;by_cases hi : i < n
   ·simp [List.getElem?_range hi] at hv;subst hv;have hc : i < ys.length := by omega
    have hz := (hget i _ (List.getElem?_eq_getElem hc)).2;have := (hr.sat.im _ _ _ (h1 (j + i) (List.getElem?_eq_some_iff.1 hz).1)).1;rw [Nat.add_assoc]; exact this
   ·simp [List.getElem?_eq_none (l := List.range n) (i := i) (by simp; omega)] at hv)
  simp only [execOp, e, Sem.run_bind, Instr.loadAt, Instr.sureAddr, Sem.run_pure, Result.andThen_ok, this]
 ·obtain ⟨hi, hz⟩ := hget i c hc;rw [List.getElem?_map, List.getElem?_range hi] at hv;simp at hv; subst hv;exact (h2 (j + i) c hz).forget (zo hn hc)
theorem yk {x : Operand} {k s i j : Nat} (h : ev st x = some (.ptr k s i j)) : Pur P C (.nilCheck x) ty st (.ptr k s i j) := fun g a w dst pos af gd hr => by
 have hv := yn hr h;obtain ⟨b, _, e⟩ := zV hv;exact ⟨_, by simp [execOp, e], e ▸ hv⟩
theorem zhI {α : Type} {enc : α -> List AV} {y : α} {x : Operand} {j : Nat} (h : ev st x = some (.ept enc y j)) : Pur P C (.nilCheck x) ty st (.ept enc y j) := fun g a w dst pos af gd hr => by
 have hv := yn hr h
 have ⟨b, o, e⟩ : ∃ b o, a.eval x = .pointer (some ⟨b, o, none⟩) := by
  generalize a.eval x = v at hv;cases hv with | ept _ _ _ b o vs hI hv => exact ⟨b, _, rfl⟩
 exact ⟨_, by simp [execOp, e], e ▸ hv⟩
theorem zf4 {t n E s : Nat} {ag : Bool} {x y : Operand} {k z i j : Nat} {kk : IntKind} {q : Int} (hx : ev st x = some (.ptr k z i j)) (hy : ev st y = some (.int kk q)) (ht : zci P t n E = true) (hE : tyOk P E ag s = true) (h0 : 0 <= q) (h1 : q < n) :
 Pur P C (.indexAddr t x y) ty st (.ptr k z i (j + q.toNat * s)) := fun g a w dst pos af gd hr => by
 obtain ⟨b, hb, e⟩ := zV (yn hr hx);have ey := za (yn hr hy);refine ⟨.pointer (some ⟨b, i * z + j + q.toNat * s, none⟩), ?_, ?_⟩
 ·simp [execOp, Instr.indexAt, asIntOf, Instr.sureAddr, e, ey, run_underlying (zcj ht), h0, h1, yX hE, zv]
 ·have := RV.ptr (I := g.I) (ρ := g.ρ) k z i (j + q.toNat * s) b hb;rw [← Nat.add_assoc] at this; exact this
theorem y9 {op : Op} {x : AV} (h : Pur P C op ty st x := by
 first
  | exact zk5 rfl
  | exact zcJ rfl
  | exact zmZ rfl rfl
  | exact yG rfl rfl rfl TyK.h
  | exact zaJ rfl rfl rfl TyK.h
  | exact zhn rfl rfl rfl rfl TyK.h
  | exact zho rfl rfl rfl TyK.h
  | exact zgl rfl rfl rfl rfl TyK.h
  | exact zgj rfl rfl rfl rfl TyK.h
  | exact zaK rfl rfl (by assumption) rfl rfl TyK.h
  | exact zdf rfl FoK.h
  | exact zgi rfl FoK.h
  | exact zc2 rfl rfl SlK.h TyK.h (fun _ => rfl) (by omega) (by assumption)
  | exact zdD rfl rfl rfl SlK.h TyK.h (by omega) (by omega)
  | exact zle rfl rfl SlK.h TyK.h (by omega) (by omega)
  | exact zfp rfl SlK.h
  | exact zd6 rfl rfl SlK.h
  | exact zc1 rfl SlK.h
  | exact zov rfl rfl
  | exact zvD rfl rfl
  | exact zvE rfl rfl
  | exact zvF rfl rfl
  | exact zvG rfl rfl
  | exact zvH rfl rfl
  | exact zvB rfl rfl (IntWalk.i64_in _ (by omega))
  | exact zmb rfl rfl (IntWalk.i64_in _ (by omega))
  | exact zvC rfl rfl (IntWalk.i64_in _ (by omega))
  | exact zte rfl rfl (by omega) (by omega) (by omega)
  | exact ztf rfl rfl (by omega) (by omega)
  | exact P_quo rfl rfl (by omega) (IntWalk.i64_in _ (by omega))
  | exact zrD rfl rfl (by omega)
  | exact ztl rfl rfl
  | exact zvN rfl rfl
  | exact P_and rfl rfl
  | exact P_or rfl rfl
  | exact zkg rfl (by first | assumption | rfl | omega | (simp; done) | (simp; omega) | (simp_all; done) | fail) rfl
  | exact zc6 rfl (by first | assumption | rfl | omega | (simp; done) | (simp; omega) | (simp_all; done) | fail) rfl
  | exact zvI rfl
  | exact P_neg rfl (IntWalk.i64_in _ (by omega))
  | exact zqd PlK.h.1 PlK.h.2 ZcK.h rfl rfl rfl
  | exact zk7 ArK.h TyK.h ZcK.h rfl rfl rfl
  | exact zjv ArK.h TyK.h rfl rfl (by omega) (by omega) (by first | rfl | assumption)
  | exact zx ArK.h TyK.h rfl rfl (by omega) (by omega) (by first | rfl | assumption)
  | exact zeL rfl
  | exact P_nilCheck_fn rfl
  | exact P_convert rfl UnK.h UsK.h (IntWalk.i64_in _ (by omega))
  | exact zfw (zmn _ _) inferInstance TyK.h rfl rfl rfl rfl rfl
  | exact zca (zmn _ _) inferInstance TyK.h rfl rfl rfl rfl rfl
  | exact zfw (zmm _ _) inferInstance TyK.h rfl rfl rfl rfl rfl
  | exact zca (zmm _ _) inferInstance TyK.h rfl rfl rfl rfl rfl
  | exact zfw (eqL_mnE _ _) inferInstance TyK.h rfl rfl rfl rfl rfl
  | exact zca (eqL_mnE _ _) inferInstance TyK.h rfl rfl rfl rfl rfl
  | exact zfw rfl inferInstance TyK.h rfl rfl rfl rfl rfl
  | exact zca rfl inferInstance TyK.h rfl rfl rfl rfl rfl
  | exact zk8 (by kernel_rfl) rfl rfl
  | exact zk9 (by kernel_rfl) rfl rfl
  | exact yk rfl
  | exact zhI rfl
  | exact zf4 rfl rfl ArK.h TyK.h (by omega) (by omega)) : Pur P C op ty st x := h
section
variable {ops : Array Oper} {rest : List Oper} {dst : Option Tmp} {d : Nat} {op : Op} {pos : String} {af : Array Edge} {x : AV}
theorem ya (h : Ex P C ops rest ⟨(d, x) :: st.t, st.h⟩ Q) (hs : Pur P C op ty st x := by exact y9) (hd : d.blt C.n = true := by exact rfl) :
 Ex P C ops ({ dst := some d, op := op, type := ty, pos := pos, after := af, guard := none } :: rest) st Q := zao hs hd h
theorem yu (h : Q .normal ⟨(d, x) :: st.t, st.h⟩) (hs : Pur P C op ty st x := by exact y9) (hd : d.blt C.n = true := by exact rfl) : Ex P C ops ({ dst := some d, op := op, type := ty, pos := pos, after := af, guard := none } :: []) st Q := zao hs hd (Ex.nil h)
theorem ze {ops : Array Oper} {core : List (Nat × List Nat)} {fl l : List Fl} {b : St} {j : Nat} (h : zfM P C ops core fl b j l := by (repeat' (first | exact True.intro | refine ⟨.inl rfl, ?_⟩ | refine ⟨.inr ⟨_, rfl, rfl, rfl, rfl, Pur.stepA y9⟩, ?_⟩ | refine ⟨.inr ⟨_, rfl, rfl, rfl, rfl, Pur.stepA (yk rfl)⟩, ?_⟩ | refine ⟨.inr ⟨_, rfl, rfl, rfl, rfl, Pur.stepA (zhM rfl rfl)⟩, ?_⟩ | refine ⟨.inr ⟨_, rfl, rfl, rfl, rfl, Pur.stepA (P_fieldAddr rfl rfl rfl)⟩, ?_⟩))) : zfM P C ops core fl b j l := h
theorem zm {d1 : Nat} {op1 : Op} {ty1 : TypeId} {pos1 : String} {af1 : Array Edge} {x1 : AV} (h : Q .normal ⟨(d1, x1) :: (d, x) :: st.t, st.h⟩) (hs : Pur P C op ty st x := by exact y9) (hd : d.blt C.n = true := by exact rfl) (hs1 : Pur P C op1 ty1 ⟨(d, x) :: st.t, st.h⟩ x1 := by exact y9) (hd1 : d1.blt C.n = true := by exact rfl) : Ex P C ops [{ dst := some d, op := op, type := ty, pos := pos, after := af, guard := none }, { dst := some d1, op := op1, type := ty1, pos := pos1, after := af1, guard := none }] st Q := ya (yu h hs1 hd1) hs hd
theorem zh {d1 : Nat} {op1 : Op} {ty1 : TypeId} {pos1 : String} {af1 : Array Edge} {x1 : AV} {d2 : Nat} {op2 : Op} {ty2 : TypeId} {pos2 : String} {af2 : Array Edge} {x2 : AV} (h : Q .normal ⟨(d2, x2) :: (d1, x1) :: (d, x) :: st.t, st.h⟩) (hs : Pur P C op ty st x := by exact y9) (hd : d.blt C.n = true := by exact rfl) (hs1 : Pur P C op1 ty1 ⟨(d, x) :: st.t, st.h⟩ x1 := by exact y9) (hd1 : d1.blt C.n = true := by exact rfl) (hs2 : Pur P C op2 ty2 ⟨(d1, x1) :: (d, x) :: st.t, st.h⟩ x2 := by exact y9) (hd2 : d2.blt C.n = true := by exact rfl) : Ex P C ops [{ dst := some d, op := op, type := ty, pos := pos, after := af, guard := none }, { dst := some d1, op := op1, type := ty1, pos := pos1, after := af1, guard := none }, { dst := some d2, op := op2, type := ty2, pos := pos2, after := af2, guard := none }] st Q := ya (ya (yu h hs2 hd2) hs1 hd1) hs hd
theorem zmo {d1 : Nat} {op1 : Op} {ty1 : TypeId} {pos1 : String} {af1 : Array Edge} {x1 : AV} {d2 : Nat} {op2 : Op} {ty2 : TypeId} {pos2 : String} {af2 : Array Edge} {x2 : AV} {d3 : Nat} {op3 : Op} {ty3 : TypeId} {pos3 : String} {af3 : Array Edge} {x3 : AV} (h : Q .normal ⟨(d3, x3) :: (d2, x2) :: (d1, x1) :: (d, x) :: st.t, st.h⟩) (hs : Pur P C op ty st x := by exact y9) (hd : d.blt C.n = true := by exact rfl) (hs1 : Pur P C op1 ty1 ⟨(d, x) :: st.t, st.h⟩ x1 := by exact y9) (hd1 : d1.blt C.n = true := by exact rfl) (hs2 : Pur P C op2 ty2 ⟨(d1, x1) :: (d, x) :: st.t, st.h⟩ x2 := by exact y9) (hd2 : d2.blt C.n = true := by exact rfl) (hs3 : Pur P C op3 ty3 ⟨(d2, x2) :: (d1, x1) :: (d, x) :: st.t, st.h⟩ x3 := by exact y9) (hd3 : d3.blt C.n = true := by exact rfl) : Ex P C ops [{ dst := some d, op := op, type := ty, pos := pos, after := af, guard := none }, { dst := some d1, op := op1, type := ty1, pos := pos1, after := af1, guard := none }, { dst := some d2, op := op2, type := ty2, pos := pos2, after := af2, guard := none }, { dst := some d3, op := op3, type := ty3, pos := pos3, after := af3, guard := none }] st Q := ya (ya (ya (yu h hs3 hd3) hs2 hd2) hs1 hd1) hs hd
theorem zko {d1 : Nat} {op1 : Op} {ty1 : TypeId} {pos1 : String} {af1 : Array Edge} {x1 : AV} {d2 : Nat} {op2 : Op} {ty2 : TypeId} {pos2 : String} {af2 : Array Edge} {x2 : AV} {d3 : Nat} {op3 : Op} {ty3 : TypeId} {pos3 : String} {af3 : Array Edge} {x3 : AV} {d13 : Nat} {op13 : Op} {ty13 : TypeId} {pos13 : String} {af13 : Array Edge} {x13 : AV} (h : Q .normal ⟨(d13, x13) :: (d3, x3) :: (d2, x2) :: (d1, x1) :: (d, x) :: st.t, st.h⟩) (hs : Pur P C op ty st x := by exact y9) (hd : d.blt C.n = true := by exact rfl) (hs1 : Pur P C op1 ty1 ⟨(d, x) :: st.t, st.h⟩ x1 := by exact y9) (hd1 : d1.blt C.n = true := by exact rfl) (hs2 : Pur P C op2 ty2 ⟨(d1, x1) :: (d, x) :: st.t, st.h⟩ x2 := by exact y9) (hd2 : d2.blt C.n = true := by exact rfl) (hs3 : Pur P C op3 ty3 ⟨(d2, x2) :: (d1, x1) :: (d, x) :: st.t, st.h⟩ x3 := by exact y9) (hd3 : d3.blt C.n = true := by exact rfl) (hs13 : Pur P C op13 ty13 ⟨(d3, x3) :: (d2, x2) :: (d1, x1) :: (d, x) :: st.t, st.h⟩ x13 := by exact y9) (hd13 : d13.blt C.n = true := by exact rfl) : Ex P C ops [{ dst := some d, op := op, type := ty, pos := pos, after := af, guard := none }, { dst := some d1, op := op1, type := ty1, pos := pos1, after := af1, guard := none }, { dst := some d2, op := op2, type := ty2, pos := pos2, after := af2, guard := none }, { dst := some d3, op := op3, type := ty3, pos := pos3, after := af3, guard := none }, { dst := some d13, op := op13, type := ty13, pos := pos13, after := af13, guard := none }] st Q := ya (ya (ya (ya (yu h hs13 hd13) hs3 hd3) hs2 hd2) hs1 hd1) hs hd
theorem zmp (h : Q .ret st) : Ex P C ops [] st (zdF (fun st => X P C .ret st Q) Q) := Ex.nil (X.ret h)
theorem lgg {α : Type _} {l : List α} {i : Nat} (h : i < l.length) : l[i]? = some l[i] := List.getElem?_eq_getElem h
theorem yb {fop : Operand} {args : Array Operand} {ts : Array TypeId} {f : FuncId} {caps xs : List AV} {r : AV}
 (hc : Fn P f (xs ++ caps) r) (h : Ex P C ops rest ⟨(d, r) :: st.t, st.h⟩ Q) (hf : ev st fop = some (.fn f caps) := by exact rfl) (hx : evs st args.toList = some xs := by exact rfl) (hn : AV.nm.nmL (xs ++ caps) = true := by exact rfl) (hd : d.blt C.n = true := by exact rfl) :
 Ex P C ops ({ dst := some d, op := .call { callee := .value fop, args := args, argTypes := ts }, type := ty, pos := pos, after := af, guard := none } :: rest) st Q := Ex.call hf hx hn hc hd h
theorem zbB {T : TypeId} {o : Operand} {y : AV} (h : Ex P C ops rest (addSt st (some d) (.ptr d 0 0 0) (some (d, .box [y] T))) Q) (hx : ev st o = some y := by exact rfl) (hs : y.sc = true := by exact rfl) (hf : y.fr d = true := by exact rfl) (hd : dOk C.n (some d) = true := by exact rfl) (hn : nbOk st (some (d, .box [y] T)) = true := by exact rfl) :
 Ex P C ops ({ dst := some d, op := .box T o, type := ty, pos := pos, after := af, guard := none } :: rest) st Q := Ex.stepA (zvJ hx hs hf) hd hn h
theorem zaS {T : TypeId} {o : Operand} {cs : List AV} (h : Ex P C ops rest (addSt st (some d) (.ptr d 0 0 0) (some (d, .box cs T))) Q) (hx : ev st o = some (.agg cs) := by exact rfl) (hf : AV.fr.frL d cs = true := by exact rfl) (hd : dOk C.n (some d) = true := by exact rfl) (hn : nbOk st (some (d, .box cs T)) = true := by exact rfl) :
 Ex P C ops ({ dst := some d, op := .box T o, type := ty, pos := pos, after := af, guard := none } :: rest) st Q := Ex.stepA (zfJ hx hf) hd hn h
theorem zB {T : TypeId} {cs : List AV} [hz : ZcK P T cs] (h : Ex P C ops rest (addSt st (some d) (.ptr d 0 0 0) (some (d, .box cs T))) Q) (hd : dOk C.n (some d) = true := by exact rfl) (hn : nbOk st (some (d, .box cs T)) = true := by exact rfl) :
 Ex P C ops ({ dst := some d, op := .alloc T, type := ty, pos := pos, after := af, guard := none } :: rest) st Q := Ex.stepA (zbn hz.h) hd hn h
theorem yJ {α : Type} (enc : α -> List AV) (l : List α) {t E : TypeId} {ag : Bool} {s n : Nat} {parts : Array (Nat × Operand)} {ps : List (Nat × AV)} {z : Value} (h : Ex P C ops rest (addSt st (some d) (.own d) (some (d, .row enc l E s))) Q)
 (ht : slOk P t E = true := by exact SlK.h) (hE : tyOk P E ag s = true := by exact TyK.h) (hz : (P.info? E).bind (·.zero) = some z := by exact ZeK.h)
 (hs0 : 0 < s := by decide) (hp : za9 st parts.toList = some ps := by exact rfl) (hk : zbH ps = true := by exact rfl) (hf : zes (fun i => some (i * s, s)) (List.replicate (n * s) .any) ps = some (l.flatMap enc) := by exact rfl) (hln : l.length = n := by exact rfl) (hn : n * s <= 16777216 := by decide) (hm : n <= 1000000 := by decide)
 (hs : ∀ x, (enc x).length = s := by intro _; rfl) (hnm : AV.nm.nmL (l.flatMap enc) = true := by exact rfl) (hd : dOk C.n (some d) = true := by exact rfl) (hnb : nbOk st (some (d, .row enc l E s)) = true := by exact rfl) :
 Ex P C ops ({ dst := some d, op := .buildSlice t n parts, type := ty, pos := pos, after := af, guard := none } :: rest) st Q := Ex.stepA (yF ht hE hz hs0 hp hk hf hln hn hm hs hnm) hd hnb h
theorem Ex.mo {st' : St} (h : Ex P C ops rest st' Q) (hs : yw P C op ty dst st st' := by
 first
  | exact zah rfl rfl rfl rfl TyK.h (ltB rfl)
  | exact zf0 rfl rfl rfl rfl TyK.h rfl (leB rfl)
  | exact zav rfl rfl rfl rfl SlK.h TiK.h (by decide) (by decide) (fun _ => rfl) (fun _ => rfl) (by first | omega | (simp; done) | (simp; omega) | (simp_all; omega) | fail) rfl
  | exact zbq rfl rfl rfl SlK.h TiK.h (by decide) (by decide) (fun _ => rfl) (fun _ => rfl) (by first | omega | (simp; done) | (simp; omega) | (simp_all; omega) | fail) rfl
  | exact zdN _ rfl rfl (fun _ => rfl) (by decide) (by first | omega | (simp; done) | (simp; omega) | (simp_all; omega) | fail) rfl rfl rfl rfl rfl TyK.h) :
  Ex P C ops ({ dst := dst, op := op, type := ty, pos := pos, after := af, guard := none } :: rest) st Q := z8 hs h
end
theorem ye {ts : List (Nat × AV)} {hs : List (Nat × Blk)} (h1 : impT st ts := by
 repeat' (first | exact True.intro | (refine And.intro ⟨_, rfl, ?_⟩ ?_; (first | exact LeV.refl _ | exact LeV.any _ | exact LeB.refl _ | (refine LeV.eq ?_; simp; done) | (refine LeV.eq ?_; congr 1; omega) | (refine LeV.eq ?_; dsimp only; congr 1; omega) | (refine LeV.eq (congrArg (AV.int _) ?_); omega) | exact LeV.nils _ | (refine LeV.eq ?_; congr 1; assumption))))) (h2 : impH st hs := by
 repeat' (first | exact True.intro | (refine And.intro ⟨_, rfl, ?_⟩ ?_; (first | exact LeB.refl _ | exact LeB.row (by assumption) | (refine LeB.eq ?_; congr 1; omega) | (refine LeB.eq ?_; congr 1; simp only [cond_true, cond_false]; omega))))) : Imp C st ⟨ts, hs⟩ := Imp.of h1 h2
theorem yS {ι : Type} {c : Code} (I : ι -> List (Nat × AV)) (H : ι -> List (Nat × Blk)) (J : ι -> Prop) (μ : ι -> Nat) (i0 : ι) (h : ∀ i, J i -> X P C c ⟨I i, H i⟩ (zdF (fun st' => ∃ i', Imp C st' ⟨I i', H i'⟩ /\ J i' /\ μ i' < μ i) Q))
 (hJ : J i0 := by first | trivial | omega | (refine ⟨?_, ?_⟩ <;> omega)) (h0 : Imp C st ⟨I i0, H i0⟩ := by exact ye) : X P C (.loop c) st Q := X.loop (fun i => ⟨I i, H i⟩) J μ i0 h0 hJ h
class BP (b : Bool) (p n : outParam Prop) : Prop where
 t : b = true -> p
 f : b = false -> n
instance (priority := 10) bp0 {b : Bool} : BP b (b = true) (b = false) := ⟨id, id⟩
instance (priority := 20) bp1 {p : Prop} {i : Decidable p} : BP (@decide p i) p (¬ p) := ⟨fun h => by simpa using h, fun h => by simpa using h⟩
instance (priority := 30) bp2 {x y : Int} {i : Decidable (x < y)} : BP (@decide (x < y) i) (x < y) (y <= x) := ⟨fun h => by simpa using h, fun h => by simpa using h⟩
instance (priority := 30) bp3 {x y : Int} {i : Decidable (x <= y)} : BP (@decide (x <= y) i) (x <= y) (y < x) := ⟨fun h => by simpa using h, fun h => by simpa using h⟩
instance (priority := 30) bp4 {b : Bool} {p n : Prop} [h : BP b p n] : BP (!b) n p := ⟨fun e => h.f (by simpa using e), fun e => h.t (by simpa using e)⟩
instance (priority := 30) bp5 {a b : Bool} {p n q m : Prop} [h : BP a p n] [h' : BP b q m] : BP (a && b) (p /\ q) (n \/ m) := ⟨fun e => by simp at e; exact ⟨h.t e.1, h'.t e.2⟩, fun e => by
 cases a with
 | false => exact .inl (h.f rfl)
 | true => exact .inr (h'.f (by simpa using e))⟩
instance (priority := 30) bp6 {a b : Bool} {p n q m : Prop} [h : BP a p n] [h' : BP b q m] : BP (a || b) (p \/ q) (n /\ m) := ⟨fun e => by
 cases a with
 | true => exact .inl (h.t rfl)
 | false => exact .inr (h'.t (by simpa using e)), fun e => by simp at e; exact ⟨h.f e.1, h'.f e.2⟩⟩
instance (priority := 40) bp7 {b : Bool} {p n : Prop} [h : BP b p n] : BP (b == true) p n := ⟨fun e => h.t (by simpa using e), fun e => h.f (by simpa using e)⟩
instance (priority := 40) bp8 {b : Bool} {p n : Prop} [h : BP b p n] : BP (b == false) n p := ⟨fun e => h.f (by simpa using e), fun e => h.t (by simpa using e)⟩
theorem ztm {c : Operand} {x y : Code} {b : Bool} {p n : Prop} (hc : ev st c = some (.bool b)) [h : BP b p n] (ht : p -> X P C x st Q) (hf : n -> X P C y st Q) : X P C (.cond c x y) st Q := X.cond hc (fun e => ht (h.t e)) (fun e => hf (h.f e))
theorem Fn.go {f : FuncId} {fn : Func} {c : Code} {n : Nat} {az : List AV} {rv : List ResultVar} {r : AV} (hf : P.funcs[f]? = some fn) (hn : fn.ntmps = n) (h : ∀ g w d, X P (C0 n d g w) c ⟨zaQ 0 az, []⟩ (RetQ P (C0 n d g w) rv r)) (hb : fn.body = some c := by exact rfl)
 (hrv : fn.results = rv.toArray := by exact rfl) (hc : zZ P f = true := by kernel_rfl) (hnm : r.nm = true := by exact rfl) (hlen : az.length <= n := by simp) : Fn P f az r := Fn.intro hc hf hb hn hrv hnm rfl hlen h
end
def tb (m i : Nat) : Bool := ((m >>> i) % 2).beq 1
def bits (n m : Nat) : List Nat := (List.range n).filter (tb m ·)
theorem zfO {n m i : Nat} (h : i < n) : memb i (bits n m) = tb m i := by
 cases hb : tb m i with
 | true => exact yU.2 (List.mem_filter.2 ⟨List.mem_range.2 h, hb⟩)
 | false =>
  cases hm : memb i (bits n m) with
  | false => rfl
  | true => have := (List.mem_filter.1 (yU.1 hm)).2; rw [hb] at this; cases this
structure FactM : Type 1 where
 i : Nat
 d : Option Nat
 x : AV
 nb : Option (Nat × Blk)
 m : Nat
 g : List (Nat × Bool)
def zaq : List FactM -> Nat -> Bool -> Bool
 | [], _, _ => false
 | ⟨i, _, x, _, _, _⟩ :: r, j, w => bif i.beq j then (match x with | .bool b => b == w | _ => false) else zaq r j w
def zd (fs : List FactM) : List (Nat × Bool) -> Bool
 | [] => true
 | [(j, w)] => zaq fs j w
 | (j, w) :: e :: r => zaq fs j w && zd fs (e :: r)
theorem zaN (fs : List FactM) (e : Nat × Bool) (r : List (Nat × Bool)) : zd fs (e :: r) = (zaq fs e.1 e.2 && zd fs r) := by
 cases r with
 | nil => simp [zd]
 | cons e' r => rfl
def eqCh : List (Nat × Bool) -> List (Nat × Bool) -> Bool
 | [], [] => true
 | (i, a) :: r, (j, b) :: q => i.beq j && (a == b) && eqCh r q
 | _, _ => false
theorem zjA : ∀ {a b : List (Nat × Bool)}, eqCh a b = true -> a = b
 | [], [], _ => rfl
 | [], _ :: _, h => by simp [eqCh] at h
 | _ :: _, [], h => by simp [eqCh] at h
 | (i, a) :: r, (j, b) :: q, h => by
  simp only [eqCh, Bool.and_eq_true] at h;obtain ⟨⟨h1, h2⟩, h3⟩ := h;have h1 : i = j := by simpa using h1
  have h2 : a = b := by simpa using h2
  have h4 : r = q := zjA h3;subst h1; subst h2; subst h4; rfl
def sfx (s : List (Nat × Bool)) : List (Nat × Bool) -> Bool
 | [] => eqCh s []
 | e :: r => eqCh s (e :: r) || sfx s r
def relG (G : List (Nat × Bool)) : List (Nat × Bool) -> List (Nat × Bool)
 | [] => []
 | e :: r => bif sfx (e :: r) G then [] else e :: relG G r
def optV (c : Bool) (g : List (Nat × Bool)) (x : AV) : AV := match g with | [] => x | _ :: _ => .opt c x
def zmq (fs : List FactM) (G g : List (Nat × Bool)) (x : AV) : AV := match relG G g with | [] => x | e :: q => .opt (zd fs (e :: q)) x
theorem ziy {fs : List FactM} {s : List (Nat × Bool)} : ∀ {G : List (Nat × Bool)}, sfx s G = true -> zd fs G = true -> zd fs s = true
 | [], h, hG => by rw [zjA (a := s) (b := []) (by simpa [sfx] using h)]; exact hG
 | e :: r, h, hG => by
  simp only [sfx, Bool.or_eq_true] at h;rcases h with h | h
  ·rw [zjA h]; exact hG
  ·rw [zaN, Bool.and_eq_true] at hG; exact ziy h hG.2
theorem ziz {fs : List FactM} {G : List (Nat × Bool)} (hG : zd fs G = true) : ∀ g, zd fs g = zd fs (relG G g)
 | [] => rfl
 | e :: r => by
  simp only [relG];cases hs : sfx (e :: r) G with
  | true => simp only [cond_true]; rw [ziy hs hG]; rfl
  | false => simp only [cond_false]; rw [zaN, zaN, ziz hG r]
theorem zmr {fs : List FactM} {G g : List (Nat × Bool)} {x : AV} {I : Im} {ρ : Nat -> Value} {v : Value} (hG : zd fs G = true) (h : RV I ρ (optV (zd fs g) g x) v) : RV I ρ (zmq fs G g x) v := by
 have hr := ziz hG g;unfold zmq;cases hq : relG G g with
 | nil =>
  rw [hq] at hr;have hr : zd fs g = true := hr;cases g with
  | nil => exact h
  | cons e r => exact (zgG h).1 hr
 | cons e q =>
  rw [hq] at hr;cases g with
  | nil => simp [relG] at hq
  | cons e' r =>
   have h : RV I ρ (.opt (zd fs (e' :: r)) x) v := h;rw [hr] at h; exact h
def WF : List FactM -> Prop
 | [] => True
 | f :: r => (∀ f' ∈ r, f'.i < f.i) /\ (∀ e ∈ f.g, ∃ f' ∈ r, f'.i = e.1) /\ WF r
theorem zkp {f : FactM} {r : List FactM} {j : Nat} {w : Bool} (h : f.i ≠ j) : zaq (f :: r) j w = zaq r j w := by
 obtain ⟨i, d, x, nb, m, g⟩ := f;show (bif i.beq j then _ else zaq r j w) = _;rw [beqF.2 h]; rfl
theorem zhJ {f : FactM} {r : List FactM} : ∀ {g : List (Nat × Bool)}, (∀ e ∈ g, f.i ≠ e.1) -> zd (f :: r) g = zd r g
 | [], _ => rfl
 | e :: q, h => by rw [zaN, zaN, zkp (h e (by simp)), zhJ fun e he => h e (by simp [he])]
def toL (n : Nat) : List FactM -> List Fact
 | [] => []
 | f :: r => ⟨f.i, f.d, optV (zd r f.g) f.g f.x, f.nb, bits n f.m⟩ :: toL n r
def selR (m : Nat) (b : List (Nat × AV)) : List FactM -> List (Nat × AV)
 | [] => b
 | ⟨i, d, x, _, _, g⟩ :: r => bif tb m i then consT d (optV (zd r g) g x) (selR m b r) else selR m b r
def zoP (fs : List FactM) (d : Option Nat) (x : AV) (l : List (Nat × AV)) : List (Nat × Bool) -> List (Nat × AV)
 | [] => consT d x l
 | e :: q => consT d (.opt (zd fs (e :: q)) x) l
theorem zkq (fs : List FactM) (G g : List (Nat × Bool)) (d : Option Nat) (x : AV) (l : List (Nat × AV)) : zoP fs d x l (relG G g) = consT d (zmq fs G g x) l := by
 unfold zmq; cases relG G g <;> rfl
def selV (fs : List FactM) (G : List (Nat × Bool)) (m : Nat) (b : List (Nat × AV)) : List FactM -> List (Nat × AV)
 | [] => b
 | ⟨i, d, x, _, _, g⟩ :: r => bif tb m i then zoP fs d x (selV fs G m b r) (relG G g) else selV fs G m b r
def ziA (m : Nat) (b : List (Nat × Blk)) : List FactM -> List (Nat × Blk)
 | [] => b
 | ⟨i, _, _, nb, _, _⟩ :: r => bif tb m i then zir nb (ziA m b r) else ziA m b r
def allR (b : List (Nat × AV)) : List FactM -> List (Nat × AV)
 | [] => b
 | ⟨_, d, x, _, _, g⟩ :: r => consT d (optV (zd r g) g x) (allR b r)
def allV (fs : List FactM) (G : List (Nat × Bool)) (b : List (Nat × AV)) : List FactM -> List (Nat × AV)
 | [] => b
 | ⟨_, d, x, _, _, g⟩ :: r => zoP fs d x (allV fs G b r) (relG G g)
def ziB (b : List (Nat × Blk)) : List FactM -> List (Nat × Blk)
 | [] => b
 | ⟨_, _, _, nb, _, _⟩ :: r => zir nb (ziB b r)
def stR (st : St) (hid : List Nat) (m : Nat) (fs : List FactM) : St := ⟨selR m (rmK hid st.t) fs, ziA m st.h fs⟩
def stV (st : St) (hid : List Nat) (m : Nat) (fs : List FactM) (G : List (Nat × Bool)) : St := ⟨selV fs G m (rmK hid st.t) fs, ziA m st.h fs⟩
def zdQ (st : St) (hid : List Nat) (fs : List FactM) : St := ⟨allV fs [] (rmK hid st.t) fs, ziB st.h fs⟩
theorem ziC (n : Nat) : ∀ fs : List FactM, (toL n fs).map (·.i) = fs.map (·.i)
 | [] => rfl
 | f :: r => by simp [toL, ziC n r]
theorem zoQ {n m : Nat} {b : List (Nat × AV)} : ∀ {fs : List FactM}, (∀ f ∈ fs, f.i < n) -> selT (bits n m) b (toL n fs) = selR m b fs
 | [], _ => rfl
 | f :: r, h => by
  have ih := zoQ (b := b) (m := m) (fs := r) fun f hf => h f (by simp [hf])
  have h0 := h f (by simp);obtain ⟨i, d, x, nb, mm, g⟩ := f;simp only [toL, selT, selR, ih];rw [zfO h0]
theorem zoR {n m : Nat} {b : List (Nat × Blk)} : ∀ {fs : List FactM}, (∀ f ∈ fs, f.i < n) -> selH (bits n m) b (toL n fs) = ziA m b fs
 | [], _ => rfl
 | f :: r, h => by
  have ih := zoR (b := b) (m := m) (fs := r) fun f hf => h f (by simp [hf])
  have h0 := h f (by simp);obtain ⟨i, d, x, nb, mm, g⟩ := f;simp only [toL, selH, ziA, ih];rw [zfO h0]
theorem zlf {st : St} {hid : List Nat} {n m : Nat} {fs : List FactM} (h : ∀ f ∈ fs, f.i < n) : stOf st hid (bits n m) (toL n fs) = stR st hid m fs := by
 unfold stOf stR; rw [zoQ h, zoR h]
theorem zkr {n : Nat} {az : List Nat} {b : List (Nat × AV)} : ∀ {fs : List FactM}, (∀ f ∈ fs, memb f.i az = true) -> selT az b (toL n fs) = allR b fs
 | [], _ => rfl
 | f :: r, h => by
  have ih := zkr (n := n) (b := b) (az := az) (fs := r) fun f hf => h f (by simp [hf])
  have h0 := h f (by simp);obtain ⟨i, d, x, nb, mm, g⟩ := f;have h0 : memb i az = true := h0;simp only [toL, selT, allR, ih, h0, cond_true]
theorem zks {n : Nat} {az : List Nat} {b : List (Nat × Blk)} : ∀ {fs : List FactM}, (∀ f ∈ fs, memb f.i az = true) -> selH az b (toL n fs) = ziB b fs
 | [], _ => rfl
 | f :: r, h => by
  have ih := zks (n := n) (b := b) (az := az) (fs := r) fun f hf => h f (by simp [hf])
  have h0 := h f (by simp);obtain ⟨i, d, x, nb, mm, g⟩ := f;have h0 : memb i az = true := h0;simp only [toL, selH, ziB, ih, h0, cond_true]
inductive LeT (I : Im) (ρ : Nat -> Value) : List (Nat × AV) -> List (Nat × AV) -> Prop
 | refl (l : List (Nat × AV)) : LeT I ρ l l
 | cons {t : Nat} {x y : AV} {l l' : List (Nat × AV)} (hx : ∀ v, RV I ρ x v -> RV I ρ y v) (h : LeT I ρ l l') : LeT I ρ ((t, x) :: l) ((t, y) :: l')
theorem LeT.lk {I : Im} {ρ : Nat -> Value} {l l' : List (Nat × AV)} (h : LeT I ρ l l') : ∀ {t : Nat} {y : AV}, Rse.lk l' t = some y -> ∃ x, Rse.lk l t = some x /\ ∀ v, RV I ρ x v -> RV I ρ y v := by
 induction h with
 | refl l => exact fun {t y} e => ⟨y, e, fun v h => h⟩
 | @cons t0 x y l l' hx _ ih =>
  intro t z e;rw [yj] at e ⊢;cases hb : t0.beq t with
  | true => rw [hb] at e; simp at e; subst e; exact ⟨x, by simp, hx⟩
  | false => rw [hb] at e; simp at e; obtain ⟨x', h1, h2⟩ := ih e; exact ⟨x', by simpa using h1, h2⟩
theorem LeT.consT {I : Im} {ρ : Nat -> Value} {d : Option Nat} {x y : AV} {l l' : List (Nat × AV)} (hx : ∀ v, RV I ρ x v -> RV I ρ y v) (h : LeT I ρ l l') : LeT I ρ (Rse.consT d x l) (Rse.consT d y l') := by
 cases d with
 | none => exact h
 | some d => exact .cons hx h
def Suf (r fs : List FactM) : Prop := ∀ g : List (Nat × Bool), (∀ e ∈ g, ∃ f' ∈ r, f'.i = e.1) -> zd r g = zd fs g
theorem Suf.tl {f : FactM} {r fs : List FactM} (h : Suf (f :: r) fs) (hw : WF (f :: r)) : Suf r fs := fun g hg => by
 rw [← h g fun e he => by obtain ⟨f', h1, h2⟩ := hg e he; exact ⟨f', by simp [h1], h2⟩];exact (zhJ fun e he => by obtain ⟨f', h1, h2⟩ := hg e he; have := hw.1 f' h1; omega).symm
theorem zms {I : Im} {ρ : Nat -> Value} {fs : List FactM} {G : List (Nat × Bool)} {m : Nat} {b : List (Nat × AV)} (hG : zd fs G = true) : ∀ {r : List FactM}, WF r -> Suf r fs -> LeT I ρ (selR m b r) (selV fs G m b r)
 | [], _, _ => .refl _
 | f :: r, hw, hs => by
  have ih := zms (I := I) (ρ := ρ) (m := m) (b := b) hG hw.2.2 (hs.tl hw);have hc : zd r f.g = zd fs f.g := (hs.tl hw) f.g hw.2.1;obtain ⟨i, d, x, nb, mm, g⟩ := f;simp only [selR, selV, zkq];cases tb m i with
  | true => exact .consT (fun v hv => zmr hG (by rw [← hc]; exact hv)) ih
  | false => exact ih
theorem zjB {I : Im} {ρ : Nat -> Value} {fs : List FactM} {G : List (Nat × Bool)} {b : List (Nat × AV)} (hG : zd fs G = true) : ∀ {r : List FactM}, WF r -> Suf r fs -> LeT I ρ (allR b r) (allV fs G b r)
 | [], _, _ => .refl _
 | f :: r, hw, hs => by
  have ih := zjB (I := I) (ρ := ρ) (b := b) hG hw.2.2 (hs.tl hw);have hc : zd r f.g = zd fs f.g := (hs.tl hw) f.g hw.2.1;obtain ⟨i, d, x, nb, mm, g⟩ := f;simp only [allR, allV, zkq];exact .consT (fun v hv => zmr hG (by rw [← hc]; exact hv)) ih
theorem Rel.view {C : Ctx} {st st' : St} {g : Gh} {a : Act} {w : World} (h : Rel C st g a w) (hh : st'.h = st.h) (ht : LeT g.I g.ρ st.t st'.t) : Rel C st' g a w :=
 Rel.slots h hh fun t x hx => by obtain ⟨y, h1, h2⟩ := ht.lk hx; exact h2 _ (h.tmps t y h1)
theorem Rel.selV {C : Ctx} {st : St} {hid : List Nat} {m : Nat} {fs : List FactM} {G : List (Nat × Bool)} {g : Gh} {a : Act} {w : World} (hw : WF fs) (hG : zd fs G = true) (h : Rel C (stR st hid m fs) g a w) : Rel C (stV st hid m fs G) g a w :=
 h.view rfl (zms hG hw fun _ _ => rfl)
def zmt : FactM -> FactM -> Bool
 | ⟨_, d, x, nb, m, _⟩, ⟨i', d', x', nb', _, _⟩ =>
  (match d, d' with | some d, some d' => !(d.beq d') | _, _ => true) &&
  (match nb with | some (k, _) => x'.fr k && nbFr nb' k | none => true) &&
  (match nb' with | some (k, _) => tb m i' || (x.fr k && nbFr nb k) | none => true)
def okFM (st : St) (hid : List Nat) : List FactM -> Bool
 | [] => true
 | ⟨i, d, x, nb, m, g⟩ :: r => (match d with | some d => memb d hid | none => true) && nbOk st nb && r.all (zmt ⟨i, d, x, nb, m, g⟩) && okFM st hid r
theorem zqj (c : Bool) (g : List (Nat × Bool)) (x : AV) (k : Nat) : (optV c g x).fr k = x.fr k := by cases g <;> rfl
theorem zmu {n : Nat} : ∀ {fs : List FactM} {F : Fact}, F ∈ toL n fs -> ∃ f ∈ fs, ∃ c, F = ⟨f.i, f.d, optV c f.g f.x, f.nb, bits n f.m⟩
 | [], F, h => by simp [toL] at h
 | f :: r, F, h => by
  rcases List.mem_cons.1 (show F ∈ _ :: toL n r from h) with e | h1
  ·exact ⟨f, by simp, _, e⟩
  ·obtain ⟨f', h2, c, h3⟩ := zmu h1;exact ⟨f', by simp [h2], c, h3⟩
theorem zmv {st : St} {hid : List Nat} {n : Nat} : ∀ {fs : List FactM}, (∀ f ∈ fs, f.i < n) -> okFM st hid fs = true -> okF st hid (toL n fs) = true
 | [], _, _ => rfl
 | f :: r, h, hk => by
  simp only [okFM, Bool.and_eq_true] at hk;obtain ⟨⟨⟨h1, h2⟩, h3⟩, h4⟩ := hk;simp only [toL, okF, Bool.and_eq_true];refine ⟨⟨⟨h1, h2⟩, ?_⟩, zmv (fun f hf => h f (by simp [hf])) h4⟩;rw [List.all_eq_true] at h3 ⊢;intro F hF;obtain ⟨f0, hf0, c, rfl⟩ := zmu hF;have := h3 f0 hf0;have h0 := h f0 (by simp [hf0]);obtain ⟨i, d, x, nb, m, g⟩ := f;obtain ⟨i', d', x', nb', m', g'⟩ := f0;unfold zmt at this;unfold zdH;simp only [zqj, zfO h0];simp only [Bool.and_eq_true] at this ⊢;refine ⟨this.1, ?_⟩;cases nb' with
  | none => simp
  | some p => exact this.2
def zbI : List FactM -> Nat -> List (Nat × Bool)
 | [], _ => []
 | ⟨i, _, _, _, _, g⟩ :: r, j => bif i.beq j then g else zbI r j
def hasI : List FactM -> Nat -> Bool
 | [], _ => false
 | ⟨i, _, _, _, _, _⟩ :: r, j => i.beq j || hasI r j
theorem zmw : ∀ {fs : List FactM} {j : Nat}, hasI fs j = true -> ∃ f ∈ fs, f.i = j
 | [], j, h => by simp [hasI] at h
 | ⟨i, d, x, nb, m, g⟩ :: r, j, h => by
  simp only [hasI, Bool.or_eq_true, Nat.beq_eq] at h;rcases h with h | h
  ·exact ⟨_, List.mem_cons_self, h⟩
  ·obtain ⟨f, h1, h2⟩ := zmw h;exact ⟨f, by simp [h1], h2⟩
def zcb (fs : List FactM) : List (Nat × Bool) -> Bool
 | [] => true
 | (j, _) :: r => hasI fs j && zcb fs r
theorem zaw {fs : List FactM} : ∀ {g : List (Nat × Bool)}, zcb fs g = true -> ∀ e ∈ g, ∃ f' ∈ fs, f'.i = e.1
 | [], _, e, he => by simp at he
 | (j, w) :: r, h, e, he => by
  simp only [zcb, Bool.and_eq_true] at h;rcases List.mem_cons.1 he with rfl | he
  ·exact zmw h.1
  ·exact zaw h.2 e he
def zlg (ops : Array Oper) (ms : List Nat) : Bool := (List.range ops.size).all fun i => zbA ops i (bits ops.size (ms.getD i 0))
theorem zf5 {C : Ctx} {st : St} {g : Gh} {a : Act} {w : World} {ops : Array Oper} {i t : Nat} {b c0 : Bool} {g0 : List (Nat × Bool)} (hr : Rel C st g a w) (hi : (ops[i]?).bind (·.dst) = some t) (hb : lk st.t t = some (optV c0 g0 (.bool b))) (h0 : g0 = [] -> c0 = true) : yielded ops a.tmps i = if c0 = true then some b else none := by
 have hv := hr.tmps t _ hb
 have hv : RV g.I g.ρ (.opt c0 (.bool b)) (a.tmps.getD t undef) := by
  cases g0 with
  | nil => rw [h0 rfl]; exact .opt _ _ _ (fun _ => hv) (fun h => by cases h)
  | cons e r => exact hv
 obtain ⟨h1, h2⟩ := zgG hv;cases c0 with
 | true =>
  have e := zg (h1 rfl)
  have : a.tmps[t]? = some (.bool b) := by
   simp only [Array.getD_eq_getD_getElem?] at e;cases h : a.tmps[t]? with
   | none => rw [h] at e; simp [undef] at e
   | some u => rw [h] at e; simpa using e
  simp [yielded, hi, this]
 | false =>
  have e := h2 rfl
  have : a.tmps[t]? = some (.tuple #[]) \/ a.tmps[t]? = none := by
   simp only [Array.getD_eq_getD_getElem?] at e;cases h : a.tmps[t]? with
   | none => exact .inr rfl
   | some u => rw [h] at e; exact .inl (by rw [show u = .tuple #[] from e])
  rcases this with h | h <;> simp [yielded, hi, h]
inductive ChM (P : Program) (C : Ctx) (ops : Array Oper) (ms : List Nat) (st : St) (hid : List Nat) (Q : Exit -> St -> Prop) : Nat -> List FactM -> Prop
 | step {i m : Nat} {fs : List FactM} {o : Oper} {x : AV} {nb : Option (Nat × Blk)} (hm : ms[i]? = some m) (ho : ops[i]? = some o) (hg : o.guard = none) (hs : yr P C o.op o.type (stV st hid m fs []) x nb) (hd : dOk C.n o.dst = true) (h : ChM P C ops ms st hid Q (i + 1) (⟨i, o.dst, x, nb, m, []⟩ :: fs)) : ChM P C ops ms st hid Q i fs
 | guard {i m : Nat} {fs : List FactM} {o : Oper} {x : AV} {gi t : Nat} {want b c0 : Bool} {g0 : List (Nat × Bool)} (hm : ms[i]? = some m) (ho : ops[i]? = some o) (hg : o.guard = some (gi, want)) (hi : (ops[gi]?).bind (·.dst) = some t) (hb : lk (stR st hid m fs).t t = some (optV c0 g0 (.bool b)))
  (hc0 : zd fs g0 = c0) (hcd : zaq fs gi want = (b == want)) (hg0 : ∀ e ∈ (gi, want) :: g0, ∃ f' ∈ fs, f'.i = e.1) (hs : zd fs ((gi, want) :: g0) = true -> yr P C o.op o.type (stV st hid m fs ((gi, want) :: g0)) x none) (hd : dOk C.n o.dst = true)
  (h : ChM P C ops ms st hid Q (i + 1) (⟨i, o.dst, x, none, m, (gi, want) :: g0⟩ :: fs)) : ChM P C ops ms st hid Q i fs
 | tail2 {i m me : Nat} {fs : List FactM} {o1 oe o2 : Oper} {x : AV} (hm : ms[i]? = some m) (hme : ms[i + 1]? = some me) (hl : ops.toList.drop i = [o1, oe, o2]) (hge : oe.guard = none) (hok : okFM st hid (⟨i + 1, oe.dst, x, none, me, []⟩ :: fs) = true) (hf : zd9 ops i (bits ops.size m) = true) (hde : dOk C.n oe.dst = true)
  (hse : yr P C oe.op oe.type (stV st hid me fs []) x none) (hA : Ex P C ops [o1, o2] (zdQ st hid (⟨i + 1, oe.dst, x, none, me, []⟩ :: fs)) Q) (hB : Ex P C ops [o1, oe, o2] (zdQ st hid fs) Q) : ChM P C ops ms st hid Q i fs
 | late {i m : Nat} {fs : List FactM} {o1 oe o2 : Oper} (e : Nat) (hm : ms[i]? = some m) (hl : ops.toList.drop i = [o1, o2]) (hoe : ops[e]? = some oe) (hg : (fs.all fun f => f.g.isEmpty) = true) (hok : okFM st hid fs = true) (hf : zck ops i e (bits ops.size m) = true)
  (hA : Ex P C ops [o1, o2] (zdQ st hid fs) Q) (hB : Ex P C ops [o1, oe, o2] (zdQ st hid (fs.filter fun f => !(f.i == e))) Q) : ChM P C ops ms st hid Q i fs
 | tail {i : Nat} {fs : List FactM} (hok : okFM st hid fs = true) (hf : zdI ops i (bits ops.size (ms.getD i 0)) = true) (h : Ex P C ops (ops.toList.drop i) (zdQ st hid fs) Q) : ChM P C ops ms st hid Q i fs
theorem zkt {ops : Array Oper} {i : Nat} {o : Oper} (h : ops[i]? = some o) : i < ops.size := by
 rcases Nat.lt_or_ge i ops.size with hl | hl
 ·exact hl
 ·simp [Array.getElem?_eq_none hl] at h
theorem zfP {ops : Array Oper} {ms : List Nat} {i m : Nat} (h : zlg ops ms = true) (hi : i < ops.size) (hm : ms[i]? = some m) : zbA ops i (bits ops.size m) = true := by
 have := List.all_eq_true.1 h i (List.mem_range.2 hi)
 rwa [List.getD_eq_getElem?_getD, hm] at this
theorem zeb {fs : List FactM} : ∀ f ∈ fs, memb f.i (fs.map (·.i)) = true := fun f hf => yU.2 (List.mem_map.2 ⟨f, hf, rfl⟩)
theorem yr.view {P : Program} {C : Ctx} {op : Op} {ty : TypeId} {st st' : St} {x : AV} {nb : Option (Nat × Blk)} (hs : yr P C op ty st' x nb) (hv : ∀ g a w, Rel C st g a w -> Rel C st' g a w) : yr P C op ty st x nb := fun g a w dst pos af gd hr K hK => hs g a w dst pos af gd (hv g a w hr) K hK
theorem Ex.view {P : Program} {C : Ctx} {ops : Array Oper} {l : List Oper} {st st' : St} {Q : Exit -> St -> Prop} (h : Ex P C ops l st' Q) (hv : ∀ g a w, Rel C st g a w -> Rel C st' g a w) : Ex P C ops l st Q := fun g a w hr => h g a w (hv g a w hr)
theorem zgH {f : FactM} {fs : List FactM} {i : Nat} (hi : f.i = i) (hlt : ∀ f' ∈ fs, f'.i < i) (hg : ∀ e ∈ f.g, ∃ f' ∈ fs, f'.i = e.1) (hw : WF fs) : WF (f :: fs) := ⟨fun f' hf' => by rw [hi]; exact hlt f' hf', hg, hw⟩
theorem zgI {f : FactM} {fs : List FactM} {i : Nat} (hi : f.i = i) (hlt : ∀ f' ∈ fs, f'.i < i) : ∀ f' ∈ f :: fs, f'.i < i + 1 := fun f' hf' => by
 rcases List.mem_cons.1 hf' with rfl | h
 ·omega
 ·have := hlt f' h; omega
theorem zcc {C : Ctx} {st : St} {hid az : List Nat} {n : Nat} {fs : List FactM} {g : Gh} {a : Act} {w : World} (ha : ∀ f ∈ fs, memb f.i az = true) (hw : WF fs) (h : Rel C (stOf st hid az (toL n fs)) g a w) : Rel C (zdQ st hid fs) g a w := by
 unfold stOf at h;rw [zkr ha, zks ha] at h;exact h.view rfl (zjB rfl hw fun _ _ => rfl)
theorem zmx {n e : Nat} : ∀ {fs : List FactM}, (fs.all fun f => f.g.isEmpty) = true -> noF e (toL n fs) = toL n (fs.filter fun f => !(f.i == e))
 | [], _ => rfl
 | f :: r, h => by
  simp only [List.all_cons, Bool.and_eq_true, List.isEmpty_iff] at h;have ih := zmx (n := n) (e := e) (fs := r) h.2;unfold noF at ih ⊢;simp only [toL, List.filter_cons];by_cases h1 : f.i = e
  ·simp only [h1, beq_self_eq_true, Bool.not_true, Bool.false_eq_true, if_false]; exact ih
  ·have h2 : (f.i == e) = false := by simpa using h1
   simp only [h2, Bool.not_false, if_true, toL, ih, h.1, optV]
theorem ziD {p : FactM -> Bool} : ∀ {fs : List FactM}, (fs.all fun f => f.g.isEmpty) = true -> WF fs -> WF (fs.filter p)
 | [], _, _ => trivial
 | f :: r, h, hw => by
  simp only [List.all_cons, Bool.and_eq_true, List.isEmpty_iff] at h;have ih := ziD (p := p) (fs := r) h.2 hw.2.2;rw [List.filter_cons];split
  ·exact ⟨fun f' hf' => hw.1 f' (List.mem_filter.1 hf').1, fun e he => by rw [h.1] at he; simp at he, ih⟩
  ·exact ih
theorem ChM.chain {P : Program} {C : Ctx} {ops : Array Oper} {ms : List Nat} {st : St} {hid : List Nat} {Q : Exit -> St -> Prop} (ha : zlg ops ms = true) {i : Nat} {fs : List FactM} (h : ChM P C ops ms st hid Q i fs) : (∀ f ∈ fs, f.i < i) -> i <= ops.size -> WF fs -> Chain P C ops st hid Q i (toL ops.size fs) := by
 induction h with
 | @step i m fs o x nb hm ho hg hs hd _ ih =>
  intro hlt hle hw;have hn : ∀ f ∈ fs, f.i < ops.size := fun f hf => by have := hlt f hf; omega
  refine .step _ ho hg (zfP ha (zkt ho) hm) ?_ hd (ih (zgI rfl hlt) (by have := zkt ho; omega) (zgH rfl hlt (fun e he => by simp at he) hw));rw [zlf hn]; exact hs.view fun g a w hr => hr.selV hw rfl
 | @guard i m fs o x gi t want b c0 g0 hm ho hg hi hb hc0 hcd hg0 hs hd _ ih =>
  intro hlt hle hw;have hn : ∀ f ∈ fs, f.i < ops.size := fun f hf => by have := hlt f hf; omega
  refine .gen rfl ⟨zfP ha (zkt ho) hm, hd, fun g a w hr K hK => ?_⟩ (ih (zgI rfl hlt) (by have := zkt ho; omega) (zgH rfl hlt hg0 hw));have hr : Rel C (stR st hid m fs) g a w := by rw [← zlf hn]; exact hr
  have hy := zf5 hr hi hb (fun e => by rw [e] at hc0; exact hc0.symm);have hcs : zd fs ((gi, want) :: g0) = ((b == want) && c0) := by rw [zaN, hcd, hc0]
  simp only [wpOpIn, ho];cases hT : zd fs ((gi, want) :: g0) with
  | true =>
   rw [hcs, Bool.and_eq_true] at hT;rw [if_pos (by simp only [Region.wanted, hg, hy, hT.2, if_true]; simpa using hT.1)];refine zK (hs (by rw [hcs, hT.1, hT.2]; rfl) g a w o.dst o.pos o.after o.guard (hr.selV hw (by rw [hcs, hT.1, hT.2]; rfl)) _ fun v w' g' h2 h3 h4 h5 => hK v w' g' h2 (.opt _ _ _ (fun _ => h3) fun e => ?_) h4 h5);rw [hcs, hT.1, hT.2] at e; cases e
  | false =>
   rw [if_neg (fun hwant => by
    simp only [Region.wanted, hg, hy] at hwant;rw [hcs] at hT;cases hc : c0 with
    | true =>
     rw [hc] at hT hwant;have h1 : (b == want) = true := by simpa using hwant
     rw [h1] at hT; cases hT
    | false => rw [hc] at hwant; simp at hwant)]
   exact ⟨fun f _ => C.F_fn f, hK undef w g (Add.refl _ g w) (.opt _ _ _ (fun e => by rw [hT] at e; cases e) fun _ => rfl) ⟨hr.sat.im, hr.sat.ob⟩ (fun _ _ h => by cases h)⟩
 | @tail2 i m me fs o1 oe o2 x hm hme hl hge hok hf hde hse hA hB =>
  intro hlt hle hw;have hn : ∀ f ∈ fs, f.i < ops.size := fun f hf => by have := hlt f hf; omega
  have hsz : i + 1 < ops.size := by
   have : (ops.toList.drop i).length = 3 := by rw [hl]; rfl
   simp at this; omega
  have hn2 : ∀ f ∈ (⟨i + 1, oe.dst, x, none, me, []⟩ : FactM) :: fs, f.i < ops.size := fun f hf => by
   rcases List.mem_cons.1 hf with rfl | h
   ·exact hsz
   ·exact hn f h
  have hw2 : WF ((⟨i + 1, oe.dst, x, none, me, []⟩ : FactM) :: fs) := ⟨fun f' hf' => by have := hlt f' hf'; show f'.i < i + 1; omega, fun e he => by simp at he, hw⟩;refine .tail2 (bits ops.size m) (bits ops.size me) hl hge (zmv (fs := ⟨i + 1, oe.dst, x, none, me, []⟩ :: fs) hn2 hok) hf (zfP ha hsz hme) hde ?_ ?_ ?_
  ·rw [zlf hn]; exact hse.view fun g a w hr => hr.selV hw rfl
  ·rw [ziC]
   refine hA.view fun g a w hr => zcc (n := ops.size) (az := (i + 1) :: fs.map (·.i)) (fun f hf => yU.2 (by
    rcases List.mem_cons.1 hf with rfl | h2
    ·exact List.mem_cons_self ..
    ·exact List.mem_cons_of_mem _ (List.mem_map.2 ⟨f, h2, rfl⟩))) hw2 hr
  ·rw [ziC]; exact hB.view fun g a w hr => zcc zeb hw hr
 | @late i m fs o1 oe o2 e hm hl hoe hg hok hf hA hB =>
  intro hlt hle hw;have hn : ∀ f ∈ fs, f.i < ops.size := fun f hf => by have := hlt f hf; omega
  refine .late e (bits ops.size m) hl hoe (zmv hn hok) hf ?_ ?_
  ·rw [ziC]; exact hA.view fun g a w hr => zcc zeb hw hr
  ·rw [zmx hg, ziC]; exact hB.view fun g a w hr => zcc zeb (ziD hg hw) hr
 | tail hok hf hx =>
  intro hlt hle hw;refine .tail _ (zmv (fun f hf => by have := hlt f hf; omega) hok) hf ?_;rw [ziC]; exact hx.view fun g a w hr => zcc zeb hw hr
section
variable {P : Program} {C : Ctx} {st : St} {ty : TypeId} {Q : Exit -> St -> Prop} {ops : Array Oper} {ms : List Nat} {hid : List Nat} {i m : Nat} {fs : List FactM} {o : Oper} {x : AV} {nb : Option (Nat × Blk)}
theorem zf {id : Nat} {l : List Oper} (hid ms : List Nat) (hm : P.follows .mixedOrders = true) (h : ChM P C l.toArray ms st hid Q 0 []) (he : zc5 l.toArray = true := by kernel_rfl) (ha : zlg l.toArray ms = true := by kernel_rfl) : X P C (.region id l.toArray true) st Q :=
 ztg hid hm he (h.chain ha (fun f hf => by simp at hf) (Nat.zero_le _) trivial)
theorem yc {d : Nat} (h : ChM P C ops ms st hid Q (i + 1) (⟨i, some d, x, none, m, []⟩ :: fs)) (hm : ms[i]? = some m := by exact rfl) (ho : ops[i]? = some o := by exact rfl) (hg : o.guard = none := by exact rfl) (hod : o.dst = some d := by exact rfl) (hs : Pur P C o.op o.type (stV st hid m fs []) x := by exact y9) (hd : d.blt C.n = true := by exact rfl) : ChM P C ops ms st hid Q i fs :=
 .step hm ho hg hs.stepA (by rw [hod]; exact hd) (by rw [hod]; exact h)
theorem yM {d : Nat} {f : FuncId} {caps xs : List AV} {r : AV} {fop : Operand} {args : Array Operand} {ts : Array TypeId} (hc : Fn P f (xs ++ caps) r) (h : ChM P C ops ms st hid Q (i + 1) (⟨i, some d, r, none, m, []⟩ :: fs)) (hm : ms[i]? = some m := by exact rfl) (ho : ops[i]? = some o := by exact rfl) (hg : o.guard = none := by exact rfl) (hod : o.dst = some d := by exact rfl)
 (hop : o.op = .call { callee := .value fop, args := args, argTypes := ts } := by exact rfl) (hf : ev (stV st hid m fs []) fop = some (.fn f caps) := by exact rfl) (hx : evs (stV st hid m fs []) args.toList = some xs := by exact rfl) (hn : AV.nm.nmL (xs ++ caps) = true := by exact rfl) (hd : d.blt C.n = true := by exact rfl) : ChM P C ops ms st hid Q i fs :=
 .step hm ho hg (by rw [hop]; exact zb6 hf hx hn (LeL.refl _) hc) (by rw [hod]; exact hd) (by rw [hod]; exact h)
theorem ChM.gi {d gi t : Nat} {want b c : Bool} {g0 : List (Nat × Bool)} {p n : Prop} (h : ChM P C ops ms st hid Q (i + 1) (⟨i, some d, x, none, m, (gi, want) :: g0⟩ :: fs)) (hm : ms[i]? = some m := by exact rfl) (ho : ops[i]? = some o := by exact rfl) (hg : o.guard = some (gi, want) := by exact rfl) (hod : o.dst = some d := by exact rfl) (hi : (ops[gi]?).bind (·.dst) = some t := by exact rfl)
 (hch : zbI fs gi = g0 := by first | exact (rfl : _ = []) | exact (rfl : _ = [_]) | exact (rfl : _ = [_, _]) | exact (rfl : _ = [_, _, _])) (hb : lk (stR st hid m fs).t t = some (optV (zd fs g0) g0 (.bool b)) := by exact rfl) (hcd : zaq fs gi want = (b == want) := by exact rfl) (hg0 : zcb fs ((gi, want) :: g0) = true := by exact rfl)
 (hcs : zd fs ((gi, want) :: g0) = c := by first | exact (rfl : _ = ((_ : Bool) == _)) | exact (rfl : _ = (((_ : Bool) == _) && ((_ : Bool) == _))) | exact (rfl : _ = (((_ : Bool) == _) && (((_ : Bool) == _) && ((_ : Bool) == _))))) (bp : BP c p n := by exact inferInstance) (hs : p -> Pur P C o.op o.type (stV st hid m fs ((gi, want) :: g0)) x := by intro hgd; exact y9) (hd : d.blt C.n = true := by exact rfl) : ChM P C ops ms st hid Q i fs :=
 .guard hm ho hg hi hb rfl hcd (zaw hg0) (fun e => (hs (bp.t (hcs.symm.trans e))).stepA) (by rw [hod]; exact hd) (by rw [hod]; exact h)
theorem ChM.lt (e : Nat) {o1 oe o2 : Oper} (hA : Ex P C ops [o1, o2] (zdQ st hid fs) Q) (hB : Ex P C ops [o1, oe, o2] (zdQ st hid (fs.filter fun f => !(f.i == e))) Q) (hm : ms[i]? = some m := by exact rfl) (hl : ops.toList.drop i = [o1, o2] := by exact rfl) (hoe : ops[e]? = some oe := by exact rfl) (hg : (fs.all fun f => f.g.isEmpty) = true := by exact rfl)
 (hok : okFM st hid fs = true := by exact rfl) (hf : zck ops i e (bits ops.size m) = true := by kernel_rfl) : ChM P C ops ms st hid Q i fs := .late e hm hl hoe hg hok hf hA hB
theorem yE (h : Ex P C ops (ops.toList.drop i) (zdQ st hid fs) Q) (hok : okFM st hid fs = true := by exact rfl) (hf : zdI ops i (bits ops.size (ms.getD i 0)) = true := by kernel_rfl) : ChM P C ops ms st hid Q i fs := .tail hok hf h
theorem zM {d i t : Nat} {want b : Bool} {rest : List Oper} {op : Op} {pos : String} {af : Array Edge} (h : Ex P C ops rest ⟨(d, x) :: st.t, st.h⟩ Q) (hi : (ops[i]?).bind (·.dst) = some t := by exact rfl) (hb : lk st.t t = some (.bool b) := by exact rfl) (hw : (b == want) = true := by first | assumption | rfl | (simp_all; done) | omega) (hs : Pur P C op ty st x := by exact y9) (hd : d.blt C.n = true := by exact rfl) :
 Ex P C ops ({ dst := some d, op := op, type := ty, pos := pos, after := af, guard := some (i, want) } :: rest) st Q := zoB hi hb hw hs.stepA hd rfl h
theorem zaT {d i t : Nat} {want b : Bool} {rest : List Oper} {op : Op} {pos : String} {af : Array Edge} (h : Ex P C ops rest ⟨(d, .tup []) :: st.t, st.h⟩ Q) (hi : (ops[i]?).bind (·.dst) = some t := by exact rfl) (hb : lk st.t t = some (.bool b) := by exact rfl) (hw : (b == want) = false := by first | assumption | rfl | (simp_all; done) | fail) (hd : d.blt C.n = true := by exact rfl) :
 Ex P C ops ({ dst := some d, op := op, type := ty, pos := pos, after := af, guard := some (i, want) } :: rest) st Q := zvL hi hb hw hd h
end
def stF (st : St) (fs : List FactM) (G : List (Nat × Bool)) : St := ⟨allV fs G st.t fs, ziB st.h fs⟩
def stFR (st : St) (fs : List FactM) : St := ⟨allR st.t fs, ziB st.h fs⟩
def ExF (P : Program) (C : Ctx) (ops : Array Oper) (st : St) (Q : Exit -> St -> Prop) (i : Nat) (fs : List FactM) : Prop :=
 (∀ f ∈ fs, f.i < i) -> WF fs -> ∀ g a w, Rel C (stFR st fs) g a w -> wpListIn C.F 0 P ops (lift C Q) (ops.toList.drop i) a w
section
variable {P : Program} {C : Ctx} {st : St} {ty : TypeId} {Q : Exit -> St -> Prop} {ops : Array Oper} {i : Nat} {fs : List FactM} {o : Oper} {x : AV} {nb : Option (Nat × Blk)}
theorem Rel.stF {C : Ctx} {st : St} {fs : List FactM} {G : List (Nat × Bool)} {g : Gh} {a : Act} {w : World} (hw : WF fs) (hG : zd fs G = true) (h : Rel C (stFR st fs) g a w) : Rel C (stF st fs G) g a w :=
 h.view rfl (zjB hG hw fun _ _ => rfl)
theorem zku (st : St) (d : Option Nat) (x : AV) (nb : Option (Nat × Blk)) : addSt st d x nb = ⟨consT d x st.t, zir nb st.h⟩ := by
 cases d <;> cases nb <;> rfl
theorem ExF.at (i : Nat) {l : List Oper} (h : ExF P C ops st Q i []) (hl : ops.toList.drop i = l := by exact rfl) : Ex P C ops l st Q := fun g a w hr => hl ▸ h (fun f hf => by simp at hf) trivial g a w hr
theorem zmy {ops : Array Oper} {i : Nat} {o : Oper} (ho : ops[i]? = some o) : ops.toList.drop i = o :: ops.toList.drop (i + 1) := by
 have hlt := zkt ho;rw [List.drop_eq_getElem_cons (by simpa using hlt)];congr 1;rw [Array.getElem?_eq_getElem hlt] at ho;simpa using ho
theorem ExF.step (ho : ops[i]? = some o) (hg : o.guard = none) (hs : yr P C o.op o.type (stF st fs []) x nb) (hd : dOk C.n o.dst = true) (hn : nbOk (stFR st fs) nb = true) (h : ExF P C ops st Q (i + 1) (⟨i, o.dst, x, nb, 0, []⟩ :: fs)) : ExF P C ops st Q i fs := fun hlt hw g a w hr => by
 rw [zmy ho];refine wpListIn_plain hg fun K hK => zK <| hs g a w o.dst o.pos o.after o.guard (hr.stF hw rfl) K fun v w' g' h2 h3 h4 h5 => hK _ _ ?_
 refine h (zgI rfl hlt) (zgH rfl hlt (fun e he => by simp at he) hw) g' _ w' ?_;have := hr.addSt h2 hd hn h3 h4.1 h4.2 h5;rw [zku] at this;exact this
theorem ExF.guard {gi t : Nat} {want b c0 : Bool} {g0 : List (Nat × Bool)} (ho : ops[i]? = some o) (hg : o.guard = some (gi, want)) (hi : (ops[gi]?).bind (·.dst) = some t) (hb : lk (stFR st fs).t t = some (optV c0 g0 (.bool b)))
 (hc0 : zd fs g0 = c0) (hcd : zaq fs gi want = (b == want)) (hg0 : ∀ e ∈ (gi, want) :: g0, ∃ f' ∈ fs, f'.i = e.1) (hs : zd fs ((gi, want) :: g0) = true -> yr P C o.op o.type (stF st fs ((gi, want) :: g0)) x none) (hd : dOk C.n o.dst = true)
 (h : ExF P C ops st Q (i + 1) (⟨i, o.dst, x, none, 0, (gi, want) :: g0⟩ :: fs)) : ExF P C ops st Q i fs := fun hlt hw g a w hr => by
 rw [zmy ho];have hy := zf5 hr hi hb (fun e => by rw [e] at hc0; exact hc0.symm);have hcs : zd fs ((gi, want) :: g0) = ((b == want) && c0) := by rw [zaN, hcd, hc0]
 have next : ∀ g' a' w', Rel C (stFR st (⟨i, o.dst, x, none, 0, (gi, want) :: g0⟩ :: fs)) g' a' w' -> wpListIn C.F 0 P ops (lift C Q) (ops.toList.drop (i + 1)) a' w' := h (zgI rfl hlt) (zgH rfl hlt hg0 hw)
 have put : ∀ g' v w', Add none g w g' w' -> RV g'.I g'.ρ (.opt (zd fs ((gi, want) :: g0)) x) v -> ImOB g' w' -> Rel C (stFR st (⟨i, o.dst, x, none, 0, (gi, want) :: g0⟩ :: fs)) g' (a.put o.dst v) w' := fun g' v w' h2 h3 h4 => by
  have := hr.addSt (nb := none) h2 hd rfl h3 h4.1 h4.2 (fun _ _ h => by cases h);rw [zku] at this;exact this
 unfold wpListIn;cases hT : zd fs ((gi, want) :: g0) with
 | true =>
  rw [hcs, Bool.and_eq_true] at hT;rw [if_pos (by simp only [Region.wanted, hg, hy, hT.2, if_true]; simpa using hT.1)];refine zK (hs (by rw [hcs, hT.1, hT.2]; rfl) g a w o.dst o.pos o.after o.guard (hr.stF hw (by rw [hcs, hT.1, hT.2]; rfl)) _ fun v w' g' h2 h3 h4 h5 => next _ _ _ (put g' v w' h2 (.opt _ _ _ (fun _ => h3) fun e => ?_) h4));rw [hcs, hT.1, hT.2] at e; cases e
 | false =>
  rw [if_neg (fun hwant => by
   simp only [Region.wanted, hg, hy] at hwant;rw [hcs] at hT;cases hc : c0 with
   | true =>
    rw [hc] at hT hwant;have h1 : (b == want) = true := by simpa using hwant
    rw [h1] at hT; cases hT
   | false => rw [hc] at hwant; simp at hwant)]
  exact ⟨fun f _ => C.F_fn f, next g _ w (put g undef w (Add.refl _ g w) (.opt _ _ _ (fun e => by rw [hT] at e; cases e) fun _ => rfl) ⟨hr.sat.im, hr.sat.ob⟩)⟩
theorem zfx (h : Ex P C ops (ops.toList.drop i) (stF st fs []) Q) : ExF P C ops st Q i fs := fun hlt hw g a w hr => h g a w (hr.stF hw rfl)
theorem yA {d : Nat} (h : ExF P C ops st Q (i + 1) (⟨i, some d, x, none, 0, []⟩ :: fs)) (ho : ops[i]? = some o := by exact rfl) (hg : o.guard = none := by exact rfl) (hod : o.dst = some d := by exact rfl) (hs : Pur P C o.op o.type (stF st fs []) x := by exact y9) (hd : d.blt C.n = true := by exact rfl) : ExF P C ops st Q i fs :=
 .step ho hg hs.stepA (by rw [hod]; exact hd) rfl (by rw [hod]; exact h)
theorem ExF.gi {d gi t : Nat} {want b c : Bool} {g0 : List (Nat × Bool)} {p n : Prop} (h : ExF P C ops st Q (i + 1) (⟨i, some d, x, none, 0, (gi, want) :: g0⟩ :: fs)) (ho : ops[i]? = some o := by exact rfl) (hg : o.guard = some (gi, want) := by exact rfl) (hod : o.dst = some d := by exact rfl) (hi : (ops[gi]?).bind (·.dst) = some t := by exact rfl)
 (hch : zbI fs gi = g0 := by first | exact (rfl : _ = []) | exact (rfl : _ = [_]) | exact (rfl : _ = [_, _]) | exact (rfl : _ = [_, _, _])) (hb : lk (stFR st fs).t t = some (optV (zd fs g0) g0 (.bool b)) := by exact rfl) (hcd : zaq fs gi want = (b == want) := by exact rfl) (hg0 : zcb fs ((gi, want) :: g0) = true := by exact rfl)
 (hcs : zd fs ((gi, want) :: g0) = c := by first | exact (rfl : _ = ((_ : Bool) == _)) | exact (rfl : _ = (((_ : Bool) == _) && ((_ : Bool) == _))) | exact (rfl : _ = (((_ : Bool) == _) && (((_ : Bool) == _) && ((_ : Bool) == _))))) (bp : BP c p n := by exact inferInstance) (hs : p -> Pur P C o.op o.type (stF st fs ((gi, want) :: g0)) x := by intro hgd; exact y9) (hd : d.blt C.n = true := by exact rfl) : ExF P C ops st Q i fs :=
 .guard ho hg hi hb rfl hcd (zaw hg0) (fun e => (hs (bp.t (hcs.symm.trans e))).stepA) (by rw [hod]; exact hd) (by rw [hod]; exact h)
theorem ExF.gs {d gi t : Nat} {want b : Bool} {g0 : List (Nat × Bool)} (hs : yr P C o.op o.type (stF st fs ((gi, want) :: g0)) x none) (h : ExF P C ops st Q (i + 1) (⟨i, some d, x, none, 0, (gi, want) :: g0⟩ :: fs)) (ho : ops[i]? = some o := by exact rfl) (hg : o.guard = some (gi, want) := by exact rfl) (hod : o.dst = some d := by exact rfl) (hi : (ops[gi]?).bind (·.dst) = some t := by exact rfl)
 (hch : zbI fs gi = g0 := by first | exact (rfl : _ = []) | exact (rfl : _ = [_]) | exact (rfl : _ = [_, _]) | exact (rfl : _ = [_, _, _])) (hb : lk (stFR st fs).t t = some (optV (zd fs g0) g0 (.bool b)) := by exact rfl) (hcd : zaq fs gi want = (b == want) := by exact rfl) (hg0 : zcb fs ((gi, want) :: g0) = true := by exact rfl)
 (hd : d.blt C.n = true := by exact rfl) : ExF P C ops st Q i fs :=
 .guard ho hg hi hb rfl hcd (zaw hg0) (fun _ => hs) (by rw [hod]; exact hd) (by rw [hod]; exact h)
theorem ExF.cg {d gi t : Nat} {want b : Bool} {g0 : List (Nat × Bool)} {f : FuncId} {caps xs : List AV} {fop : Operand} {args : Array Operand} {ts : Array TypeId} (hc : Fn P f (xs ++ caps) x) (h : ExF P C ops st Q (i + 1) (⟨i, some d, x, none, 0, (gi, want) :: g0⟩ :: fs)) (ho : ops[i]? = some o := by exact rfl) (hg : o.guard = some (gi, want) := by exact rfl) (hod : o.dst = some d := by exact rfl) (hi : (ops[gi]?).bind (·.dst) = some t := by exact rfl)
 (hch : zbI fs gi = g0 := by first | exact (rfl : _ = []) | exact (rfl : _ = [_]) | exact (rfl : _ = [_, _]) | exact (rfl : _ = [_, _, _])) (hb : lk (stFR st fs).t t = some (optV (zd fs g0) g0 (.bool b)) := by exact rfl) (hcd : zaq fs gi want = (b == want) := by exact rfl) (hg0 : zcb fs ((gi, want) :: g0) = true := by exact rfl)
 (hop : o.op = .call { callee := .value fop, args := args, argTypes := ts } := by exact rfl) (hf : ev (stF st fs ((gi, want) :: g0)) fop = some (.fn f caps) := by exact rfl) (hx : evs (stF st fs ((gi, want) :: g0)) args.toList = some xs := by exact rfl) (hn : AV.nm.nmL (xs ++ caps) = true := by exact rfl) (hd : d.blt C.n = true := by exact rfl) : ExF P C ops st Q i fs :=
 .guard ho hg hi hb rfl hcd (zaw hg0) (fun e => by rw [hop]; exact zb6 hf hx hn (LeL.refl _) hc) (by rw [hod]; exact hd) (by rw [hod]; exact h)
theorem ExF.cp {d gi t : Nat} {want b c : Bool} {g0 : List (Nat × Bool)} {p n : Prop} {f : FuncId} {caps xs : List AV} {fop : Operand} {args : Array Operand} {ts : Array TypeId} (hc : p -> Fn P f (xs ++ caps) x) (h : ExF P C ops st Q (i + 1) (⟨i, some d, x, none, 0, (gi, want) :: g0⟩ :: fs)) (ho : ops[i]? = some o := by exact rfl) (hg : o.guard = some (gi, want) := by exact rfl) (hod : o.dst = some d := by exact rfl) (hi : (ops[gi]?).bind (·.dst) = some t := by exact rfl)
 (hch : zbI fs gi = g0 := by first | exact (rfl : _ = []) | exact (rfl : _ = [_]) | exact (rfl : _ = [_, _]) | exact (rfl : _ = [_, _, _])) (hb : lk (stFR st fs).t t = some (optV (zd fs g0) g0 (.bool b)) := by exact rfl) (hcd : zaq fs gi want = (b == want) := by exact rfl) (hg0 : zcb fs ((gi, want) :: g0) = true := by exact rfl)
 (hcs : zd fs ((gi, want) :: g0) = c := by first | exact (rfl : _ = ((_ : Bool) == _)) | exact (rfl : _ = (((_ : Bool) == _) && ((_ : Bool) == _))) | exact (rfl : _ = (((_ : Bool) == _) && (((_ : Bool) == _) && ((_ : Bool) == _))))) (bp : BP c p n := by exact inferInstance) (hop : o.op = .call { callee := .value fop, args := args, argTypes := ts } := by exact rfl) (hf : ev (stF st fs ((gi, want) :: g0)) fop = some (.fn f caps) := by exact rfl) (hx : evs (stF st fs ((gi, want) :: g0)) args.toList = some xs := by exact rfl) (hn : AV.nm.nmL (xs ++ caps) = true := by exact rfl) (hd : d.blt C.n = true := by exact rfl) : ExF P C ops st Q i fs :=
 .guard ho hg hi hb rfl hcd (zaw hg0) (fun e => by rw [hop]; exact zb6 hf hx hn (LeL.refl _) (hc (bp.t (hcs.symm.trans e)))) (by rw [hod]; exact hd) (by rw [hod]; exact h)
theorem ChM.cg {ms : List Nat} {hid : List Nat} {m : Nat} {d gi t : Nat} {want b : Bool} {g0 : List (Nat × Bool)} {f : FuncId} {caps xs : List AV} {fop : Operand} {args : Array Operand} {ts : Array TypeId} (hc : Fn P f (xs ++ caps) x) (h : ChM P C ops ms st hid Q (i + 1) (⟨i, some d, x, none, m, (gi, want) :: g0⟩ :: fs)) (hm : ms[i]? = some m := by exact rfl) (ho : ops[i]? = some o := by exact rfl) (hg : o.guard = some (gi, want) := by exact rfl) (hod : o.dst = some d := by exact rfl) (hi : (ops[gi]?).bind (·.dst) = some t := by exact rfl)
 (hch : zbI fs gi = g0 := by first | exact (rfl : _ = []) | exact (rfl : _ = [_]) | exact (rfl : _ = [_, _]) | exact (rfl : _ = [_, _, _])) (hb : lk (stR st hid m fs).t t = some (optV (zd fs g0) g0 (.bool b)) := by exact rfl) (hcd : zaq fs gi want = (b == want) := by exact rfl) (hg0 : zcb fs ((gi, want) :: g0) = true := by exact rfl)
 (hop : o.op = .call { callee := .value fop, args := args, argTypes := ts } := by exact rfl) (hf : ev (stV st hid m fs ((gi, want) :: g0)) fop = some (.fn f caps) := by exact rfl) (hx : evs (stV st hid m fs ((gi, want) :: g0)) args.toList = some xs := by exact rfl) (hn : AV.nm.nmL (xs ++ caps) = true := by exact rfl) (hd : d.blt C.n = true := by exact rfl) : ChM P C ops ms st hid Q i fs :=
 .guard hm ho hg hi hb rfl hcd (zaw hg0) (fun e => by rw [hop]; exact zb6 hf hx hn (LeL.refl _) hc) (by rw [hod]; exact hd) (by rw [hod]; exact h)
end
theorem yz {ι : Type} {C : Ctx} {st : St} {I : ι -> List (Nat × AV)} {H : ι -> List (Nat × Blk)} {J : ι -> Prop} {μ : ι -> Nat} {n : Nat} (i' : ι) (hJ : J i' := by first | trivial | omega | (refine ⟨?_, ?_⟩ <;> omega)) (hm : μ i' < n := by first | omega | (dsimp only; omega)) (hI : Imp C st ⟨I i', H i'⟩ := by exact ye) :
 ∃ i', Imp C st ⟨I i', H i'⟩ /\ J i' /\ μ i' < n := ⟨i', hI, hJ, hm⟩
end Go.Rse
namespace Go.Rse
open Go Go.RowKit
def ziE (P : Program) (C : Ctx) (rv : List ResultVar) (r : AV) (vs : List Value) (cs : List AV) (hs' : List (Nat × Blk)) (e : Exit) (st : St) : Prop :=
 (e = .normal \/ e = .ret) /\ ∃ ts ex, Imp C st ⟨ts, (kN, .hold vs cs) :: (hs' ++ ex)⟩ /\ RetVs P ⟨ts, (kN, .hold vs cs) :: (hs' ++ ex)⟩ rv r
theorem ziE.mk {P : Program} {C : Ctx} {rv : List ResultVar} {r : AV} {vs : List Value} {cs : List AV} {hs' : List (Nat × Blk)} {e : Exit} {st : St} (ts : List (Nat × AV)) (ex : List (Nat × Blk)) (he : e = .normal \/ e = .ret) (hr : RetVs P ⟨ts, (kN, .hold vs cs) :: (hs' ++ ex)⟩ rv r) (hi : Imp C st ⟨ts, (kN, .hold vs cs) :: (hs' ++ ex)⟩ := by exact ye) : ziE P C rv r vs cs hs' e st :=
 ⟨he, ts, ex, hi, hr⟩
theorem FnO.introX {P : Program} {f : FuncId} {fn : Func} {c : Code} {n : Nat} {az : List AV} {ts : List (Nat × AV)} {rv : List ResultVar} {r : AV} {hs hs' : List (Nat × Blk)} {kp : List Nat} {cs : List AV} (hc : zZ P f = true) (hf : P.funcs[f]? = some fn) (hb : fn.body = some c) (hn : fn.ntmps = n) (hrv : fn.results = rv.toArray)
 (hts : zaQ 0 az = ts) (hlen : az.length <= n) (hkn : (hs.all fun p => !(p.1.beq kN)) = true) (hkn' : (hs'.all fun p => !(p.1.beq kN)) = true) (hkp : kp.mapM (hdr hs) = some cs) (hkp' : kp.mapM (hdr hs') = some cs)
 (h : ∀ g w d vs, X P (C0 n d g w) c ⟨ts, (kN, .hold vs cs) :: hs⟩ (ziE P (C0 n d g w) rv r vs cs hs')) : FnO P f az hs kp r hs' := by
 refine ⟨hc, fun d ρ I O w args hsat hargs => (callsIn_wide (n := 0)).1 (callsIn_of_wp_marks hf hb trivial ?_)⟩;subst hts;have hsz : args.length = az.length := hargs.1;let C := C0 n d ⟨ρ, I, O⟩ w
 have hrel : Rel C ⟨zaQ 0 az, (kN, .hold (kp.map ρ) cs) :: hs⟩ ⟨ρ, I, O⟩ { tmps := args.toArray ++ Array.replicate (fn.ntmps - args.toArray.size) undef, defers := [] } w := by
  refine ⟨by simp [hn, C]; omega, Dfs.nil _ _ _, fun t x hx => ?_, ⟨hsat.im, hsat.ob, fun k B hB => ?_⟩, ⟨Im.le_refl _, rfl, rfl, rfl, Nat.le_refl _, Nat.le_refl _, fun _ _ _ _ => ⟨rfl, rfl⟩, fun b y n _ hy => ⟨n, hy⟩⟩⟩
  ·obtain ⟨_, hx'⟩ := zb7 (I := I) (ρ := ρ) az 0 t x hx;simp only [Nat.sub_zero] at hx';have ht : t < args.length := by rw [hsz]; exact (List.getElem?_eq_some_iff.1 hx').1
   have e : (args.toArray ++ Array.replicate (fn.ntmps - args.toArray.size) undef).getD t undef = args[t] := by
    simp [Array.getD_eq_getD_getElem?, Array.getElem?_append, ht]
   rw [e];exact hargs.2 t x _ hx' (List.getElem?_eq_getElem ht)
  ·simp only [yj] at hB;cases hbq : kN.beq k <;> simp [hbq] at hB
   ·exact (hsat.blk k B hB).ctx
   ·subst hB;exact zfv (g := ⟨ρ, I, O⟩) hsat hkp
 refine wpIn_mono (h _ w d _ _ _ w hrel) ?_
 rintro e a w' ⟨st, g1, hr1, he, ts', ex', himp, hret⟩
 obtain ⟨g2, hr2⟩ := himp g1 a w' hr1
 have hfin : LeavesInM Fence.wide 0 P fn a.tmps (fun e w' => ∃ v ρ' I' O', e = .returned v /\ Sat (C0 0 d ⟨ρ, I, O⟩ w) hs' ⟨ρ', I', O'⟩ w' /\ RV I' ρ' r v /\ Ext (C0 0 d ⟨ρ, I, O⟩ w) ⟨ρ', I', O'⟩ w' /\ ∀ n ∈ kp, ρ' n = ρ n) a.defers .returning w' := by
  obtain ⟨D, hD, hnd, hDr⟩ := hr2.defers;refine zap (C := C) hrv hret rfl (fun g3 w3 v hr3 hv => ?_) D hD.plain hnd hDr ⟨hr2.size, Dfs.nil _ _ _, hr2.tmps, hr2.sat, hr2.ext⟩
  have hs3 : Sat (C0 0 d ⟨ρ, I, O⟩ w) hs' g3 w3 := ⟨hr3.sat.im, hr3.sat.ob, fun k B hB => by
   refine (hr3.sat.blk k B ?_).ctx
   have : kN.beq k = false := by
    cases hb : kN.beq k
    ·rfl
    ·have : kN = k := by simpa using hb
     subst this; rw [zdL hkn'] at hB; simp at hB
   simp [yj, this, zbL, hB]⟩
  have hh := hr3.sat.blk kN (.hold (kp.map ρ) cs) (by simp [yj]);exact ⟨v, g3.ρ, g3.I, g3.O, rfl, hs3, hv, ⟨hr3.ext.I, hr3.ext.os, hr3.ext.tape, hr3.ext.output, hr3.ext.drawn, hr3.ext.size, hr3.ext.keep, hr3.ext.own⟩, zdK (ρ := ρ) hs3 hkp' hh⟩
 rcases he with rfl | rfl <;> exact hfin
section
variable {P : Program} {C : Ctx} {st : St} {ty : TypeId} {Q : Exit -> St -> Prop}
theorem zaF {ops : Array Oper} {rest : List Oper} {dst : Option Tmp} {pos : String} {af : Array Edge} {fop : Operand} {args : Array Operand} {ts : Array TypeId} {f : FuncId} {caps xs as' : List AV} {hs hs' : List (Nat × Blk)} {kp : List Nat} {r : AV}
 (μ : List (Nat × Nat)) (h : FnO P f as' hs kp r hs') (hq : Ex P C ops rest (zba st μ hs hs' dst r) Q) (hf : ev st fop = some (.fn f caps) := by exact rfl) (hx : evs st args.toList = some xs := by exact rfl) (hμ : biOk μ = true := by exact rfl) (hle : LeL (xs ++ caps) (as'.map (AV.ren μ)) := by exact LeL.refl _) (has : as'.all (AV.okN (keys hs)) = true := by exact rfl) (hrn : r.okN (keys hs') = true := by exact rfl)
 (hin : zaj st μ (keys hs) hs := by repeat' (first | exact True.intro | refine And.intro ⟨_, _, rfl, rfl, LeB.refl _, rfl⟩ ?_)) (hout : (hs'.all fun p => (fwd μ p.1).isSome && p.2.okNB (keys hs')) = true := by exact rfl)
 (hnew : (μ.all fun p => kp.any (·.beq p.1) || (hs.any (·.1.beq p.1) && !(hs'.any (·.1.beq p.1))) || (!(hs.any (·.1.beq p.1)) && st.fr p.2)) = true := by exact rfl)
 (hkp : (kp.all fun n => hs.any (·.1.beq n)) = true := by exact rfl) (hd : dOk C.n dst = true := by exact rfl) :
 Ex P C ops ({ dst := dst, op := .call { callee := .value fop, args := args, argTypes := ts }, type := ty, pos := pos, after := af, guard := none } :: rest) st Q := zaR μ h hf hx hμ hle has hrn hin hout hnew hkp hd hq
end
end Go.Rse
namespace Go.Rse
open Go Go.RowKit
def andI (p q : Int) : Int := IntKind.i64.wrap ((BitVec.ofInt 64 p &&& BitVec.ofInt 64 q).toNat : Int)
section
variable {P : Program} {C : Ctx} {st : St} {ty : TypeId} {x y : Operand} {xt yt : TypeId} {k k' : IntKind} {p q : Int}
theorem zoS {op : BinOp} {g : Gh} {a : Act} {w : World} (hr : Rel C st g a w) (hx : ev st x = some (.int k p)) (hy : ev st y = some (.int k' q)) (dst : Option Tmp) (pos : String) (af : Array Edge) (gd : Option (Nat × Bool)) (r : Value)
 (h : (binOp op xt (.int k p) (.int k' q)).run P w = .ok r w) : (execOp a.eval { dst := dst, op := .binOp op xt x y yt, type := ty, pos := pos, after := af, guard := gd }).run P w = .ok (.value r) w := by
 have ex := za (yn hr hx);have ey := za (yn hr hy)
 have hg : (eqGuard op xt x y (.int k p) (.int k' q)).run P w = .ok () w := by
  unfold eqGuard; cases op <;> simp
 simp only [execOp, ex, ey, Sem.run_bind, hg, Result.andThen_ok, h, Sem.run_pure]
theorem zhK (hx : ev st x = some (.int .i64 p)) (hy : ev st y = some (.int .i64 q)) : Pur P C (.binOp .and xt x y yt) ty st (.int .i64 (andI p q)) := fun g a w dst pos af gd hr =>
 ⟨_, zoS hr hx hy dst pos af gd (.int .i64 (andI p q)) (by simp [binOp, Op.intBits]; rfl), .int _ _⟩
end
end Go.Rse
namespace Go.Rse
open Go Go.RowKit
section plain
variable {α : Type}
def mix (q : Int) : List (Int × α) -> Nat -> Option (Nat × α)
 | [], _ => none
 | p :: r, i => if p.1 = q then some (i, p.2) else mix q r (i + 1)
def mget (q : Int) (l : List (Int × α)) : Option α := (mix q l 0).map (·.2)
def mput (q : Int) (x : α) (l : List (Int × α)) : List (Int × α) := match mix q l 0 with
 | some (i, _) => l.set i (q, x)
 | none => l ++ [(q, x)]
theorem zfy {q : Int} {d : IntKind} : ∀ (l : List (Int × α)) (es : List MapEntry) (i : Nat), es.length = l.length -> (∀ (j : Nat) e p, es[j]? = some e -> l[j]? = some p -> e.key = .int .i64 p.1) →
 (mix q l i = none /\ Instr.findNow (.int d) (.int .i64 q) es i = some none) \/ ∃ j e x, mix q l i = some (i + j, x) /\ Instr.findNow (.int d) (.int .i64 q) es i = some (some (i + j, e.val)) /\ es[j]? = some e /\ l[j]? = some (q, x)
 | [], [], i, _, _ => .inl ⟨rfl, rfl⟩
 | [], _ :: _, i, h, _ => by simp at h
 | _ :: _, [], i, h, _ => by simp at h
 | p :: l, e :: es, i, hl, hk => by
  have hk0 : e.key = .int .i64 p.1 := hk 0 e p rfl rfl;by_cases hq : p.1 = q
  ·refine .inr ⟨0, e, p.2, by simp [mix, hq], by simp [Instr.findNow, Instr.sameNow, hk0, hq], rfl, ?_⟩;rw [← hq]; rfl
  ·have hq' : ¬ q = p.1 := fun x => hq x.symm
   have hs : Instr.sameNow (.int d) (.int .i64 q) e.key = some false := by rw [hk0]; simp [Instr.sameNow, hq']
   rcases zfy (q := q) (d := d) l es (i + 1) (by simpa using hl) (fun j e' p' h1 h2 => hk (j + 1) e' p' h1 h2) with ⟨h1, h2⟩ | ⟨j, e', x, h1, h2, h3, h4⟩
   ·exact .inl ⟨by simp [mix, hq, h1], by simp [Instr.findNow, hs, h2]⟩
   ·refine .inr ⟨j + 1, e', x, by simp [mix, hq, h1]; omega, ?_, h3, h4⟩;simp [Instr.findNow, hs, h2]; omega
end plain
section
variable {P : Program} {C : Ctx} {st : St} {ty : TypeId} {Q : Exit -> St -> Prop}
theorem zeP {I : Im} {ρ : Nat -> Value} {k : Nat} {v : Value} (h : RV I ρ (.mp k) v) : ∃ b, v = .map (some b) /\ ρ k = .map (some b) := by cases h with | mp _ b h => exact ⟨b, rfl, h⟩
theorem zfQ {κ α : Type} (kenc : κ -> AV) (venc : α -> AV) {t : TypeId} {k : Nat} : yr P C (.makeMap t none) ty st (.mp k) (some (k, .mpb kenc venc [])) :=
 zG fun g a w dst pos af gd hr => by
  refine ⟨.map (some w.heap.size), w.alloc (.map #[] 0), g.nw C.d w.heap.size k (.map (some w.heap.size)), ?_, Add.nw (Grow.alloc _ (.map #[] 0)) C.d k _, .mp k _ (by simp [Gh.nw]), ImOB.nw ⟨hr.sat.im, hr.sat.ob⟩ (Grow.alloc _ _) (by simp) C.d k _, fun k' B hB => ?_⟩
  ·simp [execOp, Instr.makeMap, run_newObj, Result.andThen]
  ·injection hB with hB; injection hB with e1 e2; subst e1; subst e2;exact ⟨w.heap.size, #[], 0, by simp [Gh.nw], by simp [Gh.nw], .inl hr.ext.size, heap_alloc_new w _, ⟨rfl, rfl, fun i e he => by simp at he⟩, fun i e p he hp => by simp at he⟩
def mpOk (P : Program) (t K E : TypeId) : Prop := P.underlying t = some (.map K E) /\ ∃ d, P.underlying K = some (.int d)
theorem zoT {α : Type} {venc : α -> AV} {l : List (Int × α)} {t K E : TypeId} {x y : Operand} {k : Nat} {q : Int} (z0 : α) (hx : ev st x = some (.mp k)) (hk : lk st.h k = some (.mpb (fun i : Int => .int .i64 i) venc l)) (hy : ev st y = some (.int .i64 q))
 (ht : mpOk P t K E) (hd : ∃ d, P.underlying K = some (.int d) /\ d = .i64) (hf : ∀ v k, (venc v).fr k = true) (hz : ∃ z i, P.info? E = some i /\ i.zero = some z /\ ∀ I, RV I noNames (venc z0) z) :
 Pur P C (.lookup t x y true) ty st (.tup [venc ((mget q l).getD z0), .bool (mget q l).isSome]) := fun g a w dst pos af gd hr => by
 obtain ⟨b, es, ck, h1, h2, h3, h4, h5, h6⟩ := hr.sat.blk k _ hk
 have ex : a.eval x = .map (some b) := by
  obtain ⟨b', e1, e2⟩ := zeP (yn hr hx);rw [e1, ← e2, h1]
 have ey := za (yn hr hy);obtain ⟨d, hd1, rfl⟩ := hd;obtain ⟨z, i, hi, hzz, hzr⟩ := hz;have hkeys : ∀ (j : Nat) e p, es.toList[j]? = some e -> l[j]? = some p -> e.key = .int .i64 p.1 := fun j e p he hp => za (h6 j e p (by simpa using he) hp).1
 rcases zfy (q := q) (d := .i64) l es.toList 0 (by simpa using h5.1) hkeys with ⟨m1, m2⟩ | ⟨j, e, v, m1, m2, m3, m4⟩
 ·refine ⟨.tuple #[z, .bool false], ?_, ?_⟩
  ·simp [execOp, ex, ey, Instr.lookup, run_underlying ht.1, MapKept.run_getObj_map h4, MapKept.run_checkKey hd1 (show MapKept.IsKey (.int .i64) (.int .i64 q) from rfl), MapKept.run_findKey hd1 m2, Result.andThen, zeroValue, typeInfo, hi, hzz]
  ·have e1 : (mget q l).getD z0 = z0 := by simp [mget, m1]
   have e2 : (mget q l).isSome = false := by simp [mget, m1]
   rw [e1, e2];refine .tup _ [z, .bool false] rfl fun j c v hc hv => ?_
   rcases j with _ | _ | j
   ·simp at hc hv; subst hc; subst hv; exact (hzr g.I).forget' (hf _)
   ·simp at hc hv; subst hc; subst hv; exact .bool _
   ·simp at hc
 ·simp only [Nat.zero_add] at m1 m2;refine ⟨.tuple #[e.val, .bool true], ?_, ?_⟩
  ·simp [execOp, ex, ey, Instr.lookup, run_underlying ht.1, MapKept.run_getObj_map h4, MapKept.run_checkKey hd1 (show MapKept.IsKey (.int .i64) (.int .i64 q) from rfl), MapKept.run_findKey hd1 m2, Result.andThen]
  ·have e1 : (mget q l).getD z0 = v := by simp [mget, m1]
   have e2 : (mget q l).isSome = true := by simp [mget, m1]
   rw [e1, e2];refine .tup _ [e.val, .bool true] rfl fun j' c u hc hv => ?_
   rcases j' with _ | _ | j'
   ·simp at hc hv; subst hc; subst hv; exact (h6 j e (q, v) (by simpa using m3) m4).2.forget' (hf _)
   ·simp at hc hv; subst hc; subst hv; exact .bool _
   ·simp at hc
theorem zbc {w : World} {b : Nat} {o o' : Obj} (h : w.heap[b]? = some o) : w.grownBy { w with heap := w.heap.setIfInBounds b o' } (some b) :=
 ⟨rfl, rfl, rfl, by simp, fun k hk hne => (MapKept.heap_set h).2 k (fun e => hne (by rw [e]))⟩
theorem zdR {α : Type} {venc : α -> AV} {l : List (Int × α)} {t K E : TypeId} {x y z : Operand} {k : Nat} {q : Int} {u : AV} (v : α) (hx : ev st x = some (.mp k)) (hk : lk st.h k = some (.mpb (fun i : Int => .int .i64 i) venc l)) (hy : ev st y = some (.int .i64 q))
 (hz : ev st z = some u) (hu : u = venc v) (ht : mpOk P t K E) (hd : ∃ d, P.underlying K = some (.int d) /\ d = .i64) (hf : ∀ v k, (venc v).fr k = true) :
 yw P C (.mapUpdate t x y z) ty none st (putH st k (.mpb (fun i : Int => .int .i64 i) venc (mput q v l))) := fun g a w pos af gd hr K' hK => by
 obtain ⟨b, es, ck, h1, h2, h3, h4, h5, h6⟩ := hr.sat.blk k _ hk
 have ex : a.eval x = .map (some b) := by
  obtain ⟨b', e1, e2⟩ := zeP (yn hr hx);rw [e1, ← e2, h1]
 have ey := za (yn hr hy);have ez : RV g.I noNames (venc v) (a.eval z) := (hu ▸ yn hr hz).forget' (hf v);obtain ⟨d, hd1, rfl⟩ := hd;have hkeys : ∀ (j : Nat) e p, es.toList[j]? = some e -> l[j]? = some p -> e.key = .int .i64 p.1 := fun j e p he hp => za (h6 j e p (by simpa using he) hp).1
 have hkq : MapKept.IsKey (.int .i64) (.int .i64 q) := rfl;rcases zfy (q := q) (d := .i64) l es.toList 0 (by simpa using h5.1) hkeys with ⟨m1, m2⟩ | ⟨j, e, v0, m1, m2, m3, m4⟩
 ·have er : (Instr.mapUpdate t (.map (some b)) (.int .i64 q) (a.eval z)).run P w = .ok () { w with heap := w.heap.setIfInBounds b (.map (es.push { key := .int .i64 q, val := a.eval z, born := ck }) (ck + 1)) } := by
   simp [Instr.mapUpdate, run_underlying ht.1, MapKept.run_getObj_map h4, MapKept.run_checkKey hd1 hkq, MapKept.run_findKey hd1 m2, MapKept.run_setObj_map _ h4, Result.andThen]
  simp only [wp1, execOp, ex, ey, Sem.run_bind, er, Result.andThen_ok, Sem.run_pure, zbz];refine hK _ _ _ (hr.modify h2 h3 (zbc h4) (Nat.le_refl _) ⟨b, _, _, h1, h2, h3, (MapKept.heap_set h4).1, ⟨?_, ?_, ?_⟩, ?_⟩)
  ·simp [mput, m1, h5.1]
  ·simp [mput, m1, h5.2.1]
  ·intro i e he;rw [Array.getElem?_push] at he;split at he
   ·next hie => injection he with he; subst he; rw [hie]; exact h5.2.1.trans h5.1.symm
   ·exact h5.2.2 i e he
  ·intro i e p he hp;simp only [mput, m1] at hp;rw [Array.getElem?_push] at he;rw [List.getElem?_append] at hp;by_cases hi : i < es.size
   ·rw [if_neg (by omega)] at he;rw [if_pos (by omega)] at hp;exact h6 i e p he hp
   ·split at he
    ·next hie =>
     injection he with he; subst he;rw [if_neg (by omega)] at hp;have : i - l.length = 0 := by omega
     rw [this] at hp; simp at hp; subst hp;exact ⟨.int _ _, ez⟩
    ·rw [Array.getElem?_eq_none (by omega)] at he; simp at he
 ·simp only [Nat.zero_add] at m1 m2;have hke : e.key = .int .i64 q := hkeys j e _ m3 m4;have hj : es[j]? = some e := by simpa using m3
  have er : (Instr.mapUpdate t (.map (some b)) (.int .i64 q) (a.eval z)).run P w = .ok () { w with heap := w.heap.setIfInBounds b (.map (es.modify j fun e => { e with key := .int .i64 q, val := a.eval z }) ck) } := by
   simp [Instr.mapUpdate, run_underlying ht.1, MapKept.run_getObj_map h4, MapKept.run_checkKey hd1 hkq, MapKept.run_findKey hd1 m2, hj, hke, MapKept.run_keyThatStays hkq, MapKept.run_setObj_map _ h4, Result.andThen]
  simp only [wp1, execOp, ex, ey, Sem.run_bind, er, Result.andThen_ok, Sem.run_pure, zbz];refine hK _ _ _ (hr.modify h2 h3 (zbc h4) (Nat.le_refl _) ⟨b, _, _, h1, h2, h3, (MapKept.heap_set h4).1, ⟨?_, ?_, ?_⟩, ?_⟩)
  ·simp [mput, m1, h5.1]
  ·simp [mput, m1, h5.2.1]
  ·intro i e' he;rw [Array.getElem?_modify] at he;split at he
   ·next hie =>
    subst hie;rw [hj] at he;simp at he; subst he;exact h5.2.2 j e hj
   ·exact h5.2.2 i e' he
  ·intro i e' p he hp;simp only [mput, m1] at hp;rw [Array.getElem?_modify] at he;rw [List.getElem?_set] at hp;by_cases hi : j = i
   ·subst hi;rw [if_pos rfl] at he hp;rw [hj] at he;simp at he; subst he;split at hp
    ·injection hp with hp; subst hp; exact ⟨.int _ _, ez⟩
    ·simp at hp
   ·rw [if_neg hi] at he hp;exact h6 i e' p he hp
end
end Go.Rse
namespace Go.Rse
open Go Go.RowKit
section
variable {P : Program} {C : Ctx} {st : St} {Q : Exit -> St -> Prop} {ty : TypeId}
theorem yd {ts : List (Nat × AV)} {hs : List (Nat × Blk)} (h1 : impT st ts := by
 repeat' (first | exact True.intro | (refine And.intro ⟨_, rfl, ?_⟩ ?_; (first | exact LeV.refl _ | exact LeV.any _ | exact LeB.refl _ | (refine LeV.eq ?_; simp; done) | (refine LeV.eq ?_; congr 1; omega) | (refine LeV.eq ?_; dsimp only; congr 1; omega) | (refine LeV.eq (congrArg (AV.int _) ?_); omega) | exact LeV.nils _ | (refine LeV.eq ?_; congr 1 <;> assumption) | (refine LeV.eq ?_; assumption))))) (h2 : impH st hs := by
 repeat' (first | exact True.intro | (refine And.intro ⟨_, rfl, ?_⟩ ?_; (first | exact LeB.refl _ | exact LeB.row (by assumption) | (refine LeB.eq ?_; congr 1 <;> assumption) | (refine LeB.eq ?_; congr 1; omega) | (refine LeB.eq ?_; congr 1; simp only [cond_true, cond_false]; omega))))) : Imp C st ⟨ts, hs⟩ := Imp.of h1 h2
theorem zec {ops : Array Oper} {ms : List Nat} {hid : List Nat} {i m : Nat} {fs : List FactM} (e : Nat) (stJ : St) {o1 oe o2 : Oper} (hA : ∀ Q', Ex P C ops [] stJ Q' -> Ex P C ops [o1, o2] (zdQ st hid fs) Q') (hB : ∀ Q', Ex P C ops [] stJ Q' -> Ex P C ops [o1, oe, o2] (zdQ st hid (fs.filter fun f => !(f.i == e))) Q') (hR : Ex P C ops [] stJ Q)
 (hm : ms[i]? = some m := by exact rfl) (hl : ops.toList.drop i = [o1, o2] := by exact rfl) (hoe : ops[e]? = some oe := by exact rfl) (hg : (fs.all fun f => f.g.isEmpty) = true := by exact rfl)
 (hok : okFM st hid fs = true := by exact rfl) (hf : zck ops i e (bits ops.size m) = true := by kernel_rfl) : ChM P C ops ms st hid Q i fs := .late e hm hl hoe hg hok hf (hA Q hR) (hB Q hR)
theorem zdS {x y : Code} (stJ : St) (h : X P C y stJ Q -> X P C x st (zdF (fun st' => X P C y st' Q) Q)) (hJ : X P C y stJ Q) : X P C (.seq x y) st Q := yl (h hJ)
theorem zm5 (A X B cs : List AV) (j : Nat) (h : j + cs.length <= X.length) : setAt (A ++ (X ++ B)) (A.length + j) cs = A ++ (setAt X j cs ++ B) := by
 unfold setAt
 have t1 : (A ++ (X ++ B)).take (A.length + j) = A ++ X.take j := by
  rw [List.take_length_add_append, List.take_append_of_le_length (by omega)]
 have t2 : (A ++ (X ++ B)).drop (A.length + j + cs.length) = X.drop (j + cs.length) ++ B := by
  rw [Nat.add_assoc, List.drop_length_add_append, List.drop_append_of_le_length h]
 rw [t1, t2]; simp only [List.append_assoc]
theorem zoU {α : Type} {enc : α -> List AV} {s : Nat} (he : ∀ x, (enc x).length = s) {l : List α} {i j : Nat} {x x' : α} {cs : List AV} (hx : l[i]? = some x) (hj : j + cs.length <= s) (hc : enc x' = setAt (enc x) j cs) :
 (l.set i x').flatMap enc = setAt (l.flatMap enc) (i * s + j) cs := by
 obtain ⟨hi, ex⟩ := List.getElem?_eq_some_iff.1 hx
 have hl : l.set i x' = l.take i ++ ([x'] ++ l.drop (i + 1)) := by
  rw [List.set_eq_take_append_cons_drop, if_pos hi]; simp
 have hl2 : l = l.take i ++ ([x] ++ l.drop (i + 1)) := by
  conv => lhs; rw [← List.take_append_drop i l, List.drop_eq_getElem_cons hi, ex]
  rfl
 have hA : ((l.take i).flatMap enc).length = i * s := by rw [zy _ (fun _ x _ => he x), List.length_take, Nat.min_eq_left (by omega)]
 have e1 : l.flatMap enc = (l.take i).flatMap enc ++ (enc x ++ (l.drop (i + 1)).flatMap enc) := by
  conv => lhs; rw [hl2]
  simp only [List.flatMap_append, List.flatMap_cons, List.flatMap_nil, List.append_nil]
 rw [hl, e1, ← hA, zm5 _ _ _ _ _ (by rw [he]; exact hj), ← hc];simp only [List.flatMap_append, List.flatMap_cons, List.flatMap_nil, List.append_nil]
theorem Rel.row_writeC {g : Gh} {a : Act} {w : World} (hr : Rel C st g a w) {α : Type} {enc : α -> List AV} {l l' : List α} {E : TypeId} {k s p b : Nat} {cs : List AV} {vs : List Value} (hk : lk st.h k = some (.row enc l E s)) (he : ∀ x, (enc x).length = s) (hs0 : 0 < s)
 (hvs : RVL g.I noNames cs vs) (hone : ∀ u ∈ vs, u.oneCell' = true) (hle : p + cs.length <= l.length * s) (hb : yT (g.ρ k) = some b) (hnl : l'.length = l.length) (hfl : l'.flatMap enc = setAt (l.flatMap enc) p cs) :
 ∃ w', (storeCells ⟨b, p, none⟩ vs 0).run P w = .ok () w' /\ Rel C (putH st k (.row enc l' E s)) g a w' := by
 obtain ⟨xs, hw, h1, h2, h3⟩ := hr.sat.blk k _ hk;rcases hw.2 with ⟨hv, _⟩ | ⟨b', cap, cur, hv, hb0, hh, hnc, hcm, hcur, htk⟩
 ·rw [hv] at hb; simp [yT] at hb
 ·have : b' = b := by rw [hv] at hb; simpa [yT] using hb
  subst this;have hvl : vs.length = cs.length := hvs.1;have hcs : l.length * s <= cap * s := Nat.mul_le_mul_right s hnc;have hil : p + cs.length <= l.length * s := hle;have hst := run_storeCells_at (P := P) b' p E vs 0 cur w hh (by omega) hone;refine ⟨_, hst, hr.modify (h3 b' (by rw [hv]; rfl)).1 (h3 b' (by rw [hv]; rfl)).2 zb4 (Nat.le_refl _) ?_⟩;have hcl : cur.toList.length = cap * s := by simpa using hcur
  have hrow := zdM h1 hw.1 h2 hs0;have hset := hrow.setAt hvs p (by rw [zy l h1]; exact hil);rw [← hfl] at hset
  have hx : List.take (l.length * s) (cur.toList.take (p + 0) ++ vs ++ cur.toList.drop (p + 0 + vs.length)) = xs.take p ++ vs ++ xs.drop (p + vs.length) := by
   rw [← htk];apply List.ext_getElem?;intro j;simp only [Nat.add_zero, List.getElem?_take, List.getElem?_append, List.length_append, List.length_take, hcl, List.getElem?_drop];rw [show min p (cap * s) = p by omega, show min (l.length * s) (cap * s) = l.length * s by omega, show min p (l.length * s) = p by omega];by_cases q0 : j < l.length * s
   ·rw [if_pos q0];by_cases q1 : j < p
    ·simp [q1, show j < p + vs.length by omega, q0]
    ·by_cases q2 : j < p + vs.length
     ·simp [q1, q2]
     ·simp [q2, show p + vs.length + (j - (p + vs.length)) < l.length * s by omega]
   ·rw [if_neg q0];rw [if_neg (by omega)];rw [if_neg (by omega)]
  refine ⟨xs.take p ++ vs ++ xs.drop (p + vs.length), ⟨?_, .inr ⟨b', cap, (cur.toList.take (p + 0) ++ vs ++ cur.toList.drop (p + 0 + vs.length)).toArray, by rw [hv, hnl], hb0, setRow_heap w b' cur _ E _ hh, by rw [hnl]; exact hnc, hcm, by simp; omega, by rw [hnl]; simpa using hx⟩⟩, fun i x h => he x, zaP (fun i x h => he x) hset, h3⟩;rw [hnl]; have := hw.1; simp; omega
theorem zp {α : Type} {enc : α -> List AV} {l : List α} {E T : TypeId} {x y : Operand} {k s i j : Nat} {u : AV} {ag : Bool} {n : Nat} (x0 x' : α) (hx : ev st x = some (.ptr k s i j)) (hk : lk st.h k = some (.row enc l E s)) (h0 : l[i]? = some x0) (he : ∀ x, (enc x).length = s) (hs0 : 0 < s)
 (hy : ev st y = some u) (hu : enc x' = setAt (enc x0) j u.cl) (hn : u.cl.length = n) (hj : j + n <= s) (hp : zdE u = true) (hsc : scL u.cl = true) (hnm : AV.nm.nmL u.cl = true) (ht : tyOk P T ag n = true) : yw P C (.store T x y) ty none st (putH st k (.row enc (l.set i x') E s)) := fun g a w pos af gd hr K hK => by
 obtain ⟨b, hb, e⟩ := zV (yn hr hx);have hcl := zhp (yn hr hy) hp;have hvs : RVL g.I noNames u.cl (a.eval y).cells.toList := hcl.forget hnm
 have hone : ∀ v ∈ (a.eval y).cells.toList, v.oneCell' = true := fun v hv => by
  obtain ⟨q, hq⟩ := List.mem_iff_getElem?.1 hv;have hlt : q < u.cl.length := by rw [← hcl.1]; exact (List.getElem?_eq_some_iff.1 hq).1
  exact (za8 (hcl.2 q _ v (List.getElem?_eq_getElem hlt) hq) (zd7 hsc (List.getElem?_eq_getElem hlt))).2
 have hi : i < l.length := (List.getElem?_eq_some_iff.1 h0).1;have his : i * s + s <= l.length * s := by rw [← Nat.succ_mul]; exact Nat.mul_le_mul_right s hi
 obtain ⟨w', h1, h2⟩ := hr.row_writeC (P := P) (p := i * s + j) (l' := l.set i x') hk he hs0 hvs hone (by omega) hb (List.length_set ..) (zoU he h0 (by omega) hu);simp only [wp1, execOp, Instr.storeAt, e, Instr.sureAddr, Sem.run_bind, Sem.run_pure, Result.andThen_ok, storeVar, yX ht];have hsz : (a.eval y).cells.size = n := by have := hcl.1; rw [hn] at this; simpa using this
 rw [if_neg (by simp [hsz])];simp only [h1, Result.andThen_ok, zbz];exact hK _ _ _ h2
theorem zoV {T : TypeId} (h : (P.info? T).bind (·.zero) = some (.agg #[.int .i64 0, .int .i64 0])) : ∃ z i, P.info? T = some i /\ i.zero = some z /\ ∀ I, RV I noNames (.agg [.int .i64 0, .int .i64 0]) z := by
 cases hi : P.info? T with
 | none => rw [hi] at h; cases h
 | some i =>
  rw [hi] at h;refine ⟨_, i, rfl, h, fun I => .agg _ [.int .i64 0, .int .i64 0] rfl fun j c v hc hv => ?_⟩;rcases j with _ | _ | j
  ·simp at hc hv; subst hc; subst hv; exact .int _ _
  ·simp at hc hv; subst hc; subst hv; exact .int _ _
  ·simp at hc
end
end Go.Rse
namespace Go.Rse
open Go Go.RowKit
section
variable {P : Program} {C : Ctx} {st : St} {ty : TypeId} {Q : Exit -> St -> Prop}
theorem zc8 {α : Type} {enc : α -> List AV} {l : List α} {E t : TypeId} {x y : Operand} {k s : Nat} {kk : IntKind} {i : Int} {ag : Bool} (hx : ev st x = some (.own k)) (hk : lk st.h k = some (.row enc l E s)) (hy : ev st y = some (.int kk i)) (ht : slOk P t E = true) (hE : tyOk P E ag s = true)
 (h0 : 0 <= i) (h1 : i <= l.length) : Pur P C (.slice t x none (some y) none) ty st (.sub k s 0 i.toNat) := fun g a w dst pos af gd hr => by
 obtain ⟨xs, hw, _⟩ := hr.sat.blk k _ hk;have ek := zU (yn hr hx);have ey := za (yn hr hy)
 have key : ∀ (A : Option Addr) (c : Nat), g.ρ k = .slice A l.length c -> (l.length ≠ 0 -> ∃ b, A = some ⟨b, 0, none⟩) -> l.length <= c →
  ∃ v, (execOp a.eval { dst := dst, op := .slice t x none (some y) none, type := ty, pos := pos, after := af, guard := gd }).run P w = .ok (.value v) w /\ RV g.I g.ρ (.sub k s 0 i.toNat) v := fun A c hv hA hc => by
  refine ⟨.slice (if c = 0 then A else A.map (·.add (0 * s))) (i.toNat - 0) (c - 0), ?_, .sub k s _ _ _ _ (fun hm => ?_)⟩
  ·rw [hv] at ek
   have : (Instr.sliceBounds true l.length c none (some (.int kk i)) none).run P w = .ok (0, i.toNat, c) w := by
    have : i <= (c : Int) := by omega
    simp [Instr.sliceBounds, Instr.sliceBound, asIntOf, h0, this]
   simp [execOp, Instr.sliceAt, Instr.slice, run_underlying (y7 ht), ← ek, ey, this, yX hE]
  ·obtain ⟨b, hb⟩ := hA (by omega);refine ⟨b, by rw [hv, hb]; rfl, ?_⟩;rw [hb];split <;> simp [zv]
 rcases hw.2 with ⟨hv, h0'⟩ | ⟨b, cap, cur, hv, _, _, hnc, _⟩
 ·exact key none 0 (by rw [hv, h0']) (fun h => absurd h0' h) (by omega)
 ·exact key _ cap hv (fun _ => ⟨b, rfl⟩) hnc
theorem zlh {k : Nat} : ∀ {cs : List AV} {j : Nat} {c : AV}, AV.fr.frL k cs = true -> cs[j]? = some c -> c.fr k = true
 | [], j, c, _, h => by simp at h
 | x :: r, 0, c, hf, h => by
  simp [AV.fr.frL] at hf;simp at h; subst h; exact hf.1
 | x :: r, j + 1, c, hf, h => by
  simp [AV.fr.frL] at hf;exact zlh hf.2 (by simpa using h)
def mvF (k k' : Nat) : AV -> AV
 | .own n => bif n.beq k then .own k' else .own n
 | x => cln k x
theorem Imp.mv {α : Type} {enc : α -> List AV} {l : List α} {E s : Nat} (k k' : Nat) (hk : lk st.h k = some (.row enc l E s)) (hf : st.fr k' = true) : Imp C st { t := mapT (mvF k k') st.t, h := (k', .row enc l E s) :: (k, .dead) :: mapH (mvF k k') st.h } := fun g a w hr => by
 obtain ⟨xs, hw, h1, h2, h3⟩ := hr.sat.blk k _ hk;simp only [St.fr, Bool.and_eq_true] at hf;let ρ' : Nat -> Value := fun n => if n = k' then g.ρ k else g.ρ n
 let O' : Owns := fun b => if yT (g.ρ k) = some b then some (C.d, k') else g.O b
 have hρ : ∀ n, some k' ≠ some n -> ρ' n = g.ρ n := fun n hn => by
  show (if n = k' then _ else _) = _;rw [if_neg (fun e => hn (by rw [e]))]
 have hOn : ∀ b, yT (g.ρ k) ≠ some b -> O' b = g.O b := fun b hb => if_neg hb
 have hOy : ∀ b, yT (g.ρ k) = some b -> O' b = some (C.d, k') := fun b hb => if_pos hb
 have hmv : ∀ x v, x.fr k' = true -> RV g.I g.ρ x v -> RV g.I ρ' (mvF k k' x) v := fun x v hx h => by
  have hcl : RV g.I ρ' (cln k x) v := by
   unfold cln;cases hq : x.fr k with
   | false => exact .any _
   | true => exact h.renameOpt (nk := some k') (fun n hn => by injection hn with hn; rw [← hn]; exact hx) hρ
  cases x <;> try exact hcl
  case own n =>
   simp only [mvF];cases hb : n.beq k with
   | false => exact h.renameOpt (nk := some k') (fun n hn => by injection hn with hn; rw [← hn]; exact hx) hρ
   | true =>
    have : n = k := by simpa using hb
    subst this;have e := zU h;cases h with
    | own _ A m c h => exact .own k' A m c (by show (if k' = k' then _ else _) = _; rw [if_pos rfl]; exact h)
 have hio : ImOB ⟨ρ', g.I, O'⟩ w := by
  refine ⟨fun b o u hI => ?_, fun b n hO => ?_, hr.sat.ob.2⟩
  ·obtain ⟨q1, q2⟩ := hr.sat.im b o u hI;refine ⟨q1, ?_⟩;by_cases hb : yT (g.ρ k) = some b
   ·rw [(h3 b hb).1] at q2; cases q2
   ·exact (hOn b hb).trans q2
  ·by_cases hb : yT (g.ρ k) = some b
   ·exact hr.sat.ob.1 b _ (h3 b hb).1
   ·have : O' b = some n := hO;rw [hOn b hb] at this; exact hr.sat.ob.1 b n this
 have hdf : Dfs C ⟨ρ', g.I, O'⟩ a.defers w := by
  obtain ⟨D, d1, dn, d2⟩ := hr.defers;refine ⟨D, d1, dn, fun r hr' => ?_⟩;obtain ⟨d3, d4, d5⟩ := d2 r hr';refine ⟨d3, ?_, d5⟩;show O' r = none;by_cases hb : yT (g.ρ k) = some r
  ·rw [(h3 r hb).1] at d4; cases d4
  ·exact (hOn r hb).trans d4
 have hnb : ∀ (b kk : Nat), kk ≠ k -> g.O b = some (C.d, kk) -> O' b = some (C.d, kk) := fun b kk hne hO => by
  by_cases hb : yT (g.ρ k) = some b
  ·rw [(h3 b hb).1] at hO; injection hO with hO; injection hO with _ hO; exact absurd hO.symm hne
  ·exact (hOn b hb).trans hO
 refine ⟨⟨ρ', g.I, O'⟩, hr.size, hdf, fun t x hx => ?_, ⟨hio.1, hio.2, fun kk B hB => ?_⟩, ?_⟩
 ·rw [zgy] at hx;cases hz : lk st.t t with
  | none => simp [hz] at hx
  | some z => simp [hz] at hx; subst hx; exact hmv z _ (zhm hf.1 hz) (hr.tmps t z hz)
 ·simp only [yj] at hB;cases hb1 : k'.beq kk with
  | true =>
   have e1 : k' = kk := by simpa using hb1
   subst e1;simp [hb1] at hB;subst hB;have e2 : ρ' k' = g.ρ k := if_pos rfl;refine ⟨xs, (by show w.ownsRow 0 E s (ρ' k') _ xs; rw [e2]; exact hw), h1, h2, fun b hb => ?_⟩
   replace hb : yT (ρ' k') = some b := hb
   rw [e2] at hb;exact ⟨hOy b hb, (h3 b hb).2⟩
  | false =>
   simp only [hb1, cond_false] at hB;cases hb2 : k.beq kk with
   | true => simp [hb2] at hB; subst hB; trivial
   | false =>
    simp only [hb2, cond_false] at hB;have hne : kk ≠ k := fun e => by subst e; simp at hb2
    have hne' : kk ≠ k' := fun e => by subst e; simp at hb1
    have eρ : ρ' kk = g.ρ kk := if_neg hne';rw [zgz] at hB;cases hz : lk st.h kk with
    | none => simp [hz] at hB
    | some B0 =>
     simp [hz] at hB; subst hB;have h0 := hr.sat.blk kk B0 hz;have hfr := (zb1 hf.2 hz).1;cases B0 with
     | box cs E =>
      obtain ⟨b2, vs, q1, q2, q3, q4, q5, q6⟩ := h0;refine ⟨b2, vs, eρ.trans q1, hnb b2 kk hne q2, q3, q4, by simpa using q5, fun j c v hc hv => ?_⟩;rw [List.getElem?_map] at hc;cases hc0 : cs[j]? with
      | none => simp [hc0] at hc
      | some c0 => simp [hc0] at hc; subst hc; exact hmv c0 v (zlh hfr hc0) (q6 j c0 v hc0 hv)
     | row enc l E s =>
      obtain ⟨ys, q1, q2, q3, q4⟩ := h0;refine ⟨ys, (by show World.ownsRow _ _ _ _ (ρ' kk) _ _; rw [eρ]; exact q1), q2, q3, fun b2 hb2 => ?_⟩
      replace hb2 : yT (ρ' kk) = some b2 := hb2
      rw [eρ] at hb2;exact ⟨hnb b2 kk hne (q4 b2 hb2).1, (q4 b2 hb2).2⟩
     | hold vs cs =>
      refine ⟨by simpa using h0.1, fun j c v hc hv => ?_⟩;rw [List.getElem?_map] at hc;cases hc0 : cs[j]? with
      | none => simp [hc0] at hc
      | some c0 => simp [hc0] at hc; subst hc; exact hmv c0 v (zlh hfr hc0) (h0.2 j c0 v hc0 hv)
     | obj b2 o => exact ⟨h0.1, hnb b2 kk hne h0.2.1, h0.2.2⟩
     | yld j on =>
      refine zfn (bo := yT (g.ρ k)) h0 (Im.le_refl _) (fun b' _ hb' => hOn b' hb') (fun b' e => .inl ⟨k, (h3 b' e).1⟩) ⟨rfl, rfl, rfl, Nat.le_refl _, fun _ _ _ => rfl⟩ (Nat.le_refl _) (fun b' n hn => ?_) hio;by_cases hb' : yT (g.ρ k) = some b'
      ·exact h0.2.2.2.1 b' k (h3 b' hb').1
      ·have : O' b' = some (C.d, n) := hn;rw [hOn b' hb'] at this; exact h0.2.2.2.1 b' n this
     | mpb kenc venc l =>
      obtain ⟨b2, es, ck, q1, q2, q3, q4, q5, q6⟩ := h0;exact ⟨b2, es, ck, eρ.trans q1, hnb b2 kk hne q2, q3, q4, q5, q6⟩
     | dead => trivial
 ·refine ⟨hr.ext.I, hr.ext.os, hr.ext.tape, hr.ext.output, hr.ext.drawn, hr.ext.size, fun b hb hn ho => ?_, fun b y n hlt hy => ?_⟩
  ·obtain ⟨q1, q2⟩ := hr.ext.keep b hb hn ho;refine ⟨q1, ?_⟩;by_cases hb' : yT (g.ρ k) = some b
   ·exact absurd (h3 b hb').2 hn
   ·exact (hOn b hb').trans q2
  ·by_cases hb' : yT (g.ρ k) = some b
   ·have : O' b = some (y, n) := hy;rw [hOy b hb'] at this; injection this with this; injection this with e1 e2;subst e1;exact hr.ext.own b C.d k hlt (h3 b hb').1
   ·have : O' b = some (y, n) := hy;rw [hOn b hb'] at this; exact hr.ext.own b y n hlt this
def fnTy (P : Program) (t : TypeId) : Prop := ∃ a b c, P.underlying t = some (.func a b c)
theorem zjC {t : TypeId} (hu : fnTy P t) (c : Go.Fn) (u v : Array Value) (w : World) : (Op.equal t (.func c u v) .nilFunc).run P w = .ok false w := by
 obtain ⟨p, q, r, hu⟩ := hu;unfold Op.equal;rw [show Op.maxDepth = 9999 + 1 from rfl];unfold Op.equalIn;simp [run_underlying hu]
theorem zhL {t : TypeId} (hu : fnTy P t) (w : World) : (Op.equal t .nilFunc .nilFunc).run P w = .ok true w := by
 obtain ⟨p, q, r, hu⟩ := hu;unfold Op.equal;rw [show Op.maxDepth = 9999 + 1 from rfl];unfold Op.equalIn;simp [run_underlying hu]
theorem zoW {t : TypeId} {x y : Operand} {yt : TypeId} {f : FuncId} {cs : List AV} (hu : fnTy P t) (hx : ev st x = some (.fn f cs)) (hy : ev st y = some .nilf) : Pur P C (.binOp .neq t x y yt) ty st (.bool true) := fun g a w dst pos af gd hr => by
 obtain ⟨us, e, _, _⟩ := zb2 (yn hr hx);have ey := zfo (yn hr hy);refine ⟨.bool true, ?_, .bool _⟩;have hg : (eqGuard .neq t x y (.func (.func f) #[] us.toArray) .nilFunc).run P w = .ok () w := by unfold eqGuard; simp
 simp only [execOp, e, ey, Sem.run_bind, hg, Result.andThen_ok, binOp, zjC hu, Sem.run_pure]; rfl
theorem zli {t : TypeId} {x y : Operand} {yt : TypeId} (hu : fnTy P t) (hx : ev st x = some .nilf) (hy : ev st y = some .nilf) : Pur P C (.binOp .neq t x y yt) ty st (.bool false) := fun g a w dst pos af gd hr => by
 have e := zfo (yn hr hx);have ey := zfo (yn hr hy);refine ⟨.bool false, ?_, .bool _⟩;have hg : (eqGuard .neq t x y .nilFunc .nilFunc).run P w = .ok () w := by unfold eqGuard; simp
 simp only [execOp, e, ey, Sem.run_bind, hg, Result.andThen_ok, binOp, zhL hu, Sem.run_pure]; rfl
theorem ChM.gn {ops : Array Oper} {ms : List Nat} {hid : List Nat} {i m : Nat} {fs : List FactM} {o : Oper} (x : AV) {d gi t : Nat} {want b : Bool} {g0 : List (Nat × Bool)} (h : ChM P C ops ms st hid Q (i + 1) (⟨i, some d, x, none, m, (gi, want) :: g0⟩ :: fs)) (hm : ms[i]? = some m := by exact rfl) (ho : ops[i]? = some o := by exact rfl) (hg : o.guard = some (gi, want) := by exact rfl) (hod : o.dst = some d := by exact rfl) (hi : (ops[gi]?).bind (·.dst) = some t := by exact rfl)
 (hch : zbI fs gi = g0 := by first | exact (rfl : _ = []) | exact (rfl : _ = [_]) | exact (rfl : _ = [_, _]) | exact (rfl : _ = [_, _, _])) (hb : lk (stR st hid m fs).t t = some (optV (zd fs g0) g0 (.bool b)) := by exact rfl) (hcd : zaq fs gi want = (b == want) := by exact rfl) (hg0 : zcb fs ((gi, want) :: g0) = true := by exact rfl)
 (hno : zd fs ((gi, want) :: g0) = false := by exact rfl) (hd : d.blt C.n = true := by exact rfl) : ChM P C ops ms st hid Q i fs :=
 .guard hm ho hg hi hb rfl hcd (zaw hg0) (fun e => by rw [hno] at e; cases e) (by rw [hod]; exact hd) (by rw [hod]; exact h)
end
end Go.Rse
namespace Go.Rse
open Go Go.RowKit
section
variable {P : Program} {C : Ctx} {st : St} {ty : TypeId}
theorem zcd {α : Type} {enc : α -> List AV} {l : List α} {u : α} {t : TypeId} {x : Operand} {k s i : Nat} {E : TypeId} (hx : ev st x = some (.ptr k s i 0)) (hk : lk st.h k = some (.row enc l E s)) (hu : l[i]? = some u) (hl : (enc u).length = s) (hn : AV.nm.nmL (enc u) = true)
 (ht : tyOk P t true s = true) : Pur P C (.load t x) ty st (.agg (enc u)) := fun g a w dst pos af gd hr => by
 obtain ⟨b, hb, e⟩ := zV (yn hr hx);obtain ⟨xs, hw, h1, h2, h3⟩ := hr.sat.blk k _ hk;rcases hw.2 with ⟨hv, _⟩ | ⟨b', cap, cur, hv, _, hh, hnc, _, hcur, htk⟩
 ·rw [hv] at hb; simp [yT] at hb
 ·have : b' = b := by rw [hv] at hb; simpa [yT] using hb
  subst this;have hil : i < l.length := (List.getElem?_eq_some_iff.1 hu).1
  have hle : i * s + s <= l.length * s := by
   have h2 : (i + 1) * s <= l.length * s := Nat.mul_le_mul_right s hil;have h3 : (i + 1) * s = i * s + s := Nat.succ_mul i s;omega
  have hxs : xs.length = l.length * s := hw.1;have hlen : ((xs.drop (i * s)).take s).length = s := by rw [List.length_take, List.length_drop]; omega
  have hget : ∀ j, j < s -> ((xs.drop (i * s)).take s)[j]? = xs[i * s + j]? := fun j hj => by
   rw [List.getElem?_take_of_lt hj, List.getElem?_drop]
  refine ⟨.agg ((xs.drop (i * s)).take s).toArray, ?_, .agg _ _ (by rw [hlen, hl]) (fun j c v hc hv => ?_)⟩
  ·have := zC (P := P) (t := t) ht (b := b') (o := i * s) (w := w) (vs := (xs.drop (i * s)).take s) hlen (fun j v hv => by
    have hj : j < s := by rw [← hlen]; exact (List.getElem?_eq_some_iff.1 hv).1
    rw [hget j hj] at hv;simp only [World.cell?, hh]
    have h0 : cur.toList[i * s + j]? = some v := by
     rw [← hv];conv => rhs; rw [← htk]
     rw [List.getElem?_take, if_pos (by omega)]
    simpa using h0)
   simp only [execOp, e, Nat.add_zero, Sem.run_bind, Instr.loadAt, Instr.sureAddr, Sem.run_pure, Result.andThen_ok, this]
  ·have hj : j < s := by rw [← hl]; exact (List.getElem?_eq_some_iff.1 hc).1
   rw [hget j hj] at hv;exact (h2 i u j c v hu hc hv).forget (zo hn hc)
end
end Go.Rse
namespace Go.Rse
open Go Go.RowKit
theorem zhM {P : Program} {C : Ctx} {st : St} {ty t : TypeId} {x : Operand} {f k s i j j2 off : Nat} (h : ev st x = some (.ptr k s i j)) [ho : FoK P t f off] (e : j + off = j2) : Pur P C (.fieldAddr t x f) ty st (.ptr k s i j2) := e ▸ zdf h ho.h
theorem zfR {P : Program} {C : Ctx} {rv : List ResultVar} {r : AV} {vs : List Value} {cs : List AV} {hs' : List (Nat × Blk)} {e : Exit} {st st' : St} (hi : Imp C st st') (h : ziE P C rv r vs cs hs' e st') : ziE P C rv r vs cs hs' e st := by
 obtain ⟨h1, ts, ex, h2, h3⟩ := h;exact ⟨h1, ts, ex, hi.trans h2, h3⟩
theorem zqk {P : Program} {C : Ctx} {st : St} {dst : Option Tmp} {ty : TypeId} {fop : Operand} {args : Array Operand} {ts : Array TypeId} {f : FuncId} {caps xs ass : List AV} {hs hs' : List (Nat × Blk)} {kp : List Nat} {r : AV}
 (μ : List (Nat × Nat)) (h : FnO P f ass hs kp r hs') (hf : ev st fop = some (.fn f caps)) (hx : evs st args.toList = some xs) (hμ : biOk μ = true) (hle : LeL (xs ++ caps) (ass.map (AV.ren μ))) (has : ass.all (AV.okN (keys hs)) = true) (hrn : r.okN (keys hs') = true)
 (hin : zaj st μ (keys hs) hs) (hout : ∀ p ∈ hs', (fwd μ p.1).isSome = true /\ p.2.okNB (keys hs') = true) (hnew : ∀ p ∈ μ, kp.any (·.beq p.1) = true \/ (hs.any (·.1.beq p.1) = true /\ hs'.any (·.1.beq p.1) = false) \/ (hs.any (·.1.beq p.1) = false /\ st.fr p.2 = true))
 (hkp : ∀ n ∈ kp, hs.any (·.1.beq n) = true) (hd : dOk C.n dst = true) :
 yw P C (.call { callee := .value fop, args := args, argTypes := ts }) ty dst st (zba st μ hs hs' dst r) := fun g a w pos af gd hr K hK => by
 obtain ⟨A, e2, h0⟩ := zfK (dst := dst) (ty := ty) (ts := ts) μ h.r hf hx hμ hle has hrn hin hout hnew hkp hd hr;unfold wp1;rw [e2];refine Calls.mono h0 ?_
 rintro e w' ⟨v, g', rfl, hr'⟩
 exact ⟨v, rfl, hK _ _ g' hr'⟩
theorem zhN {C : Ctx} {st : St} {α : Type} (enc : α -> List AV) (E s b k i E0 : Nat) (cs cs2 : List AV) (ht : lk st.h b = some (.box cs E0)) (hi : cs[i]? = some .nils) (h2' : cs.set i (.own k) = cs2) (hf : st.fr k = true) : Imp C st { t := st.t, h := (b, .box cs2 E0) :: (k, .row enc [] E s) :: st.h } := fun g a w hr => by
 subst h2'
 have hbk : b ≠ k := fun e => by
  subst e;simp [St.fr] at hf;exact (zb1 hf.2 ht).2 rfl
 have ha : Add (some k) g w { ρ := fun n => if n = k then .slice none 0 0 else g.ρ n, I := g.I, O := g.O } w := ⟨Im.le_refl _, fun n hn => by
  have : n ≠ k := fun e => hn (by rw [e])
  simp [this], fun _ _ => rfl, Grow.refl w⟩
 have h1 := hr.add (d := none) (x := .any) (v := .nilIface) ha (fun n hn => by injection hn with hn; subst hn; exact hf) (fun t h => by simp at h) (.any _) hr.sat.im hr.sat.ob;have h2 := h1.withBlk (k := k) (B := .row enc [] E s) ⟨[], ⟨by simp, .inl ⟨by simp, rfl⟩⟩, fun i x h => by simp at h, fun i x j c v h => by simp at h, fun b hb => by simp [yT] at hb⟩
 have hlk : lk ((k, Blk.row enc [] E s) :: st.h) b = some (.box cs E0) := by
  have : k.beq b = false := beqF.2 fun e => hbk e.symm
  simp [yj, this, ht]
 obtain ⟨b1, vs, e1, e2, e3, e4, e5, e6⟩ := h2.sat.blk b _ hlk;refine ⟨_, h2.withBlk (k := b) (B := .box (cs.set i (.own k)) E0) ⟨b1, vs, e1, e2, e3, e4, by simpa using e5, fun j c v hc hv => ?_⟩⟩;rw [List.getElem?_set] at hc;split at hc
 ·rename_i hij;subst hij;split at hc
  ·injection hc with hc; subst hc;have := za4 (e6 i .nils v hi hv);rw [this];exact .own k none 0 0 (by simp)
  ·simp at hc
 ·exact e6 j c v hc hv
theorem ztn {P : Program} {C : Ctx} {st : St} {dst : Option Tmp} {ty : TypeId} {fop : Operand} {args : Array Operand} {ts : Array TypeId} {f : FuncId} {caps xs as' : List AV} {hs hs' : List (Nat × Blk)} {kp : List Nat} {r : AV}
 (μ : List (Nat × Nat)) (h : FnO P f as' hs kp r hs') (hf : ev st fop = some (.fn f caps) := by exact rfl) (hx : evs st args.toList = some xs := by exact rfl) (hμ : biOk μ = true := by exact rfl) (hle : LeL (xs ++ caps) (as'.map (AV.ren μ)) := by exact LeL.refl _) (has : as'.all (AV.okN (keys hs)) = true := by exact rfl) (hrn : r.okN (keys hs') = true := by exact rfl)
 (hin : zaj st μ (keys hs) hs := by repeat' (first | exact True.intro | refine And.intro ⟨_, _, rfl, rfl, LeB.refl _, rfl⟩ ?_)) (hout : (hs'.all fun p => (fwd μ p.1).isSome && p.2.okNB (keys hs')) = true := by exact rfl)
 (hnew : (μ.all fun p => kp.any (·.beq p.1) || (hs.any (·.1.beq p.1) && !(hs'.any (·.1.beq p.1))) || (!(hs.any (·.1.beq p.1)) && st.fr p.2)) = true := by exact rfl)
 (hkp : (kp.all fun n => hs.any (·.1.beq n)) = true := by exact rfl) (hd : dOk C.n dst = true := by exact rfl) :
 yw P C (.call { callee := .value fop, args := args, argTypes := ts }) ty dst st (zba st μ hs hs' dst r) := by
 refine zqk μ h hf hx hμ hle has hrn hin (fun p hp => ?_) (fun p hp => ?_) (fun n hn => List.all_eq_true.1 hkp n hn) hd
 ·have := List.all_eq_true.1 hout p hp;simpa using this
 ·have := List.all_eq_true.1 hnew p hp;simp only [Bool.or_eq_true, Bool.and_eq_true, Bool.not_eq_true'] at this;rcases this with (h1 | h1) | h1
  ·exact .inl h1
  ·exact .inr (.inl h1)
  ·exact .inr (.inr h1)
end Go.Rse
namespace Go.Rse
open Go Go.RowKit
def AV.flat : AV -> Bool
 | .int _ _ | .bool _ | .str _ | .nils | .nilf | .val _ => true
 | .agg cs => flatL cs
 | .tup cs => flatL cs
 | _ => false
where flatL : List AV -> Bool
 | [] => true
 | x :: r => x.flat && flatL r
theorem zax : ∀ {cs : List AV}, AV.flat.flatL cs = true -> ∀ {j : Nat} {c : AV}, cs[j]? = some c -> c.flat = true
 | [], _, _, _, h => by simp at h
 | x :: r, h, 0, c, e => by
  simp [AV.flat.flatL] at h; simp at e; exact e ▸ h.1
 | x :: r, h, j + 1, c, e => by
  simp [AV.flat.flatL] at h; exact zax h.2 (by simpa using e)
theorem RV.flat {I J : Im} {ρ ρ' : Nat -> Value} {x : AV} {v : Value} (h : RV I ρ x v) (hf : x.flat = true) : RV J ρ' x v := by
 induction h with
 | int k n => exact .int k n
 | bool b => exact .bool b
 | str s => exact .str s
 | nils => exact .nils
 | nilf => exact .nilf
 | val v => exact .val v
 | agg cs vs hl hv ih => exact .agg cs vs hl (fun j c v hc hvv => ih j c v hc hvv (zax (by simpa [AV.flat] using hf) hc))
 | tup cs vs hl hv ih => exact .tup cs vs hl (fun j c v hc hvv => ih j c v hc hvv (zax (by simpa [AV.flat] using hf) hc))
 | _ => simp [AV.flat] at hf
abbrev Hyp := Im -> Owns -> World -> Prop
def FnW (P : Program) (f : FuncId) (az : List AV) (r : AV) (H : Hyp) : Prop :=
 zZ P f = true /\ r.nm = true /\ ∀ (g : Gh) (w : World) (args : List Value), ImO g.I g.O w -> H g.I g.O w -> RVL g.I noNames az args →
  Calls P f args.toArray w fun e w' => ∃ v g', e = .returned v /\ RV g'.I noNames r v /\ Add none g w g' w' /\ ImOB g' w'
theorem FnW.go {P : Program} {f : FuncId} {fn : Func} {c : Code} {n : Nat} {az : List AV} {rv : List ResultVar} {r : AV} {H : Hyp} (hf : P.funcs[f]? = some fn) (hn : fn.ntmps = n) (h : ∀ g w d, H g.I g.O w -> (∀ b n, g.O b ≠ some (d, n)) -> X P (C0 n d g w) c ⟨zaQ 0 az, []⟩ (RetQ P (C0 n d g w) rv r)) (hb : fn.body = some c := by exact rfl)
 (hrv : fn.results = rv.toArray := by exact rfl) (hc : zZ P f = true := by kernel_rfl) (hnm : r.nm = true := by exact rfl) (hlen : az.length <= n := by simp) : FnW P f az r H := by
 refine ⟨hc, hnm, fun g w args him hH hargs => (callsIn_wide (n := 0)).1 (callsIn_of_wp_marks hf hb trivial ?_)⟩;obtain ⟨d, hd, -⟩ := zb8 g.O w.heap.size [] him.2.1;have hrel := zd8 (C := C0 n d ⟨noNames, g.I, g.O⟩ w) (I := g.I) (O := g.O) (m := fn.ntmps) rfl rfl hn hlen him hargs;exact wpIn_mono (h ⟨noNames, g.I, g.O⟩ w d hH hd _ _ w hrel) fun e a w' ⟨st, g1, hr1, hq⟩ => zoO.plain hrv hnm hq g1 a w' hr1 hd
def FnOW (P : Program) (f : FuncId) (az : List AV) {α : Type} (enc : α -> List AV) (l : List α) (E s : Nat) (H : Hyp) : Prop :=
 zZ P f = true /\ ∀ (d : Nat) (ρ : Nat -> Value) (I : Im) (O : Owns) (w : World) (args : List Value), (∀ b n, O b ≠ some (d, n)) -> ImO I O w -> H I O w -> RVL I ρ az args →
  Calls P f args.toArray w fun e w' => ∃ v ρ' I' O', e = .returned v /\ Sat (C0 0 d ⟨ρ, I, O⟩ w) [(5, .row enc l E s)] ⟨ρ', I', O'⟩ w' /\ RV I' ρ' (.own 5) v /\ Ext (C0 0 d ⟨ρ, I, O⟩ w) ⟨ρ', I', O'⟩ w'
theorem FnO.ow {P : Program} {f : FuncId} {az : List AV} {α : Type} {enc : α -> List AV} {l : List α} {E s : Nat} (h : FnO P f az [] [] (.own 5) [(5, .row enc l E s)]) : FnOW P f az enc l E s fun _ _ _ => True :=
 ⟨h.1, fun d ρ I O w args _ him _ hargs => Calls.mono (h.2 d ρ I O w args ⟨him.1, him.2, fun k B hB => by simp [lk] at hB⟩ hargs) fun e w' ⟨v, ρ', I', O', h1, h2, h3, h4, _⟩ => ⟨v, ρ', I', O', h1, h2, h3, h4⟩⟩
theorem FnOW.go {P : Program} {f : FuncId} {fn : Func} {c : Code} {n : Nat} {az : List AV} {rv : List ResultVar} {α : Type} {enc : α -> List AV} {l : List α} {E s : Nat} {H : Hyp} (hf : P.funcs[f]? = some fn) (hn : fn.ntmps = n)
 (h : ∀ g w d, H g.I g.O w -> (∀ b n, g.O b ≠ some (d, n)) -> X P (C0 n d g w) c ⟨zaQ 0 az, []⟩ (fun e st => (e = .normal \/ e = .ret) /\ ∃ ts ex, Imp (C0 n d g w) st ⟨ts, (5, .row enc l E s) :: ex⟩ /\ RetVs P ⟨ts, (5, .row enc l E s) :: ex⟩ rv (.own 5))) (hb : fn.body = some c := by exact rfl)
 (hrv : fn.results = rv.toArray := by exact rfl) (hc : zZ P f = true := by kernel_rfl) (hlen : az.length <= n := by simp) : FnOW P f az enc l E s H := by
 refine ⟨hc, fun d ρ I O w args hfr him hH hargs => (callsIn_wide (n := 0)).1 (callsIn_of_wp_marks hf hb trivial ?_)⟩;have hsz : args.length = az.length := hargs.1;let C := C0 n d ⟨ρ, I, O⟩ w
 have hrel : Rel C ⟨zaQ 0 az, []⟩ ⟨ρ, I, O⟩ { tmps := args.toArray ++ Array.replicate (fn.ntmps - args.toArray.size) undef, defers := [] } w := by
  refine ⟨by simp [hn, C]; omega, Dfs.nil _ _ _, fun t x hx => ?_, ⟨him.1, him.2, fun k B hB => by simp [lk] at hB⟩, ⟨Im.le_refl _, rfl, rfl, rfl, Nat.le_refl _, Nat.le_refl _, fun _ _ _ _ => ⟨rfl, rfl⟩, fun b y n _ hy => ⟨n, hy⟩⟩⟩;obtain ⟨_, hx'⟩ := zb7 (I := I) (ρ := ρ) az 0 t x hx;simp only [Nat.sub_zero] at hx';have ht : t < args.length := by rw [hsz]; exact (List.getElem?_eq_some_iff.1 hx').1
  have e : (args.toArray ++ Array.replicate (fn.ntmps - args.toArray.size) undef).getD t undef = args[t] := by
   simp [Array.getD_eq_getD_getElem?, Array.getElem?_append, ht]
  rw [e];exact hargs.2 t x _ hx' (List.getElem?_eq_getElem ht)
 refine wpIn_mono (h ⟨ρ, I, O⟩ w d hH hfr _ _ w hrel) ?_
 rintro e a w' ⟨st, g1, hr1, he, ts', ex', himp, hret⟩
 obtain ⟨g2, hr2⟩ := himp g1 a w' hr1
 have hfin : LeavesInM Fence.wide 0 P fn a.tmps (fun e w' => ∃ v ρ' I' O', e = .returned v /\ Sat (C0 0 d ⟨ρ, I, O⟩ w) [(5, .row enc l E s)] ⟨ρ', I', O'⟩ w' /\ RV I' ρ' (.own 5) v /\ Ext (C0 0 d ⟨ρ, I, O⟩ w) ⟨ρ', I', O'⟩ w') a.defers .returning w' := by
  obtain ⟨D, hD, hnd, hDr⟩ := hr2.defers;refine zap (C := C) hrv hret rfl (fun g3 w3 v hr3 hv => ?_) D hD.plain hnd hDr ⟨hr2.size, Dfs.nil _ _ _, hr2.tmps, hr2.sat, hr2.ext⟩;refine ⟨v, g3.ρ, g3.I, g3.O, rfl, ⟨hr3.sat.im, hr3.sat.ob, fun k B hB => ?_⟩, hv, ⟨hr3.ext.I, hr3.ext.os, hr3.ext.tape, hr3.ext.output, hr3.ext.drawn, hr3.ext.size, hr3.ext.keep, hr3.ext.own⟩⟩;refine (hr3.sat.blk k B ?_).ctx;simp only [yj] at hB ⊢;cases hb : Nat.beq 5 k
  ·simp [hb, lk] at hB
  ·simpa [hb] using hB
 rcases he with rfl | rfl <;> exact hfin
section
variable {P : Program} {C : Ctx} {st : St} {ty : TypeId}
theorem zto {ι : Type} {fop : Operand} {args : Array Operand} {ts : Array TypeId} {f : FuncId} {caps xs az : ι -> List AV} {r : AV} {H : ι -> Hyp} {stF : ι -> St} (hl : ∀ g a w, Rel C st g a w -> ∃ i gF, Rel C (stF i) gF a w /\ H i gF.I gF.O w) (h : ∀ i, FnW P f (az i) r (H i))
 (hf : ∀ i, ev (stF i) fop = some (.fn f (caps i)) := by intro i; rfl) (hx : ∀ i, evs (stF i) args.toList = some (xs i) := by intro i; rfl) (hn : ∀ i, AV.nm.nmL (xs i ++ caps i) = true := by intro i; rfl) (hle : ∀ i, LeL (xs i ++ caps i) (az i) := by intro i; exact LeL.refl _) (hr : r.flat = true := by rfl) :
 yr P C (.call { callee := .value fop, args := args, argTypes := ts }) ty st r none := fun g a w dst pos af gd hr0 K hK => by
 obtain ⟨i, gF, hrF, hH⟩ := hl g a w hr0;obtain ⟨us, e, hl1, hu⟩ := zb2 (yn hrF (hf i));have hargs := zdG hrF (hx i);have hall : RVL gF.I noNames (az i) (args.toList.map a.eval ++ us) := (hle i).rvl ((hargs.append ⟨hl1, hu⟩).forget (hn i));have h0 := (h i).2.2 gF w _ ⟨hrF.sat.im, hrF.sat.ob⟩ hH hall;have e1 : (args.toList.map a.eval ++ us).toArray = args.map a.eval ++ us.toArray := by simp [← Array.toList_map]
 rw [e1] at h0
 have e2 : (execOp a.eval { dst := dst, op := .call { callee := .value fop, args := args, argTypes := ts }, type := ty, pos := pos, after := af, guard := gd }).run P w = .ok (.enter f (args.map a.eval ++ us.toArray)) w := by
  simp only [execOp, resolve, e, Deferred.ofValue, Sem.run_bind, Sem.run_pure, Result.andThen_ok, invoke, zH (h i).1];simp
 unfold wp1;rw [e2];refine Calls.mono h0 ?_
 rintro e w' ⟨v, g', rfl, h1, h2, h3⟩
 refine ⟨v, rfl, ?_⟩;have hgr := h2.grow;refine hK v w' g ⟨Im.le_refl _, fun _ _ => rfl, fun _ _ => rfl, hgr⟩ (h1.flat hr) ⟨fun b o u hI => ⟨hgr.cell (hr0.sat.im b o u hI).1, (hr0.sat.im b o u hI).2⟩, hr0.sat.ob.up (Im.le_refl _) hgr.size⟩ (fun _ _ h => by cases h)
theorem zgJ {ι : Type} {fop : Operand} {args : Array Operand} {ts : Array TypeId} {f : FuncId} {caps xs az : ι -> List AV} {α : Type} {enc : α -> List AV} {l : List α} {E s : Nat} {H : ι -> Hyp} {stF : ι -> St} (k : Nat) (hl : ∀ g a w, Rel C st g a w -> ∃ i gF, Rel C (stF i) gF a w /\ H i gF.I gF.O w) (h : ∀ i, FnOW P f (az i) enc l E s (H i))
 (hfl : ∀ x, AV.flat.flatL (enc x) = true := by intro x; rfl) (hf : ∀ i, ev (stF i) fop = some (.fn f (caps i)) := by intro i; rfl) (hx : ∀ i, evs (stF i) args.toList = some (xs i) := by intro i; rfl) (hle : ∀ i, LeL (xs i ++ caps i) (az i) := by intro i; exact LeL.refl _) :
 yr P C (.call { callee := .value fop, args := args, argTypes := ts }) ty st (.own k) (some (k, .row enc l E s)) := fun g a w dst pos af gd hr0 K hK => by
 obtain ⟨i, gF, hrF, hH⟩ := hl g a w hr0;obtain ⟨us, e, hl1, hu⟩ := zb2 (yn hrF (hf i));have hargs := zdG hrF (hx i);have hall : RVL gF.I gF.ρ (az i) (args.toList.map a.eval ++ us) := (hle i).rvl (hargs.append ⟨hl1, hu⟩);obtain ⟨dc, hdc, _⟩ := zb8 gF.O w.heap.size [] hrF.sat.ob.1;have h0 := (h i).2 dc gF.ρ gF.I gF.O w _ hdc ⟨hrF.sat.im, hrF.sat.ob⟩ hH hall;have e1 : (args.toList.map a.eval ++ us).toArray = args.map a.eval ++ us.toArray := by simp [← Array.toList_map]
 rw [e1] at h0
 have e2 : (execOp a.eval { dst := dst, op := .call { callee := .value fop, args := args, argTypes := ts }, type := ty, pos := pos, after := af, guard := gd }).run P w = .ok (.enter f (args.map a.eval ++ us.toArray)) w := by
  simp only [execOp, resolve, e, Deferred.ofValue, Sem.run_bind, Sem.run_pure, Result.andThen_ok, invoke, zH (h i).1];simp
 unfold wp1;rw [e2];refine Calls.mono h0 ?_
 rintro e w' ⟨v, ρ', I', O', rfl, hs, hv, hx1⟩
 refine ⟨v, rfl, ?_⟩
 have hgr : Grow w w' := ⟨hx1.os, hx1.tape, hx1.output, hx1.drawn, hx1.size, fun b hb => (hx1.keep b hb (fun hk => by
  rcases hk with hk | ⟨n, hk⟩
  ·exact absurd hk (Nat.not_le.2 hb)
  ·exact hdc b n hk) (fun ⟨y, n, hy, _⟩ => by simp at hy)).1⟩
 let g3 : Gh := { ρ := fun n => if n = k then v else g.ρ n, I := g.I, O := fun b => if b < w.heap.size then g.O b else (match O' b with | some (y, n) => if y = dc /\ n = 5 then some (C.d, k) else none | none => none) };have hO3 : ∀ b, b < w.heap.size -> g3.O b = g.O b := fun b hb => by simp [g3, hb]
 have hvk : ρ' 5 = v := zU hv;obtain ⟨xs', p1, p2, p3, p4⟩ := hs.blk 5 (.row enc l E s) (by simp [yj])
 have hnew : ∀ b, yT (ρ' 5) = some b -> O' b = some (dc, 5) /\ w.heap.size <= b := fun b hb => by
  obtain ⟨q1, q2⟩ := p4 b hb;refine ⟨q1, ?_⟩;rcases q2 with q2 | ⟨n, q2⟩
  ·exact q2
  ·exact absurd q2 (hdc b n)
 have him : ImOB g3 w' := by
  refine ⟨fun b o u hI => ?_, fun b p hO => ?_, hr0.sat.ob.2⟩
  ·obtain ⟨q1, q2⟩ := hr0.sat.im b o u hI;exact ⟨hgr.cell q1, by rw [hO3 b (zbm q1)]; exact q2⟩
  ·rcases Nat.lt_or_ge b w.heap.size with hb | hb
   ·exact Nat.lt_of_lt_of_le hb hgr.size
   ·simp only [g3, Nat.not_lt.2 hb, if_false] at hO;cases hO' : O' b with
    | none => simp [hO'] at hO
    | some q => exact hs.ob.1 b q hO'
 refine hK v w' g3 ⟨Im.le_refl _, fun n hn => ?_, hO3, hgr⟩ ?_ him (fun k' B hB => ?_)
 ·have : n ≠ k := fun e => hn (by simp [e])
  simp [g3, this]
 ·have hv' := zU hv;rcases p1.2 with ⟨e, _⟩ | ⟨b, cap, cur, e, _⟩ <;>
  ·have e : ρ' 5 = _ := e;rw [hvk] at e;rw [e];exact .own k _ _ _ (by simp [g3, e])
 ·injection hB with hB; injection hB with e3 e4; subst e3; subst e4;have hk3 : g3.ρ k = v := by simp [g3]
  refine ⟨xs', by rw [hk3, ← hvk]; exact p1, p2, fun j x q c u hx hc hu => (p3 j x q c u hx hc hu).flat (zax (hfl x) hc), fun b hb => ?_⟩;rw [hk3, ← hvk] at hb;obtain ⟨q1, q2⟩ := hnew b hb;refine ⟨by simp [g3, Nat.not_lt.2 q2, q1], .inl (Nat.le_trans hr0.ext.size q2)⟩
theorem zO {α : Type} {enc : α -> List AV} {l : List α} {u : α} {t : TypeId} {x : Operand} {k s i j n : Nat} {E : TypeId} {ys : List AV} (hx : ev st x = some (.ptr k s i j)) (hk : lk st.h k = some (.row enc l E s)) (hu : l[i]? = some u) (hy : ((enc u).drop j).take n = ys) (hl : ys.length = n) (hj : j + n <= s) (hn : AV.nm.nmL ys = true)
 (ht : tyOk P t true n = true) : Pur P C (.load t x) ty st (.agg ys) := fun g a w dst pos af gd hr => by
 obtain ⟨b, hb, e⟩ := zV (yn hr hx);obtain ⟨xs, hw, h1, h2, h3⟩ := hr.sat.blk k _ hk;rcases hw.2 with ⟨hv, _⟩ | ⟨b', cap, cur, hv, _, hh, hnc, _, hcur, htk⟩
 ·rw [hv] at hb; simp [yT] at hb
 ·have : b' = b := by rw [hv] at hb; simpa [yT] using hb
  subst this;have hil : i < l.length := (List.getElem?_eq_some_iff.1 hu).1
  have hle : i * s + s <= l.length * s := by
   have h2 : (i + 1) * s <= l.length * s := Nat.mul_le_mul_right s hil;have h3 : (i + 1) * s = i * s + s := Nat.succ_mul i s;omega
  have hxs : xs.length = l.length * s := hw.1;have hlen : ((xs.drop (i * s + j)).take n).length = n := by rw [List.length_take, List.length_drop]; omega
  have hget : ∀ q, q < n -> ((xs.drop (i * s + j)).take n)[q]? = xs[i * s + (j + q)]? := fun q hq => by
   rw [List.getElem?_take_of_lt hq, List.getElem?_drop, Nat.add_assoc]
  refine ⟨.agg ((xs.drop (i * s + j)).take n).toArray, ?_, .agg _ _ (by rw [hlen, hl]) (fun q c v hc hv => ?_)⟩
  ·have := zC (P := P) (t := t) ht (b := b') (o := i * s + j) (w := w) (vs := (xs.drop (i * s + j)).take n) hlen (fun q v hv => by
    have hq : q < n := by rw [← hlen]; exact (List.getElem?_eq_some_iff.1 hv).1
    rw [hget q hq] at hv;simp only [World.cell?, hh]
    have h0 : cur.toList[i * s + j + q]? = some v := by
     rw [← hv];conv => rhs; rw [← htk]
     rw [List.getElem?_take, if_pos (by omega), Nat.add_assoc]
    simpa using h0)
   simp only [execOp, e, Sem.run_bind, Instr.loadAt, Instr.sureAddr, Sem.run_pure, Result.andThen_ok, this]
  ·have hq : q < n := by rw [← hl]; exact (List.getElem?_eq_some_iff.1 hc).1
   rw [hget q hq] at hv
   have hcy : (enc u)[j + q]? = some c := by
    rw [← hy, List.getElem?_take_of_lt hq, List.getElem?_drop] at hc; exact hc
   exact (h2 i u (j + q) c v hu hcy hv).forget (zo hn hc)
theorem ziF {f : FuncId} {x : Operand} {k s i j : Nat} (hx : ev st x = some (.ptr k s i j)) : Pur P C (.makeFunc (.func f) #[x] #[]) ty st (.mth f k s i j) := fun g a w dst pos af gd hr => by
 obtain ⟨b, hb, e⟩ := zV (yn hr hx);exact ⟨.func (.func f) #[.pointer (some ⟨b, i * s + j, none⟩)] #[], by simp [execOp, Instr.makeFunc, e], .mth f k s i j b hb⟩
theorem zrJ {dst : Option Tmp} {fop : Operand} {args : Array Operand} {ts : Array TypeId} {f : FuncId} {k s i j : Nat} {xs az : List AV} {hs hs' : List (Nat × Blk)} {kp : List Nat} {r : AV}
 (μ : List (Nat × Nat)) (h : FnO P f az hs kp r hs') (hf : ev st fop = some (.mth f k s i j) := by exact rfl) (hx : evs st args.toList = some xs := by exact rfl) (hμ : biOk μ = true := by exact rfl) (hle : LeL (.ptr k s i j :: xs) (az.map (AV.ren μ)) := by exact LeL.refl _) (has : az.all (AV.okN (keys hs)) = true := by exact rfl) (hrn : r.okN (keys hs') = true := by exact rfl)
 (hin : zaj st μ (keys hs) hs := by repeat' (first | exact True.intro | refine And.intro ⟨_, _, rfl, rfl, LeB.refl _, rfl⟩ ?_)) (hout : (hs'.all fun p => (fwd μ p.1).isSome && p.2.okNB (keys hs')) = true := by exact rfl)
 (hnew : (μ.all fun p => kp.any (·.beq p.1) || (hs.any (·.1.beq p.1) && !(hs'.any (·.1.beq p.1))) || (!(hs.any (·.1.beq p.1)) && st.fr p.2)) = true := by exact rfl)
 (hkp : (kp.all fun n => hs.any (·.1.beq n)) = true := by exact rfl) (hd : dOk C.n dst = true := by exact rfl) :
 yw P C (.call { callee := .value fop, args := args, argTypes := ts }) ty dst st (zba st μ hs hs' dst r) := fun g a w pos af gd hr K hK => by
 obtain ⟨b, hb, e⟩ := zqa (yn hr hf);have hargs := zdG hr hx
 have h1 : RVL g.I g.ρ [.ptr k s i j] [.pointer (some ⟨b, i * s + j, none⟩)] := ⟨rfl, fun q c v hc hv => by
  match q with
  | 0 => simp at hc hv; subst hc; subst hv; exact .ptr k s i j b hb
  | q + 1 => simp at hc⟩
 have hall : RVL g.I g.ρ (az.map (AV.ren μ)) ([.pointer (some ⟨b, i * s + j, none⟩)] ++ args.toList.map a.eval) := hle.rvl (h1.append hargs)
 have h0 := zlc (T := Calls P f) (dst := dst) (fun h hm => Calls.mono h hm) μ h.r.2 hμ has hrn hin (fun p hp => by have := List.all_eq_true.1 hout p hp; simpa using this) (fun p hp => by
  have := List.all_eq_true.1 hnew p hp;simp only [Bool.or_eq_true, Bool.and_eq_true, Bool.not_eq_true'] at this;rcases this with (h1 | h1) | h1
  ·exact .inl h1
  ·exact .inr (.inl h1)
  ·exact .inr (.inr h1)) (fun n hn => List.all_eq_true.1 hkp n hn) hd hr hall
 have e2 : (execOp a.eval { dst := dst, op := .call { callee := .value fop, args := args, argTypes := ts }, type := ty, pos := pos, after := af, guard := gd }).run P w = .ok (.enter f (([.pointer (some ⟨b, i * s + j, none⟩)] : List Value) ++ args.toList.map a.eval).toArray) w := by
  simp only [execOp, resolve, e, Deferred.ofValue, Sem.run_bind, Sem.run_pure, Result.andThen_ok, invoke, zH h.1];simp [← Array.toList_map]
 unfold wp1;rw [e2];refine Calls.mono h0 ?_
 rintro e w' ⟨v, g', rfl, hr'⟩
 exact ⟨v, rfl, hK _ _ g' hr'⟩
def zhO {κ α : Type} (b : Nat) (kenc : κ -> AV) (venc : α -> AV) (L : List (κ × α)) : Hyp := fun _ _ w =>
 b < w.heap.size /\ ∃ es ck, w.heap[b]? = some (.map es ck) /\ es.size = L.length /\ ∀ (i : Nat) e p, es[i]? = some e -> L[i]? = some p -> RV (fun _ _ => none) noNames (kenc p.1) e.key /\ RV (fun _ _ => none) noNames (venc p.2) e.val
theorem zhO.now {κ α : Type} {b : Nat} {kenc : κ -> AV} {venc : α -> AV} {L : List (κ × α)} {I : Im} {O : Owns} (h : zhO b kenc venc L I O C.w0) (hds : C.ds = []) (hfr : ∀ b n, C.g0.O b ≠ some (C.d, n)) {g : Gh} {a : Act} {w : World} (hr : Rel C st g a w) : zhO b kenc venc L g.I g.O w := by
 obtain ⟨h1, es, ck, h3, h4, h5⟩ := h
 obtain ⟨e1, e2⟩ := hr.ext.keep b h1 (fun hk => by
  rcases hk with hk | ⟨n, hk⟩
  ·exact absurd hk (Nat.not_le.2 h1)
  ·exact hfr b n hk) (fun ⟨y, n, hy, _⟩ => by rw [hds] at hy; simp at hy)
 exact ⟨Nat.lt_of_lt_of_le h1 hr.ext.size, es, ck, e1.trans h3, h4, h5⟩
theorem zm6 {α : Type} {venc : α -> AV} {l : List (Int × α)} {t K E : TypeId} {x y : Operand} {b : Nat} {q : Int} (z0 : α) {I : Im} {O : Owns} (hm : zhO b (fun i : Int => .int .i64 i) venc l I O C.w0) (hfr : ∀ b n, C.g0.O b ≠ some (C.d, n)) (ht : mpOk P t K E) (hd : ∃ d, P.underlying K = some (.int d) /\ d = .i64) (hz : ∃ z i, P.info? E = some i /\ i.zero = some z /\ ∀ I, RV I noNames (venc z0) z)
 (hf : ∀ v, (venc v).flat = true := by intro v; rfl) (hds : C.ds = [] := by rfl) (hx : ev st x = some (.val (.map (some b))) := by exact rfl) (hy : ev st y = some (.int .i64 q) := by exact rfl) :
 Pur P C (.lookup t x y false) ty st (venc ((mget q l).getD z0)) := fun g a w dst pos af gd hr => by
 obtain ⟨_, es, ck, h4, h5, h6⟩ := hm.now hds hfr hr;have ex := za5 (yn hr hx);have ey := za (yn hr hy);obtain ⟨d, hd1, rfl⟩ := hd;obtain ⟨z, i, hi, hzz, hzr⟩ := hz;have hkeys : ∀ (j : Nat) e p, es.toList[j]? = some e -> l[j]? = some p -> e.key = .int .i64 p.1 := fun j e p he hp => za (h6 j e p (by simpa using he) hp).1
 rcases zfy (q := q) (d := .i64) l es.toList 0 (by simpa using h5) hkeys with ⟨m1, m2⟩ | ⟨j, e, v, m1, m2, m3, m4⟩
 ·refine ⟨z, ?_, ?_⟩
  ·simp [execOp, ex, ey, Instr.lookup, run_underlying ht.1, MapKept.run_getObj_map h4, MapKept.run_checkKey hd1 (show MapKept.IsKey (.int .i64) (.int .i64 q) from rfl), MapKept.run_findKey hd1 m2, Result.andThen, zeroValue, typeInfo, hi, hzz]
  ·have e1 : (mget q l).getD z0 = z0 := by simp [mget, m1]
   rw [e1]; exact (hzr g.I).flat (hf _)
 ·simp only [Nat.zero_add] at m1 m2;refine ⟨e.val, ?_, ?_⟩
  ·simp [execOp, ex, ey, Instr.lookup, run_underlying ht.1, MapKept.run_getObj_map h4, MapKept.run_checkKey hd1 (show MapKept.IsKey (.int .i64) (.int .i64 q) from rfl), MapKept.run_findKey hd1 m2, Result.andThen]
  ·have e1 : (mget q l).getD z0 = v := by simp [mget, m1]
   rw [e1]; exact (h6 j e (q, v) (by simpa using m3) m4).2.flat (hf _)
def frzM (k b : Nat) : AV -> AV
 | .mp k' => bif k'.beq k then .val (.map (some b)) else .mp k'
 | x => cln k x
theorem zoX {κ α : Type} {kenc : κ -> AV} {venc : α -> AV} {L : List (κ × α)} {k : Nat} {stF : Nat -> St} (hk : lk st.h k = some (.mpb kenc venc L)) (hi : ∀ b, Imp C ⟨mapT (frzM k b) st.t, (k, .dead) :: mapH (frzM k b) st.h⟩ (stF b)) (hkf : ∀ x, (kenc x).flat = true) (hvf : ∀ x, (venc x).flat = true) {g : Gh} {a : Act} {w : World} (hr : Rel C st g a w) :
 ∃ b gF, Rel C (stF b) gF a w /\ zhO b kenc venc L gF.I gF.O w := by
 obtain ⟨b, es, ck, h1, h2, h3, h4, h5, h6⟩ := hr.sat.blk k _ hk
 have hJ : (fun b' o => if b' = b then (none : Option Value) else g.I b' o) = g.I := by
  funext b' o;split
  ·rename_i e;cases hI : g.I b' o with
   | none => rfl
   | some u => have := (hr.sat.im b' o u hI).2; rw [e, h2] at this; cases this
  ·rfl
 have hrl := hr.letgo (b := b) (J := fun _ => none) (frzM k b) ⟨h2, h3⟩ (fun o v hv => by cases hv) fun x v hx => by
  rw [hJ];cases x with
  | mp k' =>
   obtain ⟨b', e1, e2⟩ := zeP hx;show RV g.I g.ρ (bif k'.beq k then .val (.map (some b)) else .mp k') v;cases hb : k'.beq k
   ·exact hx
   ·have : k' = k := by simpa using hb
    subst this;rw [h1] at e2; injection e2 with e2; injection e2 with e2; subst e2;rw [e1]; exact .val _
  | _ => exact hx.cln (fun _ _ => rfl)
 obtain ⟨gF, hrF⟩ := hi b _ _ _ hrl;exact ⟨b, gF, hrF, yW h4, es, ck, h4, h5.1, fun i e p he hp => ⟨(h6 i e p he hp).1.flat (hkf _), (h6 i e p he hp).2.flat (hvf _)⟩⟩
theorem zvO {stF : St} (hi : Imp C st stF) {g : Gh} {a : Act} {w : World} (hr : Rel C st g a w) : ∃ (_ : Unit) (gF : Gh), Rel C stF gF a w /\ (fun (_ : Im) (_ : Owns) (_ : World) => True) gF.I gF.O w :=
 let ⟨g', h⟩ := hi g a w hr; ⟨(), g', h, trivial⟩
theorem zvP {H : Hyp} (hH : ∀ g a w, Rel C st g a w -> H g.I g.O w) {g : Gh} {a : Act} {w : World} (hr : Rel C st g a w) : ∃ (_ : Unit) (gF : Gh), Rel C st gF a w /\ H gF.I gF.O w := ⟨(), g, hr, hH g a w hr⟩
end
section
variable {P : Program} {C : Ctx} {st : St} {ty : TypeId} {Q : Exit -> St -> Prop} {ops : Array Oper} {i : Nat} {fs : List FactM} {o : Oper} {x : AV} {nb : Option (Nat × Blk)}
theorem ChM.lg {ms : List Nat} {hid : List Nat} {m : Nat} {d gi t : Nat} {want b : Bool} {g0 : List (Nat × Bool)} {f : FuncId} {caps xs : List AV} {fop : Operand} {args : Array Operand} {ts : Array TypeId} {H : Hyp} (hH : ∀ st g a w, Rel C st g a w -> H g.I g.O w) (hc : FnW P f (xs ++ caps) x H) (h : ChM P C ops ms st hid Q (i + 1) (⟨i, some d, x, none, m, (gi, want) :: g0⟩ :: fs)) (hm : ms[i]? = some m := by exact rfl) (ho : ops[i]? = some o := by exact rfl) (hg : o.guard = some (gi, want) := by exact rfl) (hod : o.dst = some d := by exact rfl) (hi : (ops[gi]?).bind (·.dst) = some t := by exact rfl)
 (hch : zbI fs gi = g0 := by first | exact (rfl : _ = []) | exact (rfl : _ = [_]) | exact (rfl : _ = [_, _]) | exact (rfl : _ = [_, _, _])) (hb : lk (stR st hid m fs).t t = some (optV (zd fs g0) g0 (.bool b)) := by exact rfl) (hcd : zaq fs gi want = (b == want) := by exact rfl) (hg0 : zcb fs ((gi, want) :: g0) = true := by exact rfl)
 (hop : o.op = .call { callee := .value fop, args := args, argTypes := ts } := by exact rfl) (hf : ev (stV st hid m fs ((gi, want) :: g0)) fop = some (.fn f caps) := by exact rfl) (hx : evs (stV st hid m fs ((gi, want) :: g0)) args.toList = some xs := by exact rfl) (hn : AV.nm.nmL (xs ++ caps) = true := by exact rfl) (hfl : x.flat = true := by exact rfl) (hd : d.blt C.n = true := by exact rfl) : ChM P C ops ms st hid Q i fs :=
 .guard hm ho hg hi hb rfl hcd (zaw hg0) (fun e => by rw [hop]; exact zto (ι := Unit) (H := fun _ => H) (stF := fun _ => stV st hid m fs ((gi, want) :: g0)) (fun g a w hr => zvP (hH _) hr) (caps := fun _ => caps) (xs := fun _ => xs) (fun _ => hc) (fun _ => hf) (fun _ => hx) (fun _ => hn) (fun _ => LeL.refl _) hfl) (by rw [hod]; exact hd) (by rw [hod]; exact h)
end
end Go.Rse
namespace Go.Rse
open Go Go.RowKit
open Go.ChangeMaps (setBlock)
section plain
variable {κ α : Type} [DecidableEq κ]
def kix (q : κ) : List (κ × α) -> Nat -> Option Nat
 | [], _ => none
 | p :: r, i => if q = p.1 then some i else kix q r (i + 1)
def kput (q : κ) (x : α) (l : List (κ × α)) : List (κ × α) := match kix q l 0 with
 | some i => l.set i (q, x)
 | none => l ++ [(q, x)]
theorem zkv {P : Program} {w : World} {K : TypeId} {kv : κ -> Value} {q : κ} (heq : ∀ x y, (Op.equal K (kv x) (kv y)).run P w = .ok (decide (x = y)) w) : ∀ (l : List (κ × α)) (es : List MapEntry) (i : Nat), es.length = l.length -> (∀ (j : Nat) e p, es[j]? = some e -> l[j]? = some p -> e.key = kv p.1) →
 (kix q l i = none /\ (Instr.findAsking K (kv q) es i).run P w = .ok none w) \/ ∃ j e x, kix q l i = some (i + j) /\ (Instr.findAsking K (kv q) es i).run P w = .ok (some (i + j, e.val)) w /\ es[j]? = some e /\ l[j]? = some (q, x)
 | [], [], i, _, _ => .inl ⟨rfl, rfl⟩
 | [], _ :: _, i, h, _ => by simp at h
 | _ :: _, [], i, h, _ => by simp at h
 | p :: l, e :: es, i, hl, hk => by
  have hk0 : e.key = kv p.1 := hk 0 e p rfl rfl;have he := heq q p.1;rw [← hk0] at he;by_cases hq : q = p.1
  ·refine .inr ⟨0, e, p.2, by simp [kix, hq], ?_, rfl, by rw [hq]; rfl⟩;simp only [Instr.findAsking, Sem.run_bind, he, Result.andThen_ok, decide_eq_true_eq, if_pos hq, Sem.run_pure, Nat.add_zero]
  ·rcases zkv heq (q := q) l es (i + 1) (by simpa using hl) (fun j e' p' h1 h2 => hk (j + 1) e' p' h1 h2) with ⟨h1, h2⟩ | ⟨j, e', x, h1, h2, h3, h4⟩
   ·exact .inl ⟨by simp [kix, hq, h1], by simp [Instr.findAsking, he, hq, h2]⟩
   ·refine .inr ⟨j + 1, e', x, by simp [kix, hq, h1]; omega, ?_, h3, h4⟩;simp only [Instr.findAsking, Sem.run_bind, he, Result.andThen_ok, decide_eq_true_eq, hq, if_false, h2];congr 2; simp; omega
theorem zm7 (q : κ) (x : α) (l : List (κ × α)) : (kput q x l).map (·.1) = if q ∈ l.map (·.1) then l.map (·.1) else l.map (·.1) ++ [q] := by
 have key : ∀ (l : List (κ × α)) (i : Nat), (kix q l i = none /\ q ∉ l.map (·.1)) \/ ∃ j y, kix q l i = some (i + j) /\ l[j]? = some (q, y) := by
  intro l
  induction l with
  | nil => intro i; exact .inl ⟨rfl, by simp⟩
  | cons p l ih =>
   intro i;by_cases hq : q = p.1
   ·exact .inr ⟨0, p.2, by simp [kix, hq], by rw [hq]; rfl⟩
   ·rcases ih (i + 1) with ⟨h1, h2⟩ | ⟨j, y, h1, h2⟩
    ·exact .inl ⟨by simp [kix, hq, h1], by simpa [hq] using h2⟩
    ·exact .inr ⟨j + 1, y, by simp [kix, hq, h1]; omega, h2⟩
 unfold kput;rcases key l 0 with ⟨h1, h2⟩ | ⟨j, y, h1, h2⟩
 ·rw [h1, if_neg h2]; simp
 ·rw [Nat.zero_add] at h1;rw [h1, if_pos (List.mem_map.2 ⟨_, List.mem_of_getElem? h2, rfl⟩)];simp only;apply List.ext_getElem?;intro i;rw [List.getElem?_map, List.getElem?_map, List.getElem?_set];split
  ·next e =>
   subst e;split
   ·rw [h2]; rfl
   ·next hn => exact absurd (List.getElem?_eq_some_iff.1 h2).1 hn
  ·rfl
end plain
structure KeyL (P : Program) (K : TypeId) {κ : Type} [DecidableEq κ] (kenc : κ -> AV) (kv : κ -> Value) : Prop where
 val : ∀ I ρ x v, RV I ρ (kenc x) v -> v = kv x
 of : ∀ I ρ x, RV I ρ (kenc x) (kv x)
 chk : ∀ em w x, (Instr.checkKey em 10000 K (kv x)).run P w = .ok () w
 wide : (match P.underlying K with | some (.array _ _) | some (.struct _) => true | _ => false) = true
 eq : ∀ w x y, (Op.equal K (kv x) (kv y)).run P w = .ok (decide (x = y)) w
 stay : ∀ w x, (Instr.keyThatStays (kv x) (kv x)).run P w = .ok (kv x) w
section
variable {P : Program} {C : Ctx} {st : St} {ty : TypeId} {Q : Exit -> St -> Prop}
theorem zc9 {κ α : Type} [DecidableEq κ] {kenc : κ -> AV} {kv : κ -> Value} {venc : α -> AV} {l : List (κ × α)} {t K E : TypeId} {x y z : Operand} {k : Nat} {q : κ} {u c : AV} (v : α) (L : KeyL P K kenc kv) (hx : ev st x = some (.mp k)) (hk : lk st.h k = some (.mpb kenc venc l)) (hy : ev st y = some c) (hc : c = kenc q)
 (hz : ev st z = some u) (hu : u = venc v) (ht : P.underlying t = some (.map K E)) (hf : ∀ v k, (venc v).fr k = true) :
 yw P C (.mapUpdate t x y z) ty none st (putH st k (.mpb kenc venc (kput q v l))) := fun g a w pos af gd hr K' hK => by
 subst hc;obtain ⟨b, es, ck, h1, h2, h3, h4, h5, h6⟩ := hr.sat.blk k _ hk
 have ex : a.eval x = .map (some b) := by
  obtain ⟨b', e1, e2⟩ := zeP (yn hr hx);rw [e1, ← e2, h1]
 have ey : a.eval y = kv q := L.val _ _ _ _ (yn hr hy);have ez : RV g.I noNames (venc v) (a.eval z) := (hu ▸ yn hr hz).forget' (hf v);have hkeys : ∀ (j : Nat) e p, es.toList[j]? = some e -> l[j]? = some p -> e.key = kv p.1 := fun j e p he hp => L.val _ _ _ _ (h6 j e p (by simpa using he) hp).1
 have hF := run_findKey_eq w L.wide (kv q) es.toList;rcases zkv (P := P) (w := w) (q := q) (L.eq w) l es.toList 0 (by simpa using h5.1) hkeys with ⟨m1, m2⟩ | ⟨j, e, v0, m1, m2, m3, m4⟩
 ·rw [m2] at hF
  have er : (Instr.mapUpdate t (.map (some b)) (kv q) (a.eval z)).run P w = .ok () { w with heap := w.heap.setIfInBounds b (.map (es.push { key := kv q, val := a.eval z, born := ck }) (ck + 1)) } := by
   simp [Instr.mapUpdate, run_underlying ht, MapKept.run_getObj_map h4, L.chk, hF, MapKept.run_setObj_map _ h4, Result.andThen]
  simp only [wp1, execOp, ex, ey, Sem.run_bind, er, Result.andThen_ok, Sem.run_pure, zbz];refine hK _ _ _ (hr.modify h2 h3 (zbc h4) (Nat.le_refl _) ⟨b, _, _, h1, h2, h3, (MapKept.heap_set h4).1, ⟨?_, ?_, ?_⟩, ?_⟩)
  ·simp [kput, m1, h5.1]
  ·simp [kput, m1, h5.2.1]
  ·intro i e he;rw [Array.getElem?_push] at he;split at he
   ·next hie => injection he with he; subst he; rw [hie]; exact h5.2.1.trans h5.1.symm
   ·exact h5.2.2 i e he
  ·intro i e p he hp;simp only [kput, m1] at hp;rw [Array.getElem?_push] at he;rw [List.getElem?_append] at hp;have h50 := h5.1;by_cases hi : i < es.size
   ·rw [if_neg (by omega)] at he;rw [if_pos (by omega)] at hp;exact h6 i e p he hp
   ·split at he
    ·next hie =>
     injection he with he; subst he;rw [if_neg (by omega)] at hp;have : i - l.length = 0 := by omega
     rw [this] at hp; simp at hp; subst hp;exact ⟨L.of _ _ _, ez⟩
    ·rw [Array.getElem?_eq_none (by omega)] at he; simp at he
 ·simp only [Nat.zero_add] at m1 m2;rw [m2] at hF;have hke : e.key = kv q := hkeys j e _ m3 m4;have hj : es[j]? = some e := by simpa using m3
  have er : (Instr.mapUpdate t (.map (some b)) (kv q) (a.eval z)).run P w = .ok () { w with heap := w.heap.setIfInBounds b (.map (es.modify j fun e => { e with key := kv q, val := a.eval z }) ck) } := by
   simp [Instr.mapUpdate, run_underlying ht, MapKept.run_getObj_map h4, L.chk, hF, hj, hke, L.stay, MapKept.run_setObj_map _ h4, Result.andThen]
  simp only [wp1, execOp, ex, ey, Sem.run_bind, er, Result.andThen_ok, Sem.run_pure, zbz];refine hK _ _ _ (hr.modify h2 h3 (zbc h4) (Nat.le_refl _) ⟨b, _, _, h1, h2, h3, (MapKept.heap_set h4).1, ⟨?_, ?_, ?_⟩, ?_⟩)
  ·simp [kput, m1, h5.1]
  ·simp [kput, m1, h5.2.1]
  ·intro i e' he;rw [Array.getElem?_modify] at he;split at he
   ·next hie =>
    subst hie;rw [hj] at he;simp at he; subst he;exact h5.2.2 j e hj
   ·exact h5.2.2 i e' he
  ·intro i e' p he hp;simp only [kput, m1] at hp;rw [Array.getElem?_modify] at he;rw [List.getElem?_set] at hp;by_cases hi : j = i
   ·subst hi;rw [if_pos rfl] at he hp;rw [hj] at he;simp at he; subst he;split at hp
    ·injection hp with hp; subst hp; exact ⟨L.of _ _ _, ez⟩
    ·simp at hp
   ·rw [if_neg hi] at he hp;exact h6 i e' p he hp
theorem ztp {ops : Array Oper} {rest : List Oper} {d : Nat} {pos : String} {af : Array Edge} {κ α : Type} {kenc : κ -> AV} {venc : α -> AV} {l : List (κ × α)} {t K E : TypeId} {x : Operand} {k : Nat} (kh : Nat)
 (h : ∀ b bm, Ex P C ops rest ⟨(d, .val (.pointer (some ⟨b, 0, none⟩))) :: st.t, (kh, .hold [.map (some bm)] [.mp k]) :: (d, .obj b (.mapIter (some bm) l.length #[] l.length)) :: st.h⟩ Q)
 (hx : ev st x = some (.mp k) := by exact rfl) (hk : lk st.h k = some (.mpb kenc venc l) := by exact rfl) (ht : P.underlying t = some (.map K E) := by exact rfl) (hd : dOk C.n (some d) = true := by exact rfl) (hn : st.fr d = true := by exact rfl) :
 Ex P C ops ({ dst := some d, op := .range t x, type := ty, pos := pos, after := af, guard := none } :: rest) st Q := fun g a w hr => by
 obtain ⟨b, es, ck, h1, h2, h3, h4, h5, h6⟩ := hr.sat.blk k _ hk
 have ex : a.eval x = .map (some b) := by
  obtain ⟨b', e1, e2⟩ := zeP (yn hr hx);rw [e1, ← e2, h1]
 have hne : k ≠ d := fun e => by
  subst e;have := (zb1 (k := k) (l := st.h) (by unfold St.fr at hn; simp at hn; exact hn.2) hk).2;exact this rfl
 have er := run_range_map w t K E b es ck ht h4;rw [h5.2.1] at er;refine wpListIn_plain rfl fun K' hK => zK ?_
 simp only [wp1, execOp, ex, Sem.run_bind, er, Result.andThen_ok, Sem.run_pure, zbz];refine hK _ _ ?_
 have h7 : Rel C (addSt st (some d) (.val (.pointer (some ⟨w.heap.size, 0, none⟩))) (some (d, .obj w.heap.size (.mapIter (some b) l.length #[] l.length)))) (g.nw C.d w.heap.size d .nilIface) (a.put (some d) (.pointer (some ⟨w.heap.size, 0, none⟩))) (w.alloc (.mapIter (some b) l.length #[] l.length)) :=
  hr.addSt (Add.nw (Grow.alloc _ _) C.d d _) hd hn (.val _) (ImOB.nw ⟨hr.sat.im, hr.sat.ob⟩ (Grow.alloc _ _) (by simp) C.d d _).1 (ImOB.nw ⟨hr.sat.im, hr.sat.ob⟩ (Grow.alloc _ _) (by simp) C.d d _).2 fun k' B hB => by
   injection hB with hB; injection hB with e1 e2; subst e1; subst e2;exact ⟨heap_alloc_new w _, by simp [Gh.nw], .inl hr.ext.size⟩
 exact h _ _ _ _ _ (h7.withBlk (k := kh) (B := .hold [.map (some b)] [.mp k]) ⟨rfl, fun j c v hc hv => by
  cases j with
  | zero => simp at hc hv; subst hc; subst hv; exact .mp k b (by simp [Gh.nw, hne, h1])
  | succ j => simp at hc⟩)
theorem Ex.nxt {ops : Array Oper} {rest : List Oper} {d e : Nat} {ty' : TypeId} {pos pos' : String} {af af' : Array Edge} {κ α : Type} {kenc : κ -> AV} {venc : α -> AV} {l : List (κ × α)} {x : Operand} {k b bm kb kh c0 : Nat} {seen : Array Nat}
 (h : ∀ (mo : Bool) (i : Nat), (mo = false -> ∀ i, i < l.length -> seen.contains i = true) -> (mo = true -> i < l.length /\ seen.contains i = false) →
  Ex P C ops rest ⟨(e, .bool mo) :: (d, .any) :: st.t, (kb, .obj b (.mapIter (some bm) l.length (bif mo then seen.push i else seen) (bif mo then l.length else c0))) :: st.h⟩ Q)
 (hc : l.length <= c0 := by exact Nat.le_refl _)
 (hx : ev st x = some (.val (.pointer (some ⟨b, 0, none⟩))) := by exact rfl) (hb : lk st.h kb = some (.obj b (.mapIter (some bm) l.length seen c0)) := by exact rfl) (hh : lk st.h kh = some (.hold [.map (some bm)] [.mp k]) := by exact rfl) (hk : lk st.h k = some (.mpb kenc venc l) := by exact rfl)
 (hd : dOk C.n (some d) = true := by exact rfl) (he : dOk C.n (some e) = true := by exact rfl) :
 Ex P C ops ({ dst := some d, op := .next x false, type := ty, pos := pos, after := af, guard := none } :: { dst := some e, op := .extract (.tmp d) 0, type := ty', pos := pos', after := af', guard := none } :: rest) st Q := fun g a w hr => by
 obtain ⟨b', es, ck, h1, h2, h3, h4, h5, h6⟩ := hr.sat.blk k _ hk;obtain ⟨q1, q2, q3⟩ := hr.sat.blk kb _ hb
 have hbm : bm = b' := by
  obtain ⟨_, q⟩ := hr.sat.blk kh _ hh;obtain ⟨b2, e1, e2⟩ := zeP (q 0 _ _ rfl rfl);rw [h1] at e2; injection e1 with e1; injection e1 with e1; injection e2 with e2; injection e2 with e2;rw [e1, e2]
 subst hbm;have ex : a.eval x = .pointer (some ⟨b, 0, none⟩) := za5 (yn hr hx)
 have hat : ∀ y ∈ es.toList, ∃ i, es[i]? = some y /\ i < l.length := fun y hy => by
  obtain ⟨i, hi⟩ := List.mem_iff_getElem?.1 hy;have hi' : es[i]? = some y := by simpa using hi
  refine ⟨i, hi', ?_⟩;rw [← h5.1];exact (Array.getElem?_eq_some_iff.1 hi').1
 have hdlt : d < a.tmps.size := by rw [hr.size]; simpa [dOk] using hd
 have fin : ∀ (mo : Bool) (i : Nat) (w1 w2 : World) (v : Value), (mo = false -> ∀ i, i < l.length -> seen.contains i = true) -> (mo = true -> i < l.length /\ seen.contains i = false) -> (w1 = w \/ w1 = w.drew) →
  w2 = (bif mo then setBlock w1 b (.mapIter (some bm) l.length (seen.push i) l.length) else w1) -> (Instr.next (.pointer (some ⟨b, 0, none⟩)) false ty).run P w = .ok v w2 -> (∃ r, v = .tuple r /\ r[0]? = some (.bool mo)) →
  wpListIn C.F 0 P ops (lift C Q) ({ dst := some d, op := .next x false, type := ty, pos := pos, after := af, guard := none } :: { dst := some e, op := .extract (.tmp d) 0, type := ty', pos := pos', after := af', guard := none } :: rest) a w := by
  intro mo i w1 w2 v hm1 hm2 hw1 hw2 hrun hv;obtain ⟨r, rfl, hr0⟩ := hv;refine wpListIn_plain rfl fun K' hK => zK ?_
  simp only [wp1, execOp, ex, Sem.run_bind, hrun, Result.andThen_ok, Sem.run_pure, zbz];refine hK _ _ ?_;refine wpListIn_plain rfl fun K' hK => zK ?_
  have ee : (a.put (some d) (.tuple r)).eval (.tmp d) = .tuple r := by
   simp [Act.eval, Act.put, hdlt]
  simp only [wp1, execOp, ee, Instr.extract, hr0, Sem.run_bind, Result.andThen_ok, Sem.run_pure, zbz];refine hK _ _ ?_
  have hr1 : Rel C st g a w1 := by
   rcases hw1 with rfl | rfl
   ·exact hr
   ·exact hr.add (nk := none) (d := none) (x := .any) (v := .nilIface) ⟨Im.le_refl _, fun _ _ => rfl, fun _ _ => rfl, Grow.drew w⟩ (fun k h => by simp at h) (fun t h => by simp at h) (.any _) hr.sat.im hr.sat.ob
  have hw1b : w1.heap[b]? = w.heap[b]? := by rcases hw1 with rfl | rfl <;> rfl
  have hr2 : Rel C (putH st kb (.obj b (.mapIter (some bm) l.length (bif mo then seen.push i else seen) (bif mo then l.length else c0)))) g a w2 := by
   subst hw2;cases mo with
   | false => exact hr1.withBlk ⟨hw1b.trans q1, q2, q3⟩
   | true =>
    refine hr1.modify q2 q3 ⟨rfl, rfl, rfl, by simp [setBlock], fun j hj hne => ?_⟩ (Nat.le_refl _) ⟨?_, q2, q3⟩
    ·have : b ≠ j := fun e => hne (by rw [e])
     simp [setBlock, Array.getElem?_setIfInBounds, this]
    ·have hlt := yW (hw1b.trans q1);simp [setBlock, Array.getElem?_setIfInBounds, hlt]
  have hr3 := hr2.addSt (nb := none) (d := some d) (x := .any) (v := .tuple r) (Add.refl _ g w2) hd rfl (.any _) hr2.sat.im hr2.sat.ob (fun _ _ h => by cases h);have hr4 := hr3.addSt (nb := none) (d := some e) (x := .bool mo) (v := .bool mo) (Add.refl _ g w2) he rfl (.bool _) hr3.sat.im hr3.sat.ob (fun _ _ h => by cases h);exact h mo i hm1 hm2 g _ w2 hr4
 rcases run_next_at (P := P) w ty b bm l.length c0 seen es ck q1 h4 (fun y hy => by
  obtain ⟨i, hi, hl⟩ := hat y hy;rw [h5.2.2 i y hi]; exact hl) hc with ⟨n1, n2⟩ | ⟨y, n1, w1, n2, n3⟩
 ·refine fin false 0 w w _ (fun _ i hi => ?_) (by simp) (.inl rfl) rfl n2 ⟨_, rfl, rfl⟩;have hi' : i < es.size := by rw [h5.1]; exact hi
  cases hcn : seen.contains i with
  | true => rfl
  | false =>
   have hm : es[i] ∈ leftOf es seen := by
    unfold leftOf;refine Array.mem_filter.2 ⟨Array.getElem_mem hi', ?_⟩;rw [h5.2.2 i _ (Array.getElem?_eq_getElem hi'), hcn]; rfl
   have := Array.size_pos_of_mem hm;omega
 ·have hl := mem_left n1;obtain ⟨i, hi, hil⟩ := hat y hl.1;have hbn := h5.2.2 i y hi;rw [hbn, h5.2.1] at n3;rw [hbn] at hl;exact fin true i w1 _ _ (by simp) (fun _ => ⟨hil, hl.2⟩) n2 rfl n3 ⟨_, rfl, rfl⟩
theorem zql {κ α : Type} {kenc : κ -> AV} {venc : α -> AV} {l : List (κ × α)} {x : Operand} {k b bm kb kh i : Nat} {seen : Array Nat} (p : κ × α) (hp : l[i]? = some p)
 (hx : ev st x = some (.val (.pointer (some ⟨b, 0, none⟩)))) (hb : lk st.h kb = some (.obj b (.mapIter (some bm) l.length (seen.push i) l.length))) (hh : lk st.h kh = some (.hold [.map (some bm)] [.mp k])) (hk : lk st.h k = some (.mpb kenc venc l))
 (hf : ∀ v k, (kenc v).fr k = true) (hg : ∀ v k, (venc v).fr k = true) :
 Pur P C (.entry x) ty st (.tup [kenc p.1, venc p.2]) := fun g a w dst pos af gd hr => by
 obtain ⟨b', es, ck, h1, h2, h3, h4, h5, h6⟩ := hr.sat.blk k _ hk;obtain ⟨q1, q2, q3⟩ := hr.sat.blk kb _ hb
 have hbm : bm = b' := by
  obtain ⟨_, q⟩ := hr.sat.blk kh _ hh;obtain ⟨b2, e1, e2⟩ := zeP (q 0 _ _ rfl rfl);rw [h1] at e2; injection e1 with e1; injection e1 with e1; injection e2 with e2; injection e2 with e2;rw [e1, e2]
 subst hbm;have ex : a.eval x = .pointer (some ⟨b, 0, none⟩) := za5 (yn hr hx);have hil : i < es.size := by rw [h5.1]; exact (List.getElem?_eq_some_iff.1 hp).1
 have hi : es[i]? = some es[i] := Array.getElem?_eq_getElem hil;have hbn := h5.2.2 i _ hi;rw [← hbn, ← h5.2.1] at q1;rw [h5.2.1] at q1
 have hnd : (es.toList.map (·.born)).Nodup := by
  have : es.toList.map (·.born) = List.range es.size := by
   apply List.ext_getElem?;intro j;rw [List.getElem?_map, Array.getElem?_toList];by_cases hj : j < es.size
   ·rw [List.getElem?_range hj, Array.getElem?_eq_getElem hj];exact congrArg some (h5.2.2 j _ (Array.getElem?_eq_getElem hj))
   ·rw [Array.getElem?_eq_none (by omega), List.getElem?_eq_none (by simp; omega)]; rfl
  rw [this]; exact List.nodup_range
 have hrun := run_entry_at (P := P) w b bm l.length seen es ck es[i] (by rw [hbn]; rw [hbn] at q1; rw [h5.2.1]; exact q1) h4 (Array.getElem_mem hil |> Array.mem_toList_iff.2) hnd;obtain ⟨r1, r2⟩ := h6 i _ p hi hp;refine ⟨.tuple #[es[i].key, es[i].val], ?_, ?_⟩
 ·simp only [execOp, ex, Sem.run_bind, hrun, Result.andThen_ok, Sem.run_pure]
 ·refine .tup _ [es[i].key, es[i].val] rfl fun j c u hc hv => ?_
  rcases j with _ | _ | j
  ·simp at hc hv; subst hc; subst hv; exact r1.forget' (hf _)
  ·simp at hc hv; subst hc; subst hv; exact r2.forget' (hg _)
  ·simp at hc
end
end Go.Rse
namespace Go.Rse
open Go Go.RowKit
section
variable {P : Program} {C : Ctx} {st : St} {ty : TypeId}
end
structure Hd (Q : Prop) : Prop where
 h : Q
theorem gq {P Q : Prop} (k : Q) (h : Hd Q → P := by intro k; (repeat' (first | apply yI | apply zmp | apply yg | apply Ex.nil | apply yl | apply ym | apply yp | apply X.block | apply X.ret | apply X.exit | apply X.scope | (show Ex _ _ _ (_ :: _) _ _; first | refine ya ?_ | refine zaS ?_ | refine zB ?_ | refine Ex.mo ?_) | (show ExF _ _ _ _ _ _ _; first | refine ExF.gi ?_ | refine yA ?_) | (show RetQ _ _ [.tmp _] _ _ _; refine zgA ?_))); exact k.h) : P := h ⟨k⟩
theorem gd {P Q R : Prop} (k : Q) (l : R) (h : Hd Q → Hd R → P := by intro k l; (repeat' (first | apply yI | apply zmp | apply yg | apply Ex.nil | apply yl | apply ym | apply yp | apply X.block | apply X.ret | apply X.exit | apply X.scope | (show Ex _ _ _ (_ :: _) _ _; first | refine ya ?_ | refine zaS ?_ | refine zB ?_ | refine Ex.mo ?_) | (show ExF _ _ _ _ _ _ _; first | refine ExF.gi ?_ | refine yA ?_) | (show RetQ _ _ [.tmp _] _ _ _; refine zgA ?_))); refine ztm rfl ?_ ?_; exact k.h; exact l.h) : P := h ⟨k⟩ ⟨l⟩
theorem ge {P Q : Prop} (k : Q) (h : Hd Q → P := by intro k; apply zfx; (repeat' (first | apply yI | apply zmp | apply yg | apply Ex.nil | apply yl | apply ym | apply yp | apply X.block | apply X.ret | apply X.exit | apply X.scope | (show Ex _ _ _ (_ :: _) _ _; first | refine ya ?_ | refine zaS ?_ | refine zB ?_ | refine Ex.mo ?_) | (show ExF _ _ _ _ _ _ _; first | refine ExF.gi ?_ | refine yA ?_) | (show RetQ _ _ [.tmp _] _ _ _; refine zgA ?_))); exact k.h) : P := h ⟨k⟩
theorem gf {P Q R : Prop} (k : Q) (l : R) (h : Hd Q → Hd R → P := by intro k l; apply zfx; (repeat' (first | apply yI | apply zmp | apply yg | apply Ex.nil | apply yl | apply ym | apply yp | apply X.block | apply X.ret | apply X.exit | apply X.scope | (show Ex _ _ _ (_ :: _) _ _; first | refine ya ?_ | refine zaS ?_ | refine zB ?_ | refine Ex.mo ?_) | (show ExF _ _ _ _ _ _ _; first | refine ExF.gi ?_ | refine yA ?_) | (show RetQ _ _ [.tmp _] _ _ _; refine zgA ?_))); refine ztm rfl ?_ ?_; exact k.h; exact l.h) : P := h ⟨k⟩ ⟨l⟩
theorem zac {α : Type} {P : Program} {C : Ctx} {st : St} {ty : TypeId} {enc : α → List AV} {l : List α} {t E : TypeId} {ag : Bool} {s n : Nat} {parts : Array (Nat × Operand)} {ps : List (Nat × AV)} {z : Value} (ht : slOk P t E = true) (hE : tyOk P E ag s = true) (hz : (P.info? E).bind (·.zero) = some z) (hs0 : 0 < s := by decide) (hp : za9 st parts.toList = some ps := by exact rfl) (hk : zbH ps = true := by exact rfl) (hf : zes (fun i => some (i * s, s)) (List.replicate (n * s) .any) ps = some (l.flatMap enc) := by exact rfl) (hln : l.length = n := by exact rfl) (hn : n * s ≤ 16777216 := by decide) (hm : n ≤ 1000000 := by decide) (hs : ∀ x, (enc x).length = s := by exact (fun _ => rfl)) (hnm : AV.nm.nmL (l.flatMap enc) = true := by exact rfl) : yr P C (.buildSlice t n parts) ty st (.sl enc l) none := zh5 ht hE hz hs0 hp hk hf hln hn hm hs hnm
end Go.Rse
