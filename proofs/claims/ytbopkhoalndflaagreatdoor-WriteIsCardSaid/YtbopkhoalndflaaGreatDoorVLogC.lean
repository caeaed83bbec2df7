/-
  The program's data as plain structures, and how they lie in memory.
  Structs held against each other, by type.
  Short forms: rules whose premises are looked for by themselves.
  Functions that are handed blocks and leave more of their own; calls of such, in short form.
  Shifts and bits of small ints.
  Maps of one's own by ints: make, update, lookup with its word.
  What holds at a point, with facts on boxes at hand; the zero value of a map's elements.
  Copies into a row of one's own, its head as a slice, functions held against nil, operations behind a guard that is shut.
  The logic: a part of a row, read.
  Rules: blocks of one's own are lent for a call that only reads; maps that do not change.
  Maps of one's own by structs of two integers: update; range over a map of one's own.
  A row's tail is cleared: its zero may hold nil slices.
-/
import Derived.Test.YtbopkhoalndflaaGreatDoorVTy
import Derived.Test.YtbopkhoalndflaaGreatDoorVLogB
import Derived.MapKept
import Derived.WideKeyRuns
import Derived.ChangeKeysEq
import Derived.Maps.RangeRun
set_option linter.all false
namespace Go.Rse
open Go Go.RowKit
structure Mn where
 Max : Int
 Mod : Int
 Tem : Int
 Pro : Int
 deriving DecidableEq
structure Tm where
 N : Int
 D : Int
 deriving DecidableEq
structure Sg where
 Kind : Int
 Value : Int
 Place : Int
 Acc : Int
 Color : Bool
 Stem : Int
 Oblique : Bool
 Last : Bool
 Mens : Mn
 Stroke : Bool
 N : Int
 D : Int
 CStep : Int
 CLine : Int
 deriving DecidableEq
instance : Inhabited Tm := ⟨⟨0, 0⟩⟩
instance : Inhabited Sg := ⟨⟨0, 0, 0, 0, false, 0, false, false, ⟨0, 0, 0, 0⟩, false, 0, 0, 0, 0⟩⟩
abbrev iv (n : Int) : AV := .int .i64 n
def intE : Int -> List AV := fun n => [.int .i64 n]
def za6 : Bool -> List AV := fun b => [.bool b]
def mnE : Mn -> List AV := fun m => [.int .i64 m.Max, .int .i64 m.Mod, .int .i64 m.Tem, .int .i64 m.Pro]
def tmE : Tm -> List AV := fun t => [.int .i64 t.N, .int .i64 t.D]
def sgE : Sg -> List AV := fun s => [.int .i64 s.Kind, .int .i64 s.Value, .int .i64 s.Place, .int .i64 s.Acc, .bool s.Color, .int .i64 s.Stem, .bool s.Oblique, .bool s.Last, .int .i64 s.Mens.Max, .int .i64 s.Mens.Mod, .int .i64 s.Mens.Tem, .int .i64 s.Mens.Pro, .bool s.Stroke, .int .i64 s.N, .int .i64 s.D, .int .i64 s.CStep, .int .i64 s.CLine]
def zi9 : List Int -> List AV := fun l => [.sl intE l]
abbrev yc (l : List Int) : AV := .sl intE l
abbrev zaQ (l : List Bool) : AV := .sl za6 l
abbrev mnA (m : Mn) : AV := .agg (mnE m)
abbrev tmA (t : Tm) : AV := .agg (tmE t)
abbrev sgA (s : Sg) : AV := .agg (sgE s)
abbrev sgsA (l : List Sg) : AV := .sl sgE l
abbrev tmsA (l : List Tm) : AV := .sl tmE l
abbrev zcX (l : List (List Int)) : AV := .sl zi9 l
end Go.Rse
namespace Go.Rse
open Go Go.RowKit
section
variable {P : Program} {C : Ctx} {st : St} {ty : TypeId}
def zoR {t : TypeId} {x y : Operand} {yt : TypeId} {xs ys : List AV} {b : Bool} {L : List Nat} {d n : Nat} (h : (eqOk P d t && decide (d <= 10000)) = true) (Z : flat P d t = L) (hm : P.eqGuardType P.depth t = false) (ht : tyOk P t true n = true) (hx : ev st x = some (.agg xs)) (V : ev st y = some (.agg ys)) (U : xs.length = n) (kx : xs.map kAV = L) (ky : ys.map kAV = L) (he : eqL xs ys = some b) :
 Pur P C (.binOp .eql t x y yt) ty st (.bool b) := zqG h Z hm (U ▸ ht) hx V kx ky he
def zoS {t : TypeId} {x y : Operand} {yt : TypeId} {xs ys : List AV} {b : Bool} {L : List Nat} {d n : Nat} (h : (eqOk P d t && decide (d <= 10000)) = true) (Z : flat P d t = L) (hm : P.eqGuardType P.depth t = false) (ht : tyOk P t true n = true) (hx : ev st x = some (.agg xs)) (V : ev st y = some (.agg ys)) (U : xs.length = n) (kx : xs.map kAV = L) (ky : ys.map kAV = L) (he : eqL xs ys = some b) :
 Pur P C (.binOp .neq t x y yt) ty st (.bool (!b)) := zqH h Z hm (U ▸ ht) hx V kx ky he
end
def ze {x y : AV} {xs ys : List AV} {p q : Bool} (h : eqAV x y = some p) (Z : eqL xs ys = some q) : eqL (x :: xs) (y :: ys) = some (p && q) := by simp only [eqL, h, Z]
def zn6 (a b : Tm) : eqL (tmE a) (tmE b) = some (decide (a = b)) := by
 cases a; cases b;refine (ze rfl (ze rfl rfl)).trans ?_;simp
def zn7 (a b : Sg) : eqL (sgE a) (sgE b) = some (decide (a = b)) := by
 obtain ⟨a1, a2, a3, a4, a5, a6, a7, a8, ⟨a9, a10, a11, a12⟩, a13, a14, a15, a16, a17⟩ := a;obtain ⟨b1, b2, b3, b4, b5, b6, b7, b8, ⟨b9, b10, b11, b12⟩, b13, b14, b15, b16, b17⟩ := b;refine (ze rfl (ze rfl (ze rfl (ze rfl (ze rfl (ze rfl (ze rfl (ze rfl (ze rfl (ze rfl (ze rfl (ze rfl (ze rfl (ze rfl (ze rfl (ze rfl (ze rfl rfl))))))))))))))))).trans ?_;simp [x5, x9]
end Go.Rse
namespace Go.Rse
open Go Go.RowKit
class EncK {α : Type} (enc : α -> List AV) (s : outParam Nat) : Prop where
 h : ∀ z, (enc z).length = s
instance : EncK intE 1 := ⟨fun _ => rfl⟩
instance : EncK tmE 2 := ⟨fun _ => rfl⟩
instance : EncK sgE 17 := ⟨fun _ => rfl⟩
class TyK (P : Program) (t : Nat) (ag : outParam Bool) (n : outParam Nat) : Prop where
 h : tyOk P t ag n = true
class SlK (P : Program) (t : Nat) (E : outParam Nat) : Prop where
 h : slOk P t E = true
class FoK (P : Program) (s f : Nat) (off : outParam Nat) : Prop where
 h : yT P s f off = true
class TiK (P : Program) (E : Nat) (z : outParam Value) (s bytes : outParam Nat) : Prop where
 h : zU P E z s bytes
class ArK (P : Program) (t : Nat) (n E : outParam Nat) : Prop where
 h : zdD P t n E = true
class PlK (P : Program) (t : Nat) (pl : outParam (List (Nat × Nat))) : Prop where
 h : zT P t = some pl /\ zt P t = true
class ZcK (P : Program) (t : Nat) (cs : outParam (List AV)) : Prop where
 h : zd P t cs
class ZeK (P : Program) (t : Nat) (z : outParam Value) : Prop where
 h : (P.info? t).bind (·.zero) = some z
class EqK (P : Program) (t : Nat) (L : outParam (List Nat)) : Prop where
 h : (eqOk P 5 t && decide (5 <= 10000)) = true /\ flat P 5 t = L /\ P.eqGuardType P.depth t = false
section
variable {P : Program} {C : Ctx} {st : St} {ty : TypeId} {Q : Exit -> St -> Prop}
def zgL {t : TypeId} {x y : Operand} {yt : TypeId} {xs ys : List AV} {b : Bool} {L : List Nat} {n : Nat} (he : eqL xs ys = some b) (h : EqK P t L) (ht : tyOk P t true n = true) (hx : ev st x = some (.agg xs)) (Z : ev st y = some (.agg ys)) (V : xs.length = n) (kx : xs.map kAV = L) (ky : ys.map kAV = L) :
 Pur P C (.binOp .eql t x y yt) ty st (.bool b) := zoR h.h.1 h.h.2.1 h.h.2.2 ht hx Z V kx ky he
def zeK {t : TypeId} {x y : Operand} {yt : TypeId} {xs ys : List AV} {b : Bool} {L : List Nat} {n : Nat} (he : eqL xs ys = some b) (h : EqK P t L) (ht : tyOk P t true n = true) (hx : ev st x = some (.agg xs)) (Z : ev st y = some (.agg ys)) (V : xs.length = n) (kx : xs.map kAV = L) (ky : ys.map kAV = L) :
 Pur P C (.binOp .neq t x y yt) ty st (.bool (!b)) := zoS h.h.1 h.h.2.1 h.h.2.2 ht hx Z V kx ky he
def zh0 {I : Im} {ρ : Nat -> Value} {b : Bool} {x : AV} {v : Value} (h : RV I ρ (.opt b x) v) : (b = true -> RV I ρ x v) /\ (b = false -> v = .tuple #[]) := by
 cases h; simp_all
def zwi {c x : Operand} {b y : Bool} (Z : ev st c = some (.bool b)) (hx : ev st x = some (.opt (b == true) (.bool y))) : Pur P C (.pick c x (.const (.bool false))) ty st (.bool (b && y)) := fun g a w dst pos af gd hr => by
 have ec := zo (yr hr Z);cases b with
 | true =>
  have ex := zo ((zh0 (yr hr hx)).1 rfl);exact ⟨a.eval x, by simp [execOp, ec, asBool], by rw [ex]; exact .bool _⟩
 | false =>
  have e0 : a.eval (.const (.bool false)) = .bool false := rfl;exact ⟨.bool false, by simp [execOp, ec, asBool, e0], .bool _⟩
def zyF {c x : Operand} {b y : Bool} (Z : ev st c = some (.bool b)) (hx : ev st x = some (.opt (b == false) (.bool y))) : Pur P C (.pick c (.const (.bool true)) x) ty st (.bool (b || y)) := fun g a w dst pos af gd hr => by
 have ec := zo (yr hr Z);cases b with
 | false =>
  have ex := zo ((zh0 (yr hr hx)).1 rfl);exact ⟨a.eval x, by simp [execOp, ec, asBool], by rw [ex]; exact .bool _⟩
 | true =>
  have e0 : a.eval (.const (.bool true)) = .bool true := rfl;exact ⟨.bool true, by simp [execOp, ec, asBool, e0], .bool _⟩
def zmT {α : Type} {enc : α -> List AV} {l : List α} {x y : Operand} {t E : TypeId} {ag : Bool} {s : Nat} {kk : IntKind} {i : Int} (hx : ev st x = some (.sl enc l)) (Z : ev st y = some (.int kk i))
 (h : slOk P t E = true) (hs : tyOk P E ag s = true) [he : EncK enc s] [Inhabited α] (h0 : 0 <= i) (V : i < l.length) :
 Pur P C (.indexAddr t x y) ty st (.ept enc (l.getD i.toNat default) 0) := zaf hx Z h hs he.h h0 (by
 simp_all)
def zhH {α : Type} {enc : α -> List AV} {u : α} {t : TypeId} {x : Operand} {n j : Nat} {ys : List AV} (hx : ev st x = some (.ept enc u j)) (H : ((enc u).drop j).take n = ys) (hl : ys.length = n) (N : AV.nm.nmL ys = true)
 (ht : tyOk P t true n = true) : Pur P C (.load t x) ty st (.agg ys) := fun g a w dst pos af gd hr => by
 obtain ⟨b, o, vs, e, J, I⟩ := zhS (yr hr hx);have Z : ((List.range n).map fun i => vs (j + i)).length = n := by simp
 have V : ∀ i c, ys[i]? = some c -> i < n /\ (enc u)[j + i]? = some c := fun i c U => by
  grind
 refine ⟨.agg ((List.range n).map fun i => vs (j + i)).toArray, ?_, .agg _ _ (by rw [Z, hl]) (fun i c v U hv => ?_)⟩
 ·have := zG (P := P) (t := t) ht (b := b) (o := o + j) (w := w) (vs := (List.range n).map fun i => vs (j + i)) Z (fun i v hv => by
   rw [jK] at hv;by_cases hi : i < n
   ·simp [uY hi] at hv;subst hv;have U : i < ys.length := by omega
    have T := (V i _ (j8 U)).2;have := (hr.sat.im _ _ _ (J (j + i) (j1.1 T).1)).1;rw [vE]; exact this
   ·simp [wL (l := List.range n) (i := i) (by simp; omega)] at hv)
  simp_all [execOp, Instr.loadAt, Instr.sureAddr]
 ·obtain ⟨hi, T⟩ := V i c U;rw [jK, uY hi] at hv;simp at hv; subst hv;exact (I (j + i) c T).forget (zr N U)
def yf {x : Operand} {k s i j : Nat} (h : ev st x = some (.ptr k s i j)) : Pur P C (.nilCheck x) ty st (.ptr k s i j) := fun g a w dst pos af gd hr => by
 have hv := yr hr h;obtain ⟨b, _, e⟩ := zaa hv;simp_all [execOp]
def zja {α : Type} {enc : α -> List AV} {y : α} {x : Operand} {j : Nat} (h : ev st x = some (.ept enc y j)) : Pur P C (.nilCheck x) ty st (.ept enc y j) := fun g a w dst pos af gd hr => by
 have hv := yr hr h
 have ⟨b, o, e⟩ : ∃ b o, a.eval x = .pointer (some ⟨b, o, none⟩) := by
  generalize a.eval x = v at hv;cases hv with | ept _ _ _ b o vs hI hv => exact ⟨b, _, rfl⟩
 simp_all [execOp]
def zhp {t n E s : Nat} {ag : Bool} {x y : Operand} {k z i j : Nat} {kk : IntKind} {q : Int} (hx : ev st x = some (.ptr k z i j)) (Z : ev st y = some (.int kk q)) (ht : zdD P t n E = true) (hE : tyOk P E ag s = true) (h0 : 0 <= q) (V : q < n) :
 Pur P C (.indexAddr t x y) ty st (.ptr k z i (j + q.toNat * s)) := fun g a w dst pos af gd hr => by
 obtain ⟨b, U, e⟩ := zaa (yr hr hx);have ey := y8 (yr hr Z);refine ⟨.pointer (some ⟨b, i * z + j + q.toNat * s, none⟩), ?_, ?_⟩
 ·simp [execOp, Instr.indexAt, asIntOf, Instr.sureAddr, e, ey, run_underlying (zdc ht), h0, V, yY hE, zS]
 ·have := RV.ptr (I := g.I) (ρ := g.ρ) k z i (j + q.toNat * s) b U
  grind
def yG {op : Op} {x : AV} (h : Pur P C op ty st x := by
 first
  | exact zkZ rfl
  | exact zb9 rfl
  | exact zoN rfl rfl
  | exact zae rfl rfl rfl TyK.h
  | exact zbg rfl rfl rfl TyK.h
  | exact ziL rfl rfl rfl rfl TyK.h
  | exact ziM rfl rfl rfl TyK.h
  | exact zhH rfl rfl rfl rfl TyK.h
  | exact zhF rfl rfl rfl rfl TyK.h
  | exact zbh rfl rfl (by assumption) rfl rfl TyK.h
  | exact zd1 rfl FoK.h
  | exact zhE rfl FoK.h
  | exact zaf rfl rfl SlK.h TyK.h (fun _ => rfl) (by omega) (by assumption)
  | exact zeA rfl rfl rfl SlK.h TyK.h (by omega) (by omega)
  | exact zmT rfl rfl SlK.h TyK.h (by omega) (by omega)
  | exact zgF rfl SlK.h
  | exact ze1 rfl rfl SlK.h
  | exact zdU rfl SlK.h
  | exact zqy rfl rfl
  | exact zyr rfl rfl
  | exact zys rfl rfl
  | exact zyt rfl rfl
  | exact zyu rfl rfl
  | exact zyv rfl rfl
  | exact zyp rfl rfl (uH _ (by omega))
  | exact znX rfl rfl (uH _ (by omega))
  | exact zyq rfl rfl (uH _ (by omega))
  | exact zv9 rfl rfl (by omega) (by omega) (by omega)
  | exact zwa rfl rfl (by omega) (by omega)
  | exact P_quo rfl rfl (by omega) (uH _ (by omega))
  | exact zut rfl rfl (by omega)
  | exact zwi rfl rfl
  | exact zyF rfl rfl
  | exact P_and rfl rfl
  | exact P_or rfl rfl
  | exact zl0 rfl (by first | assumption | rfl | omega | (simp; done) | (simp; omega) | (simp_all; done) | fail) rfl
  | exact zk4 rfl (by first | assumption | rfl | omega | (simp; done) | (simp; omega) | (simp_all; done) | fail) rfl
  | exact zyx rfl
  | exact zyw rfl (uH _ (by omega))
  | exact zsC PlK.h.1 PlK.h.2 ZcK.h rfl rfl rfl
  | exact zmL ArK.h TyK.h ZcK.h rfl rfl rfl
  | exact zk2 ArK.h TyK.h rfl rfl (by omega) (by omega) (by first | rfl | assumption)
  | exact zz ArK.h TyK.h rfl rfl (by omega) (by omega) (by first | rfl | assumption)
  | exact zfU rfl
  | exact P_nilCheck_fn rfl
  | exact P_convert rfl UnK.h UsK.h (uH _ (by omega))
  | exact zgL (zn7 _ _) inferInstance TyK.h rfl rfl rfl rfl rfl
  | exact zeK (zn7 _ _) inferInstance TyK.h rfl rfl rfl rfl rfl
  | exact zgL (zn6 _ _) inferInstance TyK.h rfl rfl rfl rfl rfl
  | exact zeK (zn6 _ _) inferInstance TyK.h rfl rfl rfl rfl rfl
  | exact zgL (eqL_mnE _ _) inferInstance TyK.h rfl rfl rfl rfl rfl
  | exact zeK (eqL_mnE _ _) inferInstance TyK.h rfl rfl rfl rfl rfl
  | exact zgL rfl inferInstance TyK.h rfl rfl rfl rfl rfl
  | exact zeK rfl inferInstance TyK.h rfl rfl rfl rfl rfl
  | exact zmM (by kernel_rfl) rfl rfl
  | exact zmN (by kernel_rfl) rfl rfl
  | exact yf rfl
  | exact zja rfl
  | exact zhp rfl rfl ArK.h TyK.h (by omega) (by omega)) : Pur P C op ty st x := h
section
variable {ops : Array Oper} {rest : List Oper} {dst : Option Tmp} {d : Nat} {op : Op} {pos : String} {af : Array Edge} {x : AV}
def ya (h : Ex P C ops rest ⟨(d, x) :: st.t, st.h⟩ Q) (hs : Pur P C op ty st x := by exact yG) (Z : d.blt C.n = true := by exact rfl) :
 Ex P C ops ({ dst := some d, op := op, type := ty, pos := pos, after := af, guard := none } :: rest) st Q := zY hs Z h
def yh (h : Q .normal ⟨(d, x) :: st.t, st.h⟩) (hs : Pur P C op ty st x := by exact yG) (Z : d.blt C.n = true := by exact rfl) : Ex P C ops ({ dst := some d, op := op, type := ty, pos := pos, after := af, guard := none } :: []) st Q := zY hs Z (Ex.nil h)
def yC {ops : Array Oper} {core : List (Nat × List Nat)} {fl l : List Fl} {b : St} {j : Nat} (h : zfY P C ops core fl b j l := by (repeat' (first | exact True.intro | refine ⟨.inl rfl, ?_⟩ | refine ⟨.inr ⟨_, rfl, rfl, rfl, rfl, Pur.stepA yG⟩, ?_⟩ | refine ⟨.inr ⟨_, rfl, rfl, rfl, rfl, Pur.stepA (yf rfl)⟩, ?_⟩ | refine ⟨.inr ⟨_, rfl, rfl, rfl, rfl, Pur.stepA (y6 rfl rfl)⟩, ?_⟩ | refine ⟨.inr ⟨_, rfl, rfl, rfl, rfl, Pur.stepA (P_fieldAddr rfl rfl rfl)⟩, ?_⟩))) : zfY P C ops core fl b j l := h
def yL {d1 : Nat} {op1 : Op} {ty1 : TypeId} {pos1 : String} {af1 : Array Edge} {x1 : AV} (h : Q .normal ⟨(d1, x1) :: (d, x) :: st.t, st.h⟩) (hs : Pur P C op ty st x := by exact yG) (U : d.blt C.n = true := by exact rfl) (Z : Pur P C op1 ty1 ⟨(d, x) :: st.t, st.h⟩ x1 := by exact yG) (V : d1.blt C.n = true := by exact rfl) : Ex P C ops [{ dst := some d, op := op, type := ty, pos := pos, after := af, guard := none }, { dst := some d1, op := op1, type := ty1, pos := pos1, after := af1, guard := none }] st Q := ya (yh h Z V) hs U
def yy {d1 : Nat} {op1 : Op} {ty1 : TypeId} {pos1 : String} {af1 : Array Edge} {x1 : AV} {d2 : Nat} {op2 : Op} {ty2 : TypeId} {pos2 : String} {af2 : Array Edge} {x2 : AV} (h : Q .normal ⟨(d2, x2) :: (d1, x1) :: (d, x) :: st.t, st.h⟩) (hs : Pur P C op ty st x := by exact yG) (N : d.blt C.n = true := by exact rfl) (Z : Pur P C op1 ty1 ⟨(d, x) :: st.t, st.h⟩ x1 := by exact yG) (V : d1.blt C.n = true := by exact rfl) (U : Pur P C op2 ty2 ⟨(d1, x1) :: (d, x) :: st.t, st.h⟩ x2 := by exact yG) (T : d2.blt C.n = true := by exact rfl) : Ex P C ops [{ dst := some d, op := op, type := ty, pos := pos, after := af, guard := none }, { dst := some d1, op := op1, type := ty1, pos := pos1, after := af1, guard := none }, { dst := some d2, op := op2, type := ty2, pos := pos2, after := af2, guard := none }] st Q := ya (ya (yh h U T) Z V) hs N
def zj3 (h : Q .ret st) : Ex P C ops [] st (zdC (fun st => X P C .ret st Q) Q) := Ex.nil (X.ret h)
def lgg {α : Type _} {l : List α} {i : Nat} (h : i < l.length) : l[i]? = some l[i] := j8 h
def yM {fop : Operand} {args : Array Operand} {ts : Array TypeId} {f : FuncId} {caps xs : List AV} {r : AV}
 (Z : Fn P f (xs ++ caps) r) (h : Ex P C ops rest ⟨(d, r) :: st.t, st.h⟩ Q) (hf : ev st fop = some (.fn f caps) := by exact rfl) (hx : evs st args.toList = some xs := by exact rfl) (V : AV.nm.nmL (xs ++ caps) = true := by exact rfl) (U : d.blt C.n = true := by exact rfl) :
 Ex P C ops ({ dst := some d, op := .call { callee := .value fop, args := args, argTypes := ts }, type := ty, pos := pos, after := af, guard := none } :: rest) st Q := Ex.call hf hx V Z U h
def zeL {T : TypeId} {o : Operand} {y : AV} (h : Ex P C ops rest (addSt st (some d) (.ptr d 0 0 0) (some (d, .box [y] T))) Q) (hx : ev st o = some y := by exact rfl) (hs : y.sc = true := by exact rfl) (hf : y.fr d = true := by exact rfl) (Z : dOk C.n (some d) = true := by exact rfl) (V : nbOk st (some (d, .box [y] T)) = true := by exact rfl) :
 Ex P C ops ({ dst := some d, op := .box T o, type := ty, pos := pos, after := af, guard := none } :: rest) st Q := Ex.stepA (zyy hx hs hf) Z V h
def zF {T : TypeId} {o : Operand} {cs : List AV} (h : Ex P C ops rest (addSt st (some d) (.ptr d 0 0 0) (some (d, .box cs T))) Q) (hx : ev st o = some (.agg cs) := by exact rfl) (hf : AV.fr.frL d cs = true := by exact rfl) (Z : dOk C.n (some d) = true := by exact rfl) (V : nbOk st (some (d, .box cs T)) = true := by exact rfl) :
 Ex P C ops ({ dst := some d, op := .box T o, type := ty, pos := pos, after := af, guard := none } :: rest) st Q := Ex.stepA (ze5 hx hf) Z V h
def zh {T : TypeId} {cs : List AV} [Z : ZcK P T cs] (h : Ex P C ops rest (addSt st (some d) (.ptr d 0 0 0) (some (d, .box cs T))) Q) (V : dOk C.n (some d) = true := by exact rfl) (U : nbOk st (some (d, .box cs T)) = true := by exact rfl) :
 Ex P C ops ({ dst := some d, op := .alloc T, type := ty, pos := pos, after := af, guard := none } :: rest) st Q := Ex.stepA (zu Z.h) V U h
def yz {α : Type} (enc : α -> List AV) (l : List α) {t E : TypeId} {ag : Bool} {s n : Nat} {parts : Array (Nat × Operand)} {ps : List (Nat × AV)} {z : Value} (h : Ex P C ops rest (addSt st (some d) (.own d) (some (d, .row enc l E s))) Q)
 (ht : slOk P t E = true := by exact SlK.h) (hE : tyOk P E ag s = true := by exact TyK.h) (T : (P.info? E).bind (·.zero) = some z := by exact ZeK.h)
 (Z : 0 < s := by decide) (N : zbH st parts.toList = some ps := by exact rfl) (J : zcq ps = true := by exact rfl) (hf : zft (fun i => some (i * s, s)) (List.replicate (n * s) .any) ps = some (l.flatMap enc) := by exact rfl) (V : l.length = n := by exact rfl) (I : n * s <= 16777216 := by decide) (hm : n <= 1000000 := by decide)
 (hs : ∀ x, (enc x).length = s := by intro _; rfl) (hnm : AV.nm.nmL (l.flatMap enc) = true := by exact rfl) (H : dOk C.n (some d) = true := by exact rfl) (U : nbOk st (some (d, .row enc l E s)) = true := by exact rfl) :
 Ex P C ops ({ dst := some d, op := .buildSlice t n parts, type := ty, pos := pos, after := af, guard := none } :: rest) st Q := Ex.stepA (zM ht hE T Z N J hf V I hm hs hnm) H U h
def Ex.mo {st' : St} (h : Ex P C ops rest st' Q) (hs : yq P C op ty dst st st' := by
 first
  | exact zal rfl rfl rfl rfl TyK.h (ltB rfl)
  | exact zdb rfl rfl rfl rfl TyK.h rfl (leB rfl)
  | exact zdV rfl rfl rfl rfl SlK.h TiK.h (by decide) (by decide) (fun _ => rfl) (fun _ => rfl) (by first | omega | (simp; done) | (simp; omega) | (simp_all; omega) | fail) rfl
  | exact zB rfl rfl rfl SlK.h TiK.h (by decide) (by decide) (fun _ => rfl) (fun _ => rfl) (by first | omega | (simp; done) | (simp; omega) | (simp_all; omega) | fail) rfl
  | exact zeI _ rfl rfl (fun _ => rfl) (by decide) (by first | omega | (simp; done) | (simp; omega) | (simp_all; omega) | fail) rfl rfl rfl rfl rfl TyK.h) :
  Ex P C ops ({ dst := dst, op := op, type := ty, pos := pos, after := af, guard := none } :: rest) st Q := zaO hs h
end
def yd {ts : List (Nat × AV)} {hs : List (Nat × Blk)} (Z : impT st ts := by
 repeat' (first | exact True.intro | (refine And.intro ⟨_, rfl, ?_⟩ ?_; (first | exact LeV.refl _ | exact LeV.any _ | exact LeB.refl _ | (refine LeV.eq ?_; simp; done) | (refine LeV.eq ?_; congr 1; omega) | (refine LeV.eq ?_; dsimp only; congr 1; omega) | (refine LeV.eq (j5 (AV.int _) ?_); omega) | exact LeV.nils _ | (refine LeV.eq ?_; congr 1; assumption))))) (V : impH st hs := by
 repeat' (first | exact True.intro | (refine And.intro ⟨_, rfl, ?_⟩ ?_; (first | exact LeB.refl _ | exact LeB.row (by assumption) | (refine LeB.eq ?_; congr 1; omega) | (refine LeB.eq ?_; congr 1; simp only [cond_true, cond_false]; omega))))) : Imp C st ⟨ts, hs⟩ := Imp.of Z V
def zdW {ι : Type} {c : Code} (I : ι -> List (Nat × AV)) (H : ι -> List (Nat × Blk)) (J : ι -> Prop) (μ : ι -> Nat) (i0 : ι) (h : ∀ i, J i -> X P C c ⟨I i, H i⟩ (zdC (fun st' => ∃ i', Imp C st' ⟨I i', H i'⟩ /\ J i' /\ μ i' < μ i) Q))
 (hJ : J i0 := by first | trivial | omega | (refine ⟨?_, ?_⟩ <;> omega)) (h0 : Imp C st ⟨I i0, H i0⟩ := by exact yd) : X P C (.loop c) st Q := X.loop (fun i => ⟨I i, H i⟩) J μ i0 h0 hJ h
class BP (b : Bool) (p n : outParam Prop) : Prop where
 t : b = true -> p
 f : b = false -> n
instance (priority := 10) bp0 {b : Bool} : BP b (b = true) (b = false) := ⟨id, id⟩
instance (priority := 20) bp1 {p : Prop} {i : Decidable p} : BP (@decide p i) p (¬ p) := ⟨fun h => by simpa using h, fun h => by simpa using h⟩
instance (priority := 30) bp2 {x y : Int} {i : Decidable (x < y)} : BP (@decide (x < y) i) (x < y) (y <= x) := ⟨fun h => by simpa using h, fun h => by simpa using h⟩
instance (priority := 30) bp3 {x y : Int} {i : Decidable (x <= y)} : BP (@decide (x <= y) i) (x <= y) (y < x) := ⟨fun h => by simpa using h, fun h => by simpa using h⟩
instance (priority := 30) bp4 {b : Bool} {p n : Prop} [h : BP b p n] : BP (!b) n p := ⟨fun e => h.f (by simpa using e), fun e => h.t (by simpa using e)⟩
instance (priority := 30) bp5 {a b : Bool} {p n q m : Prop} [h : BP a p n] [Z : BP b q m] : BP (a && b) (p /\ q) (n \/ m) := ⟨fun e => by simp at e; exact ⟨h.t e.1, Z.t e.2⟩, fun e => by
 cases a with
 | false => exact .inl (h.f rfl)
 | true => exact .inr (Z.f (by simpa using e))⟩
instance (priority := 30) bp6 {a b : Bool} {p n q m : Prop} [h : BP a p n] [Z : BP b q m] : BP (a || b) (p \/ q) (n /\ m) := ⟨fun e => by
 cases a with
 | true => exact .inl (h.t rfl)
 | false => exact .inr (Z.t (by simpa using e)), fun e => by simp at e; exact ⟨h.f e.1, Z.f e.2⟩⟩
instance (priority := 40) bp7 {b : Bool} {p n : Prop} [h : BP b p n] : BP (b == true) p n := ⟨fun e => h.t (by simpa using e), fun e => h.f (by simpa using e)⟩
instance (priority := 40) bp8 {b : Bool} {p n : Prop} [h : BP b p n] : BP (b == false) n p := ⟨fun e => h.f (by simpa using e), fun e => h.t (by simpa using e)⟩
def zwj {c : Operand} {x y : Code} {b : Bool} {p n : Prop} (hc : ev st c = some (.bool b)) [h : BP b p n] (ht : p -> X P C x st Q) (hf : n -> X P C y st Q) : X P C (.cond c x y) st Q := X.cond hc (fun e => ht (h.t e)) (fun e => hf (h.f e))
def Fn.go {f : FuncId} {fn : Func} {c : Code} {n : Nat} {az : List AV} {rv : List ResultVar} {r : AV} (hf : P.funcs[f]? = some fn) (U : fn.ntmps = n) (h : ∀ g w d, X P (C0 n d g w) c ⟨zbr 0 az, []⟩ (RetQ P (C0 n d g w) rv r)) (T : fn.body = some c := by exact rfl)
 (V : fn.results = rv.toArray := by exact rfl) (N : zag P f = true := by kernel_rfl) (hnm : r.nm = true := by exact rfl) (Z : az.length <= n := by simp) : Fn P f az r := Fn.intro N hf T U V hnm rfl Z h
end
def tb (m i : Nat) : Bool := ((m >>> i) % 2).beq 1
def bits (n m : Nat) : List Nat := (List.range n).filter (tb m ·)
theorem zha {n m i : Nat} (h : i < n) : memb i (bits n m) = tb m i := by
 grind [zi, bits]
structure FactM : Type 1 where
 i : Nat
 d : Option Nat
 x : AV
 nb : Option (Nat × Blk)
 m : Nat
 g : List (Nat × Bool)
def zaR : List FactM -> Nat -> Bool -> Bool
 | [], _, _ => false
 | ⟨i, _, x, _, _, _⟩ :: r, j, w => bif i.beq j then (match x with | .bool b => b == w | _ => false) else zaR r j w
def zb (fs : List FactM) : List (Nat × Bool) -> Bool
 | [] => true
 | [(j, w)] => zaR fs j w
 | (j, w) :: e :: r => zaR fs j w && zb fs (e :: r)
def zbj (fs : List FactM) (e : Nat × Bool) (r : List (Nat × Bool)) : zb fs (e :: r) = (zaR fs e.1 e.2 && zb fs r) := by
 cases r <;> simp [zb]
def eqCh : List (Nat × Bool) -> List (Nat × Bool) -> Bool
 | [], [] => true
 | (i, a) :: r, (j, b) :: q => i.beq j && (a == b) && eqCh r q
 | _, _ => false
theorem zk9 : ∀ {a b : List (Nat × Bool)}, eqCh a b = true -> a = b
 | [], [], _ => rfl
 | [], _ :: _, h => by simp [eqCh] at h
 | _ :: _, [], h => by simp [eqCh] at h
 | (i, a) :: r, (j, b) :: q, h => by
  simp only [eqCh, j7] at h;obtain ⟨⟨Z, V⟩, U⟩ := h;have Z : i = j := by simpa using Z
  have V : a = b := by simpa using V
  have T : r = q := zk9 U;simp_all
def sfx (s : List (Nat × Bool)) : List (Nat × Bool) -> Bool
 | [] => eqCh s []
 | e :: r => eqCh s (e :: r) || sfx s r
def relG (G : List (Nat × Bool)) : List (Nat × Bool) -> List (Nat × Bool)
 | [] => []
 | e :: r => bif sfx (e :: r) G then [] else e :: relG G r
def optV (c : Bool) (g : List (Nat × Bool)) (x : AV) : AV := match g with | [] => x | _ :: _ => .opt c x
def zn8 (fs : List FactM) (G g : List (Nat × Bool)) (x : AV) : AV := match relG G g with | [] => x | e :: q => .opt (zb fs (e :: q)) x
theorem zj4 {fs : List FactM} {s : List (Nat × Bool)} : ∀ {G : List (Nat × Bool)}, sfx s G = true -> zb fs G = true -> zb fs s = true
 | [], h, Z => by grind [zk9, sfx]
 | e :: r, h, Z => by
  simp only [sfx, w8] at h;rcases h with h | h
  ·rw [zk9 h]; exact Z
  ·rw [zbj, j7] at Z; exact zj4 h Z.2
def zj5 {fs : List FactM} {G : List (Nat × Bool)} (Z : zb fs G = true) : ∀ g, zb fs g = zb fs (relG G g)
 | [] => rfl
 | e :: r => by
  simp only [relG];cases hs : sfx (e :: r) G with
  | true => grind [zj4, zb]
  | false => simp only [cond_false]; rw [zbj, zbj, zj5 Z r]
def zn9 {fs : List FactM} {G g : List (Nat × Bool)} {x : AV} {I : Im} {ρ : Nat -> Value} {v : Value} (V : zb fs G = true) (h : RV I ρ (optV (zb fs g) g x) v) : RV I ρ (zn8 fs G g x) v := by
 have hr := zj5 V g;unfold zn8;cases Z : relG G g with
 | nil =>
  rw [Z] at hr;have hr : zb fs g = true := hr;cases g with
  | nil => exact h
  | cons e r => exact (zh0 h).1 hr
 | cons e q =>
  rw [Z] at hr;cases g with
  | nil => simp [relG] at Z
  | cons e' r =>
   have h : RV I ρ (.opt (zb fs (e' :: r)) x) v := h
   grind
def WF : List FactM -> Prop
 | [] => True
 | f :: r => (∀ f' ∈ r, f'.i < f.i) /\ (∀ e ∈ f.g, ∃ f' ∈ r, f'.i = e.1) /\ WF r
def zl8 {f : FactM} {r : List FactM} {j : Nat} {w : Bool} (h : f.i ≠ j) : zaR (f :: r) j w = zaR r j w := by
 obtain ⟨i, d, x, nb, m, g⟩ := f;show (bif i.beq j then _ else zaR r j w) = _;rw [beqF.2 h]; rfl
def zjb {f : FactM} {r : List FactM} : ∀ {g : List (Nat × Bool)}, (∀ e ∈ g, f.i ≠ e.1) -> zb (f :: r) g = zb r g
 | [], _ => rfl
 | e :: q, h => by rw [zbj, zbj, zl8 (h e (by simp)), zjb fun e he => h e (by simp [he])]
def toL (n : Nat) : List FactM -> List Fact
 | [] => []
 | f :: r => ⟨f.i, f.d, optV (zb r f.g) f.g f.x, f.nb, bits n f.m⟩ :: toL n r
def selR (m : Nat) (b : List (Nat × AV)) : List FactM -> List (Nat × AV)
 | [] => b
 | ⟨i, d, x, _, _, g⟩ :: r => bif tb m i then consT d (optV (zb r g) g x) (selR m b r) else selR m b r
def zoa (fs : List FactM) (d : Option Nat) (x : AV) (l : List (Nat × AV)) : List (Nat × Bool) -> List (Nat × AV)
 | [] => consT d x l
 | e :: q => consT d (.opt (zb fs (e :: q)) x) l
def zl9 (fs : List FactM) (G g : List (Nat × Bool)) (d : Option Nat) (x : AV) (l : List (Nat × AV)) : zoa fs d x l (relG G g) = consT d (zn8 fs G g x) l := by
 grind [zn8, zoa]
def selV (fs : List FactM) (G : List (Nat × Bool)) (m : Nat) (b : List (Nat × AV)) : List FactM -> List (Nat × AV)
 | [] => b
 | ⟨i, d, x, _, _, g⟩ :: r => bif tb m i then zoa fs d x (selV fs G m b r) (relG G g) else selV fs G m b r
def zj6 (m : Nat) (b : List (Nat × Blk)) : List FactM -> List (Nat × Blk)
 | [] => b
 | ⟨i, _, _, nb, _, _⟩ :: r => bif tb m i then zjX nb (zj6 m b r) else zj6 m b r
def allR (b : List (Nat × AV)) : List FactM -> List (Nat × AV)
 | [] => b
 | ⟨_, d, x, _, _, g⟩ :: r => consT d (optV (zb r g) g x) (allR b r)
def allV (fs : List FactM) (G : List (Nat × Bool)) (b : List (Nat × AV)) : List FactM -> List (Nat × AV)
 | [] => b
 | ⟨_, d, x, _, _, g⟩ :: r => zoa fs d x (allV fs G b r) (relG G g)
def zj7 (b : List (Nat × Blk)) : List FactM -> List (Nat × Blk)
 | [] => b
 | ⟨_, _, _, nb, _, _⟩ :: r => zjX nb (zj7 b r)
def stR (st : St) (hid : List Nat) (m : Nat) (fs : List FactM) : St := ⟨selR m (rmK hid st.t) fs, zj6 m st.h fs⟩
def stV (st : St) (hid : List Nat) (m : Nat) (fs : List FactM) (G : List (Nat × Bool)) : St := ⟨selV fs G m (rmK hid st.t) fs, zj6 m st.h fs⟩
def zgM (st : St) (hid : List Nat) (fs : List FactM) : St := ⟨allV fs [] (rmK hid st.t) fs, zj7 st.h fs⟩
def zob (n : Nat) : ∀ fs : List FactM, (toL n fs).map (·.i) = fs.map (·.i)
 | [] => rfl
 | f :: r => by simp [toL, zob n r]
def zqT {n m : Nat} {b : List (Nat × AV)} : ∀ {fs : List FactM}, (∀ f ∈ fs, f.i < n) -> selT (bits n m) b (toL n fs) = selR m b fs
 | [], _ => rfl
 | f :: r, h => by
  have ih := zqT (b := b) (m := m) (fs := r) fun f hf => h f (by simp [hf])
  simp_all [toL, selT, selR, zha]
def zqU {n m : Nat} {b : List (Nat × Blk)} : ∀ {fs : List FactM}, (∀ f ∈ fs, f.i < n) -> selH (bits n m) b (toL n fs) = zj6 m b fs
 | [], _ => rfl
 | f :: r, h => by
  have ih := zqU (b := b) (m := m) (fs := r) fun f hf => h f (by simp [hf])
  simp_all [toL, selH, zj6, zha]
def zqV {st : St} {hid : List Nat} {n m : Nat} {fs : List FactM} (h : ∀ f ∈ fs, f.i < n) : stOf st hid (bits n m) (toL n fs) = stR st hid m fs := by
 unfold stOf stR; rw [zqT h, zqU h]
def zma {n : Nat} {az : List Nat} {b : List (Nat × AV)} : ∀ {fs : List FactM}, (∀ f ∈ fs, memb f.i az = true) -> selT az b (toL n fs) = allR b fs
 | [], _ => rfl
 | f :: r, h => by
  have ih := zma (n := n) (b := b) (az := az) (fs := r) fun f hf => h f (by simp [hf])
  simp_all [toL, selT, allR]
def zmb {n : Nat} {az : List Nat} {b : List (Nat × Blk)} : ∀ {fs : List FactM}, (∀ f ∈ fs, memb f.i az = true) -> selH az b (toL n fs) = zj7 b fs
 | [], _ => rfl
 | f :: r, h => by
  have ih := zmb (n := n) (b := b) (az := az) (fs := r) fun f hf => h f (by simp [hf])
  simp_all [toL, selH, zj7]
inductive LeT (I : Im) (ρ : Nat -> Value) : List (Nat × AV) -> List (Nat × AV) -> Prop
 | refl (l : List (Nat × AV)) : LeT I ρ l l
 | cons {t : Nat} {x y : AV} {l l' : List (Nat × AV)} (hx : ∀ v, RV I ρ x v -> RV I ρ y v) (h : LeT I ρ l l') : LeT I ρ ((t, x) :: l) ((t, y) :: l')
theorem LeT.lk {I : Im} {ρ : Nat -> Value} {l l' : List (Nat × AV)} (h : LeT I ρ l l') : ∀ {t : Nat} {y : AV}, Rse.lk l' t = some y -> ∃ x, Rse.lk l t = some x /\ ∀ v, RV I ρ x v -> RV I ρ y v := by
 induction h with
 | refl l => exact fun {t y} e => ⟨y, e, fun v h => h⟩
 | @cons t0 x y l l' hx _ ih =>
  intro t z e;rw [yn] at e ⊢;cases Z : t0.beq t with
  | true => rw [Z] at e; simp at e; subst e; exact ⟨x, by simp, hx⟩
  | false => rw [Z] at e; simp at e; obtain ⟨x', V, U⟩ := ih e; exact ⟨x', by simpa using V, U⟩
theorem LeT.consT {I : Im} {ρ : Nat -> Value} {d : Option Nat} {x y : AV} {l l' : List (Nat × AV)} (hx : ∀ v, RV I ρ x v -> RV I ρ y v) (h : LeT I ρ l l') : LeT I ρ (Rse.consT d x l) (Rse.consT d y l') := by
 cases d with
 | none => exact h
 | some d => exact .cons hx h
def Suf (r fs : List FactM) : Prop := ∀ g : List (Nat × Bool), (∀ e ∈ g, ∃ f' ∈ r, f'.i = e.1) -> zb r g = zb fs g
def Suf.tl {f : FactM} {r fs : List FactM} (h : Suf (f :: r) fs) (Z : WF (f :: r)) : Suf r fs := fun g V => by
 rw [← h g fun e he => by grind];exact (zjb fun e he => by obtain ⟨f', U, T⟩ := V e he; have := Z.1 f' U; omega).symm
def zoc {I : Im} {ρ : Nat -> Value} {fs : List FactM} {G : List (Nat × Bool)} {m : Nat} {b : List (Nat × AV)} (V : zb fs G = true) : ∀ {r : List FactM}, WF r -> Suf r fs -> LeT I ρ (selR m b r) (selV fs G m b r)
 | [], _, _ => .refl _
 | f :: r, Z, hs => by
  have ih := zoc (I := I) (ρ := ρ) (m := m) (b := b) V Z.2.2 (hs.tl Z);have U : zb r f.g = zb fs f.g := (hs.tl Z) f.g Z.2.1;obtain ⟨i, d, x, nb, mm, g⟩ := f;simp only [selR, selV, zl9];cases tb m i with
  | true => exact .consT (fun v hv => zn9 V (by grind)) ih
  | false => exact ih
def zla {I : Im} {ρ : Nat -> Value} {fs : List FactM} {G : List (Nat × Bool)} {b : List (Nat × AV)} (V : zb fs G = true) : ∀ {r : List FactM}, WF r -> Suf r fs -> LeT I ρ (allR b r) (allV fs G b r)
 | [], _, _ => .refl _
 | f :: r, Z, hs => by
  have ih := zla (I := I) (ρ := ρ) (b := b) V Z.2.2 (hs.tl Z);have U : zb r f.g = zb fs f.g := (hs.tl Z) f.g Z.2.1;obtain ⟨i, d, x, nb, mm, g⟩ := f;simp only [allR, allV, zl9];exact .consT (fun v hv => zn9 V (by grind)) ih
def Rel.view {C : Ctx} {st st' : St} {g : Gh} {a : Act} {w : World} (h : Rel C st g a w) (Z : st'.h = st.h) (ht : LeT g.I g.ρ st.t st'.t) : Rel C st' g a w :=
 Rel.slots h Z fun t x hx => by obtain ⟨y, V, U⟩ := ht.lk hx; exact U _ (h.tmps t y V)
def Rel.selV {C : Ctx} {st : St} {hid : List Nat} {m : Nat} {fs : List FactM} {G : List (Nat × Bool)} {g : Gh} {a : Act} {w : World} (Z : WF fs) (V : zb fs G = true) (h : Rel C (stR st hid m fs) g a w) : Rel C (stV st hid m fs G) g a w :=
 h.view rfl (zoc V Z fun _ _ => rfl)
def zod : FactM -> FactM -> Bool
 | ⟨_, d, x, nb, m, _⟩, ⟨i', d', x', nb', _, _⟩ =>
  (match d, d' with | some d, some d' => !(d.beq d') | _, _ => true) &&
  (match nb with | some (k, _) => x'.fr k && nbFr nb' k | none => true) &&
  (match nb' with | some (k, _) => tb m i' || (x.fr k && nbFr nb k) | none => true)
def okFM (st : St) (hid : List Nat) : List FactM -> Bool
 | [] => true
 | ⟨i, d, x, nb, m, g⟩ :: r => (match d with | some d => memb d hid | none => true) && nbOk st nb && r.all (zod ⟨i, d, x, nb, m, g⟩) && okFM st hid r
theorem zsI (c : Bool) (g : List (Nat × Bool)) (x : AV) (k : Nat) : (optV c g x).fr k = x.fr k := by cases g <;> rfl
def zoe {n : Nat} : ∀ {fs : List FactM} {F : Fact}, F ∈ toL n fs -> ∃ f ∈ fs, ∃ c, F = ⟨f.i, f.d, optV c f.g f.x, f.nb, bits n f.m⟩
 | [], F, h => by simp [toL] at h
 | f :: r, F, h => by
  rcases jX.1 (show F ∈ _ :: toL n r from h) with e | Z
  ·grind
  ·obtain ⟨f', V, c, U⟩ := zoe Z
   grind
def zqW {st : St} {hid : List Nat} {n : Nat} : ∀ {fs : List FactM}, (∀ f ∈ fs, f.i < n) -> okFM st hid fs = true -> okF st hid (toL n fs) = true
 | [], _, _ => rfl
 | f :: r, h, V => by
  simp only [okFM, j7] at V;obtain ⟨⟨⟨T, N⟩, U⟩, J⟩ := V;simp only [toL, okF, j7];refine ⟨⟨⟨T, N⟩, ?_⟩, zqW (fun f hf => h f (by simp [hf])) J⟩;rw [jB] at U ⊢;intro F I;obtain ⟨f0, Z, c, rfl⟩ := zoe I;have := U f0 Z;have h0 := h f0 (by simp [Z]);obtain ⟨i, d, x, nb, m, g⟩ := f;obtain ⟨i', d', x', nb', m', g'⟩ := f0
  grind [zod, zeD, zsI, zha]
def zcr : List FactM -> Nat -> List (Nat × Bool)
 | [], _ => []
 | ⟨i, _, _, _, _, g⟩ :: r, j => bif i.beq j then g else zcr r j
def hasI : List FactM -> Nat -> Bool
 | [], _ => false
 | ⟨i, _, _, _, _, _⟩ :: r, j => i.beq j || hasI r j
def zof : ∀ {fs : List FactM} {j : Nat}, hasI fs j = true -> ∃ f ∈ fs, f.i = j
 | [], j, h => by simp [hasI] at h
 | ⟨i, d, x, nb, m, g⟩ :: r, j, h => by
  simp only [hasI, w8, Nat.beq_eq] at h;rcases h with h | h
  ·simp_all
  ·obtain ⟨f, Z, V⟩ := zof h
   grind
def zcY (fs : List FactM) : List (Nat × Bool) -> Bool
 | [] => true
 | (j, _) :: r => hasI fs j && zcY fs r
def zaW {fs : List FactM} : ∀ {g : List (Nat × Bool)}, zcY fs g = true -> ∀ e ∈ g, ∃ f' ∈ fs, f'.i = e.1
 | [], _, e, he => by simp at he
 | (j, w) :: r, h, e, he => by
  simp only [zcY, j7] at h;rcases jX.1 he with rfl | he
  ·exact zof h.1
  ·exact zaW h.2 e he
def zmU (ops : Array Oper) (ms : List Nat) : Bool := (List.range ops.size).all fun i => zeC ops i (bits ops.size (ms.getD i 0))
def zhq {C : Ctx} {st : St} {g : Gh} {a : Act} {w : World} {ops : Array Oper} {i t : Nat} {b c0 : Bool} {g0 : List (Nat × Bool)} (hr : Rel C st g a w) (hi : (ops[i]?).bind (·.dst) = some t) (Z : lk st.t t = some (optV c0 g0 (.bool b))) (h0 : g0 = [] -> c0 = true) : yielded ops a.tmps i = if c0 = true then some b else none := by
 have hv := hr.tmps t _ Z
 have hv : RV g.I g.ρ (.opt c0 (.bool b)) (a.tmps.getD t undef) := by
  cases g0 with
  | nil => rw [h0 rfl]; exact .opt _ _ _ (fun _ => hv) (fun h => by cases h)
  | cons e r => exact hv
 obtain ⟨V, U⟩ := zh0 hv;cases c0 with
 | true =>
  have e := zo (V rfl)
  have : a.tmps[t]? = some (.bool b) := by
   simp only [jF] at e
   grind [undef]
  simp [yielded, hi, this]
 | false =>
  have e := U rfl
  have : a.tmps[t]? = some (.tuple #[]) \/ a.tmps[t]? = none := by
   simp only [jF] at e;cases h : a.tmps[t]? with
   | none => exact .inr rfl
   | some u => rw [h] at e; exact .inl (by rw [show u = .tuple #[] from e])
  all_goals grind [yielded]
inductive ChM (P : Program) (C : Ctx) (ops : Array Oper) (ms : List Nat) (st : St) (hid : List Nat) (Q : Exit -> St -> Prop) : Nat -> List FactM -> Prop
 | step {i m : Nat} {fs : List FactM} {o : Oper} {x : AV} {nb : Option (Nat × Blk)} (hm : ms[i]? = some m) (ho : ops[i]? = some o) (hg : o.guard = none) (hs : yu P C o.op o.type (stV st hid m fs []) x nb) (hd : dOk C.n o.dst = true) (h : ChM P C ops ms st hid Q (i + 1) (⟨i, o.dst, x, nb, m, []⟩ :: fs)) : ChM P C ops ms st hid Q i fs
 | guard {i m : Nat} {fs : List FactM} {o : Oper} {x : AV} {gi t : Nat} {want b c0 : Bool} {g0 : List (Nat × Bool)} (hm : ms[i]? = some m) (ho : ops[i]? = some o) (hg : o.guard = some (gi, want)) (hi : (ops[gi]?).bind (·.dst) = some t) (hb : lk (stR st hid m fs).t t = some (optV c0 g0 (.bool b)))
  (hc0 : zb fs g0 = c0) (hcd : zaR fs gi want = (b == want)) (hg0 : ∀ e ∈ (gi, want) :: g0, ∃ f' ∈ fs, f'.i = e.1) (hs : zb fs ((gi, want) :: g0) = true -> yu P C o.op o.type (stV st hid m fs ((gi, want) :: g0)) x none) (hd : dOk C.n o.dst = true)
  (h : ChM P C ops ms st hid Q (i + 1) (⟨i, o.dst, x, none, m, (gi, want) :: g0⟩ :: fs)) : ChM P C ops ms st hid Q i fs
 | late {i m : Nat} {fs : List FactM} {o1 oe o2 : Oper} (e : Nat) (hm : ms[i]? = some m) (hl : ops.toList.drop i = [o1, o2]) (hoe : ops[e]? = some oe) (hg : (fs.all fun f => f.g.isEmpty) = true) (hok : okFM st hid fs = true) (hf : zdd ops i e (bits ops.size m) = true)
  (hA : Ex P C ops [o1, o2] (zgM st hid fs) Q) (hB : Ex P C ops [o1, oe, o2] (zgM st hid (fs.filter fun f => !(f.i == e))) Q) : ChM P C ops ms st hid Q i fs
 | tail {i : Nat} {fs : List FactM} (hok : okFM st hid fs = true) (hf : zeE ops i (bits ops.size (ms.getD i 0)) = true) (h : Ex P C ops (ops.toList.drop i) (zgM st hid fs) Q) : ChM P C ops ms st hid Q i fs
def zuy {ops : Array Oper} {i : Nat} {o : Oper} (h : ops[i]? = some o) : i < ops.size := by
 grind
def zj8 {ops : Array Oper} {ms : List Nat} {i m : Nat} (h : zmU ops ms = true) (hi : i < ops.size) (hm : ms[i]? = some m) : zeC ops i (bits ops.size m) = true := by
 have := jB.1 h i (uR.2 hi);simp_all
def zhb {fs : List FactM} : ∀ f ∈ fs, memb f.i (fs.map (·.i)) = true := fun f hf => zi.2 (jV.2 ⟨f, hf, rfl⟩)
def Ex.view {P : Program} {C : Ctx} {ops : Array Oper} {l : List Oper} {st st' : St} {Q : Exit -> St -> Prop} (h : Ex P C ops l st' Q) (hv : ∀ g a w, Rel C st g a w -> Rel C st' g a w) : Ex P C ops l st Q := fun g a w hr => h g a w (hv g a w hr)
def zh1 {f : FactM} {fs : List FactM} {i : Nat} (hi : f.i = i) (Z : ∀ f' ∈ fs, f'.i < i) (V : ∀ e ∈ f.g, ∃ f' ∈ fs, f'.i = e.1) (U : WF fs) : WF (f :: fs) := ⟨fun f' T => by simp_all, V, U⟩
def zh2 {f : FactM} {fs : List FactM} {i : Nat} (hi : f.i = i) (Z : ∀ f' ∈ fs, f'.i < i) : ∀ f' ∈ f :: fs, f'.i < i + 1 := fun f' V => by
 grind
def zfZ {C : Ctx} {st : St} {hid az : List Nat} {n : Nat} {fs : List FactM} {g : Gh} {a : Act} {w : World} (Z : ∀ f ∈ fs, memb f.i az = true) (V : WF fs) (h : Rel C (stOf st hid az (toL n fs)) g a w) : Rel C (zgM st hid fs) g a w := by
 unfold stOf at h;rw [zma Z, zmb Z] at h;exact h.view rfl (zla rfl V fun _ _ => rfl)
def zog {n e : Nat} : ∀ {fs : List FactM}, (fs.all fun f => f.g.isEmpty) = true -> noF e (toL n fs) = toL n (fs.filter fun f => !(f.i == e))
 | [], _ => rfl
 | f :: r, h => by
  simp only [vO, j7, List.isEmpty_iff] at h;have ih := zog (n := n) (e := e) (fs := r) h.2;unfold noF at ih ⊢;simp only [toL, u4]
  grind [toL, optV]
def zj9 {p : FactM -> Bool} : ∀ {fs : List FactM}, (fs.all fun f => f.g.isEmpty) = true -> WF fs -> WF (fs.filter p)
 | [], _, _ => trivial
 | f :: r, h, Z => by
  simp only [vO, j7, List.isEmpty_iff] at h;have ih := zj9 (p := p) (fs := r) h.2 Z.2.2
  grind [WF]
def ChM.chain {P : Program} {C : Ctx} {ops : Array Oper} {ms : List Nat} {st : St} {hid : List Nat} {Q : Exit -> St -> Prop} (ha : zmU ops ms = true) {i : Nat} {fs : List FactM} (h : ChM P C ops ms st hid Q i fs) : (∀ f ∈ fs, f.i < i) -> i <= ops.size -> WF fs -> Chain P C ops st hid Q i (toL ops.size fs) := by
 induction h with
 | @step i m fs o x nb hm ho I hs E _ ih =>
  intro Z U V;have H : ∀ f ∈ fs, f.i < ops.size := fun f hf => by grind
  refine .gen rfl ⟨zj8 ha (zuy ho) hm, E, fun g a w hr K G => ?_⟩ (ih (zh2 rfl Z) (by grind) (zh1 rfl Z (fun e he => by simp at he) V));have hr : Rel C (stR st hid m fs) g a w := by rw [← zqV H]; exact hr
  simp only [wpOpIn, ho];rw [j4 (by simp [Region.wanted, I])];exact zau (hs g a w o.dst o.pos o.after o.guard (hr.selV V rfl) K G)
 | @guard i m fs o x gi t want b c0 g0 hm ho I hi hb T xT x4 hs E _ ih =>
  intro Z U V;have H : ∀ f ∈ fs, f.i < ops.size := fun f hf => by grind
  refine .gen rfl ⟨zj8 ha (zuy ho) hm, E, fun g a w hr K G => ?_⟩ (ih (zh2 rfl Z) (by grind) (zh1 rfl Z x4 V));have hr : Rel C (stR st hid m fs) g a w := by rw [← zqV H]; exact hr
  have hy := zhq hr hi hb (fun e => by rw [e] at T; exact T.symm);have N : zb fs ((gi, want) :: g0) = ((b == want) && c0) := by rw [zbj, xT, T]
  simp only [wpOpIn, ho];cases J : zb fs ((gi, want) :: g0) with
  | true =>
   rw [N, j7] at J;rw [j4 (by simp only [Region.wanted, I, hy, J.2, if_true]; simpa using J.1)];refine zau (hs (by rw [N, J.1, J.2]; rfl) g a w o.dst o.pos o.after o.guard (hr.selV V (by rw [N, J.1, J.2]; rfl)) _ fun v w' g' h2 h3 h4 h5 => G v w' g' h2 (.opt _ _ _ (fun _ => h3) fun e => ?_) h4 h5);simp_all
  | false =>
   rw [j3 (fun x3 => by
    simp_all [Region.wanted])]
   exact ⟨fun f _ => C.F_fn f, G undef w g (Add.refl _ g w) (.opt _ _ _ (fun e => by grind) fun _ => rfl) ⟨hr.sat.im, hr.sat.ob⟩ (fun _ _ h => by cases h)⟩
 | @late i m fs o1 oe o2 e hm hl x2 I hok hf hA hB =>
  intro Z U V;have H : ∀ f ∈ fs, f.i < ops.size := fun f hf => by grind
  refine .late e (bits ops.size m) hl x2 (zqW H hok) hf ?_ ?_
  ·rw [zob]; exact hA.view fun g a w hr => zfZ zhb V hr
  ·rw [zog I, zob]; exact hB.view fun g a w hr => zfZ zhb (zj9 I V) hr
 | tail hok hf hx =>
  intro Z U V;refine .tail _ (zqW (fun f hf => by grind) hok) hf ?_;rw [zob]; exact hx.view fun g a w hr => zfZ zhb V hr
section
variable {P : Program} {C : Ctx} {st : St} {ty : TypeId} {Q : Exit -> St -> Prop} {ops : Array Oper} {ms : List Nat} {hid : List Nat} {i m : Nat} {fs : List FactM} {o : Oper} {x : AV} {nb : Option (Nat × Blk)}
def yW {id : Nat} {l : List Oper} (hid ms : List Nat) (hm : P.follows .mixedOrders = true) (h : ChM P C l.toArray ms st hid Q 0 []) (he : ze7 l.toArray = true := by kernel_rfl) (Z : zmU l.toArray ms = true := by kernel_rfl) : X P C (.region id l.toArray true) st Q :=
 zwb hid hm he (h.chain Z (fun f hf => by simp at hf) (wF _) trivial)
def yb {d : Nat} (h : ChM P C ops ms st hid Q (i + 1) (⟨i, some d, x, none, m, []⟩ :: fs)) (hm : ms[i]? = some m := by exact rfl) (ho : ops[i]? = some o := by exact rfl) (V : o.guard = none := by exact rfl) (Z : o.dst = some d := by exact rfl) (hs : Pur P C o.op o.type (stV st hid m fs []) x := by exact yG) (U : d.blt C.n = true := by exact rfl) : ChM P C ops ms st hid Q i fs :=
 .step hm ho V hs.stepA (by rw [Z]; exact U) (by rw [Z]; exact h)
def yH {d : Nat} {f : FuncId} {caps xs : List AV} {r : AV} {fop : Operand} {args : Array Operand} {ts : Array TypeId} (U : Fn P f (xs ++ caps) r) (h : ChM P C ops ms st hid Q (i + 1) (⟨i, some d, r, none, m, []⟩ :: fs)) (hm : ms[i]? = some m := by exact rfl) (ho : ops[i]? = some o := by exact rfl) (T : o.guard = none := by exact rfl) (Z : o.dst = some d := by exact rfl)
 (V : o.op = .call { callee := .value fop, args := args, argTypes := ts } := by exact rfl) (hf : ev (stV st hid m fs []) fop = some (.fn f caps) := by exact rfl) (hx : evs (stV st hid m fs []) args.toList = some xs := by exact rfl) (N : AV.nm.nmL (xs ++ caps) = true := by exact rfl) (J : d.blt C.n = true := by exact rfl) : ChM P C ops ms st hid Q i fs :=
 .step hm ho T (by rw [V]; exact zao hf hx N (LeL.refl _) U) (by rw [Z]; exact J) (by rw [Z]; exact h)
def ChM.gi {d gi t : Nat} {want b c : Bool} {g0 : List (Nat × Bool)} {p n : Prop} (h : ChM P C ops ms st hid Q (i + 1) (⟨i, some d, x, none, m, (gi, want) :: g0⟩ :: fs)) (hm : ms[i]? = some m := by exact rfl) (ho : ops[i]? = some o := by exact rfl) (hg : o.guard = some (gi, want) := by exact rfl) (hod : o.dst = some d := by exact rfl) (hi : (ops[gi]?).bind (·.dst) = some t := by exact rfl)
 (hch : zcr fs gi = g0 := by first | exact (rfl : _ = []) | exact (rfl : _ = [_]) | exact (rfl : _ = [_, _]) | exact (rfl : _ = [_, _, _])) (hb : lk (stR st hid m fs).t t = some (optV (zb fs g0) g0 (.bool b)) := by exact rfl) (hcd : zaR fs gi want = (b == want) := by exact rfl) (hg0 : zcY fs ((gi, want) :: g0) = true := by exact rfl)
 (hcs : zb fs ((gi, want) :: g0) = c := by first | exact (rfl : _ = ((_ : Bool) == _)) | exact (rfl : _ = (((_ : Bool) == _) && ((_ : Bool) == _))) | exact (rfl : _ = (((_ : Bool) == _) && (((_ : Bool) == _) && ((_ : Bool) == _))))) (bp : BP c p n := by exact inferInstance) (hs : p -> Pur P C o.op o.type (stV st hid m fs ((gi, want) :: g0)) x := by intro hgd; exact yG) (hd : d.blt C.n = true := by exact rfl) : ChM P C ops ms st hid Q i fs :=
 .guard hm ho hg hi hb rfl hcd (zaW hg0) (fun e => (hs (bp.t (hcs.symm.trans e))).stepA) (by rw [hod]; exact hd) (by rw [hod]; exact h)
def ChM.gs {d gi t : Nat} {want b : Bool} {g0 : List (Nat × Bool)} (hs : yu P C o.op o.type (stV st hid m fs ((gi, want) :: g0)) x none) (h : ChM P C ops ms st hid Q (i + 1) (⟨i, some d, x, none, m, (gi, want) :: g0⟩ :: fs)) (hm : ms[i]? = some m := by exact rfl) (ho : ops[i]? = some o := by exact rfl) (T : o.guard = some (gi, want) := by exact rfl) (Z : o.dst = some d := by exact rfl) (hi : (ops[gi]?).bind (·.dst) = some t := by exact rfl)
 (N : zcr fs gi = g0 := by first | exact (rfl : _ = []) | exact (rfl : _ = [_]) | exact (rfl : _ = [_, _]) | exact (rfl : _ = [_, _, _])) (J : lk (stR st hid m fs).t t = some (optV (zb fs g0) g0 (.bool b)) := by exact rfl) (V : zaR fs gi want = (b == want) := by exact rfl) (U : zcY fs ((gi, want) :: g0) = true := by exact rfl)
 (I : d.blt C.n = true := by exact rfl) : ChM P C ops ms st hid Q i fs :=
 .guard hm ho T hi J rfl V (zaW U) (fun _ => hs) (by rw [Z]; exact I) (by rw [Z]; exact h)
def ChM.lt (e : Nat) {o1 oe o2 : Oper} (V : Ex P C ops [o1, o2] (zgM st hid fs) Q) (U : Ex P C ops [o1, oe, o2] (zgM st hid (fs.filter fun f => !(f.i == e))) Q) (hm : ms[i]? = some m := by exact rfl) (hl : ops.toList.drop i = [o1, o2] := by exact rfl) (Z : ops[e]? = some oe := by exact rfl) (T : (fs.all fun f => f.g.isEmpty) = true := by exact rfl)
 (hok : okFM st hid fs = true := by exact rfl) (hf : zdd ops i e (bits ops.size m) = true := by kernel_rfl) : ChM P C ops ms st hid Q i fs := .late e hm hl Z T hok hf V U
def yA (h : Ex P C ops (ops.toList.drop i) (zgM st hid fs) Q) (hok : okFM st hid fs = true := by exact rfl) (hf : zeE ops i (bits ops.size (ms.getD i 0)) = true := by kernel_rfl) : ChM P C ops ms st hid Q i fs := .tail hok hf h
def zac {d i t : Nat} {want b : Bool} {rest : List Oper} {op : Op} {pos : String} {af : Array Edge} (h : Ex P C ops rest ⟨(d, x) :: st.t, st.h⟩ Q) (hi : (ops[i]?).bind (·.dst) = some t := by exact rfl) (Z : lk st.t t = some (.bool b) := by exact rfl) (V : (b == want) = true := by first | assumption | rfl | (simp_all; done) | omega) (hs : Pur P C op ty st x := by exact yG) (U : d.blt C.n = true := by exact rfl) :
 Ex P C ops ({ dst := some d, op := op, type := ty, pos := pos, after := af, guard := some (i, want) } :: rest) st Q := zqE hi Z V hs.stepA U rfl h
def zbO {d i t : Nat} {want b : Bool} {rest : List Oper} {op : Op} {pos : String} {af : Array Edge} (h : Ex P C ops rest ⟨(d, .tup []) :: st.t, st.h⟩ Q) (hi : (ops[i]?).bind (·.dst) = some t := by exact rfl) (Z : lk st.t t = some (.bool b) := by exact rfl) (V : (b == want) = false := by first | assumption | rfl | (simp_all; done) | fail) (U : d.blt C.n = true := by exact rfl) :
 Ex P C ops ({ dst := some d, op := op, type := ty, pos := pos, after := af, guard := some (i, want) } :: rest) st Q := zyA hi Z V U h
end
def stF (st : St) (fs : List FactM) (G : List (Nat × Bool)) : St := ⟨allV fs G st.t fs, zj7 st.h fs⟩
def stFR (st : St) (fs : List FactM) : St := ⟨allR st.t fs, zj7 st.h fs⟩
def ExF (P : Program) (C : Ctx) (ops : Array Oper) (st : St) (Q : Exit -> St -> Prop) (i : Nat) (fs : List FactM) : Prop :=
 (∀ f ∈ fs, f.i < i) -> WF fs -> ∀ g a w, Rel C (stFR st fs) g a w -> wpListIn C.F 0 P ops (lift C Q) (ops.toList.drop i) a w
section
variable {P : Program} {C : Ctx} {st : St} {ty : TypeId} {Q : Exit -> St -> Prop} {ops : Array Oper} {i : Nat} {fs : List FactM} {o : Oper} {x : AV} {nb : Option (Nat × Blk)}
def Rel.stF {C : Ctx} {st : St} {fs : List FactM} {G : List (Nat × Bool)} {g : Gh} {a : Act} {w : World} (Z : WF fs) (V : zb fs G = true) (h : Rel C (stFR st fs) g a w) : Rel C (stF st fs G) g a w :=
 h.view rfl (zla V Z fun _ _ => rfl)
def zmc (st : St) (d : Option Nat) (x : AV) (nb : Option (Nat × Blk)) : addSt st d x nb = ⟨consT d x st.t, zjX nb st.h⟩ := by
 all_goals rfl
def ExF.at (i : Nat) {l : List Oper} (h : ExF P C ops st Q i []) (hl : ops.toList.drop i = l := by exact rfl) : Ex P C ops l st Q := fun g a w hr => hl ▸ h (fun f hf => by simp at hf) trivial g a w hr
def zoh {ops : Array Oper} {i : Nat} {o : Oper} (ho : ops[i]? = some o) : ops.toList.drop i = o :: ops.toList.drop (i + 1) := by
 grind [List.drop_eq_getElem_cons]
def ExF.step (ho : ops[i]? = some o) (T : o.guard = none) (hs : yu P C o.op o.type (stF st fs []) x nb) (N : dOk C.n o.dst = true) (J : nbOk (stFR st fs) nb = true) (h : ExF P C ops st Q (i + 1) (⟨i, o.dst, x, nb, 0, []⟩ :: fs)) : ExF P C ops st Q i fs := fun Z V g a w hr => by
 rw [zoh ho];refine wpListIn_plain T fun K I => zau <| hs g a w o.dst o.pos o.after o.guard (hr.stF V rfl) K fun v w' g' H G U E => I _ _ ?_
 refine h (zh2 rfl Z) (zh1 rfl Z (fun e he => by simp at he) V) g' _ w' ?_;have := hr.addSt H N J G U.1 U.2 E;rw [zmc] at this;exact this
def ExF.guard {gi t : Nat} {want b c0 : Bool} {g0 : List (Nat × Bool)} (ho : ops[i]? = some o) (hg : o.guard = some (gi, want)) (hi : (ops[gi]?).bind (·.dst) = some t) (hb : lk (stFR st fs).t t = some (optV c0 g0 (.bool b)))
 (Z : zb fs g0 = c0) (J : zaR fs gi want = (b == want)) (H : ∀ e ∈ (gi, want) :: g0, ∃ f' ∈ fs, f'.i = e.1) (hs : zb fs ((gi, want) :: g0) = true -> yu P C o.op o.type (stF st fs ((gi, want) :: g0)) x none) (hd : dOk C.n o.dst = true)
 (h : ExF P C ops st Q (i + 1) (⟨i, o.dst, x, none, 0, (gi, want) :: g0⟩ :: fs)) : ExF P C ops st Q i fs := fun T hw g a w hr => by
 rw [zoh ho];have hy := zhq hr hi hb (fun e => by rw [e] at Z; exact Z.symm);have V : zb fs ((gi, want) :: g0) = ((b == want) && c0) := by rw [zbj, J, Z]
 have next : ∀ g' a' w', Rel C (stFR st (⟨i, o.dst, x, none, 0, (gi, want) :: g0⟩ :: fs)) g' a' w' -> wpListIn C.F 0 P ops (lift C Q) (ops.toList.drop (i + 1)) a' w' := h (zh2 rfl T) (zh1 rfl T H hw)
 have put : ∀ g' v w', Add none g w g' w' -> RV g'.I g'.ρ (.opt (zb fs ((gi, want) :: g0)) x) v -> ImOB g' w' -> Rel C (stFR st (⟨i, o.dst, x, none, 0, (gi, want) :: g0⟩ :: fs)) g' (a.put o.dst v) w' := fun g' v w' G E N => by
  have := hr.addSt (nb := none) G hd rfl E N.1 N.2 (fun _ _ h => by cases h);rw [zmc] at this;exact this
 unfold wpListIn;cases U : zb fs ((gi, want) :: g0) with
 | true =>
  rw [V, j7] at U;rw [j4 (by simp only [Region.wanted, hg, hy, U.2, if_true]; simpa using U.1)];refine zau (hs (by rw [V, U.1, U.2]; rfl) g a w o.dst o.pos o.after o.guard (hr.stF hw (by rw [V, U.1, U.2]; rfl)) _ fun v w' g' G E N h5 => next _ _ _ (put g' v w' G (.opt _ _ _ (fun _ => E) fun e => ?_) N));simp_all
 | false =>
  rw [j3 (fun xT => by
   simp_all [Region.wanted])]
  exact ⟨fun f _ => C.F_fn f, next g _ w (put g undef w (Add.refl _ g w) (.opt _ _ _ (fun e => by grind) fun _ => rfl) ⟨hr.sat.im, hr.sat.ob⟩)⟩
def zdF (h : Ex P C ops (ops.toList.drop i) (stF st fs []) Q) : ExF P C ops st Q i fs := fun Z V g a w hr => h g a w (hr.stF V rfl)
def ym {d : Nat} (h : ExF P C ops st Q (i + 1) (⟨i, some d, x, none, 0, []⟩ :: fs)) (ho : ops[i]? = some o := by exact rfl) (V : o.guard = none := by exact rfl) (Z : o.dst = some d := by exact rfl) (hs : Pur P C o.op o.type (stF st fs []) x := by exact yG) (U : d.blt C.n = true := by exact rfl) : ExF P C ops st Q i fs :=
 .step ho V hs.stepA (by rw [Z]; exact U) rfl (by rw [Z]; exact h)
def ExF.gi {d gi t : Nat} {want b c : Bool} {g0 : List (Nat × Bool)} {p n : Prop} (h : ExF P C ops st Q (i + 1) (⟨i, some d, x, none, 0, (gi, want) :: g0⟩ :: fs)) (ho : ops[i]? = some o := by exact rfl) (hg : o.guard = some (gi, want) := by exact rfl) (hod : o.dst = some d := by exact rfl) (hi : (ops[gi]?).bind (·.dst) = some t := by exact rfl)
 (hch : zcr fs gi = g0 := by first | exact (rfl : _ = []) | exact (rfl : _ = [_]) | exact (rfl : _ = [_, _]) | exact (rfl : _ = [_, _, _])) (hb : lk (stFR st fs).t t = some (optV (zb fs g0) g0 (.bool b)) := by exact rfl) (hcd : zaR fs gi want = (b == want) := by exact rfl) (hg0 : zcY fs ((gi, want) :: g0) = true := by exact rfl)
 (hcs : zb fs ((gi, want) :: g0) = c := by first | exact (rfl : _ = ((_ : Bool) == _)) | exact (rfl : _ = (((_ : Bool) == _) && ((_ : Bool) == _))) | exact (rfl : _ = (((_ : Bool) == _) && (((_ : Bool) == _) && ((_ : Bool) == _))))) (bp : BP c p n := by exact inferInstance) (hs : p -> Pur P C o.op o.type (stF st fs ((gi, want) :: g0)) x := by intro hgd; exact yG) (hd : d.blt C.n = true := by exact rfl) : ExF P C ops st Q i fs :=
 .guard ho hg hi hb rfl hcd (zaW hg0) (fun e => (hs (bp.t (hcs.symm.trans e))).stepA) (by rw [hod]; exact hd) (by rw [hod]; exact h)
def ExF.cg {d gi t : Nat} {want b : Bool} {g0 : List (Nat × Bool)} {f : FuncId} {caps xs : List AV} {fop : Operand} {args : Array Operand} {ts : Array TypeId} (N : Fn P f (xs ++ caps) x) (h : ExF P C ops st Q (i + 1) (⟨i, some d, x, none, 0, (gi, want) :: g0⟩ :: fs)) (ho : ops[i]? = some o := by exact rfl) (J : o.guard = some (gi, want) := by exact rfl) (Z : o.dst = some d := by exact rfl) (hi : (ops[gi]?).bind (·.dst) = some t := by exact rfl)
 (I : zcr fs gi = g0 := by first | exact (rfl : _ = []) | exact (rfl : _ = [_]) | exact (rfl : _ = [_, _]) | exact (rfl : _ = [_, _, _])) (H : lk (stFR st fs).t t = some (optV (zb fs g0) g0 (.bool b)) := by exact rfl) (V : zaR fs gi want = (b == want) := by exact rfl) (U : zcY fs ((gi, want) :: g0) = true := by exact rfl)
 (T : o.op = .call { callee := .value fop, args := args, argTypes := ts } := by exact rfl) (hf : ev (stF st fs ((gi, want) :: g0)) fop = some (.fn f caps) := by exact rfl) (hx : evs (stF st fs ((gi, want) :: g0)) args.toList = some xs := by exact rfl) (G : AV.nm.nmL (xs ++ caps) = true := by exact rfl) (E : d.blt C.n = true := by exact rfl) : ExF P C ops st Q i fs :=
 .guard ho J hi H rfl V (zaW U) (fun e => by rw [T]; exact zao hf hx G (LeL.refl _) N) (by rw [Z]; exact E) (by rw [Z]; exact h)
def ExF.cp {d gi t : Nat} {want b c : Bool} {g0 : List (Nat × Bool)} {p n : Prop} {f : FuncId} {caps xs : List AV} {fop : Operand} {args : Array Operand} {ts : Array TypeId} (hc : p -> Fn P f (xs ++ caps) x) (h : ExF P C ops st Q (i + 1) (⟨i, some d, x, none, 0, (gi, want) :: g0⟩ :: fs)) (ho : ops[i]? = some o := by exact rfl) (hg : o.guard = some (gi, want) := by exact rfl) (hod : o.dst = some d := by exact rfl) (hi : (ops[gi]?).bind (·.dst) = some t := by exact rfl)
 (hch : zcr fs gi = g0 := by first | exact (rfl : _ = []) | exact (rfl : _ = [_]) | exact (rfl : _ = [_, _]) | exact (rfl : _ = [_, _, _])) (hb : lk (stFR st fs).t t = some (optV (zb fs g0) g0 (.bool b)) := by exact rfl) (hcd : zaR fs gi want = (b == want) := by exact rfl) (hg0 : zcY fs ((gi, want) :: g0) = true := by exact rfl)
 (hcs : zb fs ((gi, want) :: g0) = c := by first | exact (rfl : _ = ((_ : Bool) == _)) | exact (rfl : _ = (((_ : Bool) == _) && ((_ : Bool) == _))) | exact (rfl : _ = (((_ : Bool) == _) && (((_ : Bool) == _) && ((_ : Bool) == _))))) (bp : BP c p n := by exact inferInstance) (hop : o.op = .call { callee := .value fop, args := args, argTypes := ts } := by exact rfl) (hf : ev (stF st fs ((gi, want) :: g0)) fop = some (.fn f caps) := by exact rfl) (hx : evs (stF st fs ((gi, want) :: g0)) args.toList = some xs := by exact rfl) (hn : AV.nm.nmL (xs ++ caps) = true := by exact rfl) (hd : d.blt C.n = true := by exact rfl) : ExF P C ops st Q i fs :=
 .guard ho hg hi hb rfl hcd (zaW hg0) (fun e => by rw [hop]; exact zao hf hx hn (LeL.refl _) (hc (bp.t (hcs.symm.trans e)))) (by rw [hod]; exact hd) (by rw [hod]; exact h)
def ChM.cg {ms : List Nat} {hid : List Nat} {m : Nat} {d gi t : Nat} {want b : Bool} {g0 : List (Nat × Bool)} {f : FuncId} {caps xs : List AV} {fop : Operand} {args : Array Operand} {ts : Array TypeId} (N : Fn P f (xs ++ caps) x) (h : ChM P C ops ms st hid Q (i + 1) (⟨i, some d, x, none, m, (gi, want) :: g0⟩ :: fs)) (hm : ms[i]? = some m := by exact rfl) (ho : ops[i]? = some o := by exact rfl) (J : o.guard = some (gi, want) := by exact rfl) (Z : o.dst = some d := by exact rfl) (hi : (ops[gi]?).bind (·.dst) = some t := by exact rfl)
 (I : zcr fs gi = g0 := by first | exact (rfl : _ = []) | exact (rfl : _ = [_]) | exact (rfl : _ = [_, _]) | exact (rfl : _ = [_, _, _])) (H : lk (stR st hid m fs).t t = some (optV (zb fs g0) g0 (.bool b)) := by exact rfl) (V : zaR fs gi want = (b == want) := by exact rfl) (U : zcY fs ((gi, want) :: g0) = true := by exact rfl)
 (T : o.op = .call { callee := .value fop, args := args, argTypes := ts } := by exact rfl) (hf : ev (stV st hid m fs ((gi, want) :: g0)) fop = some (.fn f caps) := by exact rfl) (hx : evs (stV st hid m fs ((gi, want) :: g0)) args.toList = some xs := by exact rfl) (G : AV.nm.nmL (xs ++ caps) = true := by exact rfl) (E : d.blt C.n = true := by exact rfl) : ChM P C ops ms st hid Q i fs :=
 .guard hm ho J hi H rfl V (zaW U) (fun e => by rw [T]; exact zao hf hx G (LeL.refl _) N) (by rw [Z]; exact E) (by rw [Z]; exact h)
end
def yw {ι : Type} {C : Ctx} {st : St} {I : ι -> List (Nat × AV)} {H : ι -> List (Nat × Blk)} {J : ι -> Prop} {μ : ι -> Nat} {n : Nat} (i' : ι) (hJ : J i' := by first | trivial | omega | (refine ⟨?_, ?_⟩ <;> omega)) (hm : μ i' < n := by first | omega | (dsimp only; omega)) (hI : Imp C st ⟨I i', H i'⟩ := by exact yd) :
 ∃ i', Imp C st ⟨I i', H i'⟩ /\ J i' /\ μ i' < n := ⟨i', hI, hJ, hm⟩
end Go.Rse
namespace Go.Rse
open Go Go.RowKit
def zka (P : Program) (C : Ctx) (rv : List ResultVar) (r : AV) (vs : List Value) (cs : List AV) (hs' : List (Nat × Blk)) (e : Exit) (st : St) : Prop :=
 (e = .normal \/ e = .ret) /\ ∃ ts ex, Imp C st ⟨ts, (kN, .hold vs cs) :: (hs' ++ ex)⟩ /\ RetVs P ⟨ts, (kN, .hold vs cs) :: (hs' ++ ex)⟩ rv r
def zka.mk {P : Program} {C : Ctx} {rv : List ResultVar} {r : AV} {vs : List Value} {cs : List AV} {Z : List (Nat × Blk)} {e : Exit} {st : St} (ts : List (Nat × AV)) (ex : List (Nat × Blk)) (he : e = .normal \/ e = .ret) (hr : RetVs P ⟨ts, (kN, .hold vs cs) :: (Z ++ ex)⟩ rv r) (hi : Imp C st ⟨ts, (kN, .hold vs cs) :: (Z ++ ex)⟩ := by exact yd) : zka P C rv r vs cs Z e st :=
 ⟨he, ts, ex, hi, hr⟩
def FnO.introX {P : Program} {f : FuncId} {fn : Func} {c : Code} {n : Nat} {az : List AV} {ts : List (Nat × AV)} {rv : List ResultVar} {r : AV} {hs U : List (Nat × Blk)} {kp : List Nat} {cs : List AV} (hc : zag P f = true) (hf : P.funcs[f]? = some fn) (hb : fn.body = some c) (hn : fn.ntmps = n) (x1 : fn.results = rv.toArray)
 (x0 : zbr 0 az = ts) (v3 : az.length <= n) (v0 : (hs.all fun p => !(p.1.beq kN)) = true) (v1 : (U.all fun p => !(p.1.beq kN)) = true) (w2 : kp.mapM (hdr hs) = some cs) (H : kp.mapM (hdr U) = some cs)
 (h : ∀ g w d vs, X P (C0 n d g w) c ⟨ts, (kN, .hold vs cs) :: hs⟩ (zka P (C0 n d g w) rv r vs cs U)) : FnO P f az hs kp r U := by
 refine ⟨hc, fun d ρ I O w args V T => (callsIn_wide (n := 0)).1 (callsIn_of_wp_marks hf hb trivial ?_)⟩;subst x0;have u3 : args.length = az.length := T.1;let C := C0 n d ⟨ρ, I, O⟩ w
 have G : Rel C ⟨zbr 0 az, (kN, .hold (kp.map ρ) cs) :: hs⟩ ⟨ρ, I, O⟩ { tmps := args.toArray ++ Array.replicate (fn.ntmps - args.toArray.size) undef, defers := [] } w := by
  refine ⟨by simp [hn, C]; omega, Dfs.nil _ _ _, fun t x hx => ?_, ⟨V.im, V.ob, fun k B J => ?_⟩, ⟨Im.le_refl _, rfl, rfl, rfl, jC _, jC _, fun _ _ _ _ => ⟨rfl, rfl⟩, fun b y n _ hy => ⟨n, hy⟩⟩⟩
  ·obtain ⟨_, E⟩ := zcU (I := I) (ρ := ρ) az 0 t x hx;simp only [vM] at E;have ht : t < args.length := by grind
   have e : (args.toArray ++ Array.replicate (fn.ntmps - args.toArray.size) undef).getD t undef = args[t] := by
    simp [jF, uB, ht]
   rw [e];exact T.2 t x _ E (j8 ht)
  ·simp only [yn] at J;cases v9 : kN.beq k <;> simp [v9] at J
   ·exact (V.blk k B J).ctx
   ·subst J;exact zgK (g := ⟨ρ, I, O⟩) V w2
 refine wpIn_mono (h _ w d _ _ _ w G) ?_
 rintro e a w' ⟨st, g1, v8, he, ts', ex', xT, x4⟩
 obtain ⟨g2, N⟩ := xT g1 a w' v8
 have x3 : LeavesInM Fence.wide 0 P fn a.tmps (fun e w' => ∃ v ρ' I' O', e = .returned v /\ Sat (C0 0 d ⟨ρ, I, O⟩ w) U ⟨ρ', I', O'⟩ w' /\ RV I' ρ' r v /\ Ext (C0 0 d ⟨ρ, I, O⟩ w) ⟨ρ', I', O'⟩ w' /\ ∀ n ∈ kp, ρ' n = ρ n) a.defers .returning w' := by
  obtain ⟨D, hD, v5, v4⟩ := N.defers;refine zaP (C := C) x1 x4 rfl (fun g3 w3 v Z hv => ?_) D hD.plain v5 v4 ⟨N.size, Dfs.nil _ _ _, N.tmps, N.sat, N.ext⟩
  have x2 : Sat (C0 0 d ⟨ρ, I, O⟩ w) U g3 w3 := ⟨Z.sat.im, Z.sat.ob, fun k B J => by
   refine (Z.sat.blk k B ?_).ctx
   have : kN.beq k = false := by
    cases hb : kN.beq k
    ·rfl
    ·have : kN = k := by simpa using hb
     grind [zeG]
   simp [yn, this, zcw, J]⟩
  have hh := Z.sat.blk kN (.hold (kp.map ρ) cs) (by simp [yn]);exact ⟨v, g3.ρ, g3.I, g3.O, rfl, x2, hv, ⟨Z.ext.I, Z.ext.os, Z.ext.tape, Z.ext.output, Z.ext.drawn, Z.ext.size, Z.ext.keep, Z.ext.own⟩, zeF (ρ := ρ) x2 H hh⟩
 rcases he with rfl | rfl <;> exact x3
section
variable {P : Program} {C : Ctx} {st : St} {ty : TypeId} {Q : Exit -> St -> Prop}
def zV {ops : Array Oper} {rest : List Oper} {dst : Option Tmp} {pos : String} {af : Array Edge} {fop : Operand} {args : Array Operand} {ts : Array TypeId} {f : FuncId} {caps xs as' : List AV} {hs Z : List (Nat × Blk)} {kp : List Nat} {r : AV}
 (μ : List (Nat × Nat)) (h : FnO P f as' hs kp r Z) (G : Ex P C ops rest (zbI st μ hs Z dst r) Q) (hf : ev st fop = some (.fn f caps) := by exact rfl) (hx : evs st args.toList = some xs := by exact rfl) (hμ : biOk μ = true := by exact rfl) (T : LeL (xs ++ caps) (as'.map (AV.ren μ)) := by exact LeL.refl _) (N : as'.all (AV.okN (keys hs)) = true := by exact rfl) (J : r.okN (keys Z) = true := by exact rfl)
 (I : zaG st μ (keys hs) hs := by repeat' (first | exact True.intro | refine And.intro ⟨_, _, rfl, rfl, LeB.refl _, rfl⟩ ?_)) (V : (Z.all fun p => (fwd μ p.1).isSome && p.2.okNB (keys Z)) = true := by exact rfl)
 (U : (μ.all fun p => kp.any (·.beq p.1) || (hs.any (·.1.beq p.1) && !(Z.any (·.1.beq p.1))) || (!(hs.any (·.1.beq p.1)) && st.fr p.2)) = true := by exact rfl)
 (H : (kp.all fun n => hs.any (·.1.beq n)) = true := by exact rfl) (E : dOk C.n dst = true := by exact rfl) :
 Ex P C ops ({ dst := dst, op := .call { callee := .value fop, args := args, argTypes := ts }, type := ty, pos := pos, after := af, guard := none } :: rest) st Q := zbs μ h hf hx hμ T N J I V U H E G
end
end Go.Rse
namespace Go.Rse
open Go Go.RowKit
section
variable {P : Program} {C : Ctx} {st : St} {ty : TypeId} {x y : Operand} {xt yt : TypeId} {k k' : IntKind} {p q : Int}
end
end Go.Rse
namespace Go.Rse
open Go Go.RowKit
section plain
variable {α : Type}
def mix (q : Int) : List (Int × α) -> Nat -> Option (Nat × α)
 | [], _ => none
 | p :: r, i => if p.1 = q then some (i, p.2) else mix q r (i + 1)
def mget (q : Int) (l : List (Int × α)) : Option α := (mix q l 0).map (·.2)
def mput (q : Int) (x : α) (l : List (Int × α)) : List (Int × α) := match mix q l 0 with
 | some (i, _) => l.set i (q, x)
 | none => l ++ [(q, x)]
def zgN {q : Int} {d : IntKind} : ∀ (l : List (Int × α)) (es : List MapEntry) (i : Nat), es.length = l.length -> (∀ (j : Nat) e p, es[j]? = some e -> l[j]? = some p -> e.key = .int .i64 p.1) →
 (mix q l i = none /\ Instr.findNow (.int d) (.int .i64 q) es i = some none) \/ ∃ j e x, mix q l i = some (i + j, x) /\ Instr.findNow (.int d) (.int .i64 q) es i = some (some (i + j, e.val)) /\ es[j]? = some e /\ l[j]? = some (q, x)
 | [], [], i, _, _ => .inl ⟨rfl, rfl⟩
 | [], _ :: _, i, h, _ => by simp at h
 | _ :: _, [], i, h, _ => by simp at h
 | p :: l, e :: es, i, hl, J => by
  have Z : e.key = .int .i64 p.1 := J 0 e p rfl rfl;by_cases V : p.1 = q
  ·refine .inr ⟨0, e, p.2, by simp [mix, V], by simp [Instr.findNow, Instr.sameNow, Z, V], rfl, ?_⟩;rw [← V]; rfl
  ·have N : ¬ q = p.1 := fun x => V x.symm
   have hs : Instr.sameNow (.int d) (.int .i64 q) e.key = some false := by rw [Z]; simp [Instr.sameNow, N]
   rcases zgN (q := q) (d := d) l es (i + 1) (by simpa using hl) (fun j e' p' U T => J (j + 1) e' p' U T) with ⟨U, T⟩ | ⟨j, e', x, U, T, I, H⟩
   ·simp_all [mix, Instr.findNow]
   ·refine .inr ⟨j + 1, e', x, by simp [mix, V, U]; omega, ?_, I, H⟩;simp [Instr.findNow, hs, T]; omega
end plain
section
variable {P : Program} {C : Ctx} {st : St} {ty : TypeId} {Q : Exit -> St -> Prop}
def zf0 {I : Im} {ρ : Nat -> Value} {k : Nat} {v : Value} (h : RV I ρ (.mp k) v) : ∃ b, v = .map (some b) /\ ρ k = .map (some b) := by cases h <;> simp_all
def zhc {κ α : Type} (kenc : κ -> AV) (venc : α -> AV) {t : TypeId} {k : Nat} : yu P C (.makeMap t none) ty st (.mp k) (some (k, .mpb kenc venc [])) :=
 zab fun g a w dst pos af gd hr => by
  refine ⟨.map (some w.heap.size), w.alloc (.map #[] 0), g.nw C.d w.heap.size k (.map (some w.heap.size)), ?_, Add.nw (Grow.alloc _ (.map #[] 0)) C.d k _, .mp k _ (by simp [Gh.nw]), ImOB.nw ⟨hr.sat.im, hr.sat.ob⟩ (Grow.alloc _ _) (by simp) C.d k _, fun k' B Z => ?_⟩
  ·rfl
  ·injection Z with Z; injection Z with e1 e2; subst e1; subst e2;exact ⟨w.heap.size, #[], 0, by simp [Gh.nw], by simp [Gh.nw], .inl hr.ext.size, heap_alloc_new w _, ⟨rfl, rfl, fun i e he => by simp at he⟩, fun i e p he V => by simp at he⟩
def mpOk (P : Program) (t K E : TypeId) : Prop := P.underlying t = some (.map K E) /\ ∃ d, P.underlying K = some (.int d)
def zqX {α : Type} {venc : α -> AV} {l : List (Int × α)} {t K E : TypeId} {x y : Operand} {k : Nat} {q : Int} (z0 : α) (hx : ev st x = some (.mp k)) (G : lk st.h k = some (.mpb (fun i : Int => .int .i64 i) venc l)) (hy : ev st y = some (.int .i64 q))
 (ht : mpOk P t K E) (hd : ∃ d, P.underlying K = some (.int d) /\ d = .i64) (hf : ∀ v k, (venc v).fr k = true) (hz : ∃ z i, P.info? E = some i /\ i.zero = some z /\ ∀ I, RV I noNames (venc z0) z) :
 Pur P C (.lookup t x y true) ty st (.tup [venc ((mget q l).getD z0), .bool (mget q l).isSome]) := fun g a w dst pos af gd hr => by
 obtain ⟨b, es, ck, h1, h2, h3, J, h5, H⟩ := hr.sat.blk k _ G
 have ex : a.eval x = .map (some b) := by
  obtain ⟨b', e1, e2⟩ := zf0 (yr hr hx);rw [e1, ← e2, h1]
 have ey := y8 (yr hr hy);obtain ⟨d, V, rfl⟩ := hd;obtain ⟨z, i, hi, T, N⟩ := hz;have U : ∀ (j : Nat) e p, es.toList[j]? = some e -> l[j]? = some p -> e.key = .int .i64 p.1 := fun j e p he hp => y8 (H j e p (by simpa using he) hp).1
 rcases zgN (q := q) (d := .i64) l es.toList 0 (by simpa using h5.1) U with ⟨m1, m2⟩ | ⟨j, e, v, m1, m2, m3, m4⟩
 ·refine ⟨.tuple #[z, .bool false], ?_, ?_⟩
  ·simp [execOp, ex, ey, Instr.lookup, run_underlying ht.1, MapKept.run_getObj_map J, MapKept.run_checkKey V (show MapKept.IsKey (.int .i64) (.int .i64 q) from rfl), MapKept.run_findKey V m2, Result.andThen, zeroValue, typeInfo, hi, T]
  ·have e1 : (mget q l).getD z0 = z0 := by simp [mget, m1]
   have e2 : (mget q l).isSome = false := by simp [mget, m1]
   rw [e1, e2];refine .tup _ [z, .bool false] rfl fun j c v Z hv => ?_
   rcases j with _ | _ | j
   ·simp at Z hv; subst Z; subst hv; exact (N g.I).forget' (hf _)
   ·simp at Z hv; subst Z; subst hv; exact .bool _
   ·simp at Z
 ·simp only [uN] at m1 m2;refine ⟨.tuple #[e.val, .bool true], ?_, ?_⟩
  ·simp [execOp, ex, ey, Instr.lookup, run_underlying ht.1, MapKept.run_getObj_map J, MapKept.run_checkKey V (show MapKept.IsKey (.int .i64) (.int .i64 q) from rfl), MapKept.run_findKey V m2, Result.andThen]
  ·have e1 : (mget q l).getD z0 = v := by simp [mget, m1]
   have e2 : (mget q l).isSome = true := by simp [mget, m1]
   rw [e1, e2];refine .tup _ [e.val, .bool true] rfl fun j' c u Z hv => ?_
   rcases j' with _ | _ | j'
   ·simp at Z hv; subst Z; subst hv; exact (H j e (q, v) (by simpa using m3) m4).2.forget' (hf _)
   ·simp at Z hv; subst Z; subst hv; exact .bool _
   ·simp at Z
def zbJ {w : World} {b : Nat} {o o' : Obj} (h : w.heap[b]? = some o) : w.grownBy { w with heap := w.heap.setIfInBounds b o' } (some b) :=
 ⟨rfl, rfl, rfl, by simp, fun k V Z => (MapKept.heap_set h).2 k (fun e => Z (by rw [e]))⟩
def zeM {α : Type} {venc : α -> AV} {l : List (Int × α)} {t K E : TypeId} {x y z : Operand} {k : Nat} {q : Int} {u : AV} (v : α) (hx : ev st x = some (.mp k)) (hk : lk st.h k = some (.mpb (fun i : Int => .int .i64 i) venc l)) (hy : ev st y = some (.int .i64 q))
 (hz : ev st z = some u) (hu : u = venc v) (ht : mpOk P t K E) (hd : ∃ d, P.underlying K = some (.int d) /\ d = .i64) (hf : ∀ v k, (venc v).fr k = true) :
 yq P C (.mapUpdate t x y z) ty none st (putH st k (.mpb (fun i : Int => .int .i64 i) venc (mput q v l))) := fun g a w pos af gd hr K' hK => by
 obtain ⟨b, es, ck, G, J, H, U, h5, h6⟩ := hr.sat.blk k _ hk
 have ex : a.eval x = .map (some b) := by
  obtain ⟨b', e1, e2⟩ := zf0 (yr hr hx);rw [e1, ← e2, G]
 have ey := y8 (yr hr hy);have ez : RV g.I noNames (venc v) (a.eval z) := (hu ▸ yr hr hz).forget' (hf v);obtain ⟨d, V, rfl⟩ := hd;have Z : ∀ (j : Nat) e p, es.toList[j]? = some e -> l[j]? = some p -> e.key = .int .i64 p.1 := fun j e p he T => y8 (h6 j e p (by simpa using he) T).1
 have N : MapKept.IsKey (.int .i64) (.int .i64 q) := rfl;rcases zgN (q := q) (d := .i64) l es.toList 0 (by simpa using h5.1) Z with ⟨m1, m2⟩ | ⟨j, e, v0, m1, m2, m3, m4⟩
 ·have er : (Instr.mapUpdate t (.map (some b)) (.int .i64 q) (a.eval z)).run P w = .ok () { w with heap := w.heap.setIfInBounds b (.map (es.push { key := .int .i64 q, val := a.eval z, born := ck }) (ck + 1)) } := by
   simp [Instr.mapUpdate, run_underlying ht.1, MapKept.run_getObj_map U, MapKept.run_checkKey V N, MapKept.run_findKey V m2, MapKept.run_setObj_map _ U, Result.andThen]
  simp only [wp1, execOp, ex, ey, jL, er, jD, jO, zbN];refine hK _ _ _ (hr.modify J H (zbJ U) (jC _) ⟨b, _, _, G, J, H, (MapKept.heap_set U).1, ⟨?_, ?_, ?_⟩, ?_⟩)
  ·simp [mput, m1, h5.1]
  ·simp [mput, m1, h5.2.1]
  ·grind
  ·intro i e p he T;simp only [mput, m1] at T;rw [Array.getElem?_push] at he;rw [uI] at T;by_cases hi : i < es.size
   ·grind
   ·split at he
    ·next hie =>
     injection he with he; subst he;rw [j3 (by omega)] at T;have : i - l.length = 0 := by omega
     rw [this] at T; simp at T; subst T;exact ⟨.int _ _, ez⟩
    simp_all
 ·simp only [uN] at m1 m2;have xT : e.key = .int .i64 q := Z j e _ m3 m4;have hj : es[j]? = some e := by simpa using m3
  have er : (Instr.mapUpdate t (.map (some b)) (.int .i64 q) (a.eval z)).run P w = .ok () { w with heap := w.heap.setIfInBounds b (.map (es.modify j fun e => { e with key := .int .i64 q, val := a.eval z }) ck) } := by
   simp [Instr.mapUpdate, run_underlying ht.1, MapKept.run_getObj_map U, MapKept.run_checkKey V N, MapKept.run_findKey V m2, hj, xT, MapKept.run_keyThatStays N, MapKept.run_setObj_map _ U, Result.andThen]
  simp only [wp1, execOp, ex, ey, jL, er, jD, jO, zbN];refine hK _ _ _ (hr.modify J H (zbJ U) (jC _) ⟨b, _, _, G, J, H, (MapKept.heap_set U).1, ⟨?_, ?_, ?_⟩, ?_⟩);all_goals grind [mput]
end
end Go.Rse
namespace Go.Rse
open Go Go.RowKit
section
variable {P : Program} {C : Ctx} {st : St} {Q : Exit -> St -> Prop} {ty : TypeId}
def yk {ts : List (Nat × AV)} {hs : List (Nat × Blk)} (Z : impT st ts := by
 repeat' (first | exact True.intro | (refine And.intro ⟨_, rfl, ?_⟩ ?_; (first | exact LeV.refl _ | exact LeV.any _ | exact LeB.refl _ | (refine LeV.eq ?_; simp; done) | (refine LeV.eq ?_; congr 1; omega) | (refine LeV.eq ?_; dsimp only; congr 1; omega) | (refine LeV.eq (j5 (AV.int _) ?_); omega) | exact LeV.nils _ | (refine LeV.eq ?_; congr 1 <;> assumption) | (refine LeV.eq ?_; assumption))))) (V : impH st hs := by
 repeat' (first | exact True.intro | (refine And.intro ⟨_, rfl, ?_⟩ ?_; (first | exact LeB.refl _ | exact LeB.row (by assumption) | (refine LeB.eq ?_; congr 1 <;> assumption) | (refine LeB.eq ?_; congr 1; omega) | (refine LeB.eq ?_; congr 1; simp only [cond_true, cond_false]; omega))))) : Imp C st ⟨ts, hs⟩ := Imp.of Z V
def zbK {ops : Array Oper} {ms : List Nat} {hid : List Nat} {i m : Nat} {fs : List FactM} (e : Nat) (stJ : St) {o1 oe o2 : Oper} (U : ∀ Q', Ex P C ops [] stJ Q' -> Ex P C ops [o1, o2] (zgM st hid fs) Q') (T : ∀ Q', Ex P C ops [] stJ Q' -> Ex P C ops [o1, oe, o2] (zgM st hid (fs.filter fun f => !(f.i == e))) Q') (V : Ex P C ops [] stJ Q)
 (hm : ms[i]? = some m := by exact rfl) (hl : ops.toList.drop i = [o1, o2] := by exact rfl) (Z : ops[e]? = some oe := by exact rfl) (N : (fs.all fun f => f.g.isEmpty) = true := by exact rfl)
 (hok : okFM st hid fs = true := by exact rfl) (hf : zdd ops i e (bits ops.size m) = true := by kernel_rfl) : ChM P C ops ms st hid Q i fs := .late e hm hl Z N hok hf (U Q V) (T Q V)
def zb0 {x y : Code} (stJ : St) (h : X P C y stJ Q -> X P C x st (zdC (fun st' => X P C y st' Q) Q)) (hJ : X P C y stJ Q) : X P C (.seq x y) st Q := yg (h hJ)
theorem zoT (A X B cs : List AV) (j : Nat) (h : j + cs.length <= X.length) : setAt (A ++ (X ++ B)) (A.length + j) cs = A ++ (setAt X j cs ++ B) := by
 unfold setAt
 have t1 : (A ++ (X ++ B)).take (A.length + j) = A ++ X.take j := by
  rw [List.take_length_add_append, wI (by omega)]
 have t2 : (A ++ (X ++ B)).drop (A.length + j + cs.length) = X.drop (j + cs.length) ++ B := by
  rw [vE, List.drop_length_add_append, vA h]
 simp_all
def zqY {α : Type} {enc : α -> List AV} {s : Nat} (he : ∀ x, (enc x).length = s) {l : List α} {i j : Nat} {x x' : α} {cs : List AV} (hx : l[i]? = some x) (V : j + cs.length <= s) (U : enc x' = setAt (enc x) j cs) :
 (l.set i x').flatMap enc = setAt (l.flatMap enc) (i * s + j) cs := by
 obtain ⟨hi, ex⟩ := j1.1 hx
 have hl : l.set i x' = l.take i ++ ([x'] ++ l.drop (i + 1)) := by
  rw [List.set_eq_take_append_cons_drop, j4 hi]; simp
 have Z : l = l.take i ++ ([x] ++ l.drop (i + 1)) := by
  conv => lhs; rw [← w9 i l, jG hi, ex]
  rfl
 grind [zA, zoT]
def Rel.row_writeC {g : Gh} {a : Act} {w : World} (hr : Rel C st g a w) {α : Type} {enc : α -> List AV} {l l' : List α} {E : TypeId} {k s p b : Nat} {cs : List AV} {vs : List Value} (hk : lk st.h k = some (.row enc l E s)) (he : ∀ x, (enc x).length = s) (G : 0 < s)
 (U : RVL g.I noNames cs vs) (T : ∀ u ∈ vs, u.oneCell' = true) (xT : p + cs.length <= l.length * s) (hb : y7 (g.ρ k) = some b) (V : l'.length = l.length) (x4 : l'.flatMap enc = setAt (l.flatMap enc) p cs) :
 ∃ w', (storeCells ⟨b, p, none⟩ vs 0).run P w = .ok () w' /\ Rel C (putH st k (.row enc l' E s)) g a w' := by
 obtain ⟨xs, hw, h1, h2, h3⟩ := hr.sat.blk k _ hk;rcases hw.2 with ⟨hv, _⟩ | ⟨b', cap, cur, hv, x3, hh, N, x2, J, x1⟩
 ·simp_all [y7]
 ·have : b' = b := by rw [hv] at hb; simpa [y7] using hb
  subst this;have v8 : vs.length = cs.length := U.1;have v5 : l.length * s <= cap * s := jS s N;have x0 : p + cs.length <= l.length * s := xT;have w2 := run_storeCells_at (P := P) b' p E vs 0 cur w hh (by omega) T;refine ⟨_, w2, hr.modify (h3 b' (by rw [hv]; rfl)).1 (h3 b' (by rw [hv]; rfl)).2 zcS (jC _) ?_⟩;have v9 : cur.toList.length = cap * s := by simpa using J
  have H := zeH h1 hw.1 h2 G;have Z := H.setAt U p (by rw [zA l h1]; exact x0);rw [← x4] at Z
  have hx : List.take (l.length * s) (cur.toList.take (p + 0) ++ vs ++ cur.toList.drop (p + 0 + vs.length)) = xs.take p ++ vs ++ xs.drop (p + vs.length) := by
   rw [← x1];apply uK;intro j;simp only [uW, w5, uI, jJ, jM, v9, wH];rw [show min p (cap * s) = p by omega, show min (l.length * s) (cap * s) = l.length * s by omega, show min p (l.length * s) = p by omega];by_cases q0 : j < l.length * s
   ·rw [j4 q0];by_cases q1 : j < p
    ·simp [q1, show j < p + vs.length by omega, q0]
    ·by_cases q2 : j < p + vs.length
     ·simp [q1, q2]
     ·simp [q2, show p + vs.length + (j - (p + vs.length)) < l.length * s by omega]
   ·rw [j3 q0];rw [j3 (by omega)];rw [j3 (by omega)]
  refine ⟨xs.take p ++ vs ++ xs.drop (p + vs.length), ⟨?_, .inr ⟨b', cap, (cur.toList.take (p + 0) ++ vs ++ cur.toList.drop (p + 0 + vs.length)).toArray, by rw [hv, V], x3, setRow_heap w b' cur _ E _ hh, by rw [V]; exact N, x2, by simp; omega, by rw [V]; simpa using hx⟩⟩, fun i x h => he x, zbq (fun i x h => he x) Z, h3⟩
  grind
def y4 {α : Type} {enc : α -> List AV} {l : List α} {E T : TypeId} {x y : Operand} {k s i j : Nat} {u : AV} {ag : Bool} {n : Nat} (x0 x' : α) (hx : ev st x = some (.ptr k s i j)) (hk : lk st.h k = some (.row enc l E s)) (h0 : l[i]? = some x0) (he : ∀ x, (enc x).length = s) (N : 0 < s)
 (hy : ev st y = some u) (hu : enc x' = setAt (enc x0) j u.cl) (hn : u.cl.length = n) (hj : j + n <= s) (hp : ziN u = true) (J : scL u.cl = true) (hnm : AV.nm.nmL u.cl = true) (ht : tyOk P T ag n = true) : yq P C (.store T x y) ty none st (putH st k (.row enc (l.set i x') E s)) := fun g a w pos af gd hr K hK => by
 obtain ⟨b, hb, e⟩ := zaa (yr hr hx);have Z := ziO (yr hr hy) hp;have H : RVL g.I noNames u.cl (a.eval y).cells.toList := Z.forget hnm
 have V : ∀ v ∈ (a.eval y).cells.toList, v.oneCell' = true := fun v hv => by
  obtain ⟨q, hq⟩ := jP.1 hv;have U : q < u.cl.length := by rw [← Z.1]; grind
  exact (zbG (Z.2 q _ v (j8 U) hq) (ze2 J (j8 U))).2
 have hi : i < l.length := (j1.1 h0).1;have xT : i * s + s <= l.length * s := by rw [← vC]; exact jS s hi
 obtain ⟨w', h1, h2⟩ := hr.row_writeC (P := P) (p := i * s + j) (l' := l.set i x') hk he N H V (by omega) hb (List.length_set ..) (zqY he h0 (by omega) hu);simp only [wp1, execOp, Instr.storeAt, e, Instr.sureAddr, jL, jO, jD, storeVar, yY ht];have G : (a.eval y).cells.size = n := by have := Z.1; simp_all
 rw [j3 (by simp [G])];simp only [h1, jD, zbN];exact hK _ _ _ h2
def zqZ {T : TypeId} (h : (P.info? T).bind (·.zero) = some (.agg #[.int .i64 0, .int .i64 0])) : ∃ z i, P.info? T = some i /\ i.zero = some z /\ ∀ I, RV I noNames (.agg [.int .i64 0, .int .i64 0]) z := by
 cases hi : P.info? T with
 | none => grind
 | some i =>
  rw [hi] at h;refine ⟨_, i, rfl, h, fun I => .agg _ [.int .i64 0, .int .i64 0] rfl fun j c v Z hv => ?_⟩;rcases j with _ | _ | j
  ·simp at Z hv; subst Z; subst hv; exact .int _ _
  ·simp at Z hv; subst Z; subst hv; exact .int _ _
  ·simp at Z
end
end Go.Rse
namespace Go.Rse
open Go Go.RowKit
section
variable {P : Program} {C : Ctx} {st : St} {ty : TypeId} {Q : Exit -> St -> Prop}
def zcs {α : Type} {enc : α -> List AV} {l : List α} {E t : TypeId} {x y : Operand} {k s : Nat} {kk : IntKind} {i : Int} {ag : Bool} (hx : ev st x = some (.own k)) (V : lk st.h k = some (.row enc l E s)) (U : ev st y = some (.int kk i)) (ht : slOk P t E = true) (hE : tyOk P E ag s = true)
 (h0 : 0 <= i) (J : i <= l.length) : Pur P C (.slice t x none (some y) none) ty st (.sub k s 0 i.toNat) := fun g a w dst pos af gd hr => by
 obtain ⟨xs, T, _⟩ := hr.sat.blk k _ V;have ek := zW (yr hr hx);have ey := y8 (yr hr U)
 have key : ∀ (A : Option Addr) (c : Nat), g.ρ k = .slice A l.length c -> (l.length ≠ 0 -> ∃ b, A = some ⟨b, 0, none⟩) -> l.length <= c →
  ∃ v, (execOp a.eval { dst := dst, op := .slice t x none (some y) none, type := ty, pos := pos, after := af, guard := gd }).run P w = .ok (.value v) w /\ RV g.I g.ρ (.sub k s 0 i.toNat) v := fun A c hv H G => by
  refine ⟨.slice (if c = 0 then A else A.map (·.add (0 * s))) (i.toNat - 0) (c - 0), ?_, .sub k s _ _ _ _ (fun hm => ?_)⟩
  ·rw [hv] at ek
   have : (Instr.sliceBounds true l.length c none (some (.int kk i)) none).run P w = .ok (0, i.toNat, c) w := by
    have : i <= (c : Int) := by omega
    simp [Instr.sliceBounds, Instr.sliceBound, asIntOf, h0, this]
   simp [execOp, Instr.sliceAt, Instr.slice, run_underlying (zf ht), ← ek, ey, this, yY hE]
  grind [y7, Addr.add]
 rcases T.2 with ⟨hv, N⟩ | ⟨b, cap, cur, hv, _, _, Z, _⟩
 ·grind
 ·exact key _ cap hv (fun _ => ⟨b, rfl⟩) Z
def zmV {k : Nat} : ∀ {cs : List AV} {j : Nat} {c : AV}, AV.fr.frL k cs = true -> cs[j]? = some c -> c.fr k = true
 | [], j, c, _, h => by simp at h
 | x :: r, 0, c, hf, h => by
  simp [AV.fr.frL] at hf;simp at h; subst h; exact hf.1
 | x :: r, j + 1, c, hf, h => by
  simp [AV.fr.frL] at hf;exact zmV hf.2 (by simpa using h)
def mvF (k k' : Nat) : AV -> AV
 | .own n => bif n.beq k then .own k' else .own n
 | x => cln k x
theorem Imp.mv {α : Type} {enc : α -> List AV} {l : List α} {E s : Nat} (k k' : Nat) (hk : lk st.h k = some (.row enc l E s)) (hf : st.fr k' = true) : Imp C st { t := mapT (mvF k k') st.t, h := (k', .row enc l E s) :: (k, .dead) :: mapH (mvF k k') st.h } := fun g a w hr => by
 obtain ⟨xs, hw, h1, h2, h3⟩ := hr.sat.blk k _ hk;simp only [St.fr, j7] at hf;let ρ' : Nat -> Value := fun n => if n = k' then g.ρ k else g.ρ n
 let O' : Owns := fun b => if y7 (g.ρ k) = some b then some (C.d, k') else g.O b
 have hρ : ∀ n, some k' ≠ some n -> ρ' n = g.ρ n := fun n hn => by
  grind
 have T : ∀ b, y7 (g.ρ k) ≠ some b -> O' b = g.O b := fun b U => j3 U
 have w2 : ∀ b, y7 (g.ρ k) = some b -> O' b = some (C.d, k') := fun b U => j4 U
 have H : ∀ x v, x.fr k' = true -> RV g.I g.ρ x v -> RV g.I ρ' (mvF k k' x) v := fun x v hx h => by
  have v9 : RV g.I ρ' (cln k x) v := by
   unfold cln;cases hq : x.fr k with
   | false => exact .any _
   | true => exact h.renameOpt (nk := some k') (fun n hn => by simp_all) hρ
  cases x <;> try exact v9
  case own n =>
   simp only [mvF];cases U : n.beq k with
   | false => exact h.renameOpt (nk := some k') (fun n hn => by simp_all) hρ
   | true =>
    have : n = k := by simpa using U
    subst this;have e := zW h;cases h with
    | own _ A m c h => exact .own k' A m c (by grind)
 have G : ImOB ⟨ρ', g.I, O'⟩ w := by
  refine ⟨fun b o u hI => ?_, fun b n hO => ?_, hr.sat.ob.2⟩
  ·obtain ⟨q1, q2⟩ := hr.sat.im b o u hI
   grind
  ·by_cases U : y7 (g.ρ k) = some b
   ·exact hr.sat.ob.1 b _ (h3 b U).1
   ·have : O' b = some n := hO;rw [T b U] at this; exact hr.sat.ob.1 b n this
 have v8 : Dfs C ⟨ρ', g.I, O'⟩ a.defers w := by
  obtain ⟨D, d1, dn, d2⟩ := hr.defers
  grind [Dfs]
 have v5 : ∀ (b kk : Nat), kk ≠ k -> g.O b = some (C.d, kk) -> O' b = some (C.d, kk) := fun b kk x4 hO => by
  grind
 refine ⟨⟨ρ', g.I, O'⟩, hr.size, v8, fun t x hx => ?_, ⟨G.1, G.2, fun kk B hB => ?_⟩, ?_⟩
 ·rw [zhT] at hx;cases N : lk st.t t with
  | none => simp [N] at hx
  | some z => simp [N] at hx; subst hx; exact H z _ (ziK hf.1 N) (hr.tmps t z N)
 ·simp only [yn] at hB;cases xT : k'.beq kk with
  | true =>
   have e1 : k' = kk := by simpa using xT
   grind [yJ]
  | false =>
   simp only [xT, cond_false] at hB;cases x3 : k.beq kk with
   | true => grind [yJ]
   | false =>
    simp only [x3, cond_false] at hB;have x4 : kk ≠ k := fun e => by subst e; simp at x3
    have x2 : kk ≠ k' := fun e => by subst e; simp at xT
    have eρ : ρ' kk = g.ρ kk := j3 x2;rw [zhU] at hB;cases N : lk st.h kk with
    | none => simp [N] at hB
    | some B0 =>
     simp [N] at hB; subst hB;have h0 := hr.sat.blk kk B0 N;have x1 := (zcP hf.2 N).1;cases B0 with
     | box cs E =>
      obtain ⟨b2, vs, q1, q2, q3, q4, q5, q6⟩ := h0;refine ⟨b2, vs, eρ.trans q1, v5 b2 kk x4 q2, q3, q4, by simpa using q5, fun j c v J hv => ?_⟩;rw [jK] at J;cases Z : cs[j]? with
      | none => simp [Z] at J
      | some c0 => simp [Z] at J; subst J; exact H c0 v (zmV x1 Z) (q6 j c0 v Z hv)
     | row enc l E s =>
      grind [yJ, mapB]
     | hold vs cs =>
      refine ⟨by simpa using h0.1, fun j c v J hv => ?_⟩;rw [jK] at J;cases Z : cs[j]? with
      | none => simp [Z] at J
      | some c0 => simp [Z] at J; subst J; exact H c0 v (zmV x1 Z) (h0.2 j c0 v Z hv)
     | obj b2 o => grind [yJ, mapB]
     | yld j on =>
      refine zgD (bo := y7 (g.ρ k)) h0 (Im.le_refl _) (fun b' _ V => T b' V) (fun b' e => .inl ⟨k, (h3 b' e).1⟩) ⟨rfl, rfl, rfl, jC _, fun _ _ _ => rfl⟩ (jC _) (fun b' n hn => ?_) G;by_cases V : y7 (g.ρ k) = some b'
      ·exact h0.2.2.2.1 b' k (h3 b' V).1
      ·have : O' b' = some (C.d, n) := hn;rw [T b' V] at this; exact h0.2.2.2.1 b' n this
     | mpb kenc venc l =>
      grind [yJ, mapB]
     | dead => trivial
 ·refine ⟨hr.ext.I, hr.ext.os, hr.ext.tape, hr.ext.output, hr.ext.drawn, hr.ext.size, fun b U hn ho => ?_, fun b y n x0 hy => ?_⟩
  ·obtain ⟨q1, q2⟩ := hr.ext.keep b U hn ho
   grind
  ·by_cases V : y7 (g.ρ k) = some b
   ·have : O' b = some (y, n) := hy;rw [w2 b V] at this; injection this with this; injection this with e1 e2;subst e1;exact hr.ext.own b C.d k x0 (h3 b V).1
   ·have : O' b = some (y, n) := hy;rw [T b V] at this; exact hr.ext.own b y n x0 this
def fnTy (P : Program) (t : TypeId) : Prop := ∃ a b c, P.underlying t = some (.func a b c)
def zlb {t : TypeId} (Z : fnTy P t) (c : Go.Fn) (u v : Array Value) (w : World) : (Op.equal t (.func c u v) .nilFunc).run P w = .ok false w := by
 obtain ⟨p, q, r, Z⟩ := Z;unfold Op.equal;rw [show Op.maxDepth = 9999 + 1 from rfl];unfold Op.equalIn;simp [run_underlying Z]
def zjc {t : TypeId} (Z : fnTy P t) (w : World) : (Op.equal t .nilFunc .nilFunc).run P w = .ok true w := by
 obtain ⟨p, q, r, Z⟩ := Z;unfold Op.equal;rw [show Op.maxDepth = 9999 + 1 from rfl];unfold Op.equalIn;simp [run_underlying Z]
def zq0 {t : TypeId} {x y : Operand} {yt : TypeId} {f : FuncId} {cs : List AV} (V : fnTy P t) (hx : ev st x = some (.fn f cs)) (Z : ev st y = some .nilf) : Pur P C (.binOp .neq t x y yt) ty st (.bool true) := fun g a w dst pos af gd hr => by
 obtain ⟨us, e, _, _⟩ := zcQ (yr hr hx);have ey := zgE (yr hr Z);refine ⟨.bool true, ?_, .bool _⟩;simp_all [eqGuard, execOp, binOp, zlb]
def zmW {t : TypeId} {x y : Operand} {yt : TypeId} (V : fnTy P t) (hx : ev st x = some .nilf) (Z : ev st y = some .nilf) : Pur P C (.binOp .neq t x y yt) ty st (.bool false) := fun g a w dst pos af gd hr => by
 have e := zgE (yr hr hx);have ey := zgE (yr hr Z);refine ⟨.bool false, ?_, .bool _⟩;simp_all [eqGuard, execOp, binOp, zjc]
def ChM.gn {ops : Array Oper} {ms : List Nat} {hid : List Nat} {i m : Nat} {fs : List FactM} {o : Oper} (x : AV) {d gi t : Nat} {want b : Bool} {g0 : List (Nat × Bool)} (h : ChM P C ops ms st hid Q (i + 1) (⟨i, some d, x, none, m, (gi, want) :: g0⟩ :: fs)) (hm : ms[i]? = some m := by exact rfl) (ho : ops[i]? = some o := by exact rfl) (N : o.guard = some (gi, want) := by exact rfl) (Z : o.dst = some d := by exact rfl) (hi : (ops[gi]?).bind (·.dst) = some t := by exact rfl)
 (J : zcr fs gi = g0 := by first | exact (rfl : _ = []) | exact (rfl : _ = [_]) | exact (rfl : _ = [_, _]) | exact (rfl : _ = [_, _, _])) (I : lk (stR st hid m fs).t t = some (optV (zb fs g0) g0 (.bool b)) := by exact rfl) (V : zaR fs gi want = (b == want) := by exact rfl) (U : zcY fs ((gi, want) :: g0) = true := by exact rfl)
 (T : zb fs ((gi, want) :: g0) = false := by exact rfl) (H : d.blt C.n = true := by exact rfl) : ChM P C ops ms st hid Q i fs :=
 .guard hm ho N hi I rfl V (zaW U) (fun e => by rw [T] at e; cases e) (by rw [Z]; exact H) (by rw [Z]; exact h)
end
end Go.Rse
namespace Go.Rse
open Go Go.RowKit
section
variable {P : Program} {C : Ctx} {st : St} {ty : TypeId}
def zeN {α : Type} {enc : α -> List AV} {l : List α} {u : α} {t : TypeId} {x : Operand} {k s i : Nat} {E : TypeId} (hx : ev st x = some (.ptr k s i 0)) (hk : lk st.h k = some (.row enc l E s)) (J : l[i]? = some u) (hl : (enc u).length = s) (hn : AV.nm.nmL (enc u) = true)
 (ht : tyOk P t true s = true) : Pur P C (.load t x) ty st (.agg (enc u)) := fun g a w dst pos af gd hr => by
 obtain ⟨b, hb, e⟩ := zaa (yr hr hx);obtain ⟨xs, I, h1, H, h3⟩ := hr.sat.blk k _ hk;rcases I.2 with ⟨hv, _⟩ | ⟨b', cap, cur, hv, _, hh, xT, _, G, T⟩
 ·simp_all
 ·have : b' = b := by simp_all [y7]
  subst this;have N : i < l.length := (j1.1 J).1
  have x4 : i * s + s <= l.length * s := by
   have H : (i + 1) * s <= l.length * s := jS s N
   grind
  have x3 : xs.length = l.length * s := I.1;have Z : ((xs.drop (i * s)).take s).length = s := by grind
  have V : ∀ j, j < s -> ((xs.drop (i * s)).take s)[j]? = xs[i * s + j]? := fun j U => by
   simp_all
  refine ⟨.agg ((xs.drop (i * s)).take s).toArray, ?_, .agg _ _ (by rw [Z, hl]) (fun j c v hc hv => ?_)⟩
  ·have := zG (P := P) (t := t) ht (b := b') (o := i * s) (w := w) (vs := (xs.drop (i * s)).take s) Z (fun j v hv => by
    have U : j < s := by rw [← Z]; exact (j1.1 hv).1
    rw [V j U] at hv;simp only [World.cell?, hh]
    have h0 : cur.toList[i * s + j]? = some v := by
     rw [← hv];conv => rhs; rw [← T]
     rw [w5, j4 (by omega)]
    simpa using h0)
   simp_all [execOp, Instr.loadAt, Instr.sureAddr]
  ·have U : j < s := by grind
   rw [V j U] at hv;exact (H i u j c v J hc hv).forget (zr hn hc)
end
end Go.Rse
namespace Go.Rse
open Go Go.RowKit
def y6 {P : Program} {C : Ctx} {st : St} {ty t : TypeId} {x : Operand} {f k s i j j2 off : Nat} (h : ev st x = some (.ptr k s i j)) [ho : FoK P t f off] (e : j + off = j2) : Pur P C (.fieldAddr t x f) ty st (.ptr k s i j2) := e ▸ zd1 h ho.h
def zcZ {P : Program} {C : Ctx} {rv : List ResultVar} {r : AV} {vs : List Value} {cs : List AV} {Z : List (Nat × Blk)} {e : Exit} {st st' : St} (hi : Imp C st st') (h : zka P C rv r vs cs Z e st') : zka P C rv r vs cs Z e st := by
 obtain ⟨V, ts, ex, U, T⟩ := h;exact ⟨V, ts, ex, hi.trans U, T⟩
theorem zsJ {P : Program} {C : Ctx} {st : St} {dst : Option Tmp} {ty : TypeId} {fop : Operand} {args : Array Operand} {ts : Array TypeId} {f : FuncId} {caps xs ass : List AV} {hs Z : List (Nat × Blk)} {kp : List Nat} {r : AV}
 (μ : List (Nat × Nat)) (h : FnO P f ass hs kp r Z) (hf : ev st fop = some (.fn f caps)) (hx : evs st args.toList = some xs) (hμ : biOk μ = true) (T : LeL (xs ++ caps) (ass.map (AV.ren μ))) (N : ass.all (AV.okN (keys hs)) = true) (J : r.okN (keys Z) = true)
 (I : zaG st μ (keys hs) hs) (V : ∀ p ∈ Z, (fwd μ p.1).isSome = true /\ p.2.okNB (keys Z) = true) (U : ∀ p ∈ μ, kp.any (·.beq p.1) = true \/ (hs.any (·.1.beq p.1) = true /\ Z.any (·.1.beq p.1) = false) \/ (hs.any (·.1.beq p.1) = false /\ st.fr p.2 = true))
 (H : ∀ n ∈ kp, hs.any (·.1.beq n) = true) (G : dOk C.n dst = true) :
 yq P C (.call { callee := .value fop, args := args, argTypes := ts }) ty dst st (zbI st μ hs Z dst r) := fun g a w pos af gd hr K E => by
 obtain ⟨A, e2, h0⟩ := zg7 (dst := dst) (ty := ty) (ts := ts) μ h.r hf hx hμ T N J I V U H G hr;unfold wp1
 grind [Calls.mono, zbN]
def zc0 {C : Ctx} {st : St} {α : Type} (enc : α -> List AV) (E s b k i E0 : Nat) (cs cs2 : List AV) (ht : lk st.h b = some (.box cs E0)) (hi : cs[i]? = some .nils) (U : cs.set i (.own k) = cs2) (hf : st.fr k = true) : Imp C st { t := st.t, h := (b, .box cs2 E0) :: (k, .row enc [] E s) :: st.h } := fun g a w hr => by
 subst U
 have T : b ≠ k := fun e => by
  subst e;simp [St.fr] at hf;exact (zcP hf.2 ht).2 rfl
 have G : Add (some k) g w { ρ := fun n => if n = k then .slice none 0 0 else g.ρ n, I := g.I, O := g.O } w := ⟨Im.le_refl _, fun n V => by
  have : n ≠ k := fun e => V (by rw [e])
  simp [this], fun _ _ => rfl, Grow.refl w⟩
 have h1 := hr.add (d := none) (x := .any) (v := .nilIface) G (fun n V => by injection V with V; subst V; exact hf) (fun t h => by simp at h) (.any _) hr.sat.im hr.sat.ob;have H := h1.withBlk (k := k) (B := .row enc [] E s) ⟨[], ⟨by simp, .inl ⟨by simp, rfl⟩⟩, fun i x h => by simp at h, fun i x j c v h => by simp at h, fun b hb => by simp [y7] at hb⟩
 have N : lk ((k, Blk.row enc [] E s) :: st.h) b = some (.box cs E0) := by
  have : k.beq b = false := beqF.2 fun e => T e.symm
  simp [yn, this, ht]
 obtain ⟨b1, vs, e1, e2, e3, e4, e5, e6⟩ := H.sat.blk b _ N;refine ⟨_, H.withBlk (k := b) (B := .box (cs.set i (.own k)) E0) ⟨b1, vs, e1, e2, e3, e4, by simpa using e5, fun j c v Z hv => ?_⟩⟩;rw [List.getElem?_set] at Z;split at Z
 ·rename_i J;subst J;split at Z
  ·injection Z with Z; subst Z;have := zdz (e6 i .nils v hi hv);rw [this];exact .own k none 0 0 (by simp)
  ·simp at Z
 grind
def zq1 {P : Program} {C : Ctx} {st : St} {dst : Option Tmp} {ty : TypeId} {fop : Operand} {args : Array Operand} {ts : Array TypeId} {f : FuncId} {caps xs as' : List AV} {hs Z : List (Nat × Blk)} {kp : List Nat} {r : AV}
 (μ : List (Nat × Nat)) (h : FnO P f as' hs kp r Z) (hf : ev st fop = some (.fn f caps) := by exact rfl) (hx : evs st args.toList = some xs := by exact rfl) (hμ : biOk μ = true := by exact rfl) (T : LeL (xs ++ caps) (as'.map (AV.ren μ)) := by exact LeL.refl _) (N : as'.all (AV.okN (keys hs)) = true := by exact rfl) (J : r.okN (keys Z) = true := by exact rfl)
 (I : zaG st μ (keys hs) hs := by repeat' (first | exact True.intro | refine And.intro ⟨_, _, rfl, rfl, LeB.refl _, rfl⟩ ?_)) (V : (Z.all fun p => (fwd μ p.1).isSome && p.2.okNB (keys Z)) = true := by exact rfl)
 (U : (μ.all fun p => kp.any (·.beq p.1) || (hs.any (·.1.beq p.1) && !(Z.any (·.1.beq p.1))) || (!(hs.any (·.1.beq p.1)) && st.fr p.2)) = true := by exact rfl)
 (H : (kp.all fun n => hs.any (·.1.beq n)) = true := by exact rfl) (G : dOk C.n dst = true := by exact rfl) :
 yq P C (.call { callee := .value fop, args := args, argTypes := ts }) ty dst st (zbI st μ hs Z dst r) := by
 grind [zsJ]
end Go.Rse
namespace Go.Rse
open Go Go.RowKit
def AV.flat : AV -> Bool
 | .int _ _ | .bool _ | .str _ | .nils | .nilf | .val _ => true
 | .agg cs => flatL cs
 | .tup cs => flatL cs
 | _ => false
where flatL : List AV -> Bool
 | [] => true
 | x :: r => x.flat && flatL r
def zaX : ∀ {cs : List AV}, AV.flat.flatL cs = true -> ∀ {j : Nat} {c : AV}, cs[j]? = some c -> c.flat = true
 | [], _, _, _, h => by simp at h
 | x :: r, h, 0, c, e => by
  simp [AV.flat.flatL] at h; simp at e; exact e ▸ h.1
 | x :: r, h, j + 1, c, e => by
  simp [AV.flat.flatL] at h; exact zaX h.2 (by simpa using e)
def RV.flat {I J : Im} {ρ ρ' : Nat -> Value} {x : AV} {v : Value} (h : RV I ρ x v) (hf : x.flat = true) : RV J ρ' x v := by
 induction h with
 | int k n => exact .int k n
 | bool b => exact .bool b
 | str s => exact .str s
 | nils => exact .nils
 | nilf => exact .nilf
 | val v => exact .val v
 | agg cs vs hl hv ih => exact .agg cs vs hl (fun j c v V Z => ih j c v V Z (zaX (by simpa [AV.flat] using hf) V))
 | tup cs vs hl hv ih => exact .tup cs vs hl (fun j c v V Z => ih j c v V Z (zaX (by simpa [AV.flat] using hf) V))
 | _ => simp [AV.flat] at hf
abbrev Hyp := Im -> Owns -> World -> Prop
def FnW (P : Program) (f : FuncId) (az : List AV) (r : AV) (H : Hyp) : Prop :=
 zag P f = true /\ r.nm = true /\ ∀ (g : Gh) (w : World) (args : List Value), ImO g.I g.O w -> H g.I g.O w -> RVL g.I noNames az args →
  Calls P f args.toArray w fun e w' => ∃ v g', e = .returned v /\ RV g'.I noNames r v /\ Add none g w g' w' /\ ImOB g' w'
def FnW.go {P : Program} {f : FuncId} {fn : Func} {c : Code} {n : Nat} {az : List AV} {rv : List ResultVar} {r : AV} {H : Hyp} (hf : P.funcs[f]? = some fn) (E : fn.ntmps = n) (h : ∀ g w d, H g.I g.O w -> (∀ b n, g.O b ≠ some (d, n)) -> X P (C0 n d g w) c ⟨zbr 0 az, []⟩ (RetQ P (C0 n d g w) rv r)) (hb : fn.body = some c := by exact rfl)
 (N : fn.results = rv.toArray := by exact rfl) (hc : zag P f = true := by kernel_rfl) (hnm : r.nm = true := by exact rfl) (V : az.length <= n := by simp) : FnW P f az r H := by
 refine ⟨hc, hnm, fun g w args U hH Z => (callsIn_wide (n := 0)).1 (callsIn_of_wp_marks hf hb trivial ?_)⟩;obtain ⟨d, G, -⟩ := zcV g.O w.heap.size [] U.2.1;have T := ze6 (C := C0 n d ⟨noNames, g.I, g.O⟩ w) (I := g.I) (O := g.O) (m := fn.ntmps) rfl rfl E V U Z;exact wpIn_mono (h ⟨noNames, g.I, g.O⟩ w d hH G _ _ w T) fun e a w' ⟨st, g1, J, hq⟩ => zqR.plain N hnm hq g1 a w' J G
def FnOW (P : Program) (f : FuncId) (az : List AV) {α : Type} (enc : α -> List AV) (l : List α) (E s : Nat) (H : Hyp) : Prop :=
 zag P f = true /\ ∀ (d : Nat) (ρ : Nat -> Value) (I : Im) (O : Owns) (w : World) (args : List Value), (∀ b n, O b ≠ some (d, n)) -> ImO I O w -> H I O w -> RVL I ρ az args →
  Calls P f args.toArray w fun e w' => ∃ v ρ' I' O', e = .returned v /\ Sat (C0 0 d ⟨ρ, I, O⟩ w) [(5, .row enc l E s)] ⟨ρ', I', O'⟩ w' /\ RV I' ρ' (.own 5) v /\ Ext (C0 0 d ⟨ρ, I, O⟩ w) ⟨ρ', I', O'⟩ w'
def FnO.ow {P : Program} {f : FuncId} {az : List AV} {α : Type} {enc : α -> List AV} {l : List α} {E s : Nat} (h : FnO P f az [] [] (.own 5) [(5, .row enc l E s)]) : FnOW P f az enc l E s fun _ _ _ => True :=
 ⟨h.1, fun d ρ I O w args _ V _ Z => Calls.mono (h.2 d ρ I O w args ⟨V.1, V.2, fun k B U => by simp [lk] at U⟩ Z) fun e w' ⟨v, ρ', I', O', T, N, J, H, _⟩ => ⟨v, ρ', I', O', T, N, J, H⟩⟩
def FnOW.go {P : Program} {f : FuncId} {fn : Func} {c : Code} {n : Nat} {az : List AV} {rv : List ResultVar} {α : Type} {enc : α -> List AV} {l : List α} {E s : Nat} {H : Hyp} (hf : P.funcs[f]? = some fn) (hn : fn.ntmps = n)
 (h : ∀ g w d, H g.I g.O w -> (∀ b n, g.O b ≠ some (d, n)) -> X P (C0 n d g w) c ⟨zbr 0 az, []⟩ (fun e st => (e = .normal \/ e = .ret) /\ ∃ ts ex, Imp (C0 n d g w) st ⟨ts, (5, .row enc l E s) :: ex⟩ /\ RetVs P ⟨ts, (5, .row enc l E s) :: ex⟩ rv (.own 5))) (hb : fn.body = some c := by exact rfl)
 (x3 : fn.results = rv.toArray := by exact rfl) (hc : zag P f = true := by kernel_rfl) (v9 : az.length <= n := by simp) : FnOW P f az enc l E s H := by
 refine ⟨hc, fun d ρ I O w args x2 T hH V => (callsIn_wide (n := 0)).1 (callsIn_of_wp_marks hf hb trivial ?_)⟩;have v8 : args.length = az.length := V.1;let C := C0 n d ⟨ρ, I, O⟩ w
 have N : Rel C ⟨zbr 0 az, []⟩ ⟨ρ, I, O⟩ { tmps := args.toArray ++ Array.replicate (fn.ntmps - args.toArray.size) undef, defers := [] } w := by
  refine ⟨by simp [hn, C]; omega, Dfs.nil _ _ _, fun t x hx => ?_, ⟨T.1, T.2, fun k B hB => by simp [lk] at hB⟩, ⟨Im.le_refl _, rfl, rfl, rfl, jC _, jC _, fun _ _ _ _ => ⟨rfl, rfl⟩, fun b y n _ hy => ⟨n, hy⟩⟩⟩;obtain ⟨_, J⟩ := zcU (I := I) (ρ := ρ) az 0 t x hx;simp only [vM] at J;have ht : t < args.length := by grind
  have e : (args.toArray ++ Array.replicate (fn.ntmps - args.toArray.size) undef).getD t undef = args[t] := by
   simp [jF, uB, ht]
  rw [e];exact V.2 t x _ J (j8 ht)
 refine wpIn_mono (h ⟨ρ, I, O⟩ w d hH x2 _ _ w N) ?_
 rintro e a w' ⟨st, g1, x1, he, ts', ex', G, xT⟩
 obtain ⟨g2, U⟩ := G g1 a w' x1
 have x4 : LeavesInM Fence.wide 0 P fn a.tmps (fun e w' => ∃ v ρ' I' O', e = .returned v /\ Sat (C0 0 d ⟨ρ, I, O⟩ w) [(5, .row enc l E s)] ⟨ρ', I', O'⟩ w' /\ RV I' ρ' (.own 5) v /\ Ext (C0 0 d ⟨ρ, I, O⟩ w) ⟨ρ', I', O'⟩ w') a.defers .returning w' := by
  obtain ⟨D, hD, x0, w2⟩ := U.defers;refine zaP (C := C) x3 xT rfl (fun g3 w3 v Z hv => ?_) D hD.plain x0 w2 ⟨U.size, Dfs.nil _ _ _, U.tmps, U.sat, U.ext⟩;refine ⟨v, g3.ρ, g3.I, g3.O, rfl, ⟨Z.sat.im, Z.sat.ob, fun k B hB => ?_⟩, hv, ⟨Z.ext.I, Z.ext.os, Z.ext.tape, Z.ext.output, Z.ext.drawn, Z.ext.size, Z.ext.keep, Z.ext.own⟩⟩;refine (Z.sat.blk k B ?_).ctx
  grind [lk]
 rcases he with rfl | rfl <;> exact x4
section
variable {P : Program} {C : Ctx} {st : St} {ty : TypeId}
def zwk {ι : Type} {fop : Operand} {args : Array Operand} {ts : Array TypeId} {f : FuncId} {caps xs az : ι -> List AV} {r : AV} {H : ι -> Hyp} {stF : ι -> St} (hl : ∀ g a w, Rel C st g a w -> ∃ i gF, Rel C (stF i) gF a w /\ H i gF.I gF.O w) (h : ∀ i, FnW P f (az i) r (H i))
 (hf : ∀ i, ev (stF i) fop = some (.fn f (caps i)) := by intro i; rfl) (hx : ∀ i, evs (stF i) args.toList = some (xs i) := by intro i; rfl) (E : ∀ i, AV.nm.nmL (xs i ++ caps i) = true := by intro i; rfl) (J : ∀ i, LeL (xs i ++ caps i) (az i) := by intro i; exact LeL.refl _) (hr : r.flat = true := by rfl) :
 yu P C (.call { callee := .value fop, args := args, argTypes := ts }) ty st r none := fun g a w dst pos af gd Z K hK => by
 obtain ⟨i, gF, V, hH⟩ := hl g a w Z;obtain ⟨us, e, G, hu⟩ := zcQ (yr V (hf i));have U := zeB V (hx i);have N : RVL gF.I noNames (az i) (args.toList.map a.eval ++ us) := (J i).rvl ((U.append ⟨G, hu⟩).forget (E i));have h0 := (h i).2.2 gF w _ ⟨V.sat.im, V.sat.ob⟩ hH N;have e1 : (args.toList.map a.eval ++ us).toArray = args.map a.eval ++ us.toArray := by simp_all
 rw [e1] at h0
 have e2 : (execOp a.eval { dst := dst, op := .call { callee := .value fop, args := args, argTypes := ts }, type := ty, pos := pos, after := af, guard := gd }).run P w = .ok (.enter f (args.map a.eval ++ us.toArray)) w := by
  simp only [execOp, resolve, e, Deferred.ofValue, jL, jO, jD, invoke, zN (h i).1];simp
 unfold wp1;rw [e2];refine Calls.mono h0 ?_
 rintro e w' ⟨v, g', rfl, h1, h2, h3⟩
 refine ⟨v, rfl, ?_⟩;have T := h2.grow;refine hK v w' g ⟨Im.le_refl _, fun _ _ => rfl, fun _ _ => rfl, T⟩ (h1.flat hr) ⟨fun b o u hI => ⟨T.cell (Z.sat.im b o u hI).1, (Z.sat.im b o u hI).2⟩, Z.sat.ob.up (Im.le_refl _) T.size⟩ (fun _ _ h => by cases h)
def zdX {ι : Type} {fop : Operand} {args : Array Operand} {ts : Array TypeId} {f : FuncId} {caps xs az : ι -> List AV} {α : Type} {enc : α -> List AV} {l : List α} {E s : Nat} {H : ι -> Hyp} {stF : ι -> St} (k : Nat) (hl : ∀ g a w, Rel C st g a w -> ∃ i gF, Rel C (stF i) gF a w /\ H i gF.I gF.O w) (h : ∀ i, FnOW P f (az i) enc l E s (H i))
 (x2 : ∀ x, AV.flat.flatL (enc x) = true := by intro x; rfl) (hf : ∀ i, ev (stF i) fop = some (.fn f (caps i)) := by intro i; rfl) (hx : ∀ i, evs (stF i) args.toList = some (xs i) := by intro i; rfl) (x1 : ∀ i, LeL (xs i ++ caps i) (az i) := by intro i; exact LeL.refl _) :
 yu P C (.call { callee := .value fop, args := args, argTypes := ts }) ty st (.own k) (some (k, .row enc l E s)) := fun g a w dst pos af gd T K hK => by
 obtain ⟨i, gF, U, hH⟩ := hl g a w T;obtain ⟨us, e, x0, hu⟩ := zcQ (yr U (hf i));have N := zeB U (hx i);have G : RVL gF.I gF.ρ (az i) (args.toList.map a.eval ++ us) := (x1 i).rvl (N.append ⟨x0, hu⟩);obtain ⟨dc, w2, _⟩ := zcV gF.O w.heap.size [] U.sat.ob.1;have h0 := (h i).2 dc gF.ρ gF.I gF.O w _ w2 ⟨U.sat.im, U.sat.ob⟩ hH G;have e1 : (args.toList.map a.eval ++ us).toArray = args.map a.eval ++ us.toArray := by simp_all
 rw [e1] at h0
 have e2 : (execOp a.eval { dst := dst, op := .call { callee := .value fop, args := args, argTypes := ts }, type := ty, pos := pos, after := af, guard := gd }).run P w = .ok (.enter f (args.map a.eval ++ us.toArray)) w := by
  simp only [execOp, resolve, e, Deferred.ofValue, jL, jO, jD, invoke, zN (h i).1];simp
 unfold wp1;rw [e2];refine Calls.mono h0 ?_
 rintro e w' ⟨v, ρ', I', O', rfl, hs, hv, Z⟩
 refine ⟨v, rfl, ?_⟩
 have J : Grow w w' := ⟨Z.os, Z.tape, Z.output, Z.drawn, Z.size, fun b V => (Z.keep b V (fun hk => by
  rcases hk with hk | ⟨n, hk⟩;all_goals grind) (fun ⟨y, n, hy, _⟩ => by simp at hy)).1⟩
 let g3 : Gh := { ρ := fun n => if n = k then v else g.ρ n, I := g.I, O := fun b => if b < w.heap.size then g.O b else (match O' b with | some (y, n) => if y = dc /\ n = 5 then some (C.d, k) else none | none => none) };have v9 : ∀ b, b < w.heap.size -> g3.O b = g.O b := fun b V => by simp [g3, V]
 have xT : ρ' 5 = v := zW hv;obtain ⟨xs', p1, p2, p3, p4⟩ := hs.blk 5 (.row enc l E s) (by simp [yn])
 have x4 : ∀ b, y7 (ρ' 5) = some b -> O' b = some (dc, 5) /\ w.heap.size <= b := fun b V => by
  obtain ⟨q1, q2⟩ := p4 b V;refine ⟨q1, ?_⟩;rcases q2 with q2 | ⟨n, q2⟩;all_goals simp_all
 have v8 : ImOB g3 w' := by
  refine ⟨fun b o u hI => ?_, fun b p hO => ?_, T.sat.ob.2⟩
  ·obtain ⟨q1, q2⟩ := T.sat.im b o u hI;exact ⟨J.cell q1, by grind [zb3]⟩
  ·rcases w6 b w.heap.size with V | V
   ·exact jR V J.size
   ·simp only [g3, Nat.not_lt.2 V, if_false] at hO;cases x3 : O' b with
    | none => simp [x3] at hO
    | some q => exact hs.ob.1 b q x3
 refine hK v w' g3 ⟨Im.le_refl _, fun n hn => ?_, v9, J⟩ ?_ v8 (fun k' B hB => ?_)
 ·grind
 ·have v4 := zW hv;rcases p1.2 with ⟨e, _⟩ | ⟨b, cap, cur, e, _⟩ <;>
  ·have e : ρ' 5 = _ := e;rw [xT] at e;rw [e];exact .own k _ _ _ (by simp [g3, e])
 ·injection hB with hB; injection hB with e3 e4; subst e3; subst e4;have v5 : g3.ρ k = v := by simp [g3]
  refine ⟨xs', by simp_all, p2, fun j x q c u hx hc hu => (p3 j x q c u hx hc hu).flat (zaX (x2 x) hc), fun b V => ?_⟩;rw [v5, ← xT] at V;obtain ⟨q1, q2⟩ := x4 b V;refine ⟨by grind, .inl (jQ T.ext.size q2)⟩
def y5 {α : Type} {enc : α -> List AV} {l : List α} {u : α} {t : TypeId} {x : Operand} {k s i j n : Nat} {E : TypeId} {ys : List AV} (hx : ev st x = some (.ptr k s i j)) (hk : lk st.h k = some (.row enc l E s)) (I : l[i]? = some u) (hy : ((enc u).drop j).take n = ys) (hl : ys.length = n) (hj : j + n <= s) (hn : AV.nm.nmL ys = true)
 (ht : tyOk P t true n = true) : Pur P C (.load t x) ty st (.agg ys) := fun g a w dst pos af gd hr => by
 obtain ⟨b, hb, e⟩ := zaa (yr hr hx);obtain ⟨xs, H, h1, G, h3⟩ := hr.sat.blk k _ hk;rcases H.2 with ⟨hv, _⟩ | ⟨b', cap, cur, hv, _, hh, x4, _, xT, T⟩
 ·simp_all
 ·have : b' = b := by simp_all [y7]
  subst this;have N : i < l.length := (j1.1 I).1
  have x3 : i * s + s <= l.length * s := by
   have G : (i + 1) * s <= l.length * s := jS s N
   grind
  have x2 : xs.length = l.length * s := H.1;have Z : ((xs.drop (i * s + j)).take n).length = n := by grind
  have V : ∀ q, q < n -> ((xs.drop (i * s + j)).take n)[q]? = xs[i * s + (j + q)]? := fun q U => by
   grind
  refine ⟨.agg ((xs.drop (i * s + j)).take n).toArray, ?_, .agg _ _ (by rw [Z, hl]) (fun q c v hc hv => ?_)⟩
  ·have := zG (P := P) (t := t) ht (b := b') (o := i * s + j) (w := w) (vs := (xs.drop (i * s + j)).take n) Z (fun q v hv => by
    have U : q < n := by rw [← Z]; exact (j1.1 hv).1
    rw [V q U] at hv;simp only [World.cell?, hh]
    have h0 : cur.toList[i * s + j + q]? = some v := by
     rw [← hv];conv => rhs; rw [← T]
     rw [w5, j4 (by omega), vE]
    simpa using h0)
   simp_all [execOp, Instr.loadAt, Instr.sureAddr]
  ·have U : q < n := by grind
   rw [V q U] at hv
   have J : (enc u)[j + q]? = some c := by
    grind
   exact (G i u (j + q) c v I J hv).forget (zr hn hc)
def zkb {f : FuncId} {x : Operand} {k s i j : Nat} (hx : ev st x = some (.ptr k s i j)) : Pur P C (.makeFunc (.func f) #[x] #[]) ty st (.mth f k s i j) := fun g a w dst pos af gd hr => by
 obtain ⟨b, Z, e⟩ := zaa (yr hr hx);exact ⟨.func (.func f) #[.pointer (some ⟨b, i * s + j, none⟩)] #[], by simp [execOp, Instr.makeFunc, e], .mth f k s i j b Z⟩
def zuz {dst : Option Tmp} {fop : Operand} {args : Array Operand} {ts : Array TypeId} {f : FuncId} {k s i j : Nat} {xs az : List AV} {hs Z : List (Nat × Blk)} {kp : List Nat} {r : AV}
 (μ : List (Nat × Nat)) (h : FnO P f az hs kp r Z) (hf : ev st fop = some (.mth f k s i j) := by exact rfl) (hx : evs st args.toList = some xs := by exact rfl) (hμ : biOk μ = true := by exact rfl) (G : LeL (.ptr k s i j :: xs) (az.map (AV.ren μ)) := by exact LeL.refl _) (E : az.all (AV.okN (keys hs)) = true := by exact rfl) (xT : r.okN (keys Z) = true := by exact rfl)
 (x4 : zaG st μ (keys hs) hs := by repeat' (first | exact True.intro | refine And.intro ⟨_, _, rfl, rfl, LeB.refl _, rfl⟩ ?_)) (N : (Z.all fun p => (fwd μ p.1).isSome && p.2.okNB (keys Z)) = true := by exact rfl)
 (J : (μ.all fun p => kp.any (·.beq p.1) || (hs.any (·.1.beq p.1) && !(Z.any (·.1.beq p.1))) || (!(hs.any (·.1.beq p.1)) && st.fr p.2)) = true := by exact rfl)
 (x3 : (kp.all fun n => hs.any (·.1.beq n)) = true := by exact rfl) (hd : dOk C.n dst = true := by exact rfl) :
 yq P C (.call { callee := .value fop, args := args, argTypes := ts }) ty dst st (zbI st μ hs Z dst r) := fun g a w pos af gd hr K hK => by
 obtain ⟨b, hb, e⟩ := zsz (yr hr hf);have V := zeB hr hx
 have U : RVL g.I g.ρ [.ptr k s i j] [.pointer (some ⟨b, i * s + j, none⟩)] := ⟨rfl, fun q c v hc hv => by
  match q with
  | 0 => simp at hc hv; subst hc; subst hv; exact .ptr k s i j b hb
  | q + 1 => simp at hc⟩
 have H : RVL g.I g.ρ (az.map (AV.ren μ)) ([.pointer (some ⟨b, i * s + j, none⟩)] ++ args.toList.map a.eval) := G.rvl (U.append V)
 have h0 := zmP (T := Calls P f) (dst := dst) (fun h hm => Calls.mono h hm) μ h.r.2 hμ E xT x4 (fun p hp => by have := jB.1 N p hp; simpa using this) (fun p hp => by
  have := jB.1 J p hp;simp only [w8, j7, wD] at this;rcases this with (U | U) | U
  ·exact .inl U
  ·exact .inr (.inl U)
  ·exact .inr (.inr U)) (fun n hn => jB.1 x3 n hn) hd hr H
 have e2 : (execOp a.eval { dst := dst, op := .call { callee := .value fop, args := args, argTypes := ts }, type := ty, pos := pos, after := af, guard := gd }).run P w = .ok (.enter f (([.pointer (some ⟨b, i * s + j, none⟩)] : List Value) ++ args.toList.map a.eval).toArray) w := by
  simp only [execOp, resolve, e, Deferred.ofValue, jL, jO, jD, invoke, zN h.1];simp [← Array.toList_map]
 unfold wp1
 grind [Calls.mono, zbN]
def zhr {κ α : Type} (b : Nat) (kenc : κ -> AV) (venc : α -> AV) (L : List (κ × α)) : Hyp := fun _ _ w =>
 b < w.heap.size /\ ∃ es ck, w.heap[b]? = some (.map es ck) /\ es.size = L.length /\ ∀ (i : Nat) e p, es[i]? = some e -> L[i]? = some p -> RV (fun _ _ => none) noNames (kenc p.1) e.key /\ RV (fun _ _ => none) noNames (venc p.2) e.val
def zhr.now {κ α : Type} {b : Nat} {kenc : κ -> AV} {venc : α -> AV} {L : List (κ × α)} {I : Im} {O : Owns} (h : zhr b kenc venc L I O C.w0) (V : C.ds = []) (U : ∀ b n, C.g0.O b ≠ some (C.d, n)) {g : Gh} {a : Act} {w : World} (hr : Rel C st g a w) : zhr b kenc venc L g.I g.O w := by
 obtain ⟨T, es, ck, J, H, G⟩ := h
 obtain ⟨e1, e2⟩ := hr.ext.keep b T (fun Z => by
  rcases Z with Z | ⟨n, Z⟩
  ·exact absurd Z (xN.2 T)
  ·exact U b n Z) (fun ⟨y, n, N, _⟩ => by rw [V] at N; simp at N)
 grind [zhr]
def zoU {α : Type} {venc : α -> AV} {l : List (Int × α)} {t K E : TypeId} {x y : Operand} {b : Nat} {q : Int} (z0 : α) {I : Im} {O : Owns} (hm : zhr b (fun i : Int => .int .i64 i) venc l I O C.w0) (U : ∀ b n, C.g0.O b ≠ some (C.d, n)) (ht : mpOk P t K E) (hd : ∃ d, P.underlying K = some (.int d) /\ d = .i64) (hz : ∃ z i, P.info? E = some i /\ i.zero = some z /\ ∀ I, RV I noNames (venc z0) z)
 (hf : ∀ v, (venc v).flat = true := by intro v; rfl) (T : C.ds = [] := by rfl) (hx : ev st x = some (.val (.map (some b))) := by exact rfl) (hy : ev st y = some (.int .i64 q) := by exact rfl) :
 Pur P C (.lookup t x y false) ty st (venc ((mget q l).getD z0)) := fun g a w dst pos af gd hr => by
 obtain ⟨_, es, ck, H, h5, G⟩ := hm.now T U hr;have ex := zbD (yr hr hx);have ey := y8 (yr hr hy);obtain ⟨d, Z, rfl⟩ := hd;obtain ⟨z, i, hi, N, J⟩ := hz;have V : ∀ (j : Nat) e p, es.toList[j]? = some e -> l[j]? = some p -> e.key = .int .i64 p.1 := fun j e p he hp => y8 (G j e p (by simpa using he) hp).1
 rcases zgN (q := q) (d := .i64) l es.toList 0 (by simpa using h5) V with ⟨m1, m2⟩ | ⟨j, e, v, m1, m2, m3, m4⟩
 ·refine ⟨z, ?_, ?_⟩
  ·simp [execOp, ex, ey, Instr.lookup, run_underlying ht.1, MapKept.run_getObj_map H, MapKept.run_checkKey Z (show MapKept.IsKey (.int .i64) (.int .i64 q) from rfl), MapKept.run_findKey Z m2, Result.andThen, zeroValue, typeInfo, hi, N]
  ·have e1 : (mget q l).getD z0 = z0 := by simp [mget, m1]
   rw [e1]; exact (J g.I).flat (hf _)
 ·simp only [uN] at m1 m2;refine ⟨e.val, ?_, ?_⟩
  ·simp [execOp, ex, ey, Instr.lookup, run_underlying ht.1, MapKept.run_getObj_map H, MapKept.run_checkKey Z (show MapKept.IsKey (.int .i64) (.int .i64 q) from rfl), MapKept.run_findKey Z m2, Result.andThen]
  ·have e1 : (mget q l).getD z0 = v := by simp [mget, m1]
   rw [e1]; exact (G j e (q, v) (by simpa using m3) m4).2.flat (hf _)
def frzM (k b : Nat) : AV -> AV
 | .mp k' => bif k'.beq k then .val (.map (some b)) else .mp k'
 | x => cln k x
def zq2 {κ α : Type} {kenc : κ -> AV} {venc : α -> AV} {L : List (κ × α)} {k : Nat} {stF : Nat -> St} (E : lk st.h k = some (.mpb kenc venc L)) (hi : ∀ b, Imp C ⟨mapT (frzM k b) st.t, (k, .dead) :: mapH (frzM k b) st.h⟩ (stF b)) (Z : ∀ x, (kenc x).flat = true) (V : ∀ x, (venc x).flat = true) {g : Gh} {a : Act} {w : World} (hr : Rel C st g a w) :
 ∃ b gF, Rel C (stF b) gF a w /\ zhr b kenc venc L gF.I gF.O w := by
 obtain ⟨b, es, ck, h1, h2, h3, N, h5, H⟩ := hr.sat.blk k _ E
 have hJ : (fun b' o => if b' = b then (none : Option Value) else g.I b' o) = g.I := by
  funext b' o;split
  ·rename_i e;cases hI : g.I b' o with
   | none => rfl
   | some u => have := (hr.sat.im b' o u hI).2; simp_all
  ·rfl
 have U := hr.letgo (b := b) (J := fun _ => none) (frzM k b) ⟨h2, h3⟩ (fun o v hv => by cases hv) fun x v hx => by
  rw [hJ];cases x with
  | mp k' =>
   obtain ⟨b', e1, e2⟩ := zf0 hx;show RV g.I g.ρ (bif k'.beq k then .val (.map (some b)) else .mp k') v;cases hb : k'.beq k
   ·exact hx
   ·have : k' = k := by simpa using hb
    subst this;rw [h1] at e2; injection e2 with e2; injection e2 with e2; subst e2;rw [e1]; exact .val _
  | _ => exact hx.cln (fun _ _ => rfl)
 obtain ⟨gF, T⟩ := hi b _ _ _ U;exact ⟨b, gF, T, za N, es, ck, N, h5.1, fun i e p he G => ⟨(H i e p he G).1.flat (Z _), (H i e p he G).2.flat (V _)⟩⟩
def zoi {stF : St} (hi : Imp C st stF) {g : Gh} {a : Act} {w : World} (hr : Rel C st g a w) : ∃ (_ : Unit) (gF : Gh), Rel C stF gF a w /\ (fun (_ : Im) (_ : Owns) (_ : World) => True) gF.I gF.O w :=
 let ⟨g', h⟩ := hi g a w hr; ⟨(), g', h, trivial⟩
def zyG {H : Hyp} (Z : ∀ g a w, Rel C st g a w -> H g.I g.O w) {g : Gh} {a : Act} {w : World} (hr : Rel C st g a w) : ∃ (_ : Unit) (gF : Gh), Rel C st gF a w /\ H gF.I gF.O w := ⟨(), g, hr, Z g a w hr⟩
end
section
variable {P : Program} {C : Ctx} {st : St} {ty : TypeId} {Q : Exit -> St -> Prop} {ops : Array Oper} {i : Nat} {fs : List FactM} {o : Oper} {x : AV} {nb : Option (Nat × Blk)}
def ChM.lg {ms : List Nat} {hid : List Nat} {m : Nat} {d gi t : Nat} {want b : Bool} {g0 : List (Nat × Bool)} {f : FuncId} {caps xs : List AV} {fop : Operand} {args : Array Operand} {ts : Array TypeId} {H : Hyp} (J : ∀ st g a w, Rel C st g a w -> H g.I g.O w) (G : FnW P f (xs ++ caps) x H) (h : ChM P C ops ms st hid Q (i + 1) (⟨i, some d, x, none, m, (gi, want) :: g0⟩ :: fs)) (hm : ms[i]? = some m := by exact rfl) (ho : ops[i]? = some o := by exact rfl) (E : o.guard = some (gi, want) := by exact rfl) (Z : o.dst = some d := by exact rfl) (hi : (ops[gi]?).bind (·.dst) = some t := by exact rfl)
 (xT : zcr fs gi = g0 := by first | exact (rfl : _ = []) | exact (rfl : _ = [_]) | exact (rfl : _ = [_, _]) | exact (rfl : _ = [_, _, _])) (hb : lk (stR st hid m fs).t t = some (optV (zb fs g0) g0 (.bool b)) := by exact rfl) (V : zaR fs gi want = (b == want) := by exact rfl) (U : zcY fs ((gi, want) :: g0) = true := by exact rfl)
 (T : o.op = .call { callee := .value fop, args := args, argTypes := ts } := by exact rfl) (hf : ev (stV st hid m fs ((gi, want) :: g0)) fop = some (.fn f caps) := by exact rfl) (hx : evs (stV st hid m fs ((gi, want) :: g0)) args.toList = some xs := by exact rfl) (hn : AV.nm.nmL (xs ++ caps) = true := by exact rfl) (N : x.flat = true := by exact rfl) (hd : d.blt C.n = true := by exact rfl) : ChM P C ops ms st hid Q i fs :=
 .guard hm ho E hi hb rfl V (zaW U) (fun e => by rw [T]; exact zwk (ι := Unit) (H := fun _ => H) (stF := fun _ => stV st hid m fs ((gi, want) :: g0)) (fun g a w hr => zyG (J _) hr) (caps := fun _ => caps) (xs := fun _ => xs) (fun _ => G) (fun _ => hf) (fun _ => hx) (fun _ => hn) (fun _ => LeL.refl _) N) (by rw [Z]; exact hd) (by rw [Z]; exact h)
end
end Go.Rse
namespace Go.Rse
open Go Go.RowKit
open Go.ChangeMaps (setBlock)
section plain
variable {κ α : Type} [DecidableEq κ]
def kix (q : κ) : List (κ × α) -> Nat -> Option Nat
 | [], _ => none
 | p :: r, i => if q = p.1 then some i else kix q r (i + 1)
def kput (q : κ) (x : α) (l : List (κ × α)) : List (κ × α) := match kix q l 0 with
 | some i => l.set i (q, x)
 | none => l ++ [(q, x)]
def zmd {P : Program} {w : World} {K : TypeId} {kv : κ -> Value} {q : κ} (Z : ∀ x y, (Op.equal K (kv x) (kv y)).run P w = .ok (decide (x = y)) w) : ∀ (l : List (κ × α)) (es : List MapEntry) (i : Nat), es.length = l.length -> (∀ (j : Nat) e p, es[j]? = some e -> l[j]? = some p -> e.key = kv p.1) →
 (kix q l i = none /\ (Instr.findAsking K (kv q) es i).run P w = .ok none w) \/ ∃ j e x, kix q l i = some (i + j) /\ (Instr.findAsking K (kv q) es i).run P w = .ok (some (i + j, e.val)) w /\ es[j]? = some e /\ l[j]? = some (q, x)
 | [], [], i, _, _ => .inl ⟨rfl, rfl⟩
 | [], _ :: _, i, h, _ => by simp at h
 | _ :: _, [], i, h, _ => by simp at h
 | p :: l, e :: es, i, hl, J => by
  have U : e.key = kv p.1 := J 0 e p rfl rfl;have he := Z q p.1;rw [← U] at he;by_cases T : q = p.1
  ·refine .inr ⟨0, e, p.2, by simp [kix, T], ?_, rfl, by rw [T]; rfl⟩;simp_all [Instr.findAsking]
  ·rcases zmd Z (q := q) l es (i + 1) (by simpa using hl) (fun j e' p' V N => J (j + 1) e' p' V N) with ⟨V, N⟩ | ⟨j, e', x, V, N, I, H⟩
   ·simp_all [kix, Instr.findAsking]
   ·refine .inr ⟨j + 1, e', x, by simp [kix, T, V]; omega, ?_, I, H⟩
    grind [Instr.findAsking, Sem.run_bind, Result.andThen_ok]
def zoV (q : κ) (x : α) (l : List (κ × α)) : (kput q x l).map (·.1) = if q ∈ l.map (·.1) then l.map (·.1) else l.map (·.1) ++ [q] := by
 have key : ∀ (l : List (κ × α)) (i : Nat), (kix q l i = none /\ q ∉ l.map (·.1)) \/ ∃ j y, kix q l i = some (i + j) /\ l[j]? = some (q, y) := by
  intro l
  induction l with
  | nil => grind [kix]
  | cons p l ih =>
   intro i;by_cases U : q = p.1
   ·exact .inr ⟨0, p.2, by simp [kix, U], by rw [U]; rfl⟩
   ·rcases ih (i + 1) with ⟨Z, V⟩ | ⟨j, y, Z, V⟩
    ·simp_all [kix]
    ·exact .inr ⟨j + 1, y, by simp [kix, U, Z]; omega, V⟩
 unfold kput;rcases key l 0 with ⟨Z, V⟩ | ⟨j, y, Z, V⟩
 ·simp_all
 ·rw [uN] at Z;rw [Z, j4 (jV.2 ⟨_, j6 V, rfl⟩)];simp only;apply uK
  grind
end plain
structure KeyL (P : Program) (K : TypeId) {κ : Type} [DecidableEq κ] (kenc : κ -> AV) (kv : κ -> Value) : Prop where
 val : ∀ I ρ x v, RV I ρ (kenc x) v -> v = kv x
 of : ∀ I ρ x, RV I ρ (kenc x) (kv x)
 chk : ∀ em w x, (Instr.checkKey em 10000 K (kv x)).run P w = .ok () w
 wide : (match P.underlying K with | some (.array _ _) | some (.struct _) => true | _ => false) = true
 eq : ∀ w x y, (Op.equal K (kv x) (kv y)).run P w = .ok (decide (x = y)) w
 stay : ∀ w x, (Instr.keyThatStays (kv x) (kv x)).run P w = .ok (kv x) w
section
variable {P : Program} {C : Ctx} {st : St} {ty : TypeId} {Q : Exit -> St -> Prop}
def zdY {κ α : Type} [DecidableEq κ] {kenc : κ -> AV} {kv : κ -> Value} {venc : α -> AV} {l : List (κ × α)} {t K E : TypeId} {x y z : Operand} {k : Nat} {q : κ} {u c : AV} (v : α) (L : KeyL P K kenc kv) (hx : ev st x = some (.mp k)) (hk : lk st.h k = some (.mpb kenc venc l)) (hy : ev st y = some c) (hc : c = kenc q)
 (hz : ev st z = some u) (hu : u = venc v) (ht : P.underlying t = some (.map K E)) (hf : ∀ v k, (venc v).fr k = true) :
 yq P C (.mapUpdate t x y z) ty none st (putH st k (.mpb kenc venc (kput q v l))) := fun g a w pos af gd hr K' hK => by
 subst hc;obtain ⟨b, es, ck, G, T, N, V, J, h6⟩ := hr.sat.blk k _ hk
 have ex : a.eval x = .map (some b) := by
  obtain ⟨b', e1, e2⟩ := zf0 (yr hr hx);rw [e1, ← e2, G]
 have ey : a.eval y = kv q := L.val _ _ _ _ (yr hr hy);have ez : RV g.I noNames (venc v) (a.eval z) := (hu ▸ yr hr hz).forget' (hf v);have Z : ∀ (j : Nat) e p, es.toList[j]? = some e -> l[j]? = some p -> e.key = kv p.1 := fun j e p he U => L.val _ _ _ _ (h6 j e p (by simpa using he) U).1
 have H := run_findKey_eq w L.wide (kv q) es.toList;rcases zmd (P := P) (w := w) (q := q) (L.eq w) l es.toList 0 (by simpa using J.1) Z with ⟨m1, m2⟩ | ⟨j, e, v0, m1, m2, m3, m4⟩
 ·rw [m2] at H
  have er : (Instr.mapUpdate t (.map (some b)) (kv q) (a.eval z)).run P w = .ok () { w with heap := w.heap.setIfInBounds b (.map (es.push { key := kv q, val := a.eval z, born := ck }) (ck + 1)) } := by
   simp [Instr.mapUpdate, run_underlying ht, MapKept.run_getObj_map V, L.chk, H, MapKept.run_setObj_map _ V, Result.andThen]
  simp only [wp1, execOp, ex, ey, jL, er, jD, jO, zbN];refine hK _ _ _ (hr.modify T N (zbJ V) (jC _) ⟨b, _, _, G, T, N, (MapKept.heap_set V).1, ⟨?_, ?_, ?_⟩, ?_⟩)
  ·simp [kput, m1, J.1]
  ·simp [kput, m1, J.2.1]
  ·grind
  ·intro i e p he U;simp only [kput, m1] at U;rw [Array.getElem?_push] at he;rw [uI] at U;have x4 := J.1;by_cases hi : i < es.size
   ·grind
   ·split at he
    ·next hie =>
     injection he with he; subst he;rw [j3 (by omega)] at U;have : i - l.length = 0 := by omega
     rw [this] at U; simp at U; subst U;exact ⟨L.of _ _ _, ez⟩
    simp_all
 ·simp only [uN] at m1 m2;rw [m2] at H;have xT : e.key = kv q := Z j e _ m3 m4;have hj : es[j]? = some e := by simpa using m3
  have er : (Instr.mapUpdate t (.map (some b)) (kv q) (a.eval z)).run P w = .ok () { w with heap := w.heap.setIfInBounds b (.map (es.modify j fun e => { e with key := kv q, val := a.eval z }) ck) } := by
   simp [Instr.mapUpdate, run_underlying ht, MapKept.run_getObj_map V, L.chk, H, hj, xT, L.stay, MapKept.run_setObj_map _ V, Result.andThen]
  simp only [wp1, execOp, ex, ey, jL, er, jD, jO, zbN];refine hK _ _ _ (hr.modify T N (zbJ V) (jC _) ⟨b, _, _, G, T, N, (MapKept.heap_set V).1, ⟨?_, ?_, ?_⟩, ?_⟩);all_goals grind [kput]
def zwl {ops : Array Oper} {rest : List Oper} {d : Nat} {pos : String} {af : Array Edge} {κ α : Type} {kenc : κ -> AV} {venc : α -> AV} {l : List (κ × α)} {t K E : TypeId} {x : Operand} {k : Nat} (kh : Nat)
 (h : ∀ b bm, Ex P C ops rest ⟨(d, .val (.pointer (some ⟨b, 0, none⟩))) :: st.t, (kh, .hold [.map (some bm)] [.mp k]) :: (d, .obj b (.mapIter (some bm) l.length #[] l.length)) :: st.h⟩ Q)
 (hx : ev st x = some (.mp k) := by exact rfl) (T : lk st.h k = some (.mpb kenc venc l) := by exact rfl) (ht : P.underlying t = some (.map K E) := by exact rfl) (J : dOk C.n (some d) = true := by exact rfl) (I : st.fr d = true := by exact rfl) :
 Ex P C ops ({ dst := some d, op := .range t x, type := ty, pos := pos, after := af, guard := none } :: rest) st Q := fun g a w hr => by
 obtain ⟨b, es, ck, N, h2, h3, H, G, h6⟩ := hr.sat.blk k _ T
 have ex : a.eval x = .map (some b) := by
  obtain ⟨b', e1, e2⟩ := zf0 (yr hr hx);rw [e1, ← e2, N]
 have Z : k ≠ d := fun e => by
  subst e;have := (zcP (k := k) (l := st.h) (by simp_all [St.fr]) T).2;exact this rfl
 have er := run_range_map w t K E b es ck ht H;rw [G.2.1] at er;refine wpListIn_plain rfl fun K' hK => zau ?_
 simp only [wp1, execOp, ex, jL, er, jD, jO, zbN];refine hK _ _ ?_
 have h7 : Rel C (addSt st (some d) (.val (.pointer (some ⟨w.heap.size, 0, none⟩))) (some (d, .obj w.heap.size (.mapIter (some b) l.length #[] l.length)))) (g.nw C.d w.heap.size d .nilIface) (a.put (some d) (.pointer (some ⟨w.heap.size, 0, none⟩))) (w.alloc (.mapIter (some b) l.length #[] l.length)) :=
  hr.addSt (Add.nw (Grow.alloc _ _) C.d d _) J I (.val _) (ImOB.nw ⟨hr.sat.im, hr.sat.ob⟩ (Grow.alloc _ _) (by simp) C.d d _).1 (ImOB.nw ⟨hr.sat.im, hr.sat.ob⟩ (Grow.alloc _ _) (by simp) C.d d _).2 fun k' B V => by
   injection V with V; injection V with e1 e2; subst e1; subst e2;exact ⟨heap_alloc_new w _, by simp [Gh.nw], .inl hr.ext.size⟩
 exact h _ _ _ _ _ (h7.withBlk (k := kh) (B := .hold [.map (some b)] [.mp k]) ⟨rfl, fun j c v U hv => by
  cases j with
  | zero => simp at U hv; subst U; subst hv; exact .mp k b (by simp [Gh.nw, Z, N])
  | succ j => simp at U⟩)
def Ex.nxt {ops : Array Oper} {rest : List Oper} {d e : Nat} {ty' : TypeId} {pos pos' : String} {af af' : Array Edge} {κ α : Type} {kenc : κ -> AV} {venc : α -> AV} {l : List (κ × α)} {x : Operand} {k b bm kb kh c0 : Nat} {seen : Array Nat}
 (h : ∀ (mo : Bool) (i : Nat), (mo = false -> ∀ i, i < l.length -> seen.contains i = true) -> (mo = true -> i < l.length /\ seen.contains i = false) →
  Ex P C ops rest ⟨(e, .bool mo) :: (d, .any) :: st.t, (kb, .obj b (.mapIter (some bm) l.length (bif mo then seen.push i else seen) (bif mo then l.length else c0))) :: st.h⟩ Q)
 (hc : l.length <= c0 := by exact jC _)
 (hx : ev st x = some (.val (.pointer (some ⟨b, 0, none⟩))) := by exact rfl) (hb : lk st.h kb = some (.obj b (.mapIter (some bm) l.length seen c0)) := by exact rfl) (hh : lk st.h kh = some (.hold [.map (some bm)] [.mp k]) := by exact rfl) (hk : lk st.h k = some (.mpb kenc venc l) := by exact rfl)
 (hd : dOk C.n (some d) = true := by exact rfl) (he : dOk C.n (some e) = true := by exact rfl) :
 Ex P C ops ({ dst := some d, op := .next x false, type := ty, pos := pos, after := af, guard := none } :: { dst := some e, op := .extract (.tmp d) 0, type := ty', pos := pos', after := af', guard := none } :: rest) st Q := fun g a w hr => by
 obtain ⟨b', es, ck, h1, h2, h3, h4, E, h6⟩ := hr.sat.blk k _ hk;obtain ⟨q1, q2, q3⟩ := hr.sat.blk kb _ hb
 have xT : bm = b' := by
  obtain ⟨_, q⟩ := hr.sat.blk kh _ hh;obtain ⟨b2, e1, e2⟩ := zf0 (q 0 _ _ rfl rfl);simp_all
 subst xT;have ex : a.eval x = .pointer (some ⟨b, 0, none⟩) := zbD (yr hr hx)
 have x4 : ∀ y ∈ es.toList, ∃ i, es[i]? = some y /\ i < l.length := fun y hy => by
  simp_all [jP, wC]
 have U : d < a.tmps.size := by rw [hr.size]; simpa [dOk] using hd
 have fin : ∀ (mo : Bool) (i : Nat) (w1 w2 : World) (v : Value), (mo = false -> ∀ i, i < l.length -> seen.contains i = true) -> (mo = true -> i < l.length /\ seen.contains i = false) -> (w1 = w \/ w1 = w.drew) →
  w2 = (bif mo then setBlock w1 b (.mapIter (some bm) l.length (seen.push i) l.length) else w1) -> (Instr.next (.pointer (some ⟨b, 0, none⟩)) false ty).run P w = .ok v w2 -> (∃ r, v = .tuple r /\ r[0]? = some (.bool mo)) →
  wpListIn C.F 0 P ops (lift C Q) ({ dst := some d, op := .next x false, type := ty, pos := pos, after := af, guard := none } :: { dst := some e, op := .extract (.tmp d) 0, type := ty', pos := pos', after := af', guard := none } :: rest) a w := by
  intro mo i w1 w2 v x3 x2 T x1 N hv;obtain ⟨r, rfl, x0⟩ := hv;refine wpListIn_plain rfl fun K' hK => zau ?_
  simp only [wp1, execOp, ex, jL, N, jD, jO, zbN];refine hK _ _ ?_;refine wpListIn_plain rfl fun K' hK => zau ?_
  have ee : (a.put (some d) (.tuple r)).eval (.tmp d) = .tuple r := by
   simp [Act.eval, Act.put, U]
  simp only [wp1, execOp, ee, Instr.extract, x0, jL, jD, jO, zbN];refine hK _ _ ?_
  have J : Rel C st g a w1 := by
   rcases T with rfl | rfl
   ·exact hr
   ·exact hr.add (nk := none) (d := none) (x := .any) (v := .nilIface) ⟨Im.le_refl _, fun _ _ => rfl, fun _ _ => rfl, Grow.drew w⟩ (fun k h => by simp at h) (fun t h => by simp at h) (.any _) hr.sat.im hr.sat.ob
  have I : w1.heap[b]? = w.heap[b]? := by rcases T with rfl | rfl <;> rfl
  have Z : Rel C (putH st kb (.obj b (.mapIter (some bm) l.length (bif mo then seen.push i else seen) (bif mo then l.length else c0)))) g a w2 := by
   subst x1;cases mo with
   | false => exact J.withBlk ⟨I.trans q1, q2, q3⟩
   | true =>
    refine J.modify q2 q3 ⟨rfl, rfl, rfl, by simp [setBlock], fun j hj v4 => ?_⟩ (jC _) ⟨?_, q2, q3⟩;all_goals grind [setBlock]
  have V := Z.addSt (nb := none) (d := some d) (x := .any) (v := .tuple r) (Add.refl _ g w2) hd rfl (.any _) Z.sat.im Z.sat.ob (fun _ _ h => by cases h);have v9 := V.addSt (nb := none) (d := some e) (x := .bool mo) (v := .bool mo) (Add.refl _ g w2) he rfl (.bool _) V.sat.im V.sat.ob (fun _ _ h => by cases h);exact h mo i x3 x2 g _ w2 v9
 rcases run_next_at (P := P) w ty b bm l.length c0 seen es ck q1 h4 (fun y hy => by
  grind) hc with ⟨n1, n2⟩ | ⟨y, n1, w1, n2, n3⟩
 ·refine fin false 0 w w _ (fun _ i hi => ?_) (by simp) (.inl rfl) rfl n2 ⟨_, rfl, rfl⟩;have H : i < es.size := by rw [E.1]; exact hi
  cases v8 : seen.contains i with
  | true => rfl
  | false =>
   have hm : es[i] ∈ leftOf es seen := by
    unfold leftOf;refine Array.mem_filter.2 ⟨Array.getElem_mem H, ?_⟩;rw [E.2.2 i _ (jW H), v8]; rfl
   simp_all
 ·have hl := mem_left n1;obtain ⟨i, hi, v5⟩ := x4 y hl.1;have G := E.2.2 i y hi;rw [G, E.2.1] at n3;rw [G] at hl;exact fin true i w1 _ _ (by simp) (fun _ => ⟨v5, hl.2⟩) n2 rfl n3 ⟨_, rfl, rfl⟩
def zsK {κ α : Type} {kenc : κ -> AV} {venc : α -> AV} {l : List (κ × α)} {x : Operand} {k b bm kb kh i : Nat} {seen : Array Nat} (p : κ × α) (G : l[i]? = some p)
 (hx : ev st x = some (.val (.pointer (some ⟨b, 0, none⟩)))) (E : lk st.h kb = some (.obj b (.mapIter (some bm) l.length (seen.push i) l.length))) (hh : lk st.h kh = some (.hold [.map (some bm)] [.mp k])) (hk : lk st.h k = some (.mpb kenc venc l))
 (hf : ∀ v k, (kenc v).fr k = true) (hg : ∀ v k, (venc v).fr k = true) :
 Pur P C (.entry x) ty st (.tup [kenc p.1, venc p.2]) := fun g a w dst pos af gd hr => by
 obtain ⟨b', es, ck, h1, h2, h3, h4, U, h6⟩ := hr.sat.blk k _ hk;obtain ⟨q1, q2, q3⟩ := hr.sat.blk kb _ E
 have T : bm = b' := by
  obtain ⟨_, q⟩ := hr.sat.blk kh _ hh;obtain ⟨b2, e1, e2⟩ := zf0 (q 0 _ _ rfl rfl);simp_all
 subst T;have ex : a.eval x = .pointer (some ⟨b, 0, none⟩) := zbD (yr hr hx);have Z : i < es.size := by grind
 have hi : es[i]? = some es[i] := jW Z;have N := U.2.2 i _ hi;rw [← N, ← U.2.1] at q1;rw [U.2.1] at q1
 have J : (es.toList.map (·.born)).Nodup := by
  have : es.toList.map (·.born) = List.range es.size := by
   apply uK;intro j;rw [jK, uS];by_cases I : j < es.size
   ·rw [uY I, jW I];exact j5 some (U.2.2 j _ (jW I))
   ·rw [vZ (by omega), wL (by simp; omega)]; rfl
  grind
 have H := run_entry_at (P := P) w b bm l.length seen es ck es[i] (by simp_all) h4 (Array.getElem_mem Z |> Array.mem_toList_iff.2) J;obtain ⟨r1, r2⟩ := h6 i _ p hi G;refine ⟨.tuple #[es[i].key, es[i].val], ?_, ?_⟩
 ·simp_all [execOp]
 ·refine .tup _ [es[i].key, es[i].val] rfl fun j c u V hv => ?_
  rcases j with _ | _ | j
  ·simp at V hv; subst V; subst hv; exact r1.forget' (hf _)
  ·simp at V hv; subst V; subst hv; exact r2.forget' (hg _)
  ·simp at V
end
end Go.Rse
namespace Go.Rse
open Go Go.RowKit
section
variable {P : Program} {C : Ctx} {st : St} {ty : TypeId}
end
def zX {P : Program} {C : Ctx} {Q : Exit -> St -> Prop} {st : St} {c : Code} (I : Nat -> List (Nat × AV)) (H : Nat -> List (Nat × Blk)) (J : Nat -> Prop) (n : Nat) (h : ∀ i, J i -> X P C c ⟨I i, H i⟩ (zdC (fun st' => ∃ i', Imp C st' ⟨I i', H i'⟩ /\ J i' /\ n - i' < n - i) Q)) (hJ : J 0 := by first | trivial | omega | (refine ⟨?_, ?_⟩ <;> omega)) (h0 : Imp C st ⟨I 0, H 0⟩ := by exact yk) : X P C (.loop c) st Q := zdW I H J (fun k => n - k) 0 h hJ h0
def zq {P : Program} {C : Ctx} {Q : Exit -> St -> Prop} {st : St} {c : Code} (I : Nat -> List (Nat × AV)) (H : Nat -> List (Nat × Blk)) (n : Nat) (h : ∀ i, i <= n -> X P C c ⟨I i, H i⟩ (zdC (fun st' => ∃ i', Imp C st' ⟨I i', H i'⟩ /\ i' <= n /\ n - i' < n - i) Q)) (h0 : Imp C st ⟨I 0, H 0⟩ := by exact yk) : X P C (.loop c) st Q := zdW I H (fun k => k <= n) (fun k => n - k) 0 h (wF _) h0
def zE {p : Prop} {α : Sort _} {a b : α} (q : a = b) (h : a = b -> p := by intro q; first | (rw [q]; done) | (rw [q]; rfl)) : p := h q
def zR {p : Prop} (h : p := by first | rfl | (simp_all; done)) : p := h
structure Hd (Q : Prop) : Prop where
 h : Q
def gq {P Q : Prop} (k : Q) (h : Hd Q → P := by intro k; (repeat' (first | apply yE | apply zj3 | apply ye | apply Ex.nil | apply yg | apply yi | apply yl | apply X.block | apply X.ret | apply X.exit | apply X.scope | (show Ex _ _ _ (_ :: _) _ _; first | refine ya ?_ | refine zF ?_ | refine zh ?_ | refine Ex.mo ?_) | (show ExF _ _ _ _ _ _ _; first | refine ExF.gi ?_ | refine ym ?_) | (show RetQ _ _ [.tmp _] _ _ _; refine zav ?_))); exact k.h) : P := h ⟨k⟩
def gd {P Q R : Prop} (k : Q) (l : R) (h : Hd Q → Hd R → P := by intro k l; (repeat' (first | apply yE | apply zj3 | apply ye | apply Ex.nil | apply yg | apply yi | apply yl | apply X.block | apply X.ret | apply X.exit | apply X.scope | (show Ex _ _ _ (_ :: _) _ _; first | refine ya ?_ | refine zF ?_ | refine zh ?_ | refine Ex.mo ?_) | (show ExF _ _ _ _ _ _ _; first | refine ExF.gi ?_ | refine ym ?_) | (show RetQ _ _ [.tmp _] _ _ _; refine zav ?_))); refine zwj rfl ?_ ?_; exact k.h; exact l.h) : P := h ⟨k⟩ ⟨l⟩
def ge {P Q : Prop} (k : Q) (h : Hd Q → P := by intro k; apply zdF; (repeat' (first | apply yE | apply zj3 | apply ye | apply Ex.nil | apply yg | apply yi | apply yl | apply X.block | apply X.ret | apply X.exit | apply X.scope | (show Ex _ _ _ (_ :: _) _ _; first | refine ya ?_ | refine zF ?_ | refine zh ?_ | refine Ex.mo ?_) | (show ExF _ _ _ _ _ _ _; first | refine ExF.gi ?_ | refine ym ?_) | (show RetQ _ _ [.tmp _] _ _ _; refine zav ?_))); exact k.h) : P := h ⟨k⟩
def gf {P Q R : Prop} (k : Q) (l : R) (h : Hd Q → Hd R → P := by intro k l; apply zdF; (repeat' (first | apply yE | apply zj3 | apply ye | apply Ex.nil | apply yg | apply yi | apply yl | apply X.block | apply X.ret | apply X.exit | apply X.scope | (show Ex _ _ _ (_ :: _) _ _; first | refine ya ?_ | refine zF ?_ | refine zh ?_ | refine Ex.mo ?_) | (show ExF _ _ _ _ _ _ _; first | refine ExF.gi ?_ | refine ym ?_) | (show RetQ _ _ [.tmp _] _ _ _; refine zav ?_))); refine zwj rfl ?_ ?_; exact k.h; exact l.h) : P := h ⟨k⟩ ⟨l⟩
def zwm {α : Type} {P : Program} {C : Ctx} {st : St} {ty : TypeId} {enc : α → List AV} {l : List α} {t E : TypeId} {ag : Bool} {s n : Nat} {parts : Array (Nat × Operand)} {ps : List (Nat × AV)} {z : Value} (ht : slOk P t E = true) (hE : tyOk P E ag s = true) (U : (P.info? E).bind (·.zero) = some z) (Z : 0 < s := by decide) (T : zbH st parts.toList = some ps := by exact rfl) (N : zcq ps = true := by exact rfl) (hf : zft (fun i => some (i * s, s)) (List.replicate (n * s) .any) ps = some (l.flatMap enc) := by exact rfl) (V : l.length = n := by exact rfl) (J : n * s ≤ 16777216 := by decide) (hm : n ≤ 1000000 := by decide) (hs : ∀ x, (enc x).length = s := by exact (fun _ => rfl)) (hnm : AV.nm.nmL (l.flatMap enc) = true := by exact rfl) : yu P C (.buildSlice t n parts) ty st (.sl enc l) none := yo ht hE U Z T N hf V J hm hs hnm
def gc {P' : Program} {f : FuncId} {az : List AV} {r : AV} {P Q : Prop} (c : Fn P' f az r) (k : Q) (h : Fn P' f az r → Hd Q → P := by intro c k; (repeat' (first | apply yE | apply zj3 | apply ye | apply Ex.nil | apply yg | apply yi | apply yl | apply X.block | apply X.ret | apply X.exit | apply X.scope | (show Ex _ _ _ (_ :: _) _ _; first | refine ya ?_ | refine zF ?_ | refine zh ?_ | refine Ex.mo ?_) | (show ExF _ _ _ _ _ _ _; first | refine ExF.gi ?_ | refine ym ?_) | (show RetQ _ _ [.tmp _] _ _ _; refine zav ?_))); refine yM c ?_; (repeat' (first | apply yE | apply zj3 | apply ye | apply Ex.nil | apply yg | apply yi | apply yl | apply X.block | apply X.ret | apply X.exit | apply X.scope | (show Ex _ _ _ (_ :: _) _ _; first | refine ya ?_ | refine zF ?_ | refine zh ?_ | refine Ex.mo ?_) | (show ExF _ _ _ _ _ _ _; first | refine ExF.gi ?_ | refine ym ?_) | (show RetQ _ _ [.tmp _] _ _ _; refine zav ?_))); exact k.h) : P := h c ⟨k⟩
def xO := @Pur.stepA
def xP := @Imp.freeze
def xQ := @RetQ.imp
def xR := @LeV.eq
def xS := @X.block
def xU := @X.ret
def xV := @Fn.go
def xW := @ExF.gi
def xX := @ExF.at
def xY := @Ex.mo
def xZ := @X.imp
def k6 := @ChM.gi
def k7 := @RetQ.ret
def k8 := @X.exit
def k9 := @Ex.nil
def kA := @LeB.refl
def kB := @LeV.refl
def kC := @LeV.nils
def kE := @LeL.refl
def kF := @Ex.stepA
def kG := @Ex.imp
def kH := @LeB.eq
def kI := @FnO.introX
def kJ := @ChM.cg
def kK := @ExF.cg
def kL := @Imp.of
def kM := @LeB.row
def kO := @Imp.mv
def kP := @X.drawQ
def kQ := @FnO.intro
def kR := @Im.le_refl
def kS := @LeV.any
end Go.Rse
