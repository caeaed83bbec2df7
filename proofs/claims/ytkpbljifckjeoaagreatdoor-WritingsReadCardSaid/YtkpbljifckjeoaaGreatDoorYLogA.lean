/-
  The package-level variables that the walks read: what they hold, as integers.
  The logic: parts Rse1, Rse2, Rse3, Rse4, Rse5, Rse6, Rse7, Rse8, Rse9, Rse10, Rse11, Rse12.
  Structs of ints and bools (and of structs of these) are equal iff their cells are.
-/
import Derived.WalkKit
import Derived.Maps.AppendAt
import Derived.Deep.AppendLies
import Derived.TacticsIn
import Derived.RangeFuncCalls
import Derived.Sort.LoopGhostIn
import Derived.RangeFuncLeaves
import Derived.Laws.CopyRow
import Derived.OrdersIn
import Derived.Laws.StructEq
set_option linter.unusedVariables false
namespace Go.Rse
open Go
def zkc : Nat -> Option (List Int)
 | 0 => some [3, 2]
  | _ => none
end Go.Rse
namespace Go
theorem zgg {α : Type} : ∀ (a : Ask α) (w : World), w.drawn <= (w.ask a).2.drawn := by
 intro a
 induction a with
 | done a => intro w; exact Nat.le_refl _
 | ask what range k ih =>
  intro w;simp only [World.ask];split
  ·exact ih _ _
  ·exact Nat.le_trans (Nat.le_succ _) (ih _ { w with drawn := w.drawn + 1 })
theorem zgh (w : World) (c : Sys) : w.drawn <= (w.sys c).2.drawn := by
 have h := zgg (Kernel.perform c w.os) w;unfold World.sys;split
 ·exact Nat.le_refl _
 ·rename_i r os w' e; rw [e] at h; exact h
theorem zdn {p : Program} {w w' : World} {at_ : Addr} {u : TypeId} {k : Addr} {v : Value} {at2 : Bool} {l : List Addr} (h : w.viewStore p at_ u k v at2 = .ok (w', l)) : w'.drawn = w.drawn := by
 unfold World.viewStore at h;simp only [bind, Except.bind, pure, Except.pure] at h
 repeat' (first | (cases h; done) | (cases h; rfl) | (split at h))
theorem zdB {p : Program} {w w' : World} {a : Addr} {v : Value} {at2 : Bool} {l : List Addr} (h : w.farStore p a v at2 = .ok (w', l)) : w'.drawn = w.drawn := by
 unfold World.farStore at h;split at h
 ·split at h
  ·rename_i e; cases h; exact zdn e
  ·simp at h
 ·simp at h
theorem zeK (w : World) (a : Addr) (n : Nat) : (w.freeze a n).drawn = w.drawn := by unfold World.freeze; split <;> rfl
theorem zek (w : World) (a : Addr) (v : Value) : (w.setCell a v).drawn = w.drawn := rfl
theorem zh2 {α : Type} {p : Program} : ∀ (m : Sem α) (w : World) {v : α} {w' : World}, m.run p w = .ok v w' -> w.drawn <= w'.drawn := by
 intro m
 induction m with
 | pure a => intro w v w' h; simp only [Sem.run] at h; cases h; exact Nat.le_refl _
 | load m a k ih =>
  intro w v w' h;simp only [Sem.run] at h;split at h
  ·exact ih _ _ h
  ·split at h
   ·exact ih _ _ h
   ·cases h
 | store m a x k ih =>
  intro w v w' h
  cases x <;> simp only [Sem.run] at h <;> first
   | (cases h; done)
   | (split at h
      ·split at h
       ·cases h
       ·exact (zek w a _) ▸ (ih (w.setCell a _) h)
      ·split at h
       ·rename_i w2 l e; exact (zdB e) ▸ ih _ h
       ·cases h)
 | new o k ih => intro w v w' h; simp only [Sem.run] at h; exact ih _ { w with heap := w.heap.push o } h
 | shape r k ih => intro w v w' h; simp only [Sem.run] at h; exact ih _ _ h
 | freeze a n k ih => intro w v w' h; simp only [Sem.run] at h; exact (zeK w a n) ▸ ih _ h
 | frozen a k ih => intro w v w' h; simp only [Sem.run] at h; exact ih _ _ h
 | getObj r k ih =>
  intro w v w' h;simp only [Sem.run] at h;split at h
  ·cases h
  ·exact ih _ _ h
  ·cases h
 | setObj r o k ih =>
  intro w v w' h;simp only [Sem.run] at h;split at h
  ·cases h
  ·exact ih { w with heap := w.heap.setIfInBounds r o } h
  ·cases h
 | choose q k ih =>
  intro w v w' h;simp only [Sem.run] at h;split at h
  ·exact ih _ _ h
  ·exact Nat.le_trans (Nat.le_succ _) (ih _ { w with drawn := w.drawn + 1 } h)
 | sys c k ih => intro w v w' h; simp only [Sem.run] at h; exact Nat.le_trans (zgh w c) (ih _ _ h)
 | program k ih => intro w v w' h; simp only [Sem.run] at h; exact ih _ _ h
 | mark m k ih => intro w v w' h; simp only [Sem.run] at h; exact ih _ h
 | halt h0 => intro w v w' h; simp only [Sem.run] at h; cases h
end Go
namespace Go.Rse
open Go Go.RowKit
abbrev Im := Nat -> Nat -> Option Value
def Im.le (I J : Im) : Prop := ∀ b o v, I b o = some v -> J b o = some v
theorem Im.le_refl (I : Im) : Im.le I I := fun _ _ _ h => h
theorem Im.le_trans {I J K : Im} (h : Im.le I J) (h' : Im.le J K) : Im.le I K := fun b o v e => h' b o v (h b o v e)
theorem beqF {a b : Nat} : a.beq b = false ↔ a ≠ b := by
 constructor
 ·intro h e; subst e; simp at h
 ·intro h; cases hb : a.beq b with
  | false => rfl
  | true => exact absurd (by simpa using hb) h
inductive AV : Type 1
 | int (k : IntKind) (n : Int)
 | bool (b : Bool)
 | str (s : ByteArray)
 | nils
 | nilf
 | val (v : Value)
 | sl {α : Type} (enc : α -> List AV) (l : List α)
 | own (k : Nat)
 | ptr (k s i j : Nat)
 | mth (f : FuncId) (k s i j : Nat)
 | sub (k s i m : Nat)
 | ept {α : Type} (enc : α -> List AV) (x : α) (j : Nat)
 | fn (f : FuncId) (caps : List AV)
 | yv (l : Nat)
 | agg (cs : List AV)
 | tup (vs : List AV)
 | ifb (b : Bool) (x : AV)
 | opt (b : Bool) (x : AV)
 | mp (k : Nat)
 | any
def yT : Value -> Option Nat
 | .pointer (some a) => some a.block
 | .slice (some a) _ _ => some a.block
 | _ => none
def noNames : Nat -> Value := fun _ => .nilIface
inductive RV (I : Im) : (Nat -> Value) -> AV -> Value -> Prop
 | int {ρ} (k : IntKind) (n : Int) : RV I ρ (.int k n) (.int k n)
 | bool {ρ} (b : Bool) : RV I ρ (.bool b) (.bool b)
 | str {ρ} (s : ByteArray) : RV I ρ (.str s) (.string s)
 | nils {ρ} : RV I ρ .nils (.slice none 0 0)
 | nilf {ρ} : RV I ρ .nilf .nilFunc
 | val {ρ} (v : Value) : RV I ρ (.val v) v
 | sl {ρ} {α : Type} (enc : α -> List AV) (l : List α) (A : Option Addr) (b o s c : Nat) (vs : Nat -> Nat -> Value)
  (hA : l ≠ [] -> A = some ⟨b, o, none⟩) (hc : l.length <= c) (hm : c <= maxLen)
  (hs : ∀ (i : Nat) (x : α), l[i]? = some x -> (enc x).length = s)
  (hI : ∀ (i : Nat) (x : α) (j : Nat), l[i]? = some x -> j < s -> I b (o + i * s + j) = some (vs i j))
  (hv : ∀ (i : Nat) (x : α) (j : Nat) (cell : AV), l[i]? = some x -> (enc x)[j]? = some cell -> RV I noNames cell (vs i j)) : RV I ρ (.sl enc l) (.slice A l.length c)
 | own {ρ} (k : Nat) (A : Option Addr) (n c : Nat) (h : ρ k = .slice A n c) : RV I ρ (.own k) (.slice A n c)
 | ptr {ρ} (k s i j b : Nat) (h : yT (ρ k) = some b) : RV I ρ (.ptr k s i j) (.pointer (some ⟨b, i * s + j, none⟩))
 | mth {ρ} (f : FuncId) (k s i j b : Nat) (h : yT (ρ k) = some b) : RV I ρ (.mth f k s i j) (.func (.func f) #[.pointer (some ⟨b, i * s + j, none⟩)] #[])
 | sub {ρ} (k s i m c : Nat) (A : Option Addr) (h : m ≠ 0 -> ∃ b, yT (ρ k) = some b /\ A = some ⟨b, i * s, none⟩) : RV I ρ (.sub k s i m) (.slice A m c)
 | ept {ρ} {α : Type} (enc : α -> List AV) (x : α) (j b o : Nat) (vs : Nat -> Value)
  (hI : ∀ (j : Nat), j < (enc x).length -> I b (o + j) = some (vs j))
  (hv : ∀ (j : Nat) (cell : AV), (enc x)[j]? = some cell -> RV I noNames cell (vs j)) : RV I ρ (.ept enc x j) (.pointer (some ⟨b, o + j, none⟩))
 | fn {ρ} (f : FuncId) (caps : List AV) (vs : List Value) (hl : vs.length = caps.length)
  (hv : ∀ (j : Nat) (c : AV) (v : Value), caps[j]? = some c -> vs[j]? = some v -> RV I ρ c v) : RV I ρ (.fn f caps) (.func (.func f) #[] vs.toArray)
 | yv {ρ} (l : Nat) : RV I ρ (.yv l) (.func (.yield l) #[] #[])
 | agg {ρ} (cs : List AV) (vs : List Value) (hl : vs.length = cs.length)
  (hv : ∀ (j : Nat) (c : AV) (v : Value), cs[j]? = some c -> vs[j]? = some v -> RV I ρ c v) : RV I ρ (.agg cs) (.agg vs.toArray)
 | tup {ρ} (cs : List AV) (vs : List Value) (hl : vs.length = cs.length)
  (hv : ∀ (j : Nat) (c : AV) (v : Value), cs[j]? = some c -> vs[j]? = some v -> RV I ρ c v) : RV I ρ (.tup cs) (.tuple vs.toArray)
 | ifb {ρ} (b : Bool) (x : AV) (v : Value) (h : b = true -> RV I ρ x v) : RV I ρ (.ifb b x) v
 | opt {ρ} (b : Bool) (x : AV) (v : Value) (h : b = true -> RV I ρ x v) (h0 : b = false -> v = .tuple #[]) : RV I ρ (.opt b x) v
 | mp {ρ} (k b : Nat) (h : ρ k = .map (some b)) : RV I ρ (.mp k) (.map (some b))
 | any {ρ} (v : Value) : RV I ρ .any v
theorem RV.mono {I J : Im} {ρ : Nat -> Value} {x : AV} {v : Value} (h : RV I ρ x v) (hIJ : Im.le I J) : RV J ρ x v := by
 induction h with
 | int k n => exact .int k n
 | bool b => exact .bool b
 | str s => exact .str s
 | nils => exact .nils
 | nilf => exact .nilf
 | val v => exact .val v
 | sl enc l A b o s c vs hA hc hm hs hI hv ih => exact .sl enc l A b o s c vs hA hc hm hs (fun i x j hx hj => hIJ _ _ _ (hI i x j hx hj)) ih
 | own k A n c h => exact .own k A n c h
 | ptr k s i j b h => exact .ptr k s i j b h
 | mth f k s i j b h => exact .mth f k s i j b h
 | sub k s i m c A h => exact .sub k s i m c A h
 | ept enc x j b o vs hI hv ih => exact .ept enc x j b o vs (fun j hj => hIJ _ _ _ (hI j hj)) ih
 | fn f caps vs hl hv ih => exact .fn f caps vs hl ih
 | yv l => exact .yv l
 | agg cs vs hl hv ih => exact .agg cs vs hl ih
 | tup cs vs hl hv ih => exact .tup cs vs hl ih
 | ifb b x v h ih => exact .ifb b x v ih
 | opt b x v h h0 ih => exact .opt b x v ih h0
 | mp k b h => exact .mp k b h
 | any v => exact .any v
def AV.fr (k : Nat) : AV -> Bool
 | .own k' => !(k'.beq k)
 | .ptr k' _ _ _ => !(k'.beq k)
 | .mth _ k' _ _ _ => !(k'.beq k)
 | .sub k' _ _ _ => !(k'.beq k)
 | .fn _ cs => frL k cs
 | .agg cs => frL k cs
 | .tup cs => frL k cs
 | .ifb _ x => x.fr k
 | .opt _ x => x.fr k
 | .mp k' => !(k'.beq k)
 | _ => true
where frL (k : Nat) : List AV -> Bool
 | [] => true
 | x :: r => x.fr k && frL k r
theorem zn {k : Nat} : ∀ {cs : List AV}, AV.fr.frL k cs = true -> ∀ {j : Nat} {c : AV}, cs[j]? = some c -> c.fr k = true
 | [], _, _, _, h => by simp at h
 | x :: r, h, 0, c, e => by
  simp [AV.fr.frL] at h;simp at e;exact e ▸ h.1
 | x :: r, h, j + 1, c, e => by
  simp [AV.fr.frL] at h;exact zn h.2 (by simpa using e)
theorem RV.rename {I : Im} {ρ ρ' : Nat -> Value} {x : AV} {v : Value} {k : Nat} (h : RV I ρ x v) (hf : x.fr k = true) (hρ : ∀ n, n ≠ k -> ρ' n = ρ n) : RV I ρ' x v := by
 induction h with
 | int k n => exact .int k n
 | bool b => exact .bool b
 | str s => exact .str s
 | nils => exact .nils
 | nilf => exact .nilf
 | val v => exact .val v
 | sl enc l A b o s c vs hA hc hm hs hI hv ih => exact .sl enc l A b o s c vs hA hc hm hs hI hv
 | own k' A n c h =>
  have : k' ≠ k := beqF.1 (by simpa [AV.fr] using hf);exact .own k' A n c ((hρ k' this).trans h)
 | ptr k' s i j b h =>
  have : k' ≠ k := beqF.1 (by simpa [AV.fr] using hf);exact .ptr k' s i j b (by rw [hρ k' this]; exact h)
 | mth f k' s i j b h =>
  have : k' ≠ k := beqF.1 (by simpa [AV.fr] using hf);exact .mth f k' s i j b (by rw [hρ k' this]; exact h)
 | sub k' s i m c A h =>
  have : k' ≠ k := beqF.1 (by simpa [AV.fr] using hf);exact .sub k' s i m c A (by rw [hρ k' this]; exact h)
 | ept enc x j b o vs hI hv ih => exact .ept enc x j b o vs hI hv
 | fn f caps vs hl hv ih => exact .fn f caps vs hl (fun j c v hc hvv => ih j c v hc hvv (zn (by simpa [AV.fr] using hf) hc) hρ)
 | yv l => exact .yv l
 | agg cs vs hl hv ih => exact .agg cs vs hl (fun j c v hc hvv => ih j c v hc hvv (zn (by simpa [AV.fr] using hf) hc) hρ)
 | tup cs vs hl hv ih => exact .tup cs vs hl (fun j c v hc hvv => ih j c v hc hvv (zn (by simpa [AV.fr] using hf) hc) hρ)
 | ifb b x v h ih => exact .ifb b x v (fun hb => ih hb (by simpa [AV.fr] using hf) hρ)
 | opt b x v h h0 ih => exact .opt b x v (fun hb => ih hb (by simpa [AV.fr] using hf) hρ) h0
 | mp k' b h =>
  have : k' ≠ k := beqF.1 (by simpa [AV.fr] using hf);exact .mp k' b ((hρ k' this).trans h)
 | any v => exact .any v
inductive Blk : Type 1
 | box (cs : List AV) (E : TypeId)
 | row {α : Type} (enc : α -> List AV) (l : List α) (E : TypeId) (s : Nat)
 | hold (vs : List Value) (cs : List AV)
 | obj (b : Nat) (o : Obj)
 | yld (j : Nat) (on : Bool)
 | mpb {κ α : Type} (kenc : κ -> AV) (venc : α -> AV) (l : List (κ × α))
 | dead
def Blk.fr (k : Nat) : Blk -> Bool
 | .box cs _ => AV.fr.frL k cs
 | .hold _ cs => AV.fr.frL k cs
 | _ => true
def lk {α : Type 1} : List (Nat × α) -> Nat -> Option α
 | [], _ => none
 | (k', a) :: r, k => bif k'.beq k then some a else lk r k
structure St : Type 1 where
 t : List (Nat × AV)
 h : List (Nat × Blk)
def frT (k : Nat) : List (Nat × AV) -> Bool
 | [] => true
 | (_, x) :: r => x.fr k && frT k r
def frH (k : Nat) : List (Nat × Blk) -> Bool
 | [] => true
 | (k', x) :: r => !(k'.beq k) && x.fr k && frH k r
def St.fr (st : St) (k : Nat) : Bool := frT k st.t && frH k st.h
theorem zhm {k : Nat} : ∀ {l : List (Nat × AV)}, frT k l = true -> ∀ {t : Nat} {x : AV}, lk l t = some x -> x.fr k = true
 | [], _, _, _, h => by simp [lk] at h
 | (t', y) :: r, h, t, x, e => by
  simp [frT] at h;simp only [lk] at e;cases hb : t'.beq t <;> simp [hb] at e
  ·exact zhm h.2 e
  ·exact e ▸ h.1
theorem zb1 {k : Nat} : ∀ {l : List (Nat × Blk)}, frH k l = true -> ∀ {t : Nat} {x : Blk}, lk l t = some x -> x.fr k = true /\ t ≠ k
 | [], _, _, _, h => by simp [lk] at h
 | (t', y) :: r, h, t, x, e => by
  simp [frH] at h;simp only [lk] at e;cases hb : t'.beq t <;> simp [hb] at e
  ·exact zb1 h.2 e
  ·have : t' = t := by simpa using hb
   subst this; exact ⟨e ▸ h.1.2, fun e' => by simp [e'] at h⟩
abbrev Owns := Nat -> Option (Nat × Nat)
structure Gh where
 ρ : Nat -> Value
 I : Im
 O : Owns
def gIm : Im := fun b o => (zkc b).bind fun l => l[o]?.map fun n => .int .i64 n
def ObO (I : Im) (O : Owns) (w : World) : Prop := (∀ b k, O b = some k -> b < w.heap.size) /\ Im.le gIm I
def ImO (I : Im) (O : Owns) (w : World) : Prop := (∀ b o u, I b o = some u -> w.cell? ⟨b, o, none⟩ = some u /\ O b = none) /\ ObO I O w
theorem ObO.up {I J : Im} {O : Owns} {w w' : World} (h : ObO I O w) (hI : Im.le I J) (hs : w.heap.size <= w'.heap.size) : ObO J O w' := ⟨fun b k hO => Nat.lt_of_lt_of_le (h.1 b k hO) hs, Im.le_trans h.2 hI⟩
def gEv (n : Nat) : Option AV := (zkc n).map fun l => .ept (fun l : List Int => l.map (AV.int .i64)) l 0
theorem ztc {I : Im} {ρ : Nat -> Value} {n : Nat} {y : AV} (h : Im.le gIm I) (he : gEv n = some y) : RV I ρ y (.pointer (some ⟨n, 0, none⟩)) := by
 unfold gEv at he;cases hg : zkc n with
 | none => simp [hg] at he
 | some l =>
  simp [hg] at he; subst he;refine .ept (fun l : List Int => l.map (AV.int .i64)) l 0 n 0 (fun j => .int .i64 (l.getD j 0)) (fun j hj => h _ _ _ ?_) (fun j cell hc => ?_)
  ·simp at hj;simp [gIm, hg, hj]
  ·simp at hc;obtain ⟨a, ha, rfl⟩ := hc;rw [List.getD_eq_getElem?_getD, ha]; exact .int _ _
def ImOB (g : Gh) (w : World) : Prop := ImO g.I g.O w
structure Ctx where
 rd : Option Nat
 n : Nat
 d : Nat
 ds : List Nat
 yB : Nat
 Y : Nat -> Bool -> Im -> Owns -> World -> Prop
 g0 : Gh
 w0 : World
 df : List (_root_.Go.Fn × Array Value × Array Value)
def dfD (p : _root_.Go.Fn × Array Value × Array Value) : Deferred := { target := .fn p.1 p.2.1, args := p.2.2 }
def Ctx.okb (C : Ctx) (b : Nat) : Prop := C.w0.heap.size <= b \/ ∃ n, C.g0.O b = some (C.d, n)
def Ctx.oth (C : Ctx) (b : Nat) : Prop := ∃ y n, y ∈ C.ds /\ C.g0.O b = some (y, n)
def YCl (Y : Nat -> Bool -> Im -> Owns -> World -> Prop) (ds : List Nat) (B : Nat) : Prop := ∀ (j : Nat) (on : Bool) (I : Im) (O : Owns) (w : World) (I' : Im) (O' : Owns) (w' : World), Y j on I O w -> Im.le I I' →
 (∀ b, b < w.heap.size -> (b < B \/ ∃ y n, y ∈ ds /\ O b = some (y, n)) -> w'.heap[b]? = w.heap[b]? /\ O' b = O b) -> w'.os = w.os -> w'.tape = w.tape -> w'.output = w.output -> w.drawn <= w'.drawn -> w.heap.size <= w'.heap.size -> ImO I' O' w' -> Y j on I' O' w'
def y4 (C : Ctx) (g : Gh) (w : World) (k : Nat) : Blk -> Prop
 | .box cs E => ∃ b vs, g.ρ k = .pointer (some ⟨b, 0, none⟩) /\ g.O b = some (C.d, k) /\ C.okb b /\ w.heap[b]? = some (.cells vs E (0, 0)) /\ vs.size = cs.length ∧
  ∀ (j : Nat) c v, cs[j]? = some c -> vs[j]? = some v -> RV g.I g.ρ c v
 | .row enc l E s => ∃ xs, w.ownsRow 0 E s (g.ρ k) l.length xs /\ (∀ (i : Nat) x, l[i]? = some x -> (enc x).length = s) ∧
  (∀ (i : Nat) x (j : Nat) c v, l[i]? = some x -> (enc x)[j]? = some c -> xs[i * s + j]? = some v -> RV g.I noNames c v) ∧
  ∀ b, yT (g.ρ k) = some b -> g.O b = some (C.d, k) /\ C.okb b
 | .hold vs cs => vs.length = cs.length /\ ∀ (j : Nat) c v, cs[j]? = some c -> vs[j]? = some v -> RV g.I g.ρ c v
 | .obj b o => w.heap[b]? = some o /\ g.O b = some (C.d, k) /\ C.okb b
 | .mpb kenc venc l => ∃ b es ck, g.ρ k = .map (some b) /\ g.O b = some (C.d, k) /\ C.okb b /\ w.heap[b]? = some (.map es ck) /\ (es.size = l.length /\ ck = l.length /\ ∀ (i : Nat) e, es[i]? = some e -> e.born = i) ∧
  ∀ (i : Nat) e p, es[i]? = some e -> l[i]? = some p -> RV g.I noNames (kenc p.1) e.key /\ RV g.I noNames (venc p.2) e.val
 | .yld j on => C.d ∉ C.ds /\ YCl C.Y C.ds C.yB /\ C.yB <= C.w0.heap.size /\ (∀ b n, g.O b = some (C.d, n) -> C.yB <= b) /\ C.Y j on g.I g.O w
 | .dead => True
structure Sat (C : Ctx) (h : List (Nat × Blk)) (g : Gh) (w : World) : Prop where
 im : ∀ b o v, g.I b o = some v -> w.cell? ⟨b, o, none⟩ = some v /\ g.O b = none
 ob : ObO g.I g.O w
 blk : ∀ k B, lk h k = some B -> y4 C g w k B
theorem zfn {C : Ctx} {g g' : Gh} {w w' : World} {k j : Nat} {on : Bool} {bo : Option Nat} (h : y4 C g w k (.yld j on)) (hI : Im.le g.I g'.I) (hO : ∀ b, b < w.heap.size -> bo ≠ some b -> g'.O b = g.O b)
 (hb : ∀ b, bo = some b -> (∃ n, g.O b = some (C.d, n)) \/ (g.O b = none /\ C.w0.heap.size <= b)) (hm : w.grownBy w' bo) (hdw : w.drawn <= w'.drawn) (hn : ∀ b n, g'.O b = some (C.d, n) -> C.yB <= b) (hio : ImOB g' w') : y4 C g' w' k (.yld j on) := by
 obtain ⟨h1, h2, h3, h4, h5⟩ := h;refine ⟨h1, h2, h3, hn, h2 j on _ _ _ _ _ _ h5 hI (fun b hlt hy => ?_) hm.os hm.tape hm.output hdw hm.size hio⟩
 have hne : bo ≠ some b := fun e => by
  rcases hb b e with ⟨n, hn⟩ | ⟨h6, h7⟩
  ·rcases hy with hy | ⟨y, m, hy, hym⟩
   ·have := h4 b n hn; omega
   ·rw [hn] at hym; injection hym with hym; injection hym with e1 e2; exact h1 (e1 ▸ hy)
  ·rcases hy with hy | ⟨y, m, hy, hym⟩
   ·omega
   ·rw [h6] at hym; simp at hym
 exact ⟨hm.block b hlt (fun e => hne e.symm), hO b hlt hne⟩
structure Ext (C : Ctx) (g : Gh) (w : World) : Prop where
 I : Im.le C.g0.I g.I
 os : w.os = C.w0.os
 tape : w.tape = C.w0.tape
 output : w.output = C.w0.output
 drawn : C.w0.drawn <= w.drawn
 size : C.w0.heap.size <= w.heap.size
 keep : ∀ b, b < C.w0.heap.size -> ¬ C.okb b -> ¬ C.oth b -> w.heap[b]? = C.w0.heap[b]? /\ g.O b = C.g0.O b
 own : ∀ b y n, b < C.w0.heap.size -> g.O b = some (y, n) -> ∃ n', C.g0.O b = some (y, n')
def mkD (r : Nat) : Deferred := { target := .collected r, args := #[] }
def Sh (C : Ctx) (ds : List Deferred) (D : List Nat) : Prop := ∃ D1 D2 : List Nat, D = D1 ++ D2 /\ ds = D1.map mkD ++ (C.df.map dfD ++ D2.map mkD)
theorem zjr {x y : Nat} (h : mkD x = mkD y) : x = y := by simpa [mkD] using h
theorem Sh.mem {C : Ctx} {ds : List Deferred} {D : List Nat} (h : Sh C ds D) {r : Nat} : mkD r ∈ ds ↔ r ∈ D := by
 obtain ⟨D1, D2, rfl, rfl⟩ := h
 have h1 : ∀ L : List Nat, mkD r ∈ L.map mkD ↔ r ∈ L := fun L => ⟨fun h => by
  obtain ⟨q, hq, e⟩ := List.mem_map.1 h;exact zjr e ▸ hq, fun h => List.mem_map_of_mem h⟩
 have h2 : ¬ mkD r ∈ C.df.map dfD := fun h => by
  obtain ⟨q, _, hq⟩ := List.mem_map.1 h;exact absurd (congrArg Deferred.target hq) (by simp [dfD, mkD])
 simp only [List.mem_append, h1, h2, false_or]
theorem Sh.push {C : Ctx} {ds : List Deferred} {D : List Nat} (h : Sh C ds D) (r : Nat) : Sh C (mkD r :: ds) (r :: D) := by
 obtain ⟨D1, D2, rfl, rfl⟩ := h;exact ⟨r :: D1, D2, rfl, rfl⟩
theorem Sh.plain {C : Ctx} {ds : List Deferred} {D : List Nat} (h : Sh C ds D) (hdf : C.df = [] := by rfl) : ds = D.map mkD ++ C.df.map dfD := by
 obtain ⟨D1, D2, rfl, rfl⟩ := h;rw [hdf]; simp
def Dfs (C : Ctx) (g : Gh) (ds : List Deferred) (w : World) : Prop := ∃ D : List Nat, Sh C ds D /\ D.Nodup /\ ∀ r, r ∈ D -> w.heap[r]? = some (.deferred (some [])) /\ g.O r = none /\ C.w0.heap.size <= r
theorem Dfs.nil (C : Ctx) (g : Gh) (w : World) (h : C.df = [] := by rfl) : Dfs C g [] w := ⟨[], ⟨[], [], rfl, by rw [h]; rfl⟩, List.nodup_nil, fun r h => by simp at h⟩
structure Rel (C : Ctx) (st : St) (g : Gh) (a : Act) (w : World) : Prop where
 size : a.tmps.size = C.n
 defers : Dfs C g a.defers w
 tmps : ∀ t x, lk st.t t = some x -> RV g.I g.ρ x (a.tmps.getD t undef)
 sat : Sat C st.h g w
 ext : Ext C g w
structure Grow (w w' : World) : Prop where
 os : w'.os = w.os
 tape : w'.tape = w.tape
 output : w'.output = w.output
 drawn : w.drawn <= w'.drawn
 size : w.heap.size <= w'.heap.size
 keep : ∀ b, b < w.heap.size -> w'.heap[b]? = w.heap[b]?
theorem Grow.refl (w : World) : Grow w w := ⟨rfl, rfl, rfl, Nat.le_refl _, Nat.le_refl _, fun _ _ => rfl⟩
theorem Grow.trans {a b c : World} (h : Grow a b) (k : Grow b c) : Grow a c :=
 ⟨k.os.trans h.os, k.tape.trans h.tape, k.output.trans h.output, Nat.le_trans h.drawn k.drawn, Nat.le_trans h.size k.size, fun i hi => (k.keep i (Nat.lt_of_lt_of_le hi h.size)).trans (h.keep i hi)⟩
theorem Grow.drew (w : World) : Grow w w.drew := ⟨rfl, rfl, rfl, Nat.le_succ _, Nat.le_refl _, fun _ _ => rfl⟩
theorem Grow.alloc (w : World) (o : Obj) : Grow w (w.alloc o) := ⟨rfl, rfl, rfl, Nat.le_refl _, by simp, fun k hk => Below.heap_alloc _ _ _ hk⟩
theorem yW {w : World} {b : Nat} {o : Obj} (h : w.heap[b]? = some o) : b < w.heap.size := by
 rcases Nat.lt_or_ge b w.heap.size with hl | hl
 ·exact hl
 ·simp [Array.getElem?_eq_none hl] at h
theorem zbm {w : World} {b o : Nat} {v : Value} (h : w.cell? ⟨b, o, none⟩ = some v) : b < w.heap.size := by
 rcases Nat.lt_or_ge b w.heap.size with hl | hl
 ·exact hl
 ·simp [World.cell?, Array.getElem?_eq_none hl] at h
theorem Grow.cell {w w' : World} (h : Grow w w') {b o : Nat} {v : Value} (hc : w.cell? ⟨b, o, none⟩ = some v) : w'.cell? ⟨b, o, none⟩ = some v := by
 rw [World.cell?_of_block (w := w) (a := ⟨b, o, none⟩) (h.keep b (zbm hc))]; exact hc
structure Add (nk : Option Nat) (g : Gh) (w : World) (g' : Gh) (w' : World) : Prop where
 I : Im.le g.I g'.I
 ρ : ∀ n, nk ≠ some n -> g'.ρ n = g.ρ n
 O : ∀ b, b < w.heap.size -> g'.O b = g.O b
 grow : Grow w w'
theorem Dfs.add {C : Ctx} {g g' : Gh} {w w' : World} {nk : Option Nat} {ds : List Deferred} (h : Dfs C g ds w) (ha : Add nk g w g' w') : Dfs C g' ds w' := by
 obtain ⟨D, h1, hn, h2⟩ := h;refine ⟨D, h1, hn, fun r hr => ?_⟩;obtain ⟨h3, h4, h5⟩ := h2 r hr
 have hlt : r < w.heap.size := by
  rcases Nat.lt_or_ge r w.heap.size with hl | hl
  ·exact hl
  ·simp [Array.getElem?_eq_none hl] at h3
 exact ⟨(ha.grow.keep r hlt).trans h3, (ha.O r hlt).trans h4, h5⟩
theorem Add.refl (nk : Option Nat) (g : Gh) (w : World) : Add nk g w g w := ⟨Im.le_refl _, fun _ _ => rfl, fun _ _ => rfl, Grow.refl w⟩
theorem zjs {w w' : World} {E s : Nat} {v : Value} {n : Nat} {xs : List Value} (h : w.ownsRow 0 E s v n xs) (hg : Grow w w') : w'.ownsRow 0 E s v n xs := by
 obtain ⟨h1, h2⟩ := h;refine ⟨h1, ?_⟩;rcases h2 with h2 | ⟨g, cap, cur, hv, hb, hh, r⟩
 ·exact Or.inl h2
 ·refine Or.inr ⟨g, cap, cur, hv, hb, ?_, r⟩
  have hlt : g < w.heap.size := by
   rcases Nat.lt_or_ge g w.heap.size with hl | hl
   ·exact hl
   ·simp [Array.getElem?_eq_none hl] at hh
  rw [hg.keep g hlt]; exact hh
theorem zbk {w : World} {E s : Nat} {v : Value} {n : Nat} {xs : List Value} (h : w.ownsRow 0 E s v n xs) {b : Nat} (hb : yT v = some b) : b < w.heap.size := by
 refine (h.lt b ?_).2;cases v <;> simp [yT] at hb
 case slice a n c => cases a <;> simp at hb; simpa [Value.ownBlock] using hb
 case pointer a => rcases h.2 with ⟨h, _⟩ | ⟨_, _, _, h, _⟩ <;> cases h
theorem RV.renameOpt {I : Im} {ρ ρ' : Nat -> Value} {x : AV} {v : Value} {nk : Option Nat} (h : RV I ρ x v) (hf : ∀ k, nk = some k -> x.fr k = true) (hρ : ∀ n, nk ≠ some n -> ρ' n = ρ n) : RV I ρ' x v := by
 cases nk with
 | none =>
  have : ρ' = ρ := funext fun n => hρ n (by simp)
  rw [this]; exact h
 | some k => exact h.rename (k := k) (hf k rfl) (fun n hn => hρ n (by simpa using fun e => hn e.symm))
theorem y4.add {C : Ctx} {g g' : Gh} {w w' : World} {nk : Option Nat} {k : Nat} {B : Blk} (h : y4 C g w k B) (ha : Add nk g w g' w') (hk : nk ≠ some k) (hf : ∀ n, nk = some n -> B.fr n = true) (hw : C.w0.heap.size <= w.heap.size) (hio : ImOB g' w') : y4 C g' w' k B := by
 cases B with
 | box cs E =>
  obtain ⟨b, vs, h1, h2, h3, h4, h5, h6⟩ := h
  have hb : b < w.heap.size := by
   rcases Nat.lt_or_ge b w.heap.size with hl | hl
   ·exact hl
   ·simp [Array.getElem?_eq_none hl] at h4
  refine ⟨b, vs, (ha.ρ k hk).trans h1, (ha.O b hb).trans h2, h3, (ha.grow.keep b hb).trans h4, h5, fun j c v hc hv => ?_⟩;exact ((h6 j c v hc hv).renameOpt (nk := nk) (fun n hn => zn (by simpa [Blk.fr] using hf n hn) hc) ha.ρ).mono ha.I
 | row enc l E s =>
  obtain ⟨xs, h1, h2, h3, h4⟩ := h;refine ⟨xs, ?_, h2, fun i x j c v hx hc hv => (h3 i x j c v hx hc hv).mono ha.I, fun b hb => ?_⟩
  ·rw [ha.ρ k hk]; exact zjs h1 ha.grow
  ·rw [ha.ρ k hk] at hb;exact ⟨(ha.O b (zbk h1 hb)).trans (h4 b hb).1, (h4 b hb).2⟩
 | hold vs cs => exact ⟨h.1, fun j c v hc hv => ((h.2 j c v hc hv).renameOpt (nk := nk) (fun n hn => zn (by simpa [Blk.fr] using hf n hn) hc) ha.ρ).mono ha.I⟩
 | obj b o =>
  obtain ⟨h1, h2, h3⟩ := h;have hb : b < w.heap.size := yW h1;exact ⟨(ha.grow.keep b hb).trans h1, (ha.O b hb).trans h2, h3⟩
 | yld j on =>
  obtain ⟨h1, h2, h3, h4, h5⟩ := h;refine ⟨h1, h2, h3, fun b n hn => ?_, h2 j on _ _ _ _ _ _ h5 ha.I (fun b hb _ => ⟨ha.grow.keep b hb, ha.O b hb⟩) ha.grow.os ha.grow.tape ha.grow.output ha.grow.drawn ha.grow.size hio⟩;rcases Nat.lt_or_ge b w.heap.size with hl | hl
  ·exact h4 b n ((ha.O b hl).symm.trans hn)
  ·omega
 | mpb kenc venc l =>
  obtain ⟨b, es, ck, h1, h2, h3, h4, h5, h6⟩ := h;have hb := yW h4;exact ⟨b, es, ck, (ha.ρ k hk).trans h1, (ha.O b hb).trans h2, h3, (ha.grow.keep b hb).trans h4, h5, fun i e p he hp => ⟨(h6 i e p he hp).1.mono ha.I, (h6 i e p he hp).2.mono ha.I⟩⟩
 | dead => trivial
theorem Ext.add {C : Ctx} {g g' : Gh} {w w' : World} {nk : Option Nat} (h : Ext C g w) (ha : Add nk g w g' w') : Ext C g' w' :=
 ⟨Im.le_trans h.I ha.I, ha.grow.os.trans h.os, ha.grow.tape.trans h.tape, ha.grow.output.trans h.output, Nat.le_trans h.drawn ha.grow.drawn, Nat.le_trans h.size ha.grow.size,
  fun b hb hn ho => ⟨(ha.grow.keep b (Nat.lt_of_lt_of_le hb h.size)).trans (h.keep b hb hn ho).1, (ha.O b (Nat.lt_of_lt_of_le hb h.size)).trans (h.keep b hb hn ho).2⟩,
  fun b y n hb hy => h.own b y n hb ((ha.O b (Nat.lt_of_lt_of_le hb h.size)).symm.trans hy)⟩
def putT (st : St) (d : Option Nat) (x : AV) : St :=
 match d with
 | some d => { st with t := (d, x) :: st.t }
 | none => st
def putH (st : St) (k : Nat) (B : Blk) : St := { st with h := (k, B) :: st.h }
theorem yj {α : Type 1} (k' : Nat) (a : α) (r : List (Nat × α)) (k : Nat) : lk ((k', a) :: r) k = bif k'.beq k then some a else lk r k := rfl
theorem zaE {a : Act} {d t : Nat} {v : Value} (h : d < a.tmps.size) : (a.put (some d) v).tmps.getD t undef = if d = t then v else a.tmps.getD t undef := by
 simp only [Act.put, Array.getD_eq_getD_getElem?, Array.getElem?_setIfInBounds];split
 ·rename_i e; subst e; simp
 ·rfl
theorem Rel.add {C : Ctx} {st : St} {g g' : Gh} {a : Act} {w w' : World} {nk : Option Nat} {d : Option Nat} {x : AV} {v : Value} (h : Rel C st g a w) (ha : Add nk g w g' w')
 (hfr : ∀ k, nk = some k -> st.fr k = true) (hd : ∀ t, d = some t -> t < C.n) (hx : RV g'.I g'.ρ x v)
 (him : ∀ b o u, g'.I b o = some u -> w'.cell? ⟨b, o, none⟩ = some u /\ g'.O b = none) (hob : ObO g'.I g'.O w') :
 Rel C (putT st d x) g' (a.put d v) w' := by
 have htm : ∀ t y, lk st.t t = some y -> RV g'.I g'.ρ y (a.tmps.getD t undef) := fun t y hy =>
  ((h.tmps t y hy).renameOpt (nk := nk) (fun n hn => zhm (by have := hfr n hn; simp [St.fr] at this; exact this.1) hy) ha.ρ).mono ha.I
 have hsat : Sat C st.h g' w' := ⟨him, hob, fun k B hB => by
  refine (h.sat.blk k B hB).add ha ?_ ?_ h.ext.size ⟨him, hob⟩
  ·intro hk;have := hfr k hk;simp [St.fr] at this;exact (zb1 this.2 hB).2 rfl
  ·intro n hn;have := hfr n hn;simp [St.fr] at this;exact (zb1 this.2 hB).1⟩
 cases d with
 | none => exact ⟨h.size, h.defers.add ha, htm, hsat, h.ext.add ha⟩
 | some d =>
  refine ⟨by simp [Act.put, h.size], h.defers.add ha, fun t y hy => ?_, hsat, h.ext.add ha⟩;rw [zaE (by rw [h.size]; exact hd d rfl)];simp only [putT, yj] at hy;by_cases e : d = t
  ·subst e;simp at hy;rw [if_pos rfl, ← hy]; exact hx
  ·have : d.beq t = false := beqF.2 e;simp [this] at hy;rw [if_neg e]; exact htm t y hy
theorem Rel.withBlk {C : Ctx} {st : St} {g : Gh} {a : Act} {w : World} (h : Rel C st g a w) {k : Nat} {B : Blk} (hB : y4 C g w k B) : Rel C (putH st k B) g a w :=
 ⟨h.size, h.defers, h.tmps, ⟨h.sat.im, h.sat.ob, fun k' B' hB' => by
  simp only [putH, yj] at hB';cases hb : k.beq k' <;> simp [hb] at hB'
  ·exact h.sat.blk k' B' hB'
  ·have : k = k' := by simpa using hb
   subst this; exact hB' ▸ hB⟩, h.ext⟩
end Go.Rse
namespace Go.Rse
open Go Go.RowKit
def cv : Value -> Option AV
 | .int k n => some (.int k n)
 | .bool b => some (.bool b)
 | .string s => some (.str s)
 | .slice none 0 0 => some .nils
 | .nilFunc => some .nilf
 | v => some (.val v)
theorem zrC {I : Im} {ρ : Nat -> Value} {v : Value} {x : AV} (h : cv v = some x) : RV I ρ x v := by
 unfold cv at h;split at h <;> (injection h with h; subst h; first | exact .int _ _ | exact .bool _ | exact .str _ | exact .nils | exact .nilf | exact .val _)
def cvL : List Value -> Option (List AV)
 | [] => some []
 | v :: r => match cv v, cvL r with
  | some x, some xs => some (x :: xs)
  | _, _ => none
theorem zfI {I : Im} {ρ : Nat -> Value} : ∀ {vs : List Value} {xs : List AV}, cvL vs = some xs →
 vs.length = xs.length /\ ∀ (j : Nat) (c : AV) (v : Value), xs[j]? = some c -> vs[j]? = some v -> RV I ρ c v
 | [], xs, h => by simp [cvL] at h; subst h; simp
 | v :: r, xs, h => by
  simp only [cvL] at h;split at h <;> try (simp at h; done)
  rename_i x ys h1 h2;injection h with h; subst h;obtain ⟨hl, hr⟩ := zfI (I := I) (ρ := ρ) h2;refine ⟨by simp [hl], fun j c u hc hu => ?_⟩;cases j with
  | zero => simp at hc hu; subst hc; subst hu; exact zrC h1
  | succ j => exact hr j c u (by simpa using hc) (by simpa using hu)
def cva : Value -> Option AV
 | .agg vs => (cvL vs.toList).map .agg
 | v => cv v
theorem ztd {I : Im} {ρ : Nat -> Value} {v : Value} {x : AV} (h : cva v = some x) : RV I ρ x v := by
 unfold cva at h;split at h
 ·rename_i vs;cases hc : cvL vs.toList with
  | none => simp [hc] at h
  | some xs =>
   simp [hc] at h; subst h;obtain ⟨hl, hr⟩ := zfI (I := I) (ρ := ρ) hc;have := RV.agg (I := I) (ρ := ρ) xs vs.toList hl hr;simpa using this
 ·exact zrC h
def ev (st : St) : Operand -> Option AV
 | .tmp t => lk st.t t
 | .const v => cva v
 | .func f => some (.fn f [])
 | .global n => gEv n
theorem yn {C : Ctx} {st : St} {g : Gh} {a : Act} {w : World} (h : Rel C st g a w) {x : Operand} {y : AV} (he : ev st x = some y) : RV g.I g.ρ y (a.eval x) := by
 cases x with
 | tmp t => exact h.tmps t y he
 | const v => exact ztd he
 | func f =>
  simp [ev] at he; subst he;exact .fn f [] [] rfl (fun j c v hc => by simp at hc)
 | global n => exact ztc h.sat.ob.2 he
section inv
variable {I : Im} {ρ : Nat -> Value} {v : Value}
theorem za {k : IntKind} {n : Int} (h : RV I ρ (.int k n) v) : v = .int k n := by cases h; rfl
theorem zg {b : Bool} (h : RV I ρ (.bool b) v) : v = .bool b := by cases h; rfl
theorem za4 (h : RV I ρ .nils v) : v = .slice none 0 0 := by cases h; rfl
theorem za5 {u : Value} (h : RV I ρ (.val u) v) : v = u := by cases h; rfl
theorem zqa {f : FuncId} {k s i j : Nat} (h : RV I ρ (.mth f k s i j) v) : ∃ b, yT (ρ k) = some b /\ v = .func (.func f) #[.pointer (some ⟨b, i * s + j, none⟩)] #[] := by cases h; exact ⟨_, by assumption, rfl⟩
theorem zfo (h : RV I ρ .nilf v) : v = .nilFunc := by cases h; rfl
theorem zU {k : Nat} (h : RV I ρ (.own k) v) : ρ k = v := by cases h; assumption
theorem za6 {cs : List AV} (h : RV I ρ (.agg cs) v) : ∃ vs : List Value, v = .agg vs.toArray /\ vs.length = cs.length /\ ∀ (j : Nat) (c : AV) (u : Value), cs[j]? = some c -> vs[j]? = some u -> RV I ρ c u := by
 cases h; exact ⟨_, rfl, by assumption, by assumption⟩
theorem zqb {cs : List AV} (h : RV I ρ (.tup cs) v) : ∃ vs : List Value, v = .tuple vs.toArray /\ vs.length = cs.length /\ ∀ (j : Nat) (c : AV) (u : Value), cs[j]? = some c -> vs[j]? = some u -> RV I ρ c u := by
 cases h; exact ⟨_, rfl, by assumption, by assumption⟩
theorem zb2 {f : FuncId} {cs : List AV} (h : RV I ρ (.fn f cs) v) : ∃ vs : List Value, v = .func (.func f) #[] vs.toArray /\ vs.length = cs.length /\ ∀ (j : Nat) (c : AV) (u : Value), cs[j]? = some c -> vs[j]? = some u -> RV I ρ c u := by
 cases h; exact ⟨_, rfl, by assumption, by assumption⟩
theorem zV {k s i j : Nat} (h : RV I ρ (.ptr k s i j) v) : ∃ b, yT (ρ k) = some b /\ v = .pointer (some ⟨b, i * s + j, none⟩) := by
 cases h; exact ⟨_, by assumption, rfl⟩
theorem zgx {α : Type} {enc : α -> List AV} {x : α} {j : Nat} (h : RV I ρ (.ept enc x j) v) : ∃ (b o : Nat) (vs : Nat -> Value), v = .pointer (some ⟨b, o + j, none⟩) ∧
 (∀ j, j < (enc x).length -> I b (o + j) = some (vs j)) /\ ∀ (j : Nat) (cell : AV), (enc x)[j]? = some cell -> RV I noNames cell (vs j) := by
 cases h; exact ⟨_, _, _, rfl, by assumption, by assumption⟩
theorem zma {b : Bool} {x : AV} (h : RV I ρ (.ifb b x) v) (hb : b = true) : RV I ρ x v := by
 cases h; rename_i h; exact h hb
end inv
def zbz (P : Program) (dst : Option Tmp) (a : Act) (K : Act -> World -> Prop) : Result Next -> Prop
 | .ok (.value v) w' => K (a.put dst v) w'
 | .ok .skip w' => K (a.put dst undef) w'
 | .ok (.enter f args) w' => Calls P f args w' fun e w'' => ∃ v, e = .returned v /\ K (a.put dst v) w''
 | .ok (.round l f tmps assign body) w' => RoundIn Fence.wide 0 P l f tmps assign body w' fun e w'' => ∃ v, e = .returned v /\ K (a.put dst v) w''
 | _ => False
def wp1 (P : Program) (o : Oper) (a : Act) (w : World) (K : Act -> World -> Prop) : Prop := zbz P o.dst a K ((execOp a.eval o).run P w)
def Ctx.F (C : Ctx) : Fence := match C.rd with
 | none => Fence.wide
 | some l => Fence.wide.inRound l
theorem Ctx.F_fn (C : Ctx) (f : FuncId) : C.F.fn f := by
 unfold Ctx.F; split <;> trivial
theorem Ctx.F_depth (C : Ctx) : C.F.depth = none := by
 unfold Ctx.F; split <;> rfl
theorem Ctx.calls (C : Ctx) {P : Program} {f : FuncId} {args : Array Value} {w : World} {R : Ending -> World -> Prop} (h : Calls P f args w R) : CallsIn C.F 0 P f args w R := by
 unfold Ctx.F;split
 ·exact callsIn_wide.2 h
 ·exact CallsIn.inRound _ (callsIn_wide.2 h)
theorem Ctx.rounds (C : Ctx) {P : Program} {l : Nat} {f : FuncId} {tmps : Array Value} {assign body : Code} {w : World} {R : Ending -> World -> Prop} (h : RoundIn Fence.wide 0 P l f tmps assign body w R) : RoundIn C.F 0 P l f tmps assign body w R := by
 unfold Ctx.F;split <;> exact h
theorem zK {C : Ctx} {P : Program} {o : Oper} {a : Act} {w : World} {K : Act -> World -> Prop} {Q : Exit -> Act -> World -> Prop} (h : wp1 P o a w K) : o.wpIn C.F 0 P a w K Q := by
 refine ⟨fun f _ => C.F_fn f, ?_⟩
 have hd : ∀ c, o.op ≠ .defer c := fun c hc => by
  unfold wp1 at h;have e : execOp a.eval o = (do pure (.defer (← resolve a.eval c o.type))) := by unfold execOp; rw [hc]
  rw [e] at h;simp only [Sem.run_bind] at h;cases hr : (resolve a.eval c o.type).run P w with
  | ok d w' => simp [hr, zbz] at h
  | halt x w' => simp [hr, zbz] at h
 rw [Oper.semAt_eq _ _ _ hd];unfold wp1 at h;generalize (execOp a.eval o).run P w = r at h;unfold zbz at h;split at h
 ·exact h
 ·exact h
 ·refine ⟨fun hx => by rw [C.F_depth] at hx; simp at hx, ?_⟩;refine CallsIn.mono (C.calls h) ?_
  rintro e w'' ⟨v, rfl, hK⟩
  exact hK
 ·refine ⟨fun hx => by rw [C.F_depth] at hx; simp at hx, ?_⟩;refine RoundIn.mono (C.rounds h) ?_
  rintro e w'' ⟨v, rfl, hK⟩
  exact hK
 ·exact h.elim
def Pur (P : Program) (C : Ctx) (op : Op) (ty : TypeId) (st : St) (x : AV) : Prop :=
 ∀ (g : Gh) (a : Act) (w : World) dst pos af gd, Rel C st g a w -> ∃ v, (execOp a.eval { dst := dst, op := op, type := ty, pos := pos, after := af, guard := gd }).run P w = .ok (.value v) w /\ RV g.I g.ρ x v
def yr (P : Program) (C : Ctx) (op : Op) (ty : TypeId) (st : St) (x : AV) (nb : Option (Nat × Blk)) : Prop :=
 ∀ (g : Gh) (a : Act) (w : World) (dst : Option Tmp) pos af gd, Rel C st g a w -> ∀ (K : Act -> World -> Prop),
  (∀ v w' g', Add (nb.map (·.1)) g w g' w' -> RV g'.I g'.ρ x v -> ImOB g' w' -> (∀ k B, nb = some (k, B) -> y4 C g' w' k B) -> K (a.put dst v) w') →
  wp1 P { dst := dst, op := op, type := ty, pos := pos, after := af, guard := gd } a w K
theorem zG {P : Program} {C : Ctx} {op : Op} {ty : TypeId} {st : St} {x : AV} {nb : Option (Nat × Blk)}
 (h : ∀ (g : Gh) (a : Act) (w : World) (dst : Option Tmp) pos af gd, Rel C st g a w -> ∃ v w' g', (execOp a.eval { dst := dst, op := op, type := ty, pos := pos, after := af, guard := gd }).run P w = .ok (.value v) w' ∧
  Add (nb.map (·.1)) g w g' w' /\ RV g'.I g'.ρ x v /\ ImOB g' w' /\ ∀ k B, nb = some (k, B) -> y4 C g' w' k B) : yr P C op ty st x nb :=
 fun g a w dst pos af gd hr K hK => by
  obtain ⟨v, w', g', h1, h2, h3, h4, h5⟩ := h g a w dst pos af gd hr;unfold wp1;rw [h1];exact hK v w' g' h2 h3 h4 h5
theorem Pur.stepA {P : Program} {C : Ctx} {op : Op} {ty : TypeId} {st : St} {x : AV} (h : Pur P C op ty st x) : yr P C op ty st x none :=
 zG fun g a w dst pos af gd hr => let ⟨v, h1, h2⟩ := h g a w dst pos af gd hr; ⟨v, w, g, h1, Add.refl _ g w, h2, ⟨hr.sat.im, hr.sat.ob⟩, fun _ _ h => by cases h⟩
def lift (C : Ctx) (Q : Exit -> St -> Prop) : Exit -> Act -> World -> Prop := fun e a w => ∃ st g, Rel C st g a w /\ Q e st
def Ex (P : Program) (C : Ctx) (ops : Array Oper) (l : List Oper) (st : St) (Q : Exit -> St -> Prop) : Prop := ∀ g a w, Rel C st g a w -> wpListIn C.F 0 P ops (lift C Q) l a w
def X (P : Program) (C : Ctx) (c : Code) (st : St) (Q : Exit -> St -> Prop) : Prop := ∀ g a w, Rel C st g a w -> c.wpIn C.F 0 P (lift C Q) a w
def addSt (st : St) (d : Option Nat) (x : AV) (nb : Option (Nat × Blk)) : St :=
 { t := match d with | some d => (d, x) :: st.t | none => st.t, h := match nb with | some b => b :: st.h | none => st.h }
def dOk (n : Nat) : Option Nat -> Bool
 | some d => d.blt n
 | none => true
def nbOk (st : St) : Option (Nat × Blk) -> Bool
 | some b => st.fr b.1
 | none => true
theorem Rel.addSt {C : Ctx} {st : St} {g g' : Gh} {a : Act} {w w' : World} {nb : Option (Nat × Blk)} {d : Option Nat} {x : AV} {v : Value} (h : Rel C st g a w) (ha : Add (nb.map (·.1)) g w g' w')
 (hd : dOk C.n d = true) (hn : nbOk st nb = true) (hx : RV g'.I g'.ρ x v)
 (him : ∀ b o u, g'.I b o = some u -> w'.cell? ⟨b, o, none⟩ = some u /\ g'.O b = none) (hob : ObO g'.I g'.O w')
 (hB : ∀ k B, nb = some (k, B) -> y4 C g' w' k B) : Rel C (addSt st d x nb) g' (a.put d v) w' := by
 have h1 := h.add ha (d := d) (fun k hk => by
  cases nb with
  | none => simp at hk
  | some b => simp at hk; subst hk; exact hn) (fun t ht => by subst ht; simpa [dOk] using hd) hx him hob
 cases nb with
 | none => cases d <;> exact h1
 | some b => cases d <;> exact h1.withBlk (hB b.1 b.2 rfl)
theorem Ex.nil {P : Program} {C : Ctx} {ops : Array Oper} {st : St} {Q : Exit -> St -> Prop} (h : Q .normal st) : Ex P C ops [] st Q := fun g a w hr => ⟨st, g, hr, h⟩
theorem Ex.stepA {P : Program} {C : Ctx} {ops : Array Oper} {st : St} {Q : Exit -> St -> Prop} {rest : List Oper} {dst : Option Tmp} {op : Op} {ty : TypeId} {pos : String} {af : Array Edge} {x : AV} {nb : Option (Nat × Blk)}
 (hs : yr P C op ty st x nb) (hd : dOk C.n dst = true) (hn : nbOk st nb = true) (h : Ex P C ops rest (Rse.addSt st dst x nb) Q) :
 Ex P C ops ({ dst := dst, op := op, type := ty, pos := pos, after := af, guard := none } :: rest) st Q := fun g a w hr =>
 wpListIn_plain rfl fun K hK => zK <| hs g a w dst pos af none hr K fun v w' g' h2 h3 h4 h5 => hK _ _ (h g' _ w' (hr.addSt h2 hd hn h3 h4.1 h4.2 h5))
theorem zao {P : Program} {C : Ctx} {ops : Array Oper} {st : St} {Q : Exit -> St -> Prop} {rest : List Oper} {d : Nat} {op : Op} {ty : TypeId} {pos : String} {af : Array Edge} {x : AV}
 (hs : Pur P C op ty st x) (hd : d.blt C.n = true) (h : Ex P C ops rest { t := (d, x) :: st.t, h := st.h } Q) :
 Ex P C ops ({ dst := some d, op := op, type := ty, pos := pos, after := af, guard := none } :: rest) st Q :=
 Ex.stepA hs.stepA hd rfl h
section pure
variable {P : Program} {C : Ctx} {st : St} {ty : TypeId}
theorem zk5 {x : Operand} {y : AV} (h : ev st x = some y) : Pur P C (.move x) ty st y := fun _ _ _ _ _ _ _ hr => ⟨_, rfl, yn hr h⟩
theorem zcJ {x : Operand} {y : AV} (h : ev st x = some y) : Pur P C (.assign x) ty st y := fun _ _ _ _ _ _ _ hr => ⟨_, rfl, yn hr h⟩
theorem zmZ {x : Operand} {i : Nat} {vs : List AV} {y : AV} (h : ev st x = some (.tup vs)) (hi : vs[i]? = some y) : Pur P C (.extract x i) ty st y := fun g a w dst pos af gd hr => by
 obtain ⟨us, e, hl, hu⟩ := zqb (yn hr h)
 have hlt : i < us.length := by
  have := (List.getElem?_eq_some_iff.1 hi).1; omega
 have hg : us[i]? = some us[i] := List.getElem?_eq_getElem hlt;refine ⟨us[i], ?_, hu i y _ hi hg⟩;simp [execOp, Instr.extract, e, hlt]
theorem zeL {f : FuncId} {caps : Array Operand} {xs : List AV} (h : caps.toList.mapM (ev st) = some xs) : Pur P C (.makeFunc (.func f) #[] caps) ty st (.fn f xs) := fun g a w dst pos af gd hr => by
 refine ⟨.func (.func f) #[] (caps.map a.eval), by simp [execOp, Instr.makeFunc], ?_⟩
 have key : ∀ (cs : List Operand) (xs : List AV), cs.mapM (ev st) = some xs -> (cs.map a.eval).length = xs.length /\ ∀ (j : Nat) (c : AV) (v : Value), xs[j]? = some c -> (cs.map a.eval)[j]? = some v -> RV g.I g.ρ c v := by
  intro cs
  induction cs with
  | nil => intro xs h; simp at h; subst h; simp
  | cons c r ih =>
   intro xs h;simp only [List.mapM_cons] at h;cases hc : ev st c with
   | none => simp [hc] at h
   | some y =>
    cases hq : r.mapM (ev st) with
    | none => simp [hc, hq] at h
    | some ys =>
     simp [hc, hq] at h; subst h;obtain ⟨hl, hr'⟩ := ih ys hq;refine ⟨by simpa using hl, fun j c' v hc' hv => ?_⟩;cases j with
     | zero => simp at hc' hv; subst hc'; subst hv; exact yn hr hc
     | succ j => exact hr' j c' v (by simpa using hc') (by simpa using hv)
 obtain ⟨hl, hr'⟩ := key _ _ h;have := RV.fn (I := g.I) (ρ := g.ρ) f xs (caps.toList.map a.eval) hl hr';have e : (caps.toList.map a.eval).toArray = caps.map a.eval := by simp [← Array.toList_map]
 rwa [e] at this
section ints
variable {x y : Operand} {xt yt : TypeId} {k : IntKind} {p q : Int}
theorem zad {op : BinOp} {g : Gh} {a : Act} {w : World} (hr : Rel C st g a w) (hx : ev st x = some (.int k p)) (hy : ev st y = some (.int k q)) (dst : Option Tmp) (pos : String) (af : Array Edge) (gd : Option (Nat × Bool)) (r : Value)
 (h : (binOp op xt (.int k p) (.int k q)).run P w = .ok r w) : (execOp a.eval { dst := dst, op := .binOp op xt x y yt, type := ty, pos := pos, after := af, guard := gd }).run P w = .ok (.value r) w := by
 have ex := za (yn hr hx);have ey := za (yn hr hy)
 have hg : (eqGuard op xt x y (.int k p) (.int k q)).run P w = .ok () w := by
  unfold eqGuard; cases op <;> simp
 simp only [execOp, ex, ey, Sem.run_bind, hg, Result.andThen_ok, h, Sem.run_pure]
theorem zvB (hx : ev st x = some (.int k p)) (hy : ev st y = some (.int k q)) (hin : k.wrap (p + q) = p + q) : Pur P C (.binOp .add xt x y yt) ty st (.int k (p + q)) := fun g a w dst pos af gd hr =>
 ⟨_, zad hr hx hy dst pos af gd (.int k (p + q)) (by simp [binOp, Op.intArith, hin]), .int _ _⟩
theorem zmb (hx : ev st x = some (.int k p)) (hy : ev st y = some (.int k q)) (hin : k.wrap (p - q) = p - q) : Pur P C (.binOp .sub xt x y yt) ty st (.int k (p - q)) := fun g a w dst pos af gd hr =>
 ⟨_, zad hr hx hy dst pos af gd (.int k (p - q)) (by simp [binOp, Op.intArith, hin]), .int _ _⟩
theorem zvC (hx : ev st x = some (.int k p)) (hy : ev st y = some (.int k q)) (hin : k.wrap (p * q) = p * q) : Pur P C (.binOp .mul xt x y yt) ty st (.int k (p * q)) := fun g a w dst pos af gd hr =>
 ⟨_, zad hr hx hy dst pos af gd (.int k (p * q)) (by simp [binOp, Op.intArith, hin]), .int _ _⟩
theorem zte (hx : ev st x = some (.int .i64 p)) (hy : ev st y = some (.int .i64 q)) (h0 : 0 <= p) (h1 : p <= 9223372036854775807) (h2 : 0 < q) : Pur P C (.binOp .quo xt x y yt) ty st (.int .i64 (p / q)) := fun g a w dst pos af gd hr =>
 ⟨_, zad hr hx hy dst pos af gd (.int .i64 (p / q)) (by simp [binOp, Op.intDiv, show q ≠ 0 by omega, IntWalk.i64_quo p q ⟨h0, h1, by omega⟩]), .int _ _⟩
theorem zrD (hx : ev st x = some (.int k p)) (hy : ev st y = some (.int k q)) (h0 : q ≠ 0) : Pur P C (.binOp .rem xt x y yt) ty st (.int k (p.tmod q)) := fun g a w dst pos af gd hr =>
 ⟨_, zad hr hx hy dst pos af gd (.int k (p.tmod q)) (by simp [binOp, Op.intDiv, h0]), .int _ _⟩
theorem ztf (hx : ev st x = some (.int k p)) (hy : ev st y = some (.int k q)) (h0 : 0 <= p) (h2 : 0 < q) : Pur P C (.binOp .rem xt x y yt) ty st (.int k (p % q)) := fun g a w dst pos af gd hr =>
 ⟨_, zad hr hx hy dst pos af gd (.int k (p % q)) (by simp [binOp, Op.intDiv, show q ≠ 0 by omega, IntWalk.rem_in p q h0]), .int _ _⟩
theorem zov (hx : ev st x = some (.int k p)) (hy : ev st y = some (.int k q)) : Pur P C (.binOp .eql xt x y yt) ty st (.bool (decide (p = q))) := fun g a w dst pos af gd hr =>
 ⟨_, zad hr hx hy dst pos af gd (.bool (decide (p = q))) (by simp [binOp, Op.intCmp]; rfl), .bool _⟩
theorem zvD (hx : ev st x = some (.int k p)) (hy : ev st y = some (.int k q)) : Pur P C (.binOp .neq xt x y yt) ty st (.bool (!decide (p = q))) := fun g a w dst pos af gd hr =>
 ⟨_, zad hr hx hy dst pos af gd (.bool (!decide (p = q))) (by simp [binOp, Op.intCmp]; rfl), .bool _⟩
theorem zvE (hx : ev st x = some (.int k p)) (hy : ev st y = some (.int k q)) : Pur P C (.binOp .lss xt x y yt) ty st (.bool (decide (p < q))) := fun g a w dst pos af gd hr =>
 ⟨_, zad hr hx hy dst pos af gd (.bool (decide (p < q))) (by simp [binOp, Op.intCmp]), .bool _⟩
theorem zvF (hx : ev st x = some (.int k p)) (hy : ev st y = some (.int k q)) : Pur P C (.binOp .leq xt x y yt) ty st (.bool (decide (p <= q))) := fun g a w dst pos af gd hr =>
 ⟨_, zad hr hx hy dst pos af gd (.bool (decide (p <= q))) (by simp [binOp, Op.intCmp]), .bool _⟩
theorem zvG (hx : ev st x = some (.int k p)) (hy : ev st y = some (.int k q)) : Pur P C (.binOp .gtr xt x y yt) ty st (.bool (decide (q < p))) := fun g a w dst pos af gd hr =>
 ⟨_, zad hr hx hy dst pos af gd (.bool (decide (q < p))) (by simp [binOp, Op.intCmp]), .bool _⟩
theorem zvH (hx : ev st x = some (.int k p)) (hy : ev st y = some (.int k q)) : Pur P C (.binOp .geq xt x y yt) ty st (.bool (decide (q <= p))) := fun g a w dst pos af gd hr =>
 ⟨_, zad hr hx hy dst pos af gd (.bool (decide (q <= p))) (by simp [binOp, Op.intCmp]), .bool _⟩
end ints
theorem zvI {x : Operand} {xt : TypeId} {b : Bool} (hx : ev st x = some (.bool b)) : Pur P C (.unOp .not xt x) ty st (.bool (!b)) := fun g a w dst pos af gd hr => by
 have ex := zg (yn hr hx);exact ⟨.bool (!b), by simp [execOp, ex, Op.unary], .bool _⟩
end pure
end Go.Rse
namespace Go.Rse
open Go Go.RowKit
def tyOk (P : Program) (t : TypeId) (agg : Bool) (n : Nat) : Bool :=
 (P.info? t).any (·.size == n) && (match P.underlying t with | some (.struct _) | some (.array _ _) => agg | some _ => !agg | none => false)
theorem zbK {P : Program} {t : TypeId} {agg : Bool} {n : Nat} (h : tyOk P t agg n = true) (w : World) : (isAgg t).run P w = .ok agg w := by
 simp only [tyOk, Bool.and_eq_true] at h;obtain ⟨_, h2⟩ := h;cases hu : P.underlying t with
 | none => simp [hu] at h2
 | some d =>
  simp only [hu] at h2;cases d <;> simp_all [isAgg, run_underlying hu]
theorem yX {P : Program} {t : TypeId} {agg : Bool} {n : Nat} (h : tyOk P t agg n = true) (w : World) : (sizeOf t).run P w = .ok n w := by
 simp only [tyOk, Bool.and_eq_true] at h;obtain ⟨h1, _⟩ := h;cases hi : P.info? t with
 | none => simp [hi] at h1
 | some i => simp [hi] at h1; simp [sizeOf, typeInfo, hi, h1]
def yQ (P : Program) (s : TypeId) (f off : Nat) : Bool :=
 match P.underlying s with
 | some (.struct fs) => match fs[f]? with
  | some fd => fd.offset == off && (P.info? fd.type).any (·.size != 0)
  | none => false
 | _ => false
theorem zv (b o j : Nat) : (⟨b, o, none⟩ : Addr).add j = ⟨b, o + j, none⟩ := by
 unfold Addr.add; split
 ·rename_i h; subst h; rfl
 ·rfl
theorem zfY {P : Program} {s : TypeId} {f off : Nat} (h : yQ P s f off = true) (b o : Nat) (w : World) :
 (Instr.fieldAt s (.pointer (some ⟨b, o, none⟩)) f).run P w = .ok (.pointer (some ⟨b, o + off, none⟩)) w := by
 unfold yQ at h;split at h <;> try (simp at h; done)
 rename_i fs hu;split at h <;> try (simp at h; done)
 rename_i fd hf;simp only [Bool.and_eq_true, beq_iff_eq] at h;obtain ⟨h1, h2⟩ := h;cases hi : P.info? fd.type with
 | none => simp [hi] at h2
 | some i =>
  simp [hi] at h2;simp [Instr.fieldAt, run_underlying hu, hf, Instr.sureAddr, fieldPlace, sizeOf, typeInfo, hi, h2, zv, h1]
section
variable {P : Program} {C : Ctx} {st : St} {ty : TypeId}
theorem zdf {s : TypeId} {x : Operand} {f off k z i j : Nat} (hx : ev st x = some (.ptr k z i j)) (hf : yQ P s f off = true) :
 Pur P C (.fieldAddr s x f) ty st (.ptr k z i (j + off)) := fun g a w dst pos af gd hr => by
 obtain ⟨b, hb, e⟩ := zV (yn hr hx);refine ⟨.pointer (some ⟨b, i * z + (j + off), none⟩), ?_, .ptr k z i (j + off) b hb⟩;simp [execOp, e, zfY hf, Nat.add_assoc]
theorem zgi {α : Type} {enc : α -> List AV} {z : α} {s : TypeId} {x : Operand} {f off j : Nat} (hx : ev st x = some (.ept enc z j)) (hf : yQ P s f off = true) :
 Pur P C (.fieldAddr s x f) ty st (.ept enc z (j + off)) := fun g a w dst pos af gd hr => by
 obtain ⟨b, o, vs, e, h1, h2⟩ := zgx (yn hr hx);refine ⟨.pointer (some ⟨b, o + (j + off), none⟩), ?_, .ept enc z (j + off) b o vs h1 h2⟩;simp [execOp, e, zfY hf, Nat.add_assoc]
theorem zdC {g : Gh} {w : World} {k : Nat} {cs : List AV} {E : TypeId} (h : y4 C g w k (.box cs E)) :
 ∃ (b : Nat) (vs : Array Value), g.ρ k = .pointer (some ⟨b, 0, none⟩) /\ vs.size = cs.length /\ (∀ j, w.cell? ⟨b, j, none⟩ = vs[j]?) /\ ∀ (j : Nat) c v, cs[j]? = some c -> vs[j]? = some v -> RV g.I g.ρ c v := by
 obtain ⟨b, vs, h1, h2, h3, h4, h5, h6⟩ := h;exact ⟨b, vs, h1, h5, fun j => by simp [World.cell?, h4], h6⟩
theorem za7 {P : Program} {t : TypeId} (h : tyOk P t false 1 = true) {a : Addr} {w : World} {v : Value} (hc : w.cell? a = some v) : (loadVar t a).run P w = .ok v w := by
 simp [loadVar, zbK h, hc]
theorem zC {P : Program} {t : TypeId} {n : Nat} (h : tyOk P t true n = true) {b o : Nat} {w : World} {vs : List Value} (hn : vs.length = n) (hc : ∀ j v, vs[j]? = some v -> w.cell? ⟨b, o + j, none⟩ = some v) :
 (loadVar t ⟨b, o, none⟩).run P w = .ok (.agg vs.toArray) w := by
 subst hn;have := run_loadCells_list (P := P) (w := w) ⟨b, o, none⟩ vs (fun j v hv => by rw [zv]; exact hc j v hv);simp [loadVar, zbK h, yX h, this]
theorem yG {t : TypeId} {x : Operand} {k z i j : Nat} {cs : List AV} {E : TypeId} {y : AV} (hx : ev st x = some (.ptr k z i j)) (hk : lk st.h k = some (.box cs E)) (hy : cs[i * z + j]? = some y)
 (ht : tyOk P t false 1 = true) : Pur P C (.load t x) ty st y := fun g a w dst pos af gd hr => by
 obtain ⟨b, hb, e⟩ := zV (yn hr hx);obtain ⟨b', vs, h1, h2, h3, h4⟩ := zdC (hr.sat.blk k _ hk);have : b' = b := by rw [h1] at hb; simpa [yT] using hb
 subst this;have hlt : i * z + j < vs.size := by rw [h2]; exact (List.getElem?_eq_some_iff.1 hy).1
 have hv : vs[i * z + j]? = some vs[i * z + j] := Array.getElem?_eq_getElem hlt;refine ⟨_, ?_, h4 _ y _ hy hv⟩;simp only [execOp, e, Sem.run_bind, Instr.loadAt, Instr.sureAddr, Sem.run_pure, Result.andThen_ok, za7 ht ((h3 _).trans hv)]
theorem zhn {t : TypeId} {x : Operand} {k z i n : Nat} {cs : List AV} {E : TypeId} (hx : ev st x = some (.ptr k z i 0)) (hk : lk st.h k = some (.box cs E)) (hi : i * z = 0) (hn : cs.length = n)
 (ht : tyOk P t true n = true) : Pur P C (.load t x) ty st (.agg cs) := fun g a w dst pos af gd hr => by
 obtain ⟨b, hb, e⟩ := zV (yn hr hx);obtain ⟨b', vs, h1, h2, h3, h4⟩ := zdC (hr.sat.blk k _ hk);have : b' = b := by rw [h1] at hb; simpa [yT] using hb
 subst this;refine ⟨.agg vs.toList.toArray, ?_, .agg cs vs.toList (by simpa using h2) (fun j c v hc hv => h4 j c v hc (by simpa using hv))⟩;have := zC (P := P) (t := t) ht (b := b') (o := 0) (w := w) (vs := vs.toList) (by simp [h2, hn]) (fun j v hv => by rw [Nat.zero_add, h3]; simpa using hv);simp only [execOp, e, hi, Nat.zero_add, Sem.run_bind, Instr.loadAt, Instr.sureAddr, Sem.run_pure, Result.andThen_ok, this]
theorem zgj {t : TypeId} {x : Operand} {k z i j n : Nat} {cs ys : List AV} {E : TypeId} (hx : ev st x = some (.ptr k z i j)) (hk : lk st.h k = some (.box cs E)) (hy : (cs.drop (i * z + j)).take n = ys) (hn : ys.length = n)
 (ht : tyOk P t true n = true) : Pur P C (.load t x) ty st (.agg ys) := fun g a w dst pos af gd hr => by
 obtain ⟨b, hb, e⟩ := zV (yn hr hx);obtain ⟨b', vs, h1, h2, h3, h4⟩ := zdC (hr.sat.blk k _ hk);have : b' = b := by rw [h1] at hb; simpa [yT] using hb
 subst this;subst hy;have hlen : ((vs.toList.drop (i * z + j)).take n).length = n := by simp [h2] at hn ⊢; omega
 refine ⟨.agg ((vs.toList.drop (i * z + j)).take n).toArray, ?_, .agg _ _ (by rw [hlen, hn]) (fun q c v hc hv => ?_)⟩
 ·have := zC (P := P) (t := t) ht (b := b') (o := i * z + j) (w := w) (vs := (vs.toList.drop (i * z + j)).take n) hlen (fun q v hv => by
   rw [h3];rw [List.getElem?_take] at hv;split at hv
   ·rw [List.getElem?_drop] at hv; simpa using hv
   ·simp at hv)
  simp only [execOp, e, Sem.run_bind, Instr.loadAt, Instr.sureAddr, Sem.run_pure, Result.andThen_ok, this]
 ·rw [List.getElem?_take] at hc hv;split at hc
  ·rename_i hq; rw [if_pos hq] at hv;rw [List.getElem?_drop] at hc hv;exact h4 _ c v hc (by simpa using hv)
  ·simp at hc
theorem RV.forget' {I : Im} {ρ ρ' : Nat -> Value} {x : AV} {v : Value} (h : RV I ρ x v) (hf : ∀ k, x.fr k = true) : RV I ρ' x v := by
 induction h with
 | int k n => exact .int k n
 | bool b => exact .bool b
 | str s => exact .str s
 | nils => exact .nils
 | nilf => exact .nilf
 | val v => exact .val v
 | sl enc l A b o s c vs hA hc hm hs hI hv ih => exact .sl enc l A b o s c vs hA hc hm hs hI hv
 | own k' A n c h => exact absurd (hf k') (by simp [AV.fr])
 | ptr k' s i j b h => exact absurd (hf k') (by simp [AV.fr])
 | mth f k' s i j b h => exact absurd (hf k') (by simp [AV.fr])
 | sub k' s i m c A h => exact absurd (hf k') (by simp [AV.fr])
 | ept enc x j b o vs hI hv ih => exact .ept enc x j b o vs hI hv
 | yv l => exact .yv l
 | fn f caps vs hl hv ih => exact .fn f caps vs hl (fun j c v hc hvv => ih j c v hc hvv (fun k => zn (by simpa [AV.fr] using hf k) hc))
 | agg cs vs hl hv ih => exact .agg cs vs hl (fun j c v hc hvv => ih j c v hc hvv (fun k => zn (by simpa [AV.fr] using hf k) hc))
 | tup cs vs hl hv ih => exact .tup cs vs hl (fun j c v hc hvv => ih j c v hc hvv (fun k => zn (by simpa [AV.fr] using hf k) hc))
 | ifb b x v h ih => exact .ifb b x v (fun hb => ih hb (fun k => by simpa [AV.fr] using hf k))
 | opt b x v h h0 ih => exact .opt b x v (fun hb => ih hb (fun k => by simpa [AV.fr] using hf k)) h0
 | mp k' b h => exact absurd (hf k') (by simp [AV.fr])
 | any v => exact .any v
def AV.nm : AV -> Bool
 | .own _ => false
 | .ptr _ _ _ _ => false
 | .mth _ _ _ _ _ => false
 | .sub _ _ _ _ => false
 | .fn _ cs => nmL cs
 | .agg cs => nmL cs
 | .tup cs => nmL cs
 | .ifb _ x => x.nm
 | .opt _ x => x.nm
 | .mp _ => false
 | _ => true
where nmL : List AV -> Bool
 | [] => true
 | x :: r => x.nm && nmL r
theorem zo : ∀ {cs : List AV}, AV.nm.nmL cs = true -> ∀ {j : Nat} {c : AV}, cs[j]? = some c -> c.nm = true
 | [], _, _, _, h => by simp at h
 | x :: r, h, 0, c, e => by
  simp [AV.nm.nmL] at h; simp at e; exact e ▸ h.1
 | x :: r, h, j + 1, c, e => by
  simp [AV.nm.nmL] at h; exact zo h.2 (by simpa using e)
theorem RV.forget {I : Im} {ρ ρ' : Nat -> Value} {x : AV} {v : Value} (h : RV I ρ x v) (hf : x.nm = true) : RV I ρ' x v := by
 induction h with
 | int k n => exact .int k n
 | bool b => exact .bool b
 | str s => exact .str s
 | nils => exact .nils
 | nilf => exact .nilf
 | val v => exact .val v
 | sl enc l A b o s c vs hA hc hm hs hI hv ih => exact .sl enc l A b o s c vs hA hc hm hs hI hv
 | own k' A n c h => simp [AV.nm] at hf
 | ptr k' s i j b h => simp [AV.nm] at hf
 | mth f k' s i j b h => simp [AV.nm] at hf
 | sub k' s i m c A h => simp [AV.nm] at hf
 | ept enc x j b o vs hI hv ih => exact .ept enc x j b o vs hI hv
 | yv l => exact .yv l
 | fn f caps vs hl hv ih => exact .fn f caps vs hl (fun j c v hc hvv => ih j c v hc hvv (zo (by simpa [AV.nm] using hf) hc))
 | agg cs vs hl hv ih => exact .agg cs vs hl (fun j c v hc hvv => ih j c v hc hvv (zo (by simpa [AV.nm] using hf) hc))
 | tup cs vs hl hv ih => exact .tup cs vs hl (fun j c v hc hvv => ih j c v hc hvv (zo (by simpa [AV.nm] using hf) hc))
 | ifb b x v h ih => exact .ifb b x v (fun hb => ih hb (by simpa [AV.nm] using hf))
 | opt b x v h h0 ih => exact .opt b x v (fun hb => ih hb (by simpa [AV.nm] using hf)) h0
 | mp k b h => simp [AV.nm] at hf
 | any v => exact .any v
theorem zaJ {α : Type} {enc : α -> List AV} {u : α} {t : TypeId} {x : Operand} {j : Nat} {y : AV} (hx : ev st x = some (.ept enc u j)) (hy : (enc u)[j]? = some y) (hn : y.nm = true)
 (ht : tyOk P t false 1 = true) : Pur P C (.load t x) ty st y := fun g a w dst pos af gd hr => by
 obtain ⟨b, o, vs, e, h1, h2⟩ := zgx (yn hr hx);have hlt : j < (enc u).length := (List.getElem?_eq_some_iff.1 hy).1;refine ⟨vs j, ?_, (h2 j y hy).forget hn⟩;simp only [execOp, e, Sem.run_bind, Instr.loadAt, Instr.sureAddr, Sem.run_pure, Result.andThen_ok, za7 ht (hr.sat.im _ _ _ (h1 j hlt)).1]
theorem zho {α : Type} {enc : α -> List AV} {u : α} {t : TypeId} {x : Operand} {n : Nat} (hx : ev st x = some (.ept enc u 0)) (hl : (enc u).length = n) (hn : AV.nm.nmL (enc u) = true)
 (ht : tyOk P t true n = true) : Pur P C (.load t x) ty st (.agg (enc u)) := fun g a w dst pos af gd hr => by
 obtain ⟨b, o, vs, e, h1, h2⟩ := zgx (yn hr hx);have hlen : ((List.range n).map vs).length = n := by simp
 refine ⟨.agg ((List.range n).map vs).toArray, ?_, .agg _ _ (by rw [hlen, hl]) (fun j c v hc hv => ?_)⟩
 ·have := zC (P := P) (t := t) ht (b := b) (o := o) (w := w) (vs := (List.range n).map vs) hlen (fun j v hv => by
   rw [List.getElem?_map] at hv;by_cases hj : j < n
   ·simp [List.getElem?_range hj] at hv;subst hv;exact (hr.sat.im _ _ _ (h1 j (by omega))).1
   ·simp [List.getElem?_eq_none (l := List.range n) (i := j) (by simp; omega)] at hv)
  simp only [execOp, e, Nat.add_zero, Sem.run_bind, Instr.loadAt, Instr.sureAddr, Sem.run_pure, Result.andThen_ok, this]
 ·have hj : j < n := by rw [← hl]; exact (List.getElem?_eq_some_iff.1 hc).1
  rw [List.getElem?_map, List.getElem?_range hj] at hv;simp at hv; subst hv;exact (h2 j c hc).forget (zo hn hc)
theorem zb3 {I : Im} {ρ : Nat -> Value} {α : Type} {enc : α -> List AV} {l : List α} {v : Value} (h : RV I ρ (.sl enc l) v) : ∃ (A : Option Addr) (b o s c : Nat) (vs : Nat -> Nat -> Value), v = .slice A l.length c ∧
 (l ≠ [] -> A = some ⟨b, o, none⟩) /\ l.length <= c /\ c <= maxLen /\ (∀ (i : Nat) (x : α), l[i]? = some x -> (enc x).length = s) ∧
 (∀ (i : Nat) (x : α) (j : Nat), l[i]? = some x -> j < s -> I b (o + i * s + j) = some (vs i j)) /\ ∀ (i : Nat) (x : α) (j : Nat) (cell : AV), l[i]? = some x -> (enc x)[j]? = some cell -> RV I noNames cell (vs i j) := by
 cases h;exact ⟨_, _, _, _, _, _, rfl, by assumption, by assumption, by assumption, by assumption, by assumption, by assumption⟩
theorem zqc {g : Gh} {w : World} {k : Nat} {α : Type} {enc : α -> List AV} {l : List α} {E : TypeId} {s : Nat} (h : y4 C g w k (.row enc l E s)) : ∃ A c, g.ρ k = .slice A l.length c /\ l.length <= maxLen := by
 obtain ⟨xs, h1, _⟩ := h;rcases h1.2 with ⟨h, h0⟩ | ⟨b, cap, cur, h, _, _, hc, hm, _⟩
 ·exact ⟨none, 0, by rw [h, h0], by omega⟩
 ·exact ⟨_, _, h, by omega⟩
def slOk (P : Program) (t E : TypeId) : Bool := match P.underlying t with | some (.slice e) => e == E | _ => false
theorem y7 {P : Program} {t E : TypeId} (h : slOk P t E = true) : P.underlying t = some (.slice E) := by
 unfold slOk at h;split at h
 ·rename_i e hu; simp at h; subst h; exact hu
 ·simp at h
theorem zh3 {P : Program} {t E ty : TypeId} (h : slOk P t E = true) (A : Option Addr) (n c : Nat) (w : World) : (Builtin.len_ #[t] ty #[.slice A n c]).run P w = .ok (.int .i64 n) w := by
 simp [Builtin.len_, run_underlying (y7 h), goInt]
theorem zd5 {a : Act} {w : World} {dst : Option Tmp} {x : Operand} {t E : TypeId} {pos : String} {af : Array Edge} {gd : Option (Nat × Bool)} {A : Option Addr} {n c : Nat} (h : slOk P t E = true) (e : a.eval x = .slice A n c) :
 (execOp a.eval { dst := dst, op := .call { callee := .builtin .len, args := #[x], argTypes := #[t] }, type := ty, pos := pos, after := af, guard := gd }).run P w = .ok (.value (.int .i64 n)) w := by
 simp [execOp, resolve, invoke, builtin, e, zh3 h]
theorem zfp {α : Type} {enc : α -> List AV} {l : List α} {x : Operand} {t E : TypeId} (hx : ev st x = some (.sl enc l)) (h : slOk P t E = true) :
 Pur P C (.call { callee := .builtin .len, args := #[x], argTypes := #[t] }) ty st (.int .i64 l.length) := fun g a w dst pos af gd hr => by
 obtain ⟨A, b, o, s, c, vs, e, _⟩ := zb3 (yn hr hx);exact ⟨_, zd5 h e, .int _ _⟩
theorem zd6 {α : Type} {enc : α -> List AV} {l : List α} {x : Operand} {t E E' : TypeId} {k s : Nat} (hx : ev st x = some (.own k)) (hk : lk st.h k = some (.row enc l E' s)) (h : slOk P t E = true) :
 Pur P C (.call { callee := .builtin .len, args := #[x], argTypes := #[t] }) ty st (.int .i64 l.length) := fun g a w dst pos af gd hr => by
 obtain ⟨A, c, e, _⟩ := zqc (hr.sat.blk k _ hk);rw [zU (yn hr hx)] at e;exact ⟨_, zd5 h e, .int _ _⟩
theorem zc1 {x : Operand} {t E : TypeId} (hx : ev st x = some .nils) (h : slOk P t E = true) :
 Pur P C (.call { callee := .builtin .len, args := #[x], argTypes := #[t] }) ty st (.int .i64 0) := fun g a w dst pos af gd hr =>
 ⟨_, zd5 h (za4 (yn hr hx)), .int _ _⟩
theorem zfZ {a : Act} {w : World} {dst : Option Tmp} {x y : Operand} {t E : TypeId} {ag : Bool} {pos : String} {af : Array Edge} {gd : Option (Nat × Bool)} {b o n c s : Nat} {kk : IntKind} {i : Int} (h : slOk P t E = true) (hs : tyOk P E ag s = true)
 (ex : a.eval x = .slice (some ⟨b, o, none⟩) n c) (ey : a.eval y = .int kk i) (h0 : 0 <= i) (h1 : i < n) :
 (execOp a.eval { dst := dst, op := .indexAddr t x y, type := ty, pos := pos, after := af, guard := gd }).run P w = .ok (.value (.pointer (some ⟨b, o + i.toNat * s, none⟩))) w := by
 simp [execOp, Instr.indexAt, asIntOf, ex, ey, run_underlying (y7 h), h0, h1, yX hs, zv]
theorem zc2 {α : Type} {enc : α -> List AV} {l : List α} {u : α} {x y : Operand} {t E : TypeId} {ag : Bool} {s : Nat} {kk : IntKind} {i : Int} (hx : ev st x = some (.sl enc l)) (hy : ev st y = some (.int kk i))
 (h : slOk P t E = true) (hs : tyOk P E ag s = true) (he : ∀ z, (enc z).length = s) (h0 : 0 <= i) (hu : l[i.toNat]? = some u) :
 Pur P C (.indexAddr t x y) ty st (.ept enc u 0) := fun g a w dst pos af gd hr => by
 obtain ⟨A, b, o, s', c, vs, e, hA, _, _, h1, h2, h3⟩ := zb3 (yn hr hx);have hlt : i.toNat < l.length := (List.getElem?_eq_some_iff.1 hu).1;have hne : l ≠ [] := by intro e; subst e; simp at hlt
 rw [hA hne] at e;have hs' : s' = s := (h1 _ _ hu).symm.trans (he u);subst hs';refine ⟨_, zfZ h hs e (za (yn hr hy)) h0 (by omega), ?_⟩;exact .ept enc u 0 b (o + i.toNat * s') (vs i.toNat) (fun j hj => h2 _ u j hu (by rw [he u] at hj; exact hj)) (fun j cell hc => h3 _ u j cell hu hc)
theorem zdD {α : Type} {enc : α -> List AV} {l : List α} {x y : Operand} {t E E' : TypeId} {ag : Bool} {k s : Nat} {kk : IntKind} {i : Int} (hx : ev st x = some (.own k)) (hk : lk st.h k = some (.row enc l E' s)) (hy : ev st y = some (.int kk i))
 (h : slOk P t E = true) (hs : tyOk P E ag s = true) (h0 : 0 <= i) (h1 : i < l.length) :
 Pur P C (.indexAddr t x y) ty st (.ptr k s i.toNat 0) := fun g a w dst pos af gd hr => by
 obtain ⟨xs, hw, _⟩ := hr.sat.blk k _ hk;have ek := zU (yn hr hx);rcases hw.2 with ⟨_, e0⟩ | ⟨b, cap, cur, hv, _⟩
 ·omega
 ·rw [hv] at ek;refine ⟨_, zfZ h hs ek.symm (za (yn hr hy)) h0 h1, ?_⟩;have := RV.ptr (I := g.I) (ρ := g.ρ) k s i.toNat 0 b (by rw [hv]; rfl);simpa using this
theorem zaK {α : Type} {enc : α -> List AV} {l : List α} {u : α} {t : TypeId} {x : Operand} {k s i j : Nat} {E : TypeId} {y : AV} (hx : ev st x = some (.ptr k s i j)) (hk : lk st.h k = some (.row enc l E s)) (hu : l[i]? = some u) (hy : (enc u)[j]? = some y) (hn : y.nm = true)
 (ht : tyOk P t false 1 = true) : Pur P C (.load t x) ty st y := fun g a w dst pos af gd hr => by
 obtain ⟨b, hb, e⟩ := zV (yn hr hx);obtain ⟨xs, hw, h1, h2, h3⟩ := hr.sat.blk k _ hk;rcases hw.2 with ⟨hv, _⟩ | ⟨b', cap, cur, hv, _, hh, hnc, _, hcur, htk⟩
 ·rw [hv] at hb; simp [yT] at hb
 ·have : b' = b := by rw [hv] at hb; simpa [yT] using hb
  subst this;have hil : i < l.length := (List.getElem?_eq_some_iff.1 hu).1;have hjs : j < s := by rw [← h1 i u hu]; exact (List.getElem?_eq_some_iff.1 hy).1
  have hlt : i * s + j < l.length * s := by
   have h2 : (i + 1) * s <= l.length * s := Nat.mul_le_mul_right s hil;have h3 : (i + 1) * s = i * s + s := Nat.succ_mul i s;omega
  have hxl : i * s + j < xs.length := by rw [hw.1]; exact hlt
  have hc : w.cell? ⟨b', i * s + j, none⟩ = some xs[i * s + j] := by
   simp only [World.cell?, hh]
   have h0 : cur.toList[i * s + j]? = some xs[i * s + j] := by
    rw [← List.getElem?_eq_getElem hxl];conv => rhs; rw [← htk]
    rw [List.getElem?_take, if_pos hlt]
   simpa using h0
  refine ⟨_, ?_, (h2 i u j y _ hu hy (List.getElem?_eq_getElem hxl)).forget hn⟩;simp only [execOp, e, Sem.run_bind, Instr.loadAt, Instr.sureAddr, Sem.run_pure, Result.andThen_ok, za7 ht hc]
end
end Go.Rse
namespace Go.Rse
open Go Go.RowKit
def vSc : Value -> Bool
 | .pointer _ | .map _ | .nilIface | .iface _ _ => true
 | _ => false
def AV.sc : AV -> Bool
 | .int _ _ | .bool _ | .str _ | .nils | .nilf | .sl _ _ | .own _ | .ptr _ _ _ _ | .ept _ _ _ | .fn _ _ | .yv _ | .sub _ _ _ _ | .mp _ | .mth _ _ _ _ _ => true
 | .val v => vSc v
 | _ => false
theorem za8 {I : Im} {ρ : Nat -> Value} {x : AV} {v : Value} (h : RV I ρ x v) (hs : x.sc = true) : v.cells = #[v] /\ v.oneCell' = true := by
 cases x with
 | val u =>
  have e := za5 h;subst e;cases v <;> simp [AV.sc, vSc] at hs <;> exact ⟨rfl, rfl⟩
 | _ => cases h <;> simp [AV.sc] at hs <;> exact ⟨rfl, rfl⟩
def scL : List AV -> Bool
 | [] => true
 | x :: r => x.sc && scL r
theorem zd7 : ∀ {cs : List AV}, scL cs = true -> ∀ {j : Nat} {c : AV}, cs[j]? = some c -> c.sc = true
 | [], _, _, _, h => by simp at h
 | x :: r, h, 0, c, e => by simp [scL] at h; simp at e; exact e ▸ h.1
 | x :: r, h, j + 1, c, e => by simp [scL] at h; exact zd7 h.2 (by simpa using e)
def Gh.nw (g : Gh) (d b k : Nat) (v : Value) : Gh := { ρ := fun n => if n = k then v else g.ρ n, I := g.I, O := fun b' => if b' = b then some (d, k) else g.O b' }
theorem ImOB.nw {g : Gh} {w w' : World} (h : ImOB g w) (hg : Grow w w') (hlt : w.heap.size < w'.heap.size) (d k : Nat) (v : Value) : ImOB (g.nw d w.heap.size k v) w' := by
 refine ⟨fun b o u hI => ?_, fun b k' hO => ?_, h.2.2⟩
 ·obtain ⟨h1, h2⟩ := h.1 b o u hI;refine ⟨hg.cell h1, ?_⟩;have := zbm h1;simp only [Gh.nw];rw [if_neg (by omega)]; exact h2
 ·simp only [Gh.nw] at hO;split at hO
  ·omega
  ·exact Nat.lt_trans (h.2.1 b k' hO) hlt
theorem Add.nw {g : Gh} {w w' : World} (hg : Grow w w') (d k : Nat) (v : Value) : Add (some k) g w (g.nw d w.heap.size k v) w' :=
 ⟨Im.le_refl _, fun n hn => by simp only [Gh.nw]; rw [if_neg (fun e => hn (by rw [e]))], fun b hb => by simp only [Gh.nw]; rw [if_neg (by omega)], hg⟩
def zb (P : Program) (T : TypeId) (cs : List AV) : Prop := ∃ z, (P.info? T).bind (·.zero) = some z /\ cvL z.cells.toList = some cs
section
variable {P : Program} {C : Ctx} {st : St} {ty : TypeId}
theorem zjt {g : Gh} {a : Act} {w : World} (hr : Rel C st g a w) {T : TypeId} {cs : List AV} {vs : Array Value} {k : Nat} (hl : vs.size = cs.length) (hv : ∀ (j : Nat) c v, cs[j]? = some c -> vs[j]? = some v -> RV g.I g.ρ c v) (hf : AV.fr.frL k cs = true) :
 Add (some k) g w (g.nw C.d w.heap.size k (.pointer (some ⟨w.heap.size, 0, none⟩))) (w.alloc (.cells vs T)) ∧
 RV (g.nw C.d w.heap.size k (.pointer (some ⟨w.heap.size, 0, none⟩))).I (g.nw C.d w.heap.size k (.pointer (some ⟨w.heap.size, 0, none⟩))).ρ (.ptr k 0 0 0) (.pointer (some ⟨w.heap.size, 0, none⟩)) ∧
 ImOB (g.nw C.d w.heap.size k (.pointer (some ⟨w.heap.size, 0, none⟩))) (w.alloc (.cells vs T)) ∧
 y4 C (g.nw C.d w.heap.size k (.pointer (some ⟨w.heap.size, 0, none⟩))) (w.alloc (.cells vs T)) k (.box cs T) := by
 have hadd := Add.nw (g := g) (Grow.alloc w (.cells vs T)) C.d k (.pointer (some ⟨w.heap.size, 0, none⟩));refine ⟨hadd, ?_, ImOB.nw ⟨hr.sat.im, hr.sat.ob⟩ (Grow.alloc _ _) (by simp) C.d k _, ?_⟩
 ·exact .ptr k 0 0 0 w.heap.size (by simp [Gh.nw, yT])
 ·refine ⟨w.heap.size, vs, by simp [Gh.nw], by simp [Gh.nw], .inl hr.ext.size, heap_alloc_new w _, hl, fun j c v hc hvv => ?_⟩;exact (hv j c v hc hvv).renameOpt (nk := some k) (fun n hn => by injection hn with hn; subst hn; exact zn hf hc) hadd.ρ
theorem zvJ {T : TypeId} {x : Operand} {y : AV} {k : Nat} (hx : ev st x = some y) (hs : y.sc = true) (hf : y.fr k = true) : yr P C (.box T x) ty st (.ptr k 0 0 0) (some (k, .box [y] T)) :=
 zG fun g a w dst pos af gd hr => by
  have hy := yn hr hx
  obtain ⟨h1, h2, h3, h4⟩ := zjt hr (T := T) (cs := [y]) (vs := #[a.eval x]) (k := k) rfl (fun j c v hc hv => by
   cases j with
   | zero => simp at hc hv; subst hc; subst hv; exact hy
   | succ j => simp at hc) (by simp [AV.fr.frL, hf])
  refine ⟨_, _, _, ?_, h1, h2, h3, fun k' B hB => by injection hB with hB; injection hB with e1 e2; subst e1; subst e2; exact h4⟩;simp only [execOp, Instr.box, newVar, newRow, (za8 hy hs).1];rfl
theorem zfJ {T : TypeId} {x : Operand} {cs : List AV} {k : Nat} (hx : ev st x = some (.agg cs)) (hf : AV.fr.frL k cs = true) : yr P C (.box T x) ty st (.ptr k 0 0 0) (some (k, .box cs T)) :=
 zG fun g a w dst pos af gd hr => by
  obtain ⟨vs, e, hl, hv⟩ := za6 (yn hr hx);obtain ⟨h1, h2, h3, h4⟩ := zjt hr (T := T) (cs := cs) (vs := vs.toArray) (k := k) (by simpa using hl) (fun j c v hc hvv => hv j c v hc (by simpa using hvv)) hf;refine ⟨_, _, _, ?_, h1, h2, h3, fun k' B hB => by injection hB with hB; injection hB with e1 e2; subst e1; subst e2; exact h4⟩;simp only [execOp, Instr.box, newVar, newRow, e, Value.cells];rfl
theorem zvK {v : Value} {x : AV} (h : cv v = some x) (k : Nat) : x.fr k = true := by
 unfold cv at h
 split at h <;> first
  | (injection h with h; subst h; rfl)
  | exact absurd h (by simp)
theorem zow (k : Nat) : ∀ {vs : List Value} {xs : List AV}, cvL vs = some xs -> AV.fr.frL k xs = true
 | [], xs, h => by simp [cvL] at h; subst h; rfl
 | v :: r, xs, h => by
  simp only [cvL] at h;split at h <;> try (simp at h; done)
  rename_i x ys h1 h2;injection h with h; subst h;simp [AV.fr.frL, zvK h1 k, zow k h2]
theorem zbn {T : TypeId} {cs : List AV} {k : Nat} (hzc : zb P T cs) : yr P C (.alloc T) ty st (.ptr k 0 0 0) (some (k, .box cs T)) :=
 zG fun g a w dst pos af gd hr => by
  obtain ⟨z, hz, hc⟩ := hzc;obtain ⟨hl, hv⟩ := zfI (I := g.I) (ρ := g.ρ) hc;obtain ⟨h1, h2, h3, h4⟩ := zjt hr (T := T) (cs := cs) (vs := z.cells) (k := k) (by simpa using hl) (fun j c v hcc hvv => hv j c v hcc (by simpa using hvv)) (zow k hc);refine ⟨_, _, _, ?_, h1, h2, h3, fun k' B hB => by injection hB with hB; injection hB with e1 e2; subst e1; subst e2; exact h4⟩;cases hi : P.info? T with
  | none => simp [hi] at hz
  | some i =>
   simp [hi] at hz;simp [execOp, Instr.alloc, zeroValue, typeInfo, hi, hz, newVar, newRow]
theorem y4.far {g : Gh} {w w' : World} {k b k2 : Nat} {B : Blk} (h : y4 C g w k2 B) (hm : w.grownBy w' (some b)) (hdw : w.drawn <= w'.drawn) (hb : g.O b = some (C.d, k)) (hk : k2 ≠ k) (hio : ImOB g w') : y4 C g w' k2 B := by
 cases B with
 | box cs E =>
  obtain ⟨b2, vs, h1, h2, h3, h4, h5, h6⟩ := h
  have hlt : b2 < w.heap.size := by
   rcases Nat.lt_or_ge b2 w.heap.size with hl | hl
   ·exact hl
   ·simp [Array.getElem?_eq_none hl] at h4
  have hne : b2 ≠ b := fun e => hk (by rw [e, hb] at h2; simpa using h2.symm)
  exact ⟨b2, vs, h1, h2, h3, (hm.block b2 hlt (by simpa using hne)).trans h4, h5, h6⟩
 | row enc l E s =>
  obtain ⟨xs, h1, h2, h3, h4⟩ := h;refine ⟨xs, h1.kept hm ?_, h2, h3, h4⟩;cases ho : (g.ρ k2).ownBlock with
  | none => exact .inl rfl
  | some b2 =>
   refine .inr ?_;intro e;injection e with e;subst e
   have hbk : yT (g.ρ k2) = some b2 := by
    revert ho;cases g.ρ k2 <;> simp [Value.ownBlock];rename_i A n c;cases A <;> simp [yT]
   have := (h4 b2 hbk).1;rw [hb] at this;exact hk (by simpa using this.symm)
 | hold vs cs => exact h
 | obj b2 o =>
  obtain ⟨h1, h2, h3⟩ := h;have hne : b2 ≠ b := fun e => hk (by rw [e, hb] at h2; simpa using h2.symm)
  exact ⟨(hm.block b2 (yW h1) (by simpa using hne)).trans h1, h2, h3⟩
 | yld j on => exact zfn h (Im.le_refl _) (fun _ _ _ => rfl) (fun b' e => by injection e with e; subst e; exact .inl ⟨k, hb⟩) hm hdw h.2.2.2.1 hio
 | mpb kenc venc l =>
  obtain ⟨b2, es, ck, h1, h2, h3, h4, h5, h6⟩ := h;have hne : b2 ≠ b := fun e => hk (by rw [e, hb] at h2; simpa using h2.symm)
  exact ⟨b2, es, ck, h1, h2, h3, (hm.block b2 (yW h4) (by simpa using hne)).trans h4, h5, h6⟩
 | dead => trivial
theorem Dfs.grown {g : Gh} {w w' : World} {b d k : Nat} {ds : List Deferred} (h : Dfs C g ds w) (hm : w.grownBy w' (some b)) (hb : g.O b = some (d, k)) : Dfs C g ds w' := by
 obtain ⟨D, h1, hn, h2⟩ := h;refine ⟨D, h1, hn, fun r hr => ?_⟩;obtain ⟨h3, h4, h5⟩ := h2 r hr
 have hlt : r < w.heap.size := by
  rcases Nat.lt_or_ge r w.heap.size with hl | hl
  ·exact hl
  ·simp [Array.getElem?_eq_none hl] at h3
 exact ⟨(hm.block r hlt (fun e => by injection e with e; rw [e, hb] at h4; simp at h4)).trans h3, h4, h5⟩
theorem Rel.modify {g : Gh} {a : Act} {w w' : World} {k b : Nat} {B : Blk} (h : Rel C st g a w) (hb : g.O b = some (C.d, k)) (hok : C.okb b) (hm : w.grownBy w' (some b)) (hdw : w.drawn <= w'.drawn) (hB : y4 C g w' k B) : Rel C (putH st k B) g a w' := by
 have him : ∀ b' o u, g.I b' o = some u -> w'.cell? ⟨b', o, none⟩ = some u /\ g.O b' = none := fun b' o u hI => by
  obtain ⟨h1, h2⟩ := h.sat.im b' o u hI;refine ⟨?_, h2⟩;have hne : b' ≠ b := fun e => by rw [e, hb] at h2; simp at h2
  rw [World.cell?_of_block (w := w) (a := ⟨b', o, none⟩) (hm.block b' (zbm h1) (by simpa using hne))]; exact h1
 have hob : ObO g.I g.O w' := h.sat.ob.up (Im.le_refl _) hm.size;refine ⟨h.size, h.defers.grown hm hb, h.tmps, ⟨him, hob, fun k' B' hB' => ?_⟩, ?_⟩
 ·simp only [putH, yj] at hB';cases hbq : k.beq k' <;> simp [hbq] at hB'
  ·exact (h.sat.blk k' B' hB').far hm hdw hb (fun e => by subst e; simp at hbq) ⟨him, hob⟩
  ·have : k = k' := by simpa using hbq
   subst this; exact hB' ▸ hB
 ·exact ⟨h.ext.I, hm.os.trans h.ext.os, hm.tape.trans h.ext.tape, hm.output.trans h.ext.output, Nat.le_trans h.ext.drawn hdw, Nat.le_trans h.ext.size hm.size, fun b' hb' hn ho => by
   have hne : b' ≠ b := fun e => hn (e ▸ hok)
   obtain ⟨h1, h2⟩ := h.ext.keep b' hb' hn ho;exact ⟨(hm.block b' (Nat.lt_of_lt_of_le hb' h.ext.size) (by simpa using hne)).trans h1, h2⟩, h.ext.own⟩
theorem zb4 {w : World} {b : Nat} {cs : Array Value} : w.grownBy (w.setRow b cs) (some b) :=
 ⟨rfl, rfl, rfl, by simp [World.setRow], fun k hk hne => by
  have : b ≠ k := fun e => hne (by rw [e])
  simp [World.setRow, Array.getElem?_modify, this]⟩
def yw (P : Program) (C : Ctx) (op : Op) (ty : TypeId) (dst : Option Tmp) (st st' : St) : Prop :=
 ∀ (g : Gh) (a : Act) (w : World) pos af gd, Rel C st g a w -> ∀ (K : Act -> World -> Prop),
  (∀ a' w' g', Rel C st' g' a' w' -> K a' w') -> wp1 P { dst := dst, op := op, type := ty, pos := pos, after := af, guard := gd } a w K
theorem z8 {ops : Array Oper} {st' : St} {Q : Exit -> St -> Prop} {rest : List Oper} {dst : Option Tmp} {op : Op} {pos : String} {af : Array Edge}
 (hs : yw P C op ty dst st st') (h : Ex P C ops rest st' Q) : Ex P C ops ({ dst := dst, op := op, type := ty, pos := pos, after := af, guard := none } :: rest) st Q := fun g a w hr =>
 wpListIn_plain rfl fun K hK => zK <| hs g a w pos af none hr K fun a' w' g' h' => hK _ _ (h g' a' w' h')
def setAt (cs : List AV) (n : Nat) (xs : List AV) : List AV := cs.take n ++ xs ++ cs.drop (n + xs.length)
theorem zer {g : Gh} {a : Act} {w : World} (hr : Rel C st g a w) {T : TypeId} {k z i j n : Nat} {cs ys : List AV} {E : TypeId} {ag : Bool} {x : Operand} {p : Value} {v : Value} {vs : List Value} (hx : ev st x = some (.ptr k z i j)) (hk : lk st.h k = some (.box cs E))
 (ht : tyOk P T ag n = true) (hv : v.cells = vs.toArray) (hvl : vs.length = ys.length) (hvr : ∀ (q : Nat) c u, ys[q]? = some c -> vs[q]? = some u -> RV g.I g.ρ c u) (h1 : ∀ u ∈ vs, u.oneCell' = true)
 (hn : ys.length = n) (hle : i * z + j + ys.length <= cs.length) :
 ∃ w', (Instr.storeAt T (a.eval x) v).run P w = .ok () w' /\ Rel C (putH st k (.box (setAt cs (i * z + j) ys) E)) g a w' := by
 obtain ⟨b, hb, e⟩ := zV (yn hr hx);obtain ⟨b', cur, c1, c2, c3, c4, c5, c6⟩ := hr.sat.blk k _ hk;have : b' = b := by rw [c1] at hb; simpa [yT] using hb
 subst this;have hst := run_storeCells_at (P := P) b' (i * z + j) E vs 0 cur w c4 (by omega) h1;refine ⟨w.setRow b' (List.take (i * z + j) cur.toList ++ vs ++ List.drop (i * z + j + vs.length) cur.toList).toArray, ?_, hr.modify c2 c3 zb4 (Nat.le_refl _) ?_⟩
 ·simp only [Instr.storeAt, e, Instr.sureAddr, Sem.run_bind, Sem.run_pure, Result.andThen_ok, storeVar, yX ht, hv];rw [if_neg (by simp; omega)];simpa using hst
 ·refine ⟨b', _, c1, c2, c3, setRow_heap w b' cur _ E _ c4, ?_, fun q c u hc hu => ?_⟩
  ·simp [setAt]; omega
  ·simp only [List.getElem?_toArray] at hu;simp only [setAt, List.getElem?_append, List.length_append, List.length_take] at hc hu;rw [show min (i * z + j) cs.length = i * z + j by omega] at hc;rw [show min (i * z + j) cur.toList.length = i * z + j by simp; omega] at hu;by_cases q1 : q < i * z + j
   ·rw [if_pos (by omega), if_pos q1] at hc;rw [if_pos (by omega), if_pos q1] at hu;rw [List.getElem?_take, if_pos q1] at hc hu;exact c6 q c u hc (by simpa using hu)
   ·by_cases q2 : q < i * z + j + ys.length
    ·rw [if_pos q2, if_neg q1] at hc;rw [if_pos (by omega), if_neg q1] at hu;exact hvr _ c u hc hu
    ·rw [if_neg q2] at hc;rw [if_neg (by omega)] at hu;rw [List.getElem?_drop] at hc hu;rw [hvl] at hu;exact c6 _ c u hc (by simpa using hu)
theorem zah {T : TypeId} {x y : Operand} {k z i j : Nat} {cs : List AV} {E : TypeId} {u : AV} (hx : ev st x = some (.ptr k z i j)) (hk : lk st.h k = some (.box cs E)) (hy : ev st y = some u) (hs : u.sc = true)
 (ht : tyOk P T false 1 = true) (hle : i * z + j < cs.length) : yw P C (.store T x y) ty none st (putH st k (.box (setAt cs (i * z + j) [u]) E)) := fun g a w pos af gd hr K hK => by
 have hu := yn hr hy
 obtain ⟨w', h1, h2⟩ := zer hr hx hk ht (v := a.eval y) (vs := [a.eval y]) (ys := [u]) (p := .nilIface) (za8 hu hs).1 rfl (fun q c v hc hv => by
  cases q with
  | zero => simp at hc hv; subst hc; subst hv; exact hu
  | succ q => simp at hc) (by simpa using (za8 hu hs).2) rfl (by simp; omega)
 simp only [wp1, execOp, Sem.run_bind, h1, Result.andThen_ok, Sem.run_pure, zbz];exact hK _ _ _ h2
theorem zf0 {T : TypeId} {x y : Operand} {k z i j n : Nat} {cs ys : List AV} {E : TypeId} (hx : ev st x = some (.ptr k z i j)) (hk : lk st.h k = some (.box cs E)) (hy : ev st y = some (.agg ys)) (hs : scL ys = true)
 (ht : tyOk P T true n = true) (hn : ys.length = n) (hle : i * z + j + ys.length <= cs.length) : yw P C (.store T x y) ty none st (putH st k (.box (setAt cs (i * z + j) ys) E)) := fun g a w pos af gd hr K hK => by
 obtain ⟨vs, e, hl, hv⟩ := za6 (yn hr hy)
 obtain ⟨w', h1, h2⟩ := zer hr hx hk ht (v := a.eval y) (vs := vs) (ys := ys) (p := .nilIface) (by rw [e]; rfl) hl hv (fun u hu => by
  obtain ⟨q, hq⟩ := List.mem_iff_getElem?.1 hu;have hlt : q < ys.length := by rw [← hl]; exact (List.getElem?_eq_some_iff.1 hq).1
  exact (za8 (hv q _ u (List.getElem?_eq_getElem hlt) hq) (zd7 hs (List.getElem?_eq_getElem hlt))).2) hn hle
 simp only [wp1, execOp, Sem.run_bind, h1, Result.andThen_ok, Sem.run_pure, zbz];exact hK _ _ _ h2
end
end Go.Rse
namespace Go.Rse
open Go Go.RowKit
def AV.cl : AV -> List AV
 | .agg cs => cs
 | x => [x]
def RVL (I : Im) (ρ : Nat -> Value) (cs : List AV) (vs : List Value) : Prop := vs.length = cs.length /\ ∀ (j : Nat) (c : AV) (v : Value), cs[j]? = some c -> vs[j]? = some v -> RV I ρ c v
theorem RVL.setAt {I : Im} {ρ : Nat -> Value} {cs ys : List AV} {vs us : List Value} (h : RVL I ρ cs vs) (h' : RVL I ρ ys us) (n : Nat) (hn : n + ys.length <= cs.length) :
 RVL I ρ (setAt cs n ys) (vs.take n ++ us ++ vs.drop (n + us.length)) := by
 obtain ⟨hl, hv⟩ := h;obtain ⟨hl', hv'⟩ := h';refine ⟨by simp [Rse.setAt]; omega, fun q c u hc hu => ?_⟩;simp only [Rse.setAt, List.getElem?_append, List.length_append, List.length_take] at hc hu;rw [show min n cs.length = n by omega] at hc;rw [show min n vs.length = n by omega] at hu;by_cases q1 : q < n
 ·rw [if_pos (by omega), if_pos q1] at hc;rw [if_pos (by omega), if_pos q1] at hu;rw [List.getElem?_take, if_pos q1] at hc hu;exact hv q c u hc hu
 ·by_cases q2 : q < n + ys.length
  ·rw [if_pos q2, if_neg q1] at hc;rw [if_pos (by omega), if_neg q1] at hu;exact hv' _ c u hc hu
  ·rw [if_neg q2] at hc;rw [if_neg (by omega)] at hu;rw [List.getElem?_drop] at hc hu;rw [hl'] at hu;exact hv _ c u hc hu
theorem zkd (off : Nat) : ∀ (us : List Value) (s : Nat) (cs : Array Value), off + s + us.length <= cs.size →
 ((us.zipIdx s).foldl (fun cs (c, j) => cs.setIfInBounds (off + j) c) cs).toList = cs.toList.take (off + s) ++ us ++ cs.toList.drop (off + s + us.length)
 | [], s, cs, _ => by simp
 | u :: r, s, cs, h => by
  simp only [List.length_cons] at h;have ih := zkd off r (s + 1) (cs.setIfInBounds (off + s) u) (by simp; omega);simp only [List.zipIdx_cons, List.foldl_cons];rw [ih];simp only [Array.toList_setIfInBounds, List.length_cons];have hlt : off + s < cs.toList.length := by simp; omega
  rw [show off + (s + 1) = off + s + 1 by omega];rw [show off + s + 1 + r.length = off + s + (r.length + 1) by omega];rw [List.drop_set_of_lt (by omega)];rw [List.take_set, List.take_succ_eq_append_getElem hlt];rw [List.set_append_right _ _ (by simp; omega)];simp;rw [show min (off + s) cs.size = off + s by simp at hlt; omega];simp
theorem zm0 (off : Nat) (us cs : Array Value) (h : off + us.size <= cs.size) :
 (us.zipIdx.foldl (fun cs (c, j) => cs.setIfInBounds (off + j) c) cs).toList = cs.toList.take off ++ us.toList ++ cs.toList.drop (off + us.size) := by
 have := zkd off us.toList 0 cs (by simpa using h);rw [← Array.foldl_toList, Array.toList_zipIdx];simpa using this
def zes (place : Nat -> Option (Nat × Nat)) : List AV -> List (Nat × AV) -> Option (List AV)
 | cs, [] => some cs
 | cs, (i, x) :: r => match place i with
  | none => none
  | some (off, size) => bif (x.cl.length.beq size && (off + size).ble cs.length) then zes place (setAt cs off x.cl) r else none
def zdE : AV -> Bool
 | .agg _ => true
 | x => x.sc
theorem zhp {I : Im} {ρ : Nat -> Value} {x : AV} {v : Value} (h : RV I ρ x v) (hs : zdE x = true) : RVL I ρ x.cl v.cells.toList := by
 cases x with
 | agg cs =>
  obtain ⟨vs, e, hl, hv⟩ := za6 h;subst e;exact ⟨by simpa [Value.cells, AV.cl] using hl, fun j c u hc hu => hv j c u (by simpa [AV.cl] using hc) (by simpa [Value.cells] using hu)⟩
 | tup cs => simp [zdE, AV.sc] at hs
 | ifb b x => simp [zdE, AV.sc] at hs
 | opt b x => simp [zdE, AV.sc] at hs
 | any => simp [zdE, AV.sc] at hs
 | _ =>
  have hc := (za8 h hs).1;rw [hc];refine ⟨rfl, fun j c u hc hu => ?_⟩;cases j with
  | zero => simp [AV.cl] at hc hu; subst hc; subst hu; exact h
  | succ j => simp [AV.cl] at hc
def zbH : List (Nat × AV) -> Bool
 | [] => true
 | (_, x) :: r => zdE x && zbH r
def zju (I : Im) (ρ : Nat -> Value) : List (Nat × AV) -> List (Nat × Value) -> Prop
 | [], [] => True
 | (i, x) :: r, (j, v) :: q => i = j /\ RV I ρ x v /\ zju I ρ r q
 | _, _ => False
theorem zfq {I : Im} {ρ : Nat -> Value} (place : Nat -> Option (Nat × Nat)) : ∀ (ps : List (Nat × AV)) (qs : List (Nat × Value)) (cs cs' : List AV) (vs : Array Value), zju I ρ ps qs -> zbH ps = true -> RVL I ρ cs vs.toList -> zes place cs ps = some cs' →
 ∃ vs', Instr.fill place vs qs = some vs' /\ RVL I ρ cs' vs'.toList
 | [], [], cs, cs', vs, _, _, h, e => by simp [zes] at e; subst e; exact ⟨vs, rfl, h⟩
 | (i, x) :: r, (j, v) :: q, cs, cs', vs, hp, hk, h, e => by
  obtain ⟨rfl, hx, hr⟩ := hp;simp only [zbH, Bool.and_eq_true] at hk;have hc := zhp hx hk.1;simp only [zes] at e;cases hpl : place i with
  | none => simp [hpl] at e
  | some os =>
   obtain ⟨off, size⟩ := os;simp only [hpl] at e;cases hb : (x.cl.length.beq size && (off + size).ble cs.length) with
   | false => simp [hb] at e
   | true =>
    simp only [hb, cond_true] at e;simp only [Bool.and_eq_true] at hb;have e1 : x.cl.length = size := by simpa using hb.1
    have e2 : off + size <= cs.length := by simpa using hb.2
    have hvl : v.cells.size = size := by rw [← e1, ← hc.1]; simp
    have hsz : vs.size = cs.length := by simpa using h.1
    have hf := zm0 off v.cells vs (by omega);have hset := h.setAt hc off (by omega);rw [show v.cells.toList.length = v.cells.size by simp, ← hf] at hset;obtain ⟨vs', g1, g2⟩ := zfq place r q (setAt cs off x.cl) cs' _ hr hk.2 hset e;refine ⟨vs', ?_, g2⟩;simp only [Instr.fill, hpl];rw [if_neg (by simp; omega)];exact g1
 | [], _ :: _, _, _, _, hp, _, _, _ => hp.elim
 | _ :: _, [], _, _, _, hp, _, _, _ => hp.elim
def za9 (st : St) : List (Nat × Operand) -> Option (List (Nat × AV))
 | [] => some []
 | (i, x) :: r => match ev st x, za9 st r with
  | some y, some ys => some ((i, y) :: ys)
  | _, _ => none
theorem zb5 {C : Ctx} {st : St} {g : Gh} {a : Act} {w : World} (hr : Rel C st g a w) : ∀ {ps : List (Nat × Operand)} {ys : List (Nat × AV)}, za9 st ps = some ys -> zju g.I g.ρ ys (ps.map fun (i, x) => (i, a.eval x))
 | [], ys, h => by simp [za9] at h; subst h; trivial
 | (i, x) :: r, ys, h => by
  simp only [za9] at h;cases h1 : ev st x with
  | none => simp [h1] at h
  | some y =>
   cases h2 : za9 st r with
   | none => simp [h1, h2] at h
   | some zs =>
    simp [h1, h2] at h; subst h;exact ⟨rfl, yn hr h1, zb5 hr h2⟩
def zY (P : Program) (t : TypeId) : Option (List (Nat × Nat)) :=
 match P.underlying t with
 | some (.struct fs) => some (fs.toList.map fun f => (f.offset, P.cellsOf f.type))
 | _ => none
def zw (P : Program) (t : TypeId) : Bool := match P.underlying t with
 | some (.struct fs) => fs.toList.all fun f => (P.info? f.type).isSome
 | _ => true
theorem zhq {P : Program} (w : World) : ∀ (fs : List Field), (fs.all fun f => (P.info? f.type).isSome) = true →
 (fs.mapM fun f => do pure (f.offset, ← sizeOf f.type) : Sem (List (Nat × Nat))).run P w = .ok (fs.map fun f => (f.offset, P.cellsOf f.type)) w
 | [], _ => rfl
 | f :: r, h => by
  simp only [List.all_cons, Bool.and_eq_true] at h;obtain ⟨i, hi⟩ := Option.isSome_iff_exists.1 h.1;have ih := zhq w r h.2;simp only [List.mapM_cons, Sem.run_bind, sizeOf, typeInfo, run_program, Result.andThen_ok, hi, Sem.run_pure, List.map_cons] at ih ⊢;simp only [Program.cellsOf, hi] at ih ⊢;rw [ih];simp
section
variable {P : Program} {C : Ctx} {st : St} {ty : TypeId}
theorem zqd {t : TypeId} {parts : Array (Nat × Operand)} {pl : List (Nat × Nat)} {cs cs' : List AV} {ps : List (Nat × AV)} (hpl : zY P t = some pl) (hia : zw P t = true) (hzc : zb P t cs)
 (hp : za9 st parts.toList = some ps) (hk : zbH ps = true) (hf : zes (pl[·]?) cs ps = some cs') : Pur P C (.build t parts) ty st (.agg cs') := fun g a w dst pos af gd hr => by
 obtain ⟨z, hz, hc⟩ := hzc;obtain ⟨hl, hv⟩ := zfI (I := g.I) (ρ := g.ρ) hc;obtain ⟨vs', h1, h2⟩ := zfq (I := g.I) (ρ := g.ρ) (pl[·]?) ps _ cs cs' z.cells (zb5 hr hp) hk ⟨hl, hv⟩ hf;refine ⟨.agg vs', ?_, by simpa using RV.agg (I := g.I) (ρ := g.ρ) cs' vs'.toList h2.1 h2.2⟩;unfold zY at hpl;unfold zw at hia;split at hpl <;> try (simp at hpl; done)
 rename_i fs hu;simp only [hu] at hia;injection hpl with hpl;subst hpl;cases hi : P.info? t with
 | none => simp [hi] at hz
 | some i =>
  simp [hi] at hz
  have hm : (fs.mapM fun f => do pure (f.offset, ← sizeOf f.type) : Sem (Array (Nat × Nat))).run P w = .ok (fs.toList.map fun f => (f.offset, P.cellsOf f.type)).toArray w := by
   have := zhq (P := P) w fs.toList hia;rw [← Array.toArray_toList (xs := fs), List.mapM_toArray];simp only [Sem.run_map, this, Result.andThen_ok]
  have e : (parts.map fun (i, x) => (i, a.eval x)).toList = parts.toList.map fun (i, x) => (i, a.eval x) := by simp
  have h1' : Instr.fill (fun x => (fs.toList.map fun f => (f.offset, P.cellsOf f.type)).toArray[x]?) z.cells (parts.toList.map fun (i, x) => (i, a.eval x)) = some vs' := by
   rw [← h1]; congr 1; funext x; simp
  simp only [execOp, Instr.build, Sem.run_bind, zeroValue, typeInfo, run_program, Result.andThen_ok, hi, Sem.run_pure, hz, run_underlying hu, hm, e, h1']
end
end Go.Rse
namespace Go.Rse
open Go Go.RowKit
def cln (k : Nat) (x : AV) : AV := bif x.fr k then x else .any
def clT (k : Nat) : List (Nat × AV) -> List (Nat × AV)
 | [] => []
 | (t, x) :: r => (t, cln k x) :: clT k r
def clB (k : Nat) : Blk -> Blk
 | .box cs E => .box (cs.map (cln k)) E
 | .hold vs cs => .hold vs (cs.map (cln k))
 | B => B
def clH (k : Nat) : List (Nat × Blk) -> List (Nat × Blk)
 | [] => []
 | (n, B) :: r => (n, clB k B) :: clH k r
theorem zox (k t : Nat) : ∀ l, lk (clT k l) t = (lk l t).map (cln k)
 | [] => rfl
 | (t', x) :: r => by
  simp only [clT, yj];cases t'.beq t <;> simp [zox k t r]
theorem zoy (k t : Nat) : ∀ l, lk (clH k l) t = (lk l t).map (clB k)
 | [] => rfl
 | (t', x) :: r => by
  simp only [clH, yj];cases t'.beq t <;> simp [zoy k t r]
theorem RV.cln {I : Im} {ρ ρ' : Nat -> Value} {x : AV} {v : Value} {k : Nat} (h : RV I ρ x v) (hρ : ∀ n, n ≠ k -> ρ' n = ρ n) : RV I ρ' (cln k x) v := by
 unfold Rse.cln;cases hf : x.fr k with
 | true => exact h.rename hf hρ
 | false => exact .any v
def consT (d : Option Nat) (x : AV) (l : List (Nat × AV)) : List (Nat × AV) := match d with | some d => (d, x) :: l | none => l
theorem Rel.modifyR {C : Ctx} {st : St} {g g' : Gh} {a : Act} {w w' : World} {k : Nat} {bo : Option Nat} {B : Blk} {d : Option Nat} {x : AV} {v : Value} (h : Rel C st g a w) (hI : g'.I = g.I) (hρ : ∀ n, n ≠ k -> g'.ρ n = g.ρ n)
 (hO : ∀ b, b < w.heap.size -> g'.O b = g.O b) (hbo : ∀ b, bo = some b -> g.O b = some (C.d, k) /\ C.okb b) (hm : w.grownBy w' bo) (hdw : w.drawn <= w'.drawn) (hob : ObO g'.I g'.O w')
 (hd : dOk C.n d = true) (hx : RV g'.I g'.ρ x v) (hB : y4 C g' w' k B) :
 Rel C { t := consT d x (clT k st.t), h := (k, B) :: clH k st.h } g' (a.put d v) w' := by
 have htm : ∀ t y, lk (clT k st.t) t = some y -> RV g'.I g'.ρ y (a.tmps.getD t undef) := fun t y hy => by
  rw [zox] at hy;cases hz : lk st.t t with
  | none => simp [hz] at hy
  | some z =>
   simp [hz] at hy; subst hy;rw [hI];exact (h.tmps t z hz).cln hρ
 have hsat : Sat C ((k, B) :: clH k st.h) g' w' := by
  have him : ∀ b o u, g'.I b o = some u -> w'.cell? ⟨b, o, none⟩ = some u /\ g'.O b = none := fun b o u hi => by
   rw [hI] at hi;obtain ⟨h1, h2⟩ := h.sat.im b o u hi;have hlt := zbm h1;refine ⟨?_, (hO b hlt).trans h2⟩;have hne : some b ≠ bo := fun e => by have := (hbo b e.symm).1; rw [h2] at this; simp at this
   rw [World.cell?_of_block (w := w) (a := ⟨b, o, none⟩) (hm.block b hlt hne)]; exact h1
  refine ⟨him, hob, fun k' B' hB' => ?_⟩
  ·simp only [yj] at hB';cases hbq : k.beq k' <;> simp [hbq] at hB'
   ·have hkk : k' ≠ k := fun e => by subst e; simp at hbq
    rw [zoy] at hB';cases hz : lk st.h k' with
    | none => simp [hz] at hB'
    | some B0 =>
     simp [hz] at hB'; subst hB';have h0 := h.sat.blk k' B0 hz;cases B0 with
     | box cs E =>
      obtain ⟨b2, vs, h1, h2, h3, h4, h5, h6⟩ := h0
      have hlt : b2 < w.heap.size := by
       rcases Nat.lt_or_ge b2 w.heap.size with hl | hl
       ·exact hl
       ·simp [Array.getElem?_eq_none hl] at h4
      have hne : some b2 ≠ bo := fun e => hkk (by have := (hbo b2 e.symm).1; rw [h2] at this; simpa using this)
      refine ⟨b2, vs, (hρ k' hkk).trans h1, (hO b2 hlt).trans h2, h3, (hm.block b2 hlt hne).trans h4, by simpa using h5, fun j c v hc hv => ?_⟩;rw [List.getElem?_map] at hc;cases hc0 : cs[j]? with
      | none => simp [hc0] at hc
      | some c0 =>
       simp [hc0] at hc; subst hc;rw [hI];exact (h6 j c0 v hc0 hv).cln hρ
     | row enc l E s =>
      obtain ⟨xs, h1, h2, h3, h4⟩ := h0;refine ⟨xs, ?_, h2, fun i x j c v hx hc hv => by rw [hI]; exact h3 i x j c v hx hc hv, fun b hb => ?_⟩
      ·rw [hρ k' hkk];refine h1.kept hm ?_;cases ho : (g.ρ k').ownBlock with
       | none => exact .inl rfl
       | some b2 =>
        refine .inr fun e => ?_
        have hbk : yT (g.ρ k') = some b2 := by
         revert ho;cases g.ρ k' <;> simp [Value.ownBlock];rename_i A n c;cases A <;> simp [yT]
        have h5 := (h4 b2 hbk).1;have h6 := (hbo b2 e.symm).1;rw [h5] at h6;exact hkk (by simpa using h6)
      ·rw [hρ k' hkk] at hb;exact ⟨(hO b (zbk h1 hb)).trans (h4 b hb).1, (h4 b hb).2⟩
     | hold vs cs =>
      refine ⟨by simpa using h0.1, fun j c v hc hv => ?_⟩;rw [List.getElem?_map] at hc;cases hc0 : cs[j]? with
      | none => simp [hc0] at hc
      | some c0 =>
       simp [hc0] at hc; subst hc;rw [hI];exact (h0.2 j c0 v hc0 hv).cln hρ
     | obj b2 o =>
      obtain ⟨h1, h2, h3⟩ := h0;have hlt := yW h1;have hne : some b2 ≠ bo := fun e => hkk (by have := (hbo b2 e.symm).1; rw [h2] at this; simpa using this)
      exact ⟨(hm.block b2 hlt hne).trans h1, (hO b2 hlt).trans h2, h3⟩
     | yld j on =>
      refine zfn h0 (by rw [hI]; exact Im.le_refl _) (fun b hlt _ => hO b hlt) (fun b e => .inl ⟨k, (hbo b e).1⟩) hm hdw (fun b n hn => ?_) ⟨him, hob⟩;rcases Nat.lt_or_ge b w.heap.size with hl | hl
      ·exact h0.2.2.2.1 b n ((hO b hl).symm.trans hn)
      ·have := h.ext.size; have := h0.2.2.1; omega
     | mpb kenc venc l =>
      obtain ⟨b2, es, ck, h1, h2, h3, h4, h5, h6⟩ := h0;have hlt := yW h4;have hne : some b2 ≠ bo := fun e => hkk (by have := (hbo b2 e.symm).1; rw [h2] at this; simpa using this)
      exact ⟨b2, es, ck, (hρ k' hkk).trans h1, (hO b2 hlt).trans h2, h3, (hm.block b2 hlt hne).trans h4, h5, by rw [hI]; exact h6⟩
     | dead => trivial
   ·have : k = k' := by simpa using hbq
    subst this; exact hB' ▸ hB
 have hext : Ext C g' w' := ⟨by rw [hI]; exact h.ext.I, hm.os.trans h.ext.os, hm.tape.trans h.ext.tape, hm.output.trans h.ext.output, Nat.le_trans h.ext.drawn hdw, Nat.le_trans h.ext.size hm.size, fun b' hb' hn ho => by
  have hne : some b' ≠ bo := fun e => hn (hbo b' e.symm).2
  obtain ⟨h1, h2⟩ := h.ext.keep b' hb' hn ho;have hlt := Nat.lt_of_lt_of_le hb' h.ext.size;exact ⟨(hm.block b' hlt hne).trans h1, (hO b' hlt).trans h2⟩, fun b y n hb hy => h.ext.own b y n hb ((hO b (Nat.lt_of_lt_of_le hb h.ext.size)).symm.trans hy)⟩
 have hdf : Dfs C g' a.defers w' := by
  obtain ⟨D, h1, hn, h2⟩ := h.defers;refine ⟨D, h1, hn, fun r hr => ?_⟩;obtain ⟨h3, h4, h5⟩ := h2 r hr
  have hlt : r < w.heap.size := by
   rcases Nat.lt_or_ge r w.heap.size with hl | hl
   ·exact hl
   ·simp [Array.getElem?_eq_none hl] at h3
  exact ⟨(hm.block r hlt (fun e => by have := (hbo r e.symm).1; rw [h4] at this; simp at this)).trans h3, (hO r hlt).trans h4, h5⟩
 cases d with
 | none => exact ⟨h.size, hdf, htm, hsat, hext⟩
 | some d =>
  refine ⟨by simp [Act.put, h.size], hdf, fun t y hy => ?_, hsat, hext⟩;rw [zaE (by rw [h.size]; simpa [dOk] using hd)];simp only [consT, yj] at hy;by_cases e : d = t
  ·subst e;simp at hy;rw [if_pos rfl, ← hy]; exact hx
  ·have : d.beq t = false := beqF.2 e;simp [this] at hy;rw [if_neg e]; exact htm t y hy
theorem zcK {α : Type} {enc : α -> List AV} {s : Nat} : ∀ (l : List α), (∀ (i : Nat) x, l[i]? = some x -> (enc x).length = s) -> ∀ (i : Nat) (x : α) (j : Nat), l[i]? = some x -> j < s -> (l.flatMap enc)[i * s + j]? = (enc x)[j]?
 | [], _, _, _, _, h, _ => by simp at h
 | y :: r, hs, 0, x, j, h, hj => by
  simp at h; subst h;simp only [List.flatMap_cons, Nat.zero_mul, Nat.zero_add];rw [List.getElem?_append_left (by rw [hs 0 y (by simp)]; exact hj)]
 | y :: r, hs, i + 1, x, j, h, hj => by
  have hy := hs 0 y (by simp);simp only [List.flatMap_cons];rw [List.getElem?_append_right (by rw [hy, Nat.succ_mul]; omega), hy];rw [show (i + 1) * s + j - s = i * s + j by rw [Nat.succ_mul]; omega];exact zcK r (fun i x h => hs (i + 1) x (by simpa using h)) i x j (by simpa using h) hj
theorem zy {α : Type} {enc : α -> List AV} {s : Nat} : ∀ (l : List α), (∀ (i : Nat) x, l[i]? = some x -> (enc x).length = s) -> (l.flatMap enc).length = l.length * s
 | [], _ => by simp
 | y :: r, hs => by
  simp only [List.flatMap_cons, List.length_append, List.length_cons, Nat.succ_mul];rw [hs 0 y (by simp), zy r (fun i x h => hs (i + 1) x (by simpa using h))];omega
theorem zaP {I : Im} {α : Type} {enc : α -> List AV} {l : List α} {s : Nat} {xs : List Value} (hs : ∀ (i : Nat) x, l[i]? = some x -> (enc x).length = s) (h : RVL I noNames (l.flatMap enc) xs) :
 ∀ (i : Nat) x (j : Nat) c v, l[i]? = some x -> (enc x)[j]? = some c -> xs[i * s + j]? = some v -> RV I noNames c v := fun i x j c v hx hc hv =>
 h.2 (i * s + j) c v (by rw [zcK l hs i x j hx (by rw [← hs i x hx]; exact (List.getElem?_eq_some_iff.1 hc).1)]; exact hc) hv
section
variable {P : Program} {C : Ctx} {st : St} {ty : TypeId}
theorem yF {α : Type} {enc : α -> List AV} {l : List α} {t E : TypeId} {ag : Bool} {s n k : Nat} {parts : Array (Nat × Operand)} {ps : List (Nat × AV)} {z : Value} (ht : slOk P t E = true) (hE : tyOk P E ag s = true) (hz : (P.info? E).bind (·.zero) = some z)
 (hs0 : 0 < s) (hp : za9 st parts.toList = some ps) (hk : zbH ps = true) (hf : zes (fun i => some (i * s, s)) (List.replicate (n * s) .any) ps = some (l.flatMap enc)) (hln : l.length = n) (hn : n * s <= 16777216) (hm : n <= 1000000)
 (hs : ∀ x, (enc x).length = s) (hnm : AV.nm.nmL (l.flatMap enc) = true) : yr P C (.buildSlice t n parts) ty st (.own k) (some (k, .row enc l E s)) :=
 zG fun g a w dst pos af gd hr => by
  have hcap : n <= maxLen := by simp only [maxLen]; omega
  have main : ∀ zc : Array Value, ∃ vs', Instr.fill (fun i => some (i * s, s)) ((Array.range (n * s)).map (zc[· % zc.size]!)) (parts.map fun (i, x) => (i, a.eval x)).toList = some vs' /\ RVL g.I g.ρ (l.flatMap enc) vs'.toList := fun zc => by
   have := zfq (I := g.I) (ρ := g.ρ) (fun i => some (i * s, s)) ps (parts.toList.map fun (i, x) => (i, a.eval x)) (List.replicate (n * s) .any) (l.flatMap enc) ((Array.range (n * s)).map (zc[· % zc.size]!)) (zb5 hr hp) hk
    ⟨by simp, fun j c v hc hv => by
     rw [List.getElem?_replicate] at hc;split at hc
     ·injection hc with hc; subst hc; exact .any v
     ·simp at hc⟩ hf
   simpa using this
  have hsl : ∀ (i : Nat) x, l[i]? = some x -> (enc x).length = s := fun i x _ => hs x
  have fin : ∀ vs' : Array Value, RVL g.I g.ρ (l.flatMap enc) vs'.toList →
   Add (some k) g w (g.nw C.d w.heap.size k (.slice (some ⟨w.heap.size, 0, none⟩) n n)) (w.alloc (.cells vs' E)) /\ RV (g.nw C.d w.heap.size k (.slice (some ⟨w.heap.size, 0, none⟩) n n)).I (g.nw C.d w.heap.size k (.slice (some ⟨w.heap.size, 0, none⟩) n n)).ρ (.own k) (.slice (some ⟨w.heap.size, 0, none⟩) n n) ∧
   ImOB (g.nw C.d w.heap.size k (.slice (some ⟨w.heap.size, 0, none⟩) n n)) (w.alloc (.cells vs' E)) /\ y4 C (g.nw C.d w.heap.size k (.slice (some ⟨w.heap.size, 0, none⟩) n n)) (w.alloc (.cells vs' E)) k (.row enc l E s) := fun vs' hv => by
   refine ⟨Add.nw (Grow.alloc _ _) C.d k _, .own k _ _ _ (by simp [Gh.nw]), ImOB.nw ⟨hr.sat.im, hr.sat.ob⟩ (Grow.alloc _ _) (by simp) C.d k _, ?_⟩;have hlen : vs'.toList.length = n * s := by rw [hv.1, zy l hsl, hln]
   refine ⟨vs'.toList, ?_, hsl, zaP hsl ⟨hv.1, fun j c v hc hvv => (hv.2 j c v hc hvv).forget (zo hnm hc)⟩, fun b hb => ?_⟩
   ·simp only [Gh.nw, if_true];refine ⟨by rw [hlen, hln], .inr ⟨w.heap.size, n, vs', by rw [hln], Nat.zero_le _, heap_alloc_new w _, by omega, hcap, by simpa using hlen, ?_⟩⟩;rw [hln, ← hlen]; exact List.take_of_length_le (Nat.le_refl _)
   ·simp only [Gh.nw, if_true, yT] at hb;injection hb with hb; subst hb;exact ⟨by simp [Gh.nw], .inl hr.ext.size⟩
  cases hi : P.info? E with
  | none => simp [hi] at hz
  | some i =>
   simp [hi] at hz;have hsz : i.size = s := by simp [tyOk, hi] at hE; exact hE.1
   by_cases h0 : n * s = 0
   ·obtain ⟨vs', h1, h2⟩ := main #[];obtain ⟨f1, f2, f3, f4⟩ := fin vs' h2;refine ⟨_, _, _, ?_, f1, f2, f3, fun k' B hB => by injection hB with hB; injection hB with e1 e2; subst e1; subst e2; exact f4⟩;simp only [execOp, Instr.buildSlice, Sem.run_bind, run_underlying (y7 ht), Result.andThen_ok, yX hE, h0, if_true, Sem.run_pure];rw [h0] at h1;rw [if_neg (by omega)];simp only [Sem.run_pure, Result.andThen_ok, h1, newRow, Sem.run_bind, run_newObj];rfl
   ·obtain ⟨vs', h1, h2⟩ := main z.cells;obtain ⟨f1, f2, f3, f4⟩ := fin vs' h2;refine ⟨_, _, _, ?_, f1, f2, f3, fun k' B hB => by injection hB with hB; injection hB with e1 e2; subst e1; subst e2; exact f4⟩;simp only [execOp, Instr.buildSlice, Sem.run_bind, run_underlying (y7 ht), Result.andThen_ok, yX hE, h0, if_false, Sem.run_pure];rw [if_neg (by omega)];simp only [Sem.run_pure, Sem.run_bind, zeroValue, typeInfo, run_program, hi, hz, Result.andThen_ok, h1, newRow, run_newObj];rfl
end
end Go.Rse
namespace Go.Rse
open Go Go.RowKit
def zL (P : Program) (E : TypeId) (z : Value) (s bytes : Nat) : Prop := ∃ i, P.info? E = some i /\ i.zero = some z /\ i.size = s /\ i.bytes = bytes /\ z.cells.size = s
theorem zA {P : Program} {E : TypeId} {z : Value} {s bytes : Nat} (h : (P.info? E).map (fun i => (i.zero, i.size, i.bytes)) = some (some z, s, bytes)) (hz : z.cells.size = s) : zL P E z s bytes := by
 cases hi : P.info? E with
 | none => simp [hi] at h
 | some i => simp [hi] at h; exact ⟨i, hi, h.1, h.2.1, h.2.2, hz⟩
theorem zk6 {P : Program} (w : World) {t ty E : TypeId} {z : Value} {s bytes : Nat} (ht : slOk P t E = true) (hi : zL P E z s bytes) (hs : 0 < s) (hby : bytes <= 1024)
 {v : Value} {n : Nat} {xs : List Value} (hown : w.ownsRow 0 E s v n xs) {A : Option Addr} {m c : Nat} {news : List Value} (hl : news.length = m * s)
 (hsrc : m ≠ 0 -> ∃ b o, A = some ⟨b, o, none⟩ /\ ∀ j u, news[j]? = some u -> w.cell? ⟨b, o + j, none⟩ = some u) (h1 : ∀ u ∈ news, u.oneCell' = true) (hnm : n + m <= 4294967296) :
 ∃ v' w', (Builtin.append_ #[t, t] ty #[v, .slice A m c]).run P w = .ok v' w' /\ w'.ownsRow 0 E s v' (n + m) (xs ++ news) /\ w.grownBy w' v.ownBlock /\ (v'.ownBlock = v.ownBlock \/ v'.ownBlock = some w.heap.size) := by
 obtain ⟨i, hi1, hi2, hi3, hi4, hi5⟩ := hi;have hu := y7 ht;have hmx : n + m <= maxLen := by simp only [maxLen]; omega
 have hbb : (n + m) * bytes <= 140737488355328 := by
  have : (n + m) * bytes <= 4294967296 * 1024 := Nat.mul_le_mul hnm hby;omega
 by_cases hm : m = 0
 ·subst hm;have hn : news = [] := List.eq_nil_of_length_eq_zero (by simpa using hl);subst hn;cases A with
  | none =>
   refine ⟨v, w, ?_, by simpa using hown, World.grownBy.refl w _, .inl rfl⟩;rcases hown.2 with ⟨rfl, rfl⟩ | ⟨g, cap, cur, rfl, _, _, hnc, _⟩
   ·simp [Builtin.append_, run_underlying hu, sizeOf, typeInfo, hi1, Builtin.lenOf, Builtin.firstCells]
   ·simp [Builtin.append_, run_underlying hu, sizeOf, typeInfo, hi1, Builtin.lenOf, Builtin.firstCells, hnc, storeCells]
  | some ad =>
   obtain ⟨v', w', h, h2, h3, _, h5⟩ := run_append_own_at (P := P) w 0 t ty E i z s bytes hu hi1 hi2 hi3 hi4 hi5 hs v n xs hown ad 0 c [] (by simp) (fun j u hu => by simp at hu) (by simp) hmx hbb (Nat.zero_le _);exact ⟨v', w', h, h2, h3, h5⟩
 ·obtain ⟨b, o, rfl, hc⟩ := hsrc hm;obtain ⟨v', w', h, h2, h3, _, h5⟩ := run_append_own_at (P := P) w 0 t ty E i z s bytes hu hi1 hi2 hi3 hi4 hi5 hs v n xs hown ⟨b, o, none⟩ m c news hl (fun j u hu => by rw [zv]; exact hc j u hu) h1 hmx hbb (Nat.zero_le _);exact ⟨v', w', h, h2, h3, h5⟩
theorem zcL {w : World} {E s : Nat} {v : Value} {n : Nat} {xs : List Value} (h : w.ownsRow 0 E s v n xs) : yT v = v.ownBlock := by
 rcases h.2 with ⟨rfl, _⟩ | ⟨g, cap, cur, rfl, _⟩ <;> rfl
def Gh.mv (g : Gh) (d k : Nat) (v : Value) (nb : Option Nat) : Gh := { ρ := fun n => if n = k then v else g.ρ n, I := g.I, O := fun b' => if nb = some b' then some (d, k) else g.O b' }
section
variable {P : Program} {C : Ctx} {st : St} {ty : TypeId}
theorem zcs {α : Type} {enc : α -> List AV} {l l2 : List α} {g : Gh} {a : Act} {w : World} (hr : Rel C st g a w) {t E : TypeId} {z : Value} {s bytes k : Nat} {A : Option Addr} {c : Nat} {news : List Value} {dst : Option Tmp} {y : Operand} {pos : String} {af : Array Edge} {gd : Option (Nat × Bool)} {x : Operand}
 (hx : ev st x = some (.own k)) (hk : lk st.h k = some (.row enc l E s)) (ht : slOk P t E = true) (hi : zL P E z s bytes) (hs : 0 < s) (hby : bytes <= 1024) (he : ∀ z, (enc z).length = s)
 (ey : a.eval y = .slice A l2.length c) (hsrc : l2 ≠ [] -> ∃ b o, A = some ⟨b, o, none⟩ /\ ∀ j u, news[j]? = some u -> w.cell? ⟨b, o + j, none⟩ = some u) (hnews : RVL g.I noNames (l2.flatMap enc) news) (hsc : ∀ z, scL (enc z) = true)
 (hlen : l.length + l2.length <= 4294967296) (hd : dOk C.n dst = true) (K : Act -> World -> Prop)
 (hK : ∀ a' w' g', Rel C { t := consT dst (.own k) (clT k st.t), h := (k, .row enc (l ++ l2) E s) :: clH k st.h } g' a' w' -> K a' w') :
 wp1 P { dst := dst, op := .call { callee := .builtin .append, args := #[x, y], argTypes := #[t, t] }, type := ty, pos := pos, after := af, guard := gd } a w K := by
 obtain ⟨xs, hw, h1, h2, h3⟩ := hr.sat.blk k _ hk;have hs' : ∀ (i : Nat) x, l2[i]? = some x -> (enc x).length = s := fun i x _ => he x
 have hnl : news.length = l2.length * s := by rw [hnews.1, zy l2 hs']
 have hone : ∀ u ∈ news, u.oneCell' = true := fun u hu => by
  obtain ⟨q, hq⟩ := List.mem_iff_getElem?.1 hu;have hlt : q < (l2.flatMap enc).length := by rw [← hnews.1]; exact (List.getElem?_eq_some_iff.1 hq).1
  have hc := List.getElem?_eq_getElem hlt;have hmem : (l2.flatMap enc)[q] ∈ l2.flatMap enc := List.getElem_mem hlt;obtain ⟨p, hp, hpe⟩ := List.mem_flatMap.1 hmem;obtain ⟨q', hq'⟩ := List.mem_iff_getElem?.1 hpe;exact (za8 (hnews.2 q _ u hc hq) (zd7 (hsc p) hq')).2
 obtain ⟨v', w', hrun, hw', hg, hb⟩ := zk6 (P := P) w (t := t) (ty := ty) ht hi hs hby hw (A := A) (m := l2.length) (c := c) hnl (fun hm => hsrc (fun e => hm (by simp [e]))) hone hlen;have ek := zU (yn hr hx)
 have e0 : (execOp a.eval { dst := dst, op := .call { callee := .builtin .append, args := #[x, y], argTypes := #[t, t] }, type := ty, pos := pos, after := af, guard := gd }).run P w = .ok (.value v') w' := by
  simp [execOp, resolve, invoke, builtin, ← ek, ey, hrun]
 unfold wp1;rw [e0];refine hK _ w' (g.mv C.d k v' v'.ownBlock) ?_
 have hold : ∀ b, v'.ownBlock = some b -> b < w.heap.size -> g.O b = some (C.d, k) /\ C.okb b := fun b hbv hlt => by
  rcases hb with e | e
  ·rw [e] at hbv;exact h3 b (by rw [zcL hw]; exact hbv)
  ·rw [e] at hbv; injection hbv with hbv; omega
 refine hr.modifyR (g' := g.mv C.d k v' v'.ownBlock) (bo := (g.ρ k).ownBlock) rfl (fun n hn => by simp [Gh.mv, hn]) (fun b hlt => ?_) (fun b hbo => h3 b (by rw [zcL hw]; exact hbo)) hg (zh2 _ _ hrun) ⟨fun b k' hO => ?_, hr.sat.ob.2⟩ hd ?_ ?_
 ·simp only [Gh.mv];split
  ·rename_i e; exact (hold b e hlt).1.symm
  ·rfl
 ·simp only [Gh.mv] at hO;split at hO
  ·rename_i e;exact zbk hw' (by rw [zcL hw']; exact e)
  ·exact Nat.lt_of_lt_of_le (hr.sat.ob.1 b k' hO) hg.size
 ·rcases hw'.2 with ⟨e, _⟩ | ⟨b, cap, cur, e, _⟩ <;> subst e <;> exact .own k _ _ _ (by simp [Gh.mv])
 ·have hl' : ∀ (i : Nat) x, (l ++ l2)[i]? = some x -> (enc x).length = s := fun i x _ => he x
  refine ⟨xs ++ news, ?_, hl', ?_, fun b hb' => ?_⟩
  ·have e1 : (g.mv C.d k v' v'.ownBlock).ρ k = v' := by simp [Gh.mv]
   rw [e1, List.length_append]; exact hw'
  ·intro i p j cc v hp hc hv;have hjs : j < s := by rw [← he p]; exact (List.getElem?_eq_some_iff.1 hc).1
   by_cases hil : i < l.length
   ·rw [List.getElem?_append_left hil] at hp
    have hlt : i * s + j < l.length * s := by
     have h2 : (i + 1) * s <= l.length * s := Nat.mul_le_mul_right s hil;have h3 : (i + 1) * s = i * s + s := Nat.succ_mul i s;omega
    rw [List.getElem?_append_left (by rw [hw.1]; exact hlt)] at hv;exact h2 i p j cc v hp hc hv
   ·rw [List.getElem?_append_right (by omega)] at hp
    have e2 : i * s + j = l.length * s + ((i - l.length) * s + j) := by
     have : i = l.length + (i - l.length) := by omega
     rw [this, Nat.add_mul]; simp; omega
    rw [e2, List.getElem?_append_right (by rw [hw.1]; omega), hw.1, show l.length * s + ((i - l.length) * s + j) - l.length * s = (i - l.length) * s + j by omega] at hv;exact zaP hs' hnews _ p j cc v hp hc hv
  ·have e1 : (g.mv C.d k v' v'.ownBlock).ρ k = v' := by simp [Gh.mv]
   rw [e1, zcL hw'] at hb';refine ⟨by simp [Gh.mv, hb'], ?_⟩;by_cases hlt : b < w.heap.size
   ·exact (hold b hb' hlt).2
   ·exact .inl (Nat.le_trans hr.ext.size (by omega))
theorem zav {α : Type} {enc : α -> List AV} {l l2 : List α} {t E E2 : TypeId} {z : Value} {s s2 bytes k k2 : Nat} {dst : Option Tmp} {x y : Operand}
 (hx : ev st x = some (.own k)) (hk : lk st.h k = some (.row enc l E s)) (hy : ev st y = some (.own k2)) (hk2 : lk st.h k2 = some (.row enc l2 E2 s2)) (ht : slOk P t E = true) (hi : zL P E z s bytes) (hs : 0 < s) (hby : bytes <= 1024) (he : ∀ z, (enc z).length = s) (hsc : ∀ z, scL (enc z) = true)
 (hlen : l.length + l2.length <= 4294967296) (hd : dOk C.n dst = true) :
 yw P C (.call { callee := .builtin .append, args := #[x, y], argTypes := #[t, t] }) ty dst st { t := consT dst (.own k) (clT k st.t), h := (k, .row enc (l ++ l2) E s) :: clH k st.h } := fun g a w pos af gd hr K hK => by
 obtain ⟨xs, hw, h1, h2, h3⟩ := hr.sat.blk k2 _ hk2;have ek := zU (yn hr hy)
 have hs2 : l2 ≠ [] -> s2 = s := fun hne => by
  cases l2 with
  | nil => exact absurd rfl hne
  | cons p r => exact (h1 0 p (by simp)).symm.trans (he p)
 have hlx : xs.length = l2.length * s := by
  cases l2 with
  | nil => simpa using hw.1
  | cons p r => rw [hw.1, hs2 (by simp)]
 have hsl : ∀ (i : Nat) x, l2[i]? = some x -> (enc x).length = s := fun i x _ => he x
 have hRV : RVL g.I noNames (l2.flatMap enc) xs := by
  refine ⟨by rw [hlx, zy l2 hsl], fun j c v hc hv => ?_⟩;have hj : j < l2.length * s := by rw [← zy l2 hsl]; exact (List.getElem?_eq_some_iff.1 hc).1
  have hq : j / s < l2.length := Nat.div_lt_of_lt_mul (by rw [Nat.mul_comm]; exact hj);have hdm : j / s * s + j % s = j := by rw [Nat.mul_comm]; exact Nat.div_add_mod j s
  have hr' : j % s < s := Nat.mod_lt _ hs;have hp := List.getElem?_eq_getElem hq
  have hc' : (enc l2[j / s])[j % s]? = some c := by
   rw [← zcK l2 hsl (j / s) _ (j % s) hp hr', hdm]; exact hc
  exact h2 (j / s) _ (j % s) c v hp hc' (by rw [hs2 (fun e => by subst e; simp at hq), hdm]; exact hv)
 rcases hw.2 with ⟨e, h0⟩ | ⟨b, cap, cur, e, _, hh, hnc, hcm, hcur, htk⟩
 ·rw [ek] at e;have hn0 : l2 = [] := List.eq_nil_of_length_eq_zero h0;refine zcs hr hx hk ht hi hs hby he (A := none) (c := 0) (news := xs) (by rw [e, h0]) (fun hne => absurd hn0 hne) hRV hsc hlen hd K hK
 ·rw [ek] at e;refine zcs hr hx hk ht hi hs hby he (A := some ⟨b, 0, none⟩) (c := cap) (news := xs) e (fun hne => ⟨b, 0, rfl, fun j u hu => ?_⟩) hRV hsc hlen hd K hK;have e2 := hs2 hne;subst e2;have hj : j < l2.length * s2 := by rw [← hlx]; exact (List.getElem?_eq_some_iff.1 hu).1
  rw [← htk, List.getElem?_take, if_pos hj] at hu;simp only [World.cell?, hh, Nat.zero_add];simpa using hu
theorem zbq {α : Type} {enc : α -> List AV} {l l2 : List α} {t E : TypeId} {z : Value} {s bytes k : Nat} {dst : Option Tmp} {x y : Operand}
 (hx : ev st x = some (.own k)) (hk : lk st.h k = some (.row enc l E s)) (hy : ev st y = some (.sl enc l2)) (ht : slOk P t E = true) (hi : zL P E z s bytes) (hs : 0 < s) (hby : bytes <= 1024) (he : ∀ z, (enc z).length = s) (hsc : ∀ z, scL (enc z) = true)
 (hlen : l.length + l2.length <= 4294967296) (hd : dOk C.n dst = true) :
 yw P C (.call { callee := .builtin .append, args := #[x, y], argTypes := #[t, t] }) ty dst st { t := consT dst (.own k) (clT k st.t), h := (k, .row enc (l ++ l2) E s) :: clH k st.h } := fun g a w pos af gd hr K hK => by
 obtain ⟨A, b, o, s', c, vs, e, hA, _, _, h1, h2, h3⟩ := zb3 (yn hr hy)
 have hs2 : l2 ≠ [] -> s' = s := fun hne => by
  cases l2 with
  | nil => exact absurd rfl hne
  | cons p r => exact (h1 0 p (by simp)).symm.trans (he p)
 have hsl : ∀ (i : Nat) x, l2[i]? = some x -> (enc x).length = s := fun i x _ => he x
 let news := (List.range (l2.length * s)).map fun q => vs (q / s) (q % s)
 have hget : ∀ j u, news[j]? = some u -> j < l2.length * s /\ u = vs (j / s) (j % s) := fun j u hu => by
  have hj : j < l2.length * s := by
   have := (List.getElem?_eq_some_iff.1 hu).1; simpa [news] using this
  simp [news, List.getElem?_range hj] at hu;exact ⟨hj, hu.symm⟩
 refine zcs hr hx hk ht hi hs hby he (A := A) (c := c) (news := news) e (fun hne => ⟨b, o, hA hne, fun j u hu => ?_⟩) ⟨by simp [news, zy l2 hsl], fun j c v hc hv => ?_⟩ hsc hlen hd K hK
 ·obtain ⟨hj, rfl⟩ := hget j u hu;have hq : j / s < l2.length := Nat.div_lt_of_lt_mul (by rw [Nat.mul_comm]; exact hj);have hdm : j / s * s + j % s = j := by rw [Nat.mul_comm]; exact Nat.div_add_mod j s
  have e2 := hs2 hne;subst e2;have := h2 (j / s') _ (j % s') (List.getElem?_eq_getElem hq) (Nat.mod_lt _ hs);have h4 := (hr.sat.im _ _ _ this).1;rw [Nat.add_assoc, hdm] at h4;exact h4
 ·obtain ⟨hj, rfl⟩ := hget j v hv;have hq : j / s < l2.length := Nat.div_lt_of_lt_mul (by rw [Nat.mul_comm]; exact hj);have hdm : j / s * s + j % s = j := by rw [Nat.mul_comm]; exact Nat.div_add_mod j s
  have hr' : j % s < s := Nat.mod_lt _ hs;have hp := List.getElem?_eq_getElem hq;refine h3 (j / s) _ (j % s) c hp ?_;rw [← zcK l2 hsl (j / s) _ (j % s) hp hr', hdm]; exact hc
end
end Go.Rse
namespace Go.Rse
open Go Go.RowKit
def Imp (C : Ctx) (st st' : St) : Prop := ∀ g a w, Rel C st g a w -> ∃ g', Rel C st' g' a w
theorem Imp.refl {C : Ctx} {st : St} : Imp C st st := fun g a w h => ⟨g, h⟩
theorem Imp.trans {C : Ctx} {st st' st'' : St} (h : Imp C st st') (h' : Imp C st' st'') : Imp C st st'' := fun g a w hr => let ⟨g', h1⟩ := h g a w hr; h' g' a w h1
theorem X.imp {P : Program} {C : Ctx} {c : Code} {st st' : St} {Q : Exit -> St -> Prop} (h : Imp C st st') (hx : X P C c st' Q) : X P C c st Q := fun g a w hr => let ⟨g', h1⟩ := h g a w hr; hx g' a w h1
theorem Ex.imp {P : Program} {C : Ctx} {ops : Array Oper} {l : List Oper} {st st' : St} {Q : Exit -> St -> Prop} (h : Imp C st st') (hx : Ex P C ops l st' Q) : Ex P C ops l st Q := fun g a w hr => let ⟨g', h1⟩ := h g a w hr; hx g' a w h1
def LeV (x y : AV) : Prop := ∀ (I : Im) (ρ : Nat -> Value) (v : Value), RV I ρ x v -> RV I ρ y v
theorem LeV.refl (x : AV) : LeV x x := fun _ _ _ h => h
theorem LeV.eq {x y : AV} (h : x = y) : LeV x y := h ▸ LeV.refl x
theorem LeV.nils {α : Type} (enc : α -> List AV) : LeV .nils (.sl enc []) := fun I ρ v h => by
 rw [za4 h];exact .sl enc [] none 0 0 0 0 (fun _ _ => .nilIface) (fun h => absurd rfl h) (Nat.le_refl _) (Nat.zero_le _) (fun i x h => by simp at h) (fun i x j h => by simp at h) (fun i x j c h => by simp at h)
theorem LeV.ifb {x y : AV} (h : LeV x y) : LeV (.ifb true x) y := fun I ρ v hv => h I ρ v (zma hv rfl)
inductive LeL : List AV -> List AV -> Prop
 | nil : LeL [] []
 | cons {x y : AV} {xs ys : List AV} (h : LeV x y) (hs : LeL xs ys) : LeL (x :: xs) (y :: ys)
theorem LeL.refl : ∀ xs, LeL xs xs
 | [] => .nil
 | x :: r => .cons (LeV.refl x) (LeL.refl r)
theorem LeL.rvl {I : Im} {ρ : Nat -> Value} {xs ys : List AV} (h : LeL xs ys) : ∀ {vs : List Value}, RVL I ρ xs vs -> RVL I ρ ys vs := by
 induction h with
 | nil => intro vs h; exact h
 | cons hx hs ih =>
  intro vs h;cases vs with
  | nil => have := h.1; simp at this
  | cons v r =>
   have ih' := ih (vs := r) ⟨by simpa using h.1, fun j c u hc hu => h.2 (j + 1) c u (by simpa using hc) (by simpa using hu)⟩;refine ⟨by simpa using ih'.1, fun j c u hc hu => ?_⟩;cases j with
   | zero => simp at hc hu; subst hc; subst hu; exact hx I ρ v (h.2 0 _ v (by simp) (by simp))
   | succ j => exact ih'.2 j c u (by simpa using hc) (by simpa using hu)
def LeB (B B' : Blk) : Prop := ∀ (C : Ctx) (g : Gh) (w : World) (k : Nat), y4 C g w k B -> y4 C g w k B'
theorem LeB.refl (B : Blk) : LeB B B := fun _ _ _ _ h => h
theorem LeB.eq {B B' : Blk} (h : B = B') : LeB B B' := h ▸ LeB.refl B
theorem LeB.row {α : Type} {enc : α -> List AV} {l l' : List α} {E : TypeId} {s : Nat} (h : l = l') : LeB (.row enc l E s) (.row enc l' E s) := h ▸ LeB.refl _
theorem LeB.box {cs cs' : List AV} {E : TypeId} (h : LeL cs cs') : LeB (.box cs E) (.box cs' E) := fun C g w k hb => by
 obtain ⟨b, vs, h1, h2, h3, h4, h5, h6⟩ := hb;have := h.rvl (I := g.I) (ρ := g.ρ) (vs := vs.toList) ⟨by simpa using h5, fun j c v hc hv => h6 j c v hc (by simpa using hv)⟩;exact ⟨b, vs, h1, h2, h3, h4, by simpa using this.1, fun j c v hc hv => this.2 j c v hc (by simpa using hv)⟩
def impT (st : St) : List (Nat × AV) -> Prop
 | [] => True
 | (t, x) :: r => (∃ y, lk st.t t = some y /\ LeV y x) /\ impT st r
def impH (st : St) : List (Nat × Blk) -> Prop
 | [] => True
 | (k, B) :: r => (∃ B', lk st.h k = some B' /\ LeB B' B) /\ impH st r
theorem zmc {st : St} : ∀ {l : List (Nat × AV)}, impT st l -> ∀ {t : Nat} {x : AV}, lk l t = some x -> ∃ y, lk st.t t = some y /\ LeV y x
 | [], _, _, _, h => by simp [lk] at h
 | (t', x') :: r, h, t, x, e => by
  simp only [yj] at e;cases hb : t'.beq t <;> simp [hb] at e
  ·exact zmc h.2 e
  ·have : t' = t := by simpa using hb
   subst this; subst e; exact h.1
theorem zmd {st : St} : ∀ {l : List (Nat × Blk)}, impH st l -> ∀ {t : Nat} {x : Blk}, lk l t = some x -> ∃ y, lk st.h t = some y /\ LeB y x
 | [], _, _, _, h => by simp [lk] at h
 | (t', x') :: r, h, t, x, e => by
  simp only [yj] at e;cases hb : t'.beq t <;> simp [hb] at e
  ·exact zmd h.2 e
  ·have : t' = t := by simpa using hb
   subst this; subst e; exact h.1
theorem Imp.of {C : Ctx} {st : St} {ts : List (Nat × AV)} {hs : List (Nat × Blk)} (h1 : impT st ts) (h2 : impH st hs) : Imp C st ⟨ts, hs⟩ := fun g a w hr =>
 ⟨g, hr.size, hr.defers, fun t x hx => let ⟨y, hy, hle⟩ := zmc h1 hx; hle _ _ _ (hr.tmps t y hy), ⟨hr.sat.im, hr.sat.ob, fun k B hB => let ⟨B', hB', hle⟩ := zmd h2 hB; hle C g w k (hr.sat.blk k B' hB')⟩, hr.ext⟩
theorem yL {C : Ctx} {st : St} {α : Type} (enc : α -> List AV) (E s t k : Nat) (ht : lk st.t t = some .nils) (hf : st.fr k = true) : Imp C st { t := (t, .own k) :: st.t, h := (k, .row enc [] E s) :: st.h } := fun g a w hr => by
 have hv := za4 (hr.tmps t _ ht)
 have ha : Add (some k) g w { ρ := fun n => if n = k then .slice none 0 0 else g.ρ n, I := g.I, O := g.O } w := ⟨Im.le_refl _, fun n hn => by
  have : n ≠ k := fun e => hn (by rw [e])
  simp [this], fun _ _ => rfl, Grow.refl w⟩
 have h1 := hr.add (d := none) (x := .any) (v := .nilIface) ha (fun n hn => by injection hn with hn; subst hn; exact hf) (fun t h => by simp at h) (.any _) hr.sat.im hr.sat.ob;refine ⟨_, h1.size, h1.defers, fun t' x hx => ?_, (h1.withBlk (k := k) (B := .row enc [] E s) ⟨[], ⟨by simp, .inl ⟨by simp, rfl⟩⟩, fun i x h => by simp at h, fun i x j c v h => by simp at h, fun b hb => by simp [yT] at hb⟩).sat, h1.ext⟩;simp only [yj] at hx;cases hb : t.beq t' <;> simp [hb] at hx
 ·exact h1.tmps t' x hx
 ·have : t = t' := by simpa using hb
  subst this; subst hx;show RV _ _ _ (a.tmps.getD t undef);rw [hv];exact .own k none 0 0 (by simp)
def frz {α : Type} (k : Nat) (enc : α -> List AV) (l : List α) : AV -> AV
 | .own k' => bif k'.beq k then .sl enc l else .own k'
 | x => cln k x
def mapT (f : AV -> AV) : List (Nat × AV) -> List (Nat × AV)
 | [] => []
 | (t, x) :: r => (t, f x) :: mapT f r
def mapB (f : AV -> AV) : Blk -> Blk
 | .box cs E => .box (cs.map f) E
 | .hold vs cs => .hold vs (cs.map f)
 | B => B
def mapH (f : AV -> AV) : List (Nat × Blk) -> List (Nat × Blk)
 | [] => []
 | (n, B) :: r => (n, mapB f B) :: mapH f r
theorem zgy (f : AV -> AV) (t : Nat) : ∀ l, lk (mapT f l) t = (lk l t).map f
 | [] => rfl
 | (t', x) :: r => by
  simp only [mapT, yj];cases t'.beq t <;> simp [zgy f t r]
theorem zgz (f : AV -> AV) (t : Nat) : ∀ l, lk (mapH f l) t = (lk l t).map (mapB f)
 | [] => rfl
 | (t', x) :: r => by
  simp only [mapH, yj];cases t'.beq t <;> simp [zgz f t r]
theorem Rel.letgo {C : Ctx} {st : St} {g : Gh} {a : Act} {w : World} (h : Rel C st g a w) {k : Nat} {b : Nat} {J : Nat -> Option Value} (f : AV -> AV) (hb : g.O b = some (C.d, k) /\ C.okb b) (hJ : ∀ o v, J o = some v -> w.cell? ⟨b, o, none⟩ = some v)
 (hf : ∀ x v, RV g.I g.ρ x v -> RV (fun b' o => if b' = b then J o else g.I b' o) g.ρ (f x) v) :
 Rel C { t := mapT f st.t, h := (k, .dead) :: mapH f st.h } { ρ := g.ρ, I := fun b' o => if b' = b then J o else g.I b' o, O := fun b' => if b' = b then none else g.O b' } a w := by
 have hle : Im.le g.I (fun b' o => if b' = b then J o else g.I b' o) := fun b' o v hI => by
  have : b' ≠ b := fun e => by have := (h.sat.im b' o v hI).2; rw [e, hb.1] at this; simp at this
  simp [this, hI]
 have hdf : Dfs C { ρ := g.ρ, I := fun b' o => if b' = b then J o else g.I b' o, O := fun b' => if b' = b then none else g.O b' } a.defers w := by
  obtain ⟨D, h1, hn, h2⟩ := h.defers;refine ⟨D, h1, hn, fun r hr => ?_⟩;obtain ⟨h3, h4, h5⟩ := h2 r hr;exact ⟨h3, by dsimp only; split; rfl; exact h4, h5⟩
 have hio : ImOB { ρ := g.ρ, I := fun b' o => if b' = b then J o else g.I b' o, O := fun b' => if b' = b then none else g.O b' } w := by
  refine ⟨fun b' o u hI => ?_, fun b' k' hO => ?_, Im.le_trans h.sat.ob.2 hle⟩
  ·by_cases e : b' = b
   ·subst e;simp at hI;exact ⟨hJ o u hI, by simp⟩
   ·simp [e] at hI;simp only [e, if_false];exact h.sat.im b' o u hI
  ·simp only at hO;split at hO
   ·simp at hO
   ·exact h.sat.ob.1 b' k' hO
 refine ⟨h.size, hdf, fun t x hx => ?_, ⟨hio.1, hio.2, fun k' B hB => ?_⟩, ?_⟩
 ·rw [zgy] at hx;cases hz : lk st.t t with
  | none => simp [hz] at hx
  | some z => simp [hz] at hx; subst hx; exact hf z _ (h.tmps t z hz)
 ·simp only [yj] at hB;cases hbq : k.beq k' <;> simp [hbq] at hB
  ·have hkk : k' ≠ k := fun e => by subst e; simp at hbq
   rw [zgz] at hB;cases hz : lk st.h k' with
   | none => simp [hz] at hB
   | some B0 =>
    simp [hz] at hB; subst hB;have h0 := h.sat.blk k' B0 hz;cases B0 with
    | box cs E =>
     obtain ⟨b2, vs, h1, h2, h3, h4, h5, h6⟩ := h0;have hne : b2 ≠ b := fun e => hkk (by rw [e, hb.1] at h2; simpa using h2.symm)
     refine ⟨b2, vs, h1, by simpa [hne] using h2, h3, h4, by simpa using h5, fun j c v hc hv => ?_⟩;rw [List.getElem?_map] at hc;cases hc0 : cs[j]? with
     | none => simp [hc0] at hc
     | some c0 => simp [hc0] at hc; subst hc; exact hf c0 v (h6 j c0 v hc0 hv)
    | row enc l E s =>
     obtain ⟨xs, h1, h2, h3, h4⟩ := h0;refine ⟨xs, h1, h2, fun i x j c v hx hc hv => (h3 i x j c v hx hc hv).mono hle, fun b2 hb2 => ?_⟩;obtain ⟨h5, h6⟩ := h4 b2 hb2;have hne : b2 ≠ b := fun e => hkk (by rw [e, hb.1] at h5; simpa using h5.symm)
     exact ⟨by simpa [hne] using h5, h6⟩
    | hold vs cs =>
     refine ⟨by simpa using h0.1, fun j c v hc hv => ?_⟩;rw [List.getElem?_map] at hc;cases hc0 : cs[j]? with
     | none => simp [hc0] at hc
     | some c0 => simp [hc0] at hc; subst hc; exact hf c0 v (h0.2 j c0 v hc0 hv)
    | obj b2 o =>
     obtain ⟨h1, h2, h3⟩ := h0;have hne : b2 ≠ b := fun e => hkk (by rw [e, hb.1] at h2; simpa using h2.symm)
     exact ⟨h1, by simpa [hne] using h2, h3⟩
    | yld j on =>
     refine zfn (bo := some b) h0 hle (fun b' _ hne => ?_) (fun b' e => by injection e with e; subst e; exact .inl ⟨k, hb.1⟩) ⟨rfl, rfl, rfl, Nat.le_refl _, fun _ _ _ => rfl⟩ (Nat.le_refl _) (fun b' n hn => ?_) hio
     ·have : b' ≠ b := fun e => hne (by rw [e])
      simp [this]
     ·simp only at hn;split at hn
      ·simp at hn
      ·exact h0.2.2.2.1 b' n hn
    | mpb kenc venc l =>
     obtain ⟨b2, es, ck, h1, h2, h3, h4, h5, h6⟩ := h0;have hne : b2 ≠ b := fun e => hkk (by rw [e, hb.1] at h2; simpa using h2.symm)
     exact ⟨b2, es, ck, h1, by simpa [hne] using h2, h3, h4, h5, fun i e p he hp => ⟨(h6 i e p he hp).1.mono hle, (h6 i e p he hp).2.mono hle⟩⟩
    | dead => trivial
  ·subst hB; trivial
 ·exact ⟨Im.le_trans h.ext.I hle, h.ext.os, h.ext.tape, h.ext.output, h.ext.drawn, h.ext.size, fun b' hb' hn ho => by
   have hne : b' ≠ b := fun e => hn (e ▸ hb.2)
   obtain ⟨h1, h2⟩ := h.ext.keep b' hb' hn ho
   exact ⟨h1, by simp [hne, h2]⟩, fun b' y n hlt hy => by
    simp only at hy;split at hy
    ·simp at hy
    ·exact h.ext.own b' y n hlt hy⟩
theorem Imp.freeze {C : Ctx} {st : St} {α : Type} {enc : α -> List AV} {l : List α} {E s k : Nat} (hk : lk st.h k = some (.row enc l E s)) : Imp C st { t := mapT (frz k enc l) st.t, h := (k, .dead) :: mapH (frz k enc l) st.h } := fun g a w hr => by
 obtain ⟨xs, hw, h1, h2, h3⟩ := hr.sat.blk k _ hk;rcases hw.2 with ⟨e, h0⟩ | ⟨b, cap, cur, e, _, hh, hnc, hcm, hcur, htk⟩
 ·have hn0 : l = [] := List.eq_nil_of_length_eq_zero h0;subst hn0
  have hfz : ∀ x v, RV g.I g.ρ x v -> RV g.I g.ρ (frz k enc [] x) v := fun x v hx => by
   have hcl : RV g.I g.ρ (cln k x) v := hx.cln (fun _ _ => rfl);cases x <;> try exact hcl
   case own k' =>
    simp only [frz];cases hb : k'.beq k with
    | false => exact hx
    | true =>
     have : k' = k := by simpa using hb
     subst this;have := zU hx;rw [e] at this;subst this;exact .sl enc [] none 0 0 0 0 (fun _ _ => .nilIface) (fun h => absurd rfl h) (Nat.le_refl _) (Nat.zero_le _) (fun i x h => by simp at h) (fun i x j h => by simp at h) (fun i x j c h => by simp at h)
  refine ⟨g, hr.size, hr.defers, fun t x hx => ?_, ⟨hr.sat.im, hr.sat.ob, fun k' B hB => ?_⟩, hr.ext⟩
  ·rw [zgy] at hx;cases hz : lk st.t t with
   | none => simp [hz] at hx
   | some z => simp [hz] at hx; subst hx; exact hfz z _ (hr.tmps t z hz)
  ·simp only [yj] at hB;cases hbq : k.beq k' <;> simp [hbq] at hB
   ·rw [zgz] at hB;cases hz : lk st.h k' with
    | none => simp [hz] at hB
    | some B0 =>
     simp [hz] at hB; subst hB;have h0 := hr.sat.blk k' B0 hz;cases B0 with
     | box cs E =>
      obtain ⟨b2, vs, h1, h2, h3, h4, h5, h6⟩ := h0;refine ⟨b2, vs, h1, h2, h3, h4, by simpa using h5, fun j c v hc hv => ?_⟩;rw [List.getElem?_map] at hc;cases hc0 : cs[j]? with
      | none => simp [hc0] at hc
      | some c0 => simp [hc0] at hc; subst hc; exact hfz c0 v (h6 j c0 v hc0 hv)
     | hold vs cs =>
      refine ⟨by simpa using h0.1, fun j c v hc hv => ?_⟩;rw [List.getElem?_map] at hc;cases hc0 : cs[j]? with
      | none => simp [hc0] at hc
      | some c0 => simp [hc0] at hc; subst hc; exact hfz c0 v (h0.2 j c0 v hc0 hv)
     | row _ _ _ _ => exact h0
     | obj _ _ => exact h0
     | yld _ _ => exact h0
     | mpb _ _ _ => exact h0
     | dead => trivial
   ·subst hB; trivial
 ·have ho := h3 b (by rw [e]; rfl);let J : Nat -> Option Value := fun o => if o < l.length * s then w.cell? ⟨b, o, none⟩ else none
  have hcell : ∀ o, o < l.length * s -> w.cell? ⟨b, o, none⟩ = xs[o]? := fun o ho => by
   simp only [World.cell?, hh];rw [← htk, List.getElem?_take, if_pos ho];simp
  refine ⟨_, hr.letgo (b := b) (J := J) (frz k enc l) ho (fun o v hv => by simp only [J] at hv; split at hv; exact hv; simp at hv) fun x v hx => ?_⟩
  have hle : Im.le g.I (fun b' o => if b' = b then J o else g.I b' o) := fun b' o v hI => by
   have : b' ≠ b := fun e => by have := (hr.sat.im b' o v hI).2; rw [e, ho.1] at this; simp at this
   simp [this, hI]
  have hcl : RV (fun b' o => if b' = b then J o else g.I b' o) g.ρ (cln k x) v := (hx.mono hle).cln (fun _ _ => rfl);cases x <;> try exact hcl
  case own k' =>
   simp only [frz];cases hb : k'.beq k with
   | false => exact hx.mono hle
   | true =>
    have : k' = k := by simpa using hb
    subst this;have := zU hx;rw [e] at this;subst this
    have hget : ∀ (i : Nat) (x : α) (j : Nat), l[i]? = some x -> j < s -> i * s + j < l.length * s := fun i x j hx hj => by
     have hil : i < l.length := (List.getElem?_eq_some_iff.1 hx).1;have h2 : (i + 1) * s <= l.length * s := Nat.mul_le_mul_right s hil;have h3 : (i + 1) * s = i * s + s := Nat.succ_mul i s;omega
    refine .sl enc l _ b 0 s cap (fun i j => xs.getD (i * s + j) .nilIface) (fun _ => rfl) hnc hcm h1 (fun i x j hx hj => ?_) (fun i x j c hx hc => ?_)
    ·have hlt := hget i x j hx hj;simp only [if_true, Nat.zero_add, J];rw [if_pos hlt, hcell _ hlt];have hxl : i * s + j < xs.length := by rw [hw.1]; exact hlt
     rw [List.getElem?_eq_getElem hxl]; simp [List.getD, List.getElem?_eq_getElem hxl]
    ·have hjs : j < s := by rw [← h1 i x hx]; exact (List.getElem?_eq_some_iff.1 hc).1
     have hxl : i * s + j < xs.length := by rw [hw.1]; exact hget i x j hx hjs
     have := h2 i x j c _ hx hc (List.getElem?_eq_getElem hxl);simp only [List.getD, List.getElem?_eq_getElem hxl, Option.getD_some];exact this.mono hle
def frzB (k : Nat) (cs : List AV) : AV -> AV
 | .ptr k' s i j => bif k'.beq k then .ept (fun _ : Unit => cs) () (i * s + j) else .ptr k' s i j
 | .fn f caps => .fn f (caps.map fun c => match c with | .ptr k' s i j => (bif k'.beq k then .ept (fun _ : Unit => cs) () (i * s + j) else .ptr k' s i j) | c => cln k c)
 | x => cln k x
theorem yR {C : Ctx} {st : St} {cs : List AV} {E k : Nat} (hk : lk st.h k = some (.box cs E)) (hn : AV.nm.nmL cs = true) : Imp C st { t := mapT (frzB k cs) st.t, h := (k, .dead) :: mapH (frzB k cs) st.h } := fun g a w hr => by
 obtain ⟨b, vs, h1, h2, h3, h4, h5, h6⟩ := hr.sat.blk k _ hk;let J : Nat -> Option Value := fun o => vs[o]?
 refine ⟨_, hr.letgo (b := b) (J := J) (frzB k cs) ⟨h2, h3⟩ (fun o v hv => by simp only [World.cell?, h4]; simpa [J] using hv) fun x v hx => ?_⟩
 have hle : Im.le g.I (fun b' o => if b' = b then J o else g.I b' o) := fun b' o v hI => by
  have : b' ≠ b := fun e => by have := (hr.sat.im b' o v hI).2; rw [e, h2] at this; simp at this
  simp [this, hI]
 have hptr : ∀ {k' s i j : Nat} {v : Value}, RV g.I g.ρ (.ptr k' s i j) v -> RV (fun b' o => if b' = b then J o else g.I b' o) g.ρ (bif k'.beq k then .ept (fun _ : Unit => cs) () (i * s + j) else .ptr k' s i j) v := fun {k' s i j v} hx => by
  cases hb : k'.beq k with
  | false => exact hx.mono hle
  | true =>
   have : k' = k := by simpa using hb
   subst this;obtain ⟨b', hb', e⟩ := zV hx;have : b' = b := by rw [h1] at hb'; simpa [yT] using hb'.symm
   subst this;subst e
   have h0 := RV.ept (I := fun b'' o => if b'' = b' then J o else g.I b'' o) (ρ := g.ρ) (fun _ : Unit => cs) () (i * s + j) b' 0 (fun j => vs.getD j .nilIface) (fun j hj => by
    have hjl : j < vs.size := by rw [h5]; exact hj
    simp [J, hjl]) (fun j c hc => by
    have hjl : j < vs.size := by rw [h5]; exact (List.getElem?_eq_some_iff.1 hc).1
    have := h6 j c _ hc (Array.getElem?_eq_getElem hjl);simpa [hjl] using (this.mono hle).forget (zo hn hc))
   simpa using h0
 have hcl : ∀ {x : AV} {v : Value}, RV g.I g.ρ x v -> RV (fun b' o => if b' = b then J o else g.I b' o) g.ρ (cln k x) v := fun hx => (hx.mono hle).cln (fun _ _ => rfl)
 cases x <;> try exact hcl hx
 case ptr k' s i j => exact hptr hx
 case fn f caps =>
  obtain ⟨us, e, hl, hu⟩ := zb2 hx;subst e;refine .fn f _ us (by simpa using hl) fun j c u hc hu' => ?_
  rw [List.getElem?_map] at hc;cases hc0 : caps[j]? with
  | none => simp [hc0] at hc
  | some c0 =>
   simp [hc0] at hc;subst hc;have := hu j c0 u hc0 hu'
   cases c0 <;> first
    | exact hptr this
    | exact hcl this
end Go.Rse
namespace Go.Rse
open Go Go.RowKit
def zdF (next : St -> Prop) (Q : Exit -> St -> Prop) : Exit -> St -> Prop
 | .normal, st => next st
 | e, st => Q e st
def inB (id : Nat) (Q : Exit -> St -> Prop) : Exit -> St -> Prop
 | .exit id', st => if id' = id then Q .normal st else Q (.exit id') st
 | e, st => Q e st
section
variable {P : Program} {C : Ctx} {st : St} {Q : Exit -> St -> Prop}
theorem yp (h : Q .normal st) : X P C .skip st Q := fun g a w hr => wpIn_skip ⟨st, g, hr, h⟩
theorem X.exit {id : Nat} (h : Q (.exit id) st) : X P C (.exit id) st Q := fun g a w hr => wpIn_exit ⟨st, g, hr, h⟩
theorem X.ret (h : Q .ret st) : X P C .ret st Q := fun g a w hr => wpIn_ret ⟨st, g, hr, h⟩
theorem yl {x y : Code} (h : X P C x st (zdF (fun st => X P C y st Q) Q)) : X P C (.seq x y) st Q := fun g a w hr =>
 wpIn_seq (wpIn_mono (h g a w hr) fun e a w ⟨st, g, hr, q⟩ => by
  cases e <;> first
   | exact q g a w hr
   | exact ⟨st, g, hr, q⟩)
theorem X.cond {c : Operand} {x y : Code} {b : Bool} (hc : ev st c = some (.bool b)) (ht : b = true -> X P C x st Q) (hf : b = false -> X P C y st Q) : X P C (.cond c x y) st Q := fun g a w hr =>
 wpIn_cond_split (zg (yn hr hc)) (fun h => ht h g a w hr) (fun h => hf h g a w hr)
theorem X.block {id : Nat} {c : Code} (h : X P C c st (inB id Q)) : X P C (.block id c) st Q := fun g a w hr =>
 wpIn_block (wpIn_mono (h g a w hr) fun e a w ⟨st, g, hr, q⟩ => by
  cases e
  case exit id' =>
   simp only [inB] at q;simp only [Exit.inBlock];split
   ·rename_i hid; rw [if_pos hid] at q; exact ⟨st, g, hr, q⟩
   ·rename_i hid; rw [if_neg hid] at q; exact ⟨st, g, hr, q⟩
  all_goals exact ⟨st, g, hr, q⟩)
theorem ym {id : Nat} {l : List Oper} (h : Ex P C l.toArray l st Q) : X P C (.region id l.toArray false) st Q := fun g a w hr => wpIn_region_lit (h g a w hr)
theorem yg {id : Nat} {l : List Oper} {y : Code} (h : Ex P C l.toArray l st (zdF (fun st => X P C y st Q) Q)) : X P C (.seq (.region id l.toArray false) y) st Q := yl (ym h)
theorem yI {id : Nat} {ops : Array Oper} {l : List Oper} {y : Code} (h : Ex P C l.toArray l st (zdF (fun st => X P C y st Q) Q)) : Ex P C ops [] st (zdF (fun st => X P C (.seq (.region id l.toArray false) y) st Q) Q) := Ex.nil (yl (ym h))
theorem X.loop {ι : Type} {c : Code} (I : ι -> St) (J : ι -> Prop) (μ : ι -> Nat) (i0 : ι) (h0 : Imp C st (I i0)) (hJ : J i0)
 (h : ∀ i, J i -> X P C c (I i) (zdF (fun st' => ∃ i', Imp C st' (I i') /\ J i' /\ μ i' < μ i) Q)) : X P C (.loop c) st Q := fun g a w hr => by
 obtain ⟨g0, hr0⟩ := h0 g a w hr;refine wpIn_loop_ghost (fun n a w => ∃ i g, Rel C (I i) g a w /\ J i /\ μ i = n) (μ i0) ⟨i0, g0, hr0, hJ, rfl⟩ ?_
 rintro n a w ⟨i, g, hr, hj, rfl⟩
 refine wpIn_mono (h i hj g a w hr) fun e a w ⟨st, g, hr, q⟩ => ?_
 cases e <;> first
  | (obtain ⟨i', hi, hj', hlt⟩ := q
     obtain ⟨g', hr'⟩ := hi g a w hr;exact ⟨μ i', hlt, i', g', hr', hj', rfl⟩)
  | exact ⟨st, g, hr, q⟩
end
def zZ (P : Program) (f : FuncId) : Bool :=
 match P.funcs[f]? with
 | some fn => !(fn.name == "runtime.NumGoroutine") && fn.body.isSome
 | none => false
theorem zH {P : Program} {f : FuncId} (h : zZ P f = true) (args : Array Value) (w : World) : (callFunc f args).run P w = .ok (.enter f args) w := by
 unfold zZ at h;split at h
 ·rename_i fn hf;simp only [Bool.and_eq_true, Bool.not_eq_true'] at h
  have hb : fn.body.isNone = false := by
   cases hbb : fn.body with
   | none => simp [hbb] at h
   | some c => rfl
  simp only [callFunc, Sem.run_bind, run_program, Result.andThen_ok, hf, h.1, hb];rfl
 ·simp at h
def Fn (P : Program) (f : FuncId) (as : List AV) (r : AV) : Prop :=
 zZ P f = true /\ r.nm = true /\ ∀ (g : Gh) (w : World) (args : List Value), ImOB g w -> RVL g.I noNames as args →
  Calls P f args.toArray w fun e w' => ∃ v g', e = .returned v /\ RV g'.I noNames r v /\ Add none g w g' w' /\ ImOB g' w'
def evs (st : St) : List Operand -> Option (List AV)
 | [] => some []
 | x :: r => match ev st x, evs st r with
  | some y, some ys => some (y :: ys)
  | _, _ => none
theorem zdG {C : Ctx} {st : St} {g : Gh} {a : Act} {w : World} (hr : Rel C st g a w) : ∀ {xs : List Operand} {ys : List AV}, evs st xs = some ys -> RVL g.I g.ρ ys (xs.map a.eval)
 | [], ys, h => by simp [evs] at h; subst h; exact ⟨rfl, fun j c v hc => by simp at hc⟩
 | x :: r, ys, h => by
  simp only [evs] at h;cases h1 : ev st x with
  | none => simp [h1] at h
  | some y =>
   cases h2 : evs st r with
   | none => simp [h1, h2] at h
   | some zs =>
    simp [h1, h2] at h; subst h;obtain ⟨hl, hv⟩ := zdG hr h2;refine ⟨by simpa using hl, fun j c v hc hvv => ?_⟩;cases j with
    | zero => simp at hc hvv; subst hc; subst hvv; exact yn hr h1
    | succ j => exact hv j c v (by simpa using hc) (by simpa using hvv)
theorem RVL.forget {I : Im} {ρ ρ' : Nat -> Value} {xs : List AV} {vs : List Value} (h : RVL I ρ xs vs) (hn : AV.nm.nmL xs = true) : RVL I ρ' xs vs := ⟨h.1, fun j c v hc hv => (h.2 j c v hc hv).forget (zo hn hc)⟩
theorem RVL.append {I : Im} {ρ : Nat -> Value} {xs ys : List AV} {vs us : List Value} (h : RVL I ρ xs vs) (h' : RVL I ρ ys us) : RVL I ρ (xs ++ ys) (vs ++ us) := by
 refine ⟨by simp [h.1, h'.1], fun j c v hc hv => ?_⟩;by_cases hj : j < xs.length
 ·rw [List.getElem?_append_left hj] at hc;rw [List.getElem?_append_left (by rw [h.1]; exact hj)] at hv;exact h.2 j c v hc hv
 ·rw [List.getElem?_append_right (by omega)] at hc;rw [List.getElem?_append_right (by rw [h.1]; omega), h.1] at hv;exact h'.2 _ c v hc hv
section
variable {P : Program} {C : Ctx} {st : St} {ty : TypeId}
theorem zb6 {fop : Operand} {args : Array Operand} {ts : Array TypeId} {f : FuncId} {caps xs as : List AV} {r : AV} (hf : ev st fop = some (.fn f caps)) (hx : evs st args.toList = some xs) (hn : AV.nm.nmL (xs ++ caps) = true) (hle : LeL (xs ++ caps) as)
 (h : Fn P f as r) : yr P C (.call { callee := .value fop, args := args, argTypes := ts }) ty st r none := fun g a w dst pos af gd hr K hK => by
 obtain ⟨us, e, hl, hu⟩ := zb2 (yn hr hf);have hargs := zdG hr hx;have hall : RVL g.I noNames as (args.toList.map a.eval ++ us) := hle.rvl ((hargs.append ⟨hl, hu⟩).forget hn);have h0 := h.2.2 g w _ ⟨hr.sat.im, hr.sat.ob⟩ hall;have e1 : (args.toList.map a.eval ++ us).toArray = args.map a.eval ++ us.toArray := by simp [← Array.toList_map]
 rw [e1] at h0
 have e2 : (execOp a.eval { dst := dst, op := .call { callee := .value fop, args := args, argTypes := ts }, type := ty, pos := pos, after := af, guard := gd }).run P w = .ok (.enter f (args.map a.eval ++ us.toArray)) w := by
  simp only [execOp, resolve, e, Deferred.ofValue, Sem.run_bind, Sem.run_pure, Result.andThen_ok, invoke, zH h.1];simp
 unfold wp1;rw [e2];refine Calls.mono h0 ?_
 rintro e w' ⟨v, g', rfl, h1, h2, h3⟩
 refine ⟨v, rfl, ?_⟩;have hg' : Add none g w { ρ := g.ρ, I := g'.I, O := g'.O } w' := ⟨h2.I, fun _ _ => rfl, h2.O, h2.grow⟩;exact hK v w' { ρ := g.ρ, I := g'.I, O := g'.O } hg' (h1.forget h.2.1) h3 (fun _ _ h => by cases h)
theorem Ex.call {ops : Array Oper} {Q : Exit -> St -> Prop} {rest : List Oper} {d : Nat} {pos : String} {af : Array Edge} {fop : Operand} {args : Array Operand} {ts : Array TypeId} {f : FuncId} {caps xs : List AV} {r : AV}
 (hf : ev st fop = some (.fn f caps)) (hx : evs st args.toList = some xs) (hn : AV.nm.nmL (xs ++ caps) = true) (h : Fn P f (xs ++ caps) r) (hd : d.blt C.n = true) (hr : Ex P C ops rest { t := (d, r) :: st.t, h := st.h } Q) :
 Ex P C ops ({ dst := some d, op := .call { callee := .value fop, args := args, argTypes := ts }, type := ty, pos := pos, after := af, guard := none } :: rest) st Q :=
 Ex.stepA (zb6 hf hx hn (LeL.refl _) h) hd rfl hr
end
def zaQ : Nat -> List AV -> List (Nat × AV)
 | _, [] => []
 | i, x :: r => (i, x) :: zaQ (i + 1) r
inductive RetV (P : Program) (st : St) : ResultVar -> AV -> Prop
 | tmp {t : Nat} {x y : AV} (h : lk st.t t = some x) (hle : LeV x y) : RetV P st (.tmp t) y
 | cellS {t T k s i j : Nat} {cs : List AV} {E : TypeId} {x y : AV} (h : lk st.t t = some (.ptr k s i j)) (hk : lk st.h k = some (.box cs E)) (hx : cs[i * s + j]? = some x) (ht : tyOk P T false 1 = true) (hle : LeV x y) : RetV P st (.cell t T) y
 | cellA {t T k s i n : Nat} {cs : List AV} {E : TypeId} {y : AV} (h : lk st.t t = some (.ptr k s i 0)) (hk : lk st.h k = some (.box cs E)) (hi : i * s = 0) (hn : cs.length = n) (ht : tyOk P T true n = true) (hle : LeV (.agg cs) y) : RetV P st (.cell t T) y
inductive RetL (P : Program) (st : St) : List ResultVar -> List AV -> Prop
 | nil : RetL P st [] []
 | cons {v : ResultVar} {y : AV} {vs : List ResultVar} {ys : List AV} (h : RetV P st v y) (hs : RetL P st vs ys) : RetL P st (v :: vs) (y :: ys)
inductive RetVs (P : Program) (st : St) : List ResultVar -> AV -> Prop
 | one {v : ResultVar} {y : AV} (h : RetV P st v y) : RetVs P st [v] y
 | many {vs : List ResultVar} {ys : List AV} (hl : vs.length ≠ 1) (h : RetL P st vs ys) : RetVs P st vs (.tup ys)
def RetQ (P : Program) (C : Ctx) (rv : List ResultVar) (r : AV) : Exit -> St -> Prop := fun e st => (e = .normal \/ e = .ret) /\ ∃ st', Imp C st st' /\ RetVs P st' rv r
theorem RetQ.ret {P : Program} {C : Ctx} {rv : List ResultVar} {r : AV} {st : St} (h : RetVs P st rv r) : RetQ P C rv r .ret st := ⟨.inr rfl, st, Imp.refl, h⟩
theorem zgA {P : Program} {C : Ctx} {st : St} {t : Nat} {x y : AV} (hle : x = y) (h : lk st.t t = some x := by exact rfl) : RetQ P C [.tmp t] y .ret st := .ret (.one (.tmp h (.eq hle)))
theorem yi {P : Program} {C : Ctx} {st : St} {t t' : Nat} {x y x' y' : AV} (hle : x = y) (hle' : x' = y') (h : lk st.t t = some x := by exact rfl) (h' : lk st.t t' = some x' := by exact rfl) : RetQ P C [.tmp t, .tmp t'] (.tup [y, y']) .ret st := .ret (.many (by simp) (.cons (.tmp h (.eq hle)) (.cons (.tmp h' (.eq hle')) .nil)))
theorem yH {P : Program} {C : Ctx} {st : St} {t t' T k s i n : Nat} {cs : List AV} {E : TypeId} {y x' y' : AV} (ht : tyOk P T true n = true) (hle : .agg cs = y) (hle' : x' = y') (h : lk st.t t = some (.ptr k s i 0) := by exact rfl) (hk : lk st.h k = some (.box cs E) := by exact rfl) (hi : i * s = 0 := by exact rfl) (hn : cs.length = n := by exact rfl) (h' : lk st.t t' = some x' := by exact rfl) : RetQ P C [.cell t T, .tmp t'] (.tup [y, y']) .ret st := .ret (.many (by simp) (.cons (.cellA h hk hi hn ht (.eq hle)) (.cons (.tmp h' (.eq hle')) .nil)))
theorem RetQ.imp {P : Program} {C : Ctx} {rv : List ResultVar} {r : AV} {st st' : St} {e : Exit} (hi : Imp C st st') (h : RetQ P C rv r e st') : RetQ P C rv r e st := ⟨h.1, let ⟨s, h1, h2⟩ := h.2; ⟨s, hi.trans h1, h2⟩⟩
def zf1 (tmps : Array Value) : ResultVar -> Sem Value
 | .tmp t => pure (tmps.getD t undef)
 | .cell a t => do loadVar t (← asAddr (tmps.getD a undef))
theorem ziq {P : Program} {C : Ctx} {st : St} {g : Gh} {a : Act} {w : World} (hr : Rel C st g a w) {v : ResultVar} {y : AV} (h : RetV P st v y) : ∃ u, (zf1 a.tmps v).run P w = .ok u w /\ RV g.I g.ρ y u := by
 cases h with
 | tmp h hle => exact ⟨_, rfl, hle _ _ _ (hr.tmps _ _ h)⟩
 | cellS h hk hx ht hle =>
  rename_i t T k s i j cs E x;obtain ⟨b, hb, e⟩ := zV (hr.tmps _ _ h);obtain ⟨b', vs, h1, h2, h3, h4⟩ := zdC (hr.sat.blk k _ hk);have : b' = b := by rw [h1] at hb; simpa [yT] using hb
  subst this;have hlt : i * s + j < vs.size := by rw [h2]; exact (List.getElem?_eq_some_iff.1 hx).1
  have hv : vs[i * s + j]? = some vs[i * s + j] := Array.getElem?_eq_getElem hlt;refine ⟨_, ?_, hle _ _ _ (h4 _ _ _ hx hv)⟩;simp only [zf1, e, asAddr, Sem.run_bind, Sem.run_pure, Result.andThen_ok, za7 ht ((h3 _).trans hv)]
 | cellA h hk hi hn ht hle =>
  rename_i t T k s i n cs E;obtain ⟨b, hb, e⟩ := zV (hr.tmps _ _ h);obtain ⟨b', vs, h1, h2, h3, h4⟩ := zdC (hr.sat.blk k _ hk);have : b' = b := by rw [h1] at hb; simpa [yT] using hb
  subst this;refine ⟨.agg vs.toList.toArray, ?_, hle _ _ _ (.agg cs vs.toList (by simpa using h2) (fun j c v hc hv => h4 j c v hc (by simpa using hv)))⟩;have := zC (P := P) (t := T) ht (b := b') (o := 0) (w := w) (vs := vs.toList) (by simp [h2, hn]) (fun j v hv => by rw [Nat.zero_add, h3]; simpa using hv);simp only [zf1, e, hi, Nat.zero_add, asAddr, Sem.run_bind, Sem.run_pure, Result.andThen_ok, this]
theorem zoz {P : Program} {C : Ctx} {st : St} {g : Gh} {a : Act} {w : World} (hr : Rel C st g a w) {vs : List ResultVar} {ys : List AV} (h : RetL P st vs ys) : ∃ us, (vs.mapM (zf1 a.tmps)).run P w = .ok us w /\ RVL g.I g.ρ ys us := by
 induction h with
 | nil => exact ⟨[], rfl, rfl, fun j c v hc => by simp at hc⟩
 | cons h hs ih =>
  obtain ⟨u, h1, h2⟩ := ziq hr h;obtain ⟨us, h3, h4⟩ := ih;refine ⟨u :: us, ?_, by simpa using h4.1, fun j c v hc hv => ?_⟩
  ·simp only [List.mapM_cons, Sem.run_bind, h1, Result.andThen_ok, h3, Sem.run_pure]
  ·cases j with
   | zero => simp at hc hv; subst hc; subst hv; exact h2
   | succ j => exact h4.2 j c v (by simpa using hc) (by simpa using hv)
theorem zf2 {P : Program} {C : Ctx} {st : St} {g : Gh} {a : Act} {w : World} (hr : Rel C st g a w) {fn : Func} {rv : List ResultVar} {r : AV} (hrv : fn.results = rv.toArray) (h : RetVs P st rv r) : ∃ u, (results fn a.tmps).run P w = .ok u w /\ RV g.I g.ρ r u := by
 have e : results fn a.tmps = (do let vs ← rv.toArray.mapM (zf1 a.tmps); pure (if h : vs.size = 1 then vs[0] else .tuple vs)) := by
  have ef : zf1 a.tmps = (fun v : ResultVar => match v with
   | .tmp t => (pure (a.tmps.getD t undef) : Sem Value)
   | .cell b t => (do loadVar t (← asAddr (a.tmps.getD b undef)))) := funext fun v => by cases v <;> rfl
  simp only [results, hrv, ef];rfl
 have em : ∀ us, (rv.mapM (zf1 a.tmps)).run P w = .ok us w -> (rv.toArray.mapM (zf1 a.tmps)).run P w = .ok us.toArray w := fun us hus => by
  rw [List.mapM_toArray, Sem.run_map, hus];rfl
 rw [e];cases h with
 | one h =>
  obtain ⟨u, h1, h2⟩ := ziq hr h;refine ⟨u, ?_, h2⟩;have := em [u] (by simp only [List.mapM_cons, List.mapM_nil, Sem.run_bind, h1, Result.andThen_ok, Sem.run_pure]);simp only [Sem.run_bind, this, Result.andThen_ok, Sem.run_pure];simp
 | many hl h =>
  obtain ⟨us, h1, h2⟩ := zoz hr h
  have hlen : us.length ≠ 1 := by
   have := h2.1;rename_i ys
   have hvl : ∀ {vs : List ResultVar} {ys : List AV}, RetL P st vs ys -> vs.length = ys.length := fun h => by
    induction h with
    | nil => rfl
    | cons _ _ ih => simp [ih]
   rw [this, ← hvl h]; exact hl
  refine ⟨.tuple us.toArray, ?_, .tup _ us h2.1 h2.2⟩;simp only [Sem.run_bind, em us h1, Result.andThen_ok, Sem.run_pure];rw [dif_neg (by simpa using hlen)]
theorem zb7 {I : Im} {ρ : Nat -> Value} : ∀ (as : List AV) (i : Nat) (t : Nat) (x : AV), lk (zaQ i as) t = some x -> i <= t /\ as[t - i]? = some x
 | [], _, _, _, h => by simp [zaQ, lk] at h
 | y :: r, i, t, x, h => by
  simp only [zaQ, yj] at h;cases hb : i.beq t <;> simp [hb] at h
  ·have hne : i ≠ t := beqF.1 hb;obtain ⟨h1, h2⟩ := zb7 (I := I) (ρ := ρ) r (i + 1) t x h;refine ⟨by omega, ?_⟩;rw [show t - i = (t - (i + 1)) + 1 by omega];simpa using h2
  ·have : i = t := by simpa using hb
   subst this; subst h;exact ⟨Nat.le_refl _, by simp⟩
theorem y4.farN {C : Ctx} {g : Gh} {w w' : World} {b k2 : Nat} {B : Blk} (h : y4 C g w k2 B) (hm : w.grownBy w' (some b)) (hdw : w.drawn <= w'.drawn) (hb : g.O b = none) (hw : C.w0.heap.size <= b) (hio : ImOB g w') : y4 C g w' k2 B := by
 cases B with
 | box cs E =>
  obtain ⟨b2, vs, h1, h2, h3, h4, h5, h6⟩ := h
  have hlt : b2 < w.heap.size := by
   rcases Nat.lt_or_ge b2 w.heap.size with hl | hl
   ·exact hl
   ·simp [Array.getElem?_eq_none hl] at h4
  have hne : b2 ≠ b := fun e => by rw [e, hb] at h2; simp at h2
  exact ⟨b2, vs, h1, h2, h3, (hm.block b2 hlt (by simpa using hne)).trans h4, h5, h6⟩
 | row enc l E s =>
  obtain ⟨xs, h1, h2, h3, h4⟩ := h;refine ⟨xs, h1.kept hm ?_, h2, h3, h4⟩;cases ho : (g.ρ k2).ownBlock with
  | none => exact .inl rfl
  | some b2 =>
   refine .inr ?_;intro e;injection e with e;subst e;have := (h4 b2 (by rw [zcL h1]; exact ho)).1;rw [hb] at this;simp at this
 | hold vs cs => exact h
 | obj b2 o =>
  obtain ⟨h1, h2, h3⟩ := h;have hne : b2 ≠ b := fun e => by rw [e, hb] at h2; simp at h2
  exact ⟨(hm.block b2 (yW h1) (by simpa using hne)).trans h1, h2, h3⟩
 | yld j on => exact zfn h (Im.le_refl _) (fun _ _ _ => rfl) (fun b' e => by injection e with e; subst e; exact .inr ⟨hb, hw⟩) hm hdw h.2.2.2.1 hio
 | mpb kenc venc l =>
  obtain ⟨b2, es, ck, h1, h2, h3, h4, h5, h6⟩ := h;have hne : b2 ≠ b := fun e => by rw [e, hb] at h2; simp at h2
  exact ⟨b2, es, ck, h1, h2, h3, (hm.block b2 (yW h4) (by simpa using hne)).trans h4, h5, h6⟩
 | dead => trivial
theorem zap {C : Ctx} {P : Program} {fn : Func} {rv : List ResultVar} {r : AV} {R : Ending -> World -> Prop} (hrv : fn.results = rv.toArray) {st : St} (hret : RetVs P st rv r) {tmps : Array Value} (hdf : C.df = [])
 (hR : ∀ g w v, Rel C st g { tmps := tmps, defers := [] } w -> RV g.I g.ρ r v -> R (.returned v) w) : ∀ (D : List Nat) {g : Gh} {w : World} {ds : List Deferred}, ds = D.map mkD ++ C.df.map dfD -> D.Nodup →
 (∀ x, x ∈ D -> w.heap[x]? = some (.deferred (some [])) /\ g.O x = none /\ C.w0.heap.size <= x) -> Rel C st g { tmps := tmps, defers := [] } w →
 LeavesInM Fence.wide 0 P fn tmps R ds .returning w
 | [], g, w, ds, hD, _, _, hr => by
  rw [hdf] at hD;simp only [List.map_nil, List.append_nil] at hD;subst hD;obtain ⟨u, hu1, hu2⟩ := zf2 hr hrv hret;exact ⟨u, hu1, hR g w u hr hu2⟩
 | x :: D, g, w, ds, hD, hnd, hDr, hr => by
  rw [hdf] at hD;simp only [List.map_nil, List.append_nil] at hD;subst hD;obtain ⟨h1, h2, h3⟩ := hDr x (by simp);have hlt : x < w.heap.size := yW h1;let w' : World := { w with heap := w.heap.setIfInBounds x (.deferred none) }
  have hm : w.grownBy w' (some x) := ⟨rfl, rfl, rfl, by simp [w'], fun k hk hne => by
   have : x ≠ k := fun e => hne (by rw [e])
   simp [w', this]⟩
  refine ⟨by simp, .inl ⟨x, w', rfl, run_takeDeferred h1, ?_⟩⟩;refine zap hrv hret hdf hR D (by rw [hdf]; simp) (List.nodup_cons.1 hnd).2 (fun y hy => ?_) (g := g) ?_
  ·obtain ⟨h4, h5, h6⟩ := hDr y (by simp [hy]);have hlt' : y < w.heap.size := yW h4;have hne : y ≠ x := fun e => (List.nodup_cons.1 hnd).1 (e ▸ hy)
   exact ⟨(hm.block y hlt' (by simpa using hne)).trans h4, h5, h6⟩
  ·have him : ∀ b o u, g.I b o = some u -> w'.cell? ⟨b, o, none⟩ = some u /\ g.O b = none := fun b o u hI => by
    obtain ⟨h4, h5⟩ := hr.sat.im b o u hI;refine ⟨?_, h5⟩
    have hne : b ≠ x := fun e => by
     subst e;simp only [World.cell?, h1] at h4;simp at h4
    rw [World.cell?_of_block (w := w) (a := ⟨b, o, none⟩) (hm.block b (zbm h4) (by simpa using hne))]; exact h4
   have hob : ObO g.I g.O w' := hr.sat.ob.up (Im.le_refl _) hm.size;refine ⟨hr.size, Dfs.nil _ _ _ hdf, hr.tmps, ⟨him, hob, fun k B hB => (hr.sat.blk k B hB).farN hm (Nat.le_refl _) h2 h3 ⟨him, hob⟩⟩, ?_⟩
   exact ⟨hr.ext.I, hm.os.trans hr.ext.os, hm.tape.trans hr.ext.tape, hm.output.trans hr.ext.output, hr.ext.drawn, Nat.le_trans hr.ext.size hm.size, fun b hb hn ho => by
    have hne : b ≠ x := fun e => by subst e; omega
    obtain ⟨h4, h5⟩ := hr.ext.keep b hb hn ho;exact ⟨(hm.block b (Nat.lt_of_lt_of_le hb hr.ext.size) (by simpa using hne)).trans h4, h5⟩, hr.ext.own⟩
abbrev C0 (n d : Nat) (g : Gh) (w : World) : Ctx := ⟨none, n, d, [], 0, fun _ _ _ _ _ => True, g, w, []⟩
theorem zb8 (O : Owns) (N : Nat) (l : List Nat) (h : ∀ b k, O b = some k -> b < N) : ∃ d, (∀ b n, O b ≠ some (d, n)) /\ d ∉ l := by
 have h1 : ∀ (M : Nat), ∃ d0, ∀ b n y, b < M -> O b = some (y, n) -> y < d0 := by
  intro M
  induction M with
  | zero => exact ⟨0, fun b n y hb => by omega⟩
  | succ M ih =>
   obtain ⟨d0, hd⟩ := ih;cases hO : O M with
   | none => exact ⟨d0, fun b n y hb hy => by
    rcases Nat.lt_or_ge b M with hl | hl
    ·exact hd b n y hl hy
    ·have : b = M := by omega
     subst this; rw [hO] at hy; simp at hy⟩
   | some p => exact ⟨max d0 (p.1 + 1), fun b n y hb hy => by
    rcases Nat.lt_or_ge b M with hl | hl
    ·have := hd b n y hl hy; omega
    ·have : b = M := by omega
     subst this; rw [hO] at hy; injection hy with hy; subst hy; simp; omega⟩
 have h2 : ∃ d1, ∀ y ∈ l, y < d1 := by
  clear h h1
  induction l with
  | nil => exact ⟨0, fun y hy => by simp at hy⟩
  | cons x r ih =>
   obtain ⟨d1, hd⟩ := ih
   exact ⟨max d1 (x + 1), fun y hy => by
    rcases List.mem_cons.1 hy with rfl | hy
    ·omega
    ·have := hd y hy; omega⟩
 obtain ⟨d0, hd0⟩ := h1 N;obtain ⟨d1, hd1⟩ := h2;refine ⟨max d0 d1, fun b n hO => ?_, fun hm => ?_⟩
 ·have := hd0 b n _ (h b _ hO) hO; omega
 ·have := hd1 _ hm; omega
theorem zd8 {C : Ctx} {I : Im} {O : Owns} {as : List AV} {args : List Value} {m : Nat} {w : World} (hg : C.g0 = ⟨noNames, I, O⟩) (hw : C.w0 = w) (hm : m = C.n) (hlen : as.length <= C.n) (him : ImO I O w) (hargs : RVL I noNames as args) (hdf : C.df = [] := by rfl) :
 Rel C ⟨zaQ 0 as, []⟩ { ρ := noNames, I := I, O := O } { tmps := args.toArray ++ Array.replicate (m - args.toArray.size) undef, defers := [] } w := by
 have hsz : args.length = as.length := hargs.1;subst hm;refine ⟨by simp; omega, Dfs.nil _ _ _ hdf, fun t x hx => ?_, ⟨him.1, him.2, fun k B hB => by simp [lk] at hB⟩, ⟨by rw [hg]; exact Im.le_refl _, by rw [hw], by rw [hw], by rw [hw], by rw [hw]; exact Nat.le_refl _, by rw [hw]; exact Nat.le_refl _, fun _ _ _ _ => ⟨by rw [hw], by rw [hg]⟩, fun b y n _ hy => ⟨n, by rw [hg]; exact hy⟩⟩⟩;obtain ⟨_, hx'⟩ := zb7 (I := I) (ρ := noNames) as 0 t x hx;simp only [Nat.sub_zero] at hx';have ht : t < args.length := by rw [hsz]; exact (List.getElem?_eq_some_iff.1 hx').1
 have e : (args.toArray ++ Array.replicate (C.n - args.toArray.size) undef).getD t undef = args[t] := by
  simp [Array.getD_eq_getD_getElem?, Array.getElem?_append, ht]
 rw [e];exact hargs.2 t x _ hx' (List.getElem?_eq_getElem ht)
theorem Fn.intro {P : Program} {f : FuncId} {fn : Func} {c : Code} {n : Nat} {as : List AV} {ts : List (Nat × AV)} {rv : List ResultVar} {r : AV} (hc : zZ P f = true) (hf : P.funcs[f]? = some fn) (hb : fn.body = some c) (hn : fn.ntmps = n) (hrv : fn.results = rv.toArray)
 (hnm : r.nm = true) (hts : zaQ 0 as = ts) (hlen : as.length <= n) (h : ∀ g w d, X P (C0 n d g w) c ⟨ts, []⟩ (RetQ P (C0 n d g w) rv r)) : Fn P f as r := by
 refine ⟨hc, hnm, fun g w args him hargs => (callsIn_wide (n := 0)).1 (callsIn_of_wp_marks hf hb trivial ?_)⟩;subst hts;obtain ⟨d, hd, -⟩ := zb8 g.O w.heap.size [] him.2.1;have hrel := zd8 (C := C0 n d ⟨noNames, g.I, g.O⟩ w) (I := g.I) (O := g.O) (m := fn.ntmps) rfl rfl hn hlen him hargs;refine wpIn_mono (h _ w d _ _ w hrel) ?_
 rintro e a w' ⟨st, g1, hr1, he, st', himp, hret⟩
 obtain ⟨g2, hr2⟩ := himp g1 a w' hr1
 have hfin : LeavesInM Fence.wide 0 P fn a.tmps (fun e w' => ∃ v g', e = Ending.returned v /\ RV g'.I noNames r v /\ Add none g w g' w' /\ ImOB g' w') a.defers .returning w' := by
  obtain ⟨D, hD, hnd, hDr⟩ := hr2.defers;refine zap hrv hret rfl (fun g3 w3 v hr3 hv => ?_) D hD.plain hnd hDr ⟨hr2.size, Dfs.nil _ _ _, hr2.tmps, hr2.sat, hr2.ext⟩
  have hnk : ∀ b, b < w.heap.size -> ¬ (C0 n d ⟨noNames, g.I, g.O⟩ w).okb b := fun b hb hk => by
   rcases hk with hk | ⟨m, hk⟩
   ·simp at hk; omega
   ·exact hd b m hk
  have hno : ∀ b, ¬ (C0 n d ⟨noNames, g.I, g.O⟩ w).oth b := fun b ⟨y, m, hy, _⟩ => by simp at hy
  refine ⟨v, { ρ := g.ρ, I := g3.I, O := g3.O }, rfl, hv.forget hnm, ⟨hr3.ext.I, fun _ _ => rfl, fun b hlt => ?_, ⟨hr3.ext.os, hr3.ext.tape, hr3.ext.output, hr3.ext.drawn, hr3.ext.size, fun b hlt => ?_⟩⟩, ⟨hr3.sat.im, hr3.sat.ob⟩⟩
  ·exact (hr3.ext.keep b hlt (hnk b hlt) (hno b)).2
  ·exact (hr3.ext.keep b hlt (hnk b hlt) (hno b)).1
 rcases he with rfl | rfl <;> exact hfin
end Go.Rse
namespace Go.Rse
open Go Go.RowKit
def zci (P : Program) (t n E : Nat) : Bool := match P.underlying t with | some (.array m e) => m == n && e == E | _ => false
theorem zcj {P : Program} {t n E : Nat} (h : zci P t n E = true) : P.underlying t = some (.array n E) := by
 unfold zci at h;split at h
 ·rename_i m e hu; simp at h; obtain ⟨rfl, rfl⟩ := h; exact hu
 ·simp at h
section
variable {P : Program} {C : Ctx} {st : St} {ty : TypeId}
theorem zk7 {t n E s : Nat} {ag : Bool} {parts : Array (Nat × Operand)} {cs cs' : List AV} {ps : List (Nat × AV)} (ht : zci P t n E = true) (hE : tyOk P E ag s = true) (hzc : zb P t cs)
 (hp : za9 st parts.toList = some ps) (hk : zbH ps = true) (hf : zes (fun i => some (i * s, s)) cs ps = some cs') : Pur P C (.build t parts) ty st (.agg cs') := fun g a w dst pos af gd hr => by
 obtain ⟨z, hz, hc⟩ := hzc;obtain ⟨hl, hv⟩ := zfI (I := g.I) (ρ := g.ρ) hc;obtain ⟨vs', h1, h2⟩ := zfq (I := g.I) (ρ := g.ρ) (fun i => some (i * s, s)) ps _ cs cs' z.cells (zb5 hr hp) hk ⟨hl, hv⟩ hf;refine ⟨.agg vs', ?_, by simpa using RV.agg (I := g.I) (ρ := g.ρ) cs' vs'.toList h2.1 h2.2⟩;cases hi : P.info? t with
 | none => simp [hi] at hz
 | some i =>
  simp [hi] at hz;have e : (parts.map fun (i, x) => (i, a.eval x)).toList = parts.toList.map fun (i, x) => (i, a.eval x) := by simp
  simp only [execOp, Instr.build, Sem.run_bind, zeroValue, typeInfo, run_program, Result.andThen_ok, hi, Sem.run_pure, hz, run_underlying (zcj ht), yX hE, e, h1]
theorem zjv {t n E : Nat} {x y : Operand} {cs : List AV} {kk : IntKind} {i : Int} {c : AV} (ht : zci P t n E = true) (hE : tyOk P E false 1 = true) (hx : ev st x = some (.agg cs)) (hy : ev st y = some (.int kk i)) (h0 : 0 <= i) (h1 : i < n) (hc : cs[i.toNat]? = some c) :
 Pur P C (.index t x y) ty st c := fun g a w dst pos af gd hr => by
 obtain ⟨vs, e, hl, hv⟩ := za6 (yn hr hx);have ey := za (yn hr hy);have hlt : i.toNat < vs.length := by rw [hl]; exact (List.getElem?_eq_some_iff.1 hc).1
 refine ⟨vs[i.toNat], ?_, hv _ c _ hc (List.getElem?_eq_getElem hlt)⟩;simp [execOp, Instr.index, asIntOf, e, ey, run_underlying (zcj ht), h0, h1, yX hE, part, zbK hE, hlt]
theorem zx {t n E s : Nat} {x y : Operand} {cs ys : List AV} {kk : IntKind} {i : Int} (ht : zci P t n E = true) (hE : tyOk P E true s = true) (hx : ev st x = some (.agg cs)) (hy : ev st y = some (.int kk i)) (h0 : 0 <= i) (h1 : i < n) (hc : (cs.drop (i.toNat * s)).take s = ys) :
 Pur P C (.index t x y) ty st (.agg ys) := fun g a w dst pos af gd hr => by
 obtain ⟨vs, e, hl, hv⟩ := za6 (yn hr hx);have ey := za (yn hr hy);subst hc
 have key : vs.toArray.extract (i.toNat * s) (i.toNat * s + s) = ((vs.drop (i.toNat * s)).take s).toArray := by
  simp [List.extract_toArray, List.extract]
 refine ⟨.agg ((vs.drop (i.toNat * s)).take s).toArray, ?_, .agg _ _ (by simp [hl]) (fun q c v hc hvv => ?_)⟩
 ·simp only [execOp, Instr.index, asIntOf, e, ey, Sem.run_bind, Sem.run_pure, Result.andThen_ok, run_underlying (zcj ht)];rw [if_pos ⟨h0, h1⟩];simp only [Sem.run_bind, yX hE, Result.andThen_ok, part, zbK hE, if_true, Sem.run_pure, key]
 ·rw [List.getElem?_take] at hc hvv;split at hc
  ·rename_i hq; rw [if_pos hq] at hvv;rw [List.getElem?_drop] at hc hvv;exact hv _ c v hc hvv
  ·simp at hc
def eqAV : AV -> AV -> Option Bool
 | .int .i64 a, .int .i64 b => some (decide (a = b))
 | .bool a, .bool b => some (a == b)
 | _, _ => none
def eqL : List AV -> List AV -> Option Bool
 | [], [] => some true
 | x :: xs, y :: ys => match eqAV x y, eqL xs ys with
  | some p, some q => some (p && q)
  | _, _ => none
 | _, _ => none
theorem zcM {P : Program} {op : BinOp} {t : TypeId} {x y : Operand} {xs ys : Array Value} (hm : P.eqGuardType P.depth t = false) (w : World) : (eqGuard op t x y (.agg xs) (.agg ys)).run P w = .ok () w := run_eqGuard_agg (P := P) w op t x y xs ys hm
theorem zk8 {t : TypeId} {x y : Operand} {yt : TypeId} {p q : Bool} (hu : P.underlying t = some .bool) (hx : ev st x = some (.bool p)) (hy : ev st y = some (.bool q)) : Pur P C (.binOp .eql t x y yt) ty st (.bool (p == q)) := fun g a w dst pos af gd hr => by
 have ex := zg (yn hr hx);have ey := zg (yn hr hy);refine ⟨.bool (p == q), ?_, .bool _⟩;have hg : (eqGuard .eql t x y (.bool p) (.bool q)).run P w = .ok () w := by unfold eqGuard; simp
 simp only [execOp, ex, ey, Sem.run_bind, hg, Result.andThen_ok, run_eql_bool (P := P) w t p q hu, Sem.run_pure]
theorem zk9 {t : TypeId} {x y : Operand} {yt : TypeId} {p q : Bool} (hu : P.underlying t = some .bool) (hx : ev st x = some (.bool p)) (hy : ev st y = some (.bool q)) : Pur P C (.binOp .neq t x y yt) ty st (.bool (!(p == q))) := fun g a w dst pos af gd hr => by
 have ex := zg (yn hr hx);have ey := zg (yn hr hy);refine ⟨.bool (!(p == q)), ?_, .bool _⟩;have hg : (eqGuard .neq t x y (.bool p) (.bool q)).run P w = .ok () w := by unfold eqGuard; simp
 simp only [execOp, ex, ey, Sem.run_bind, hg, Result.andThen_ok, run_neq_bool (P := P) w t p q hu, Sem.run_pure]
end
end Go.Rse
namespace Go.Rse
open Go Go.RowKit
def memb (n : Nat) : List Nat -> Bool
 | [] => false
 | k :: r => n.beq k || memb n r
theorem yU {n : Nat} : ∀ {l : List Nat}, memb n l = true ↔ n ∈ l
 | [] => by simp [memb]
 | k :: r => by simp [memb, yU (l := r)]
structure Fact : Type 1 where
 i : Nat
 d : Option Nat
 x : AV
 nb : Option (Nat × Blk)
 as : List Nat
def rmK (ks : List Nat) : List (Nat × AV) -> List (Nat × AV)
 | [] => []
 | (t, x) :: r => bif memb t ks then rmK ks r else (t, x) :: rmK ks r
theorem zhr {ks : List Nat} {t : Nat} {x : AV} : ∀ {l : List (Nat × AV)}, lk (rmK ks l) t = some x -> memb t ks = false /\ lk l t = some x
 | [], h => by simp [rmK, lk] at h
 | (t', x') :: r, h => by
  simp only [rmK] at h;cases hm : memb t' ks with
  | true =>
   simp only [hm, cond_true] at h;obtain ⟨h1, h2⟩ := zhr h;refine ⟨h1, ?_⟩;rw [yj];have : t'.beq t = false := beqF.2 fun e => by subst e; rw [hm] at h1; simp at h1
   simp [this, h2]
  | false =>
   simp only [hm, cond_false, yj] at h;rw [yj];cases hb : t'.beq t with
   | true =>
    have : t' = t := by simpa using hb
    subst this;exact ⟨hm, by simpa [hb] using h⟩
   | false =>
    simp only [hb, cond_false] at h ⊢;exact zhr h
def selT (as : List Nat) (b : List (Nat × AV)) : List Fact -> List (Nat × AV)
 | [] => b
 | f :: r => bif memb f.i as then consT f.d f.x (selT as b r) else selT as b r
def zir (nb : Option (Nat × Blk)) (l : List (Nat × Blk)) : List (Nat × Blk) := match nb with | some b => b :: l | none => l
def selH (as : List Nat) (b : List (Nat × Blk)) : List Fact -> List (Nat × Blk)
 | [] => b
 | f :: r => bif memb f.i as then zir f.nb (selH as b r) else selH as b r
def stOf (st : St) (hid as : List Nat) (fs : List Fact) : St := ⟨selT as (rmK hid st.t) fs, selH as st.h fs⟩
theorem zgB {as : List Nat} {b : List (Nat × AV)} {t : Nat} {x : AV} : ∀ {fs : List Fact}, lk (selT as b fs) t = some x -> (∃ f ∈ fs, memb f.i as = true /\ f.d = some t /\ f.x = x) \/ lk b t = some x
 | [], h => .inr h
 | f :: r, h => by
  simp only [selT] at h;cases hm : memb f.i as with
  | true =>
   simp only [hm, cond_true] at h;cases hd : f.d with
   | none =>
    simp only [hd, consT] at h;rcases zgB h with ⟨f', h1, h2⟩ | h1
    ·exact .inl ⟨f', by simp [h1], h2⟩
    ·exact .inr h1
   | some d =>
    simp only [hd, consT, yj] at h;cases hb : d.beq t with
    | true =>
     have : d = t := by simpa using hb
     subst this;simp at h;exact .inl ⟨f, by simp, hm, hd, h⟩
    | false =>
     simp only [hb, cond_false] at h;rcases zgB h with ⟨f', h1, h2⟩ | h1
     ·exact .inl ⟨f', by simp [h1], h2⟩
     ·exact .inr h1
  | false =>
   simp only [hm, cond_false] at h;rcases zgB h with ⟨f', h1, h2⟩ | h1
   ·exact .inl ⟨f', by simp [h1], h2⟩
   ·exact .inr h1
theorem zgC {as : List Nat} {b : List (Nat × Blk)} {k : Nat} {B : Blk} : ∀ {fs : List Fact}, lk (selH as b fs) k = some B -> (∃ f ∈ fs, memb f.i as = true /\ f.nb = some (k, B)) \/ lk b k = some B
 | [], h => .inr h
 | f :: r, h => by
  simp only [selH] at h;cases hm : memb f.i as with
  | true =>
   simp only [hm, cond_true] at h;cases hd : f.nb with
   | none =>
    simp only [hd, zir] at h;rcases zgC h with ⟨f', h1, h2⟩ | h1
    ·exact .inl ⟨f', by simp [h1], h2⟩
    ·exact .inr h1
   | some p =>
    obtain ⟨k', B'⟩ := p;simp only [hd, zir, yj] at h;cases hb : k'.beq k with
    | true =>
     have : k' = k := by simpa using hb
     subst this;simp at h;subst h;exact .inl ⟨f, by simp, hm, hd⟩
    | false =>
     simp only [hb, cond_false] at h;rcases zgC h with ⟨f', h1, h2⟩ | h1
     ·exact .inl ⟨f', by simp [h1], h2⟩
     ·exact .inr h1
  | false =>
   simp only [hm, cond_false] at h;rcases zgC h with ⟨f', h1, h2⟩ | h1
   ·exact .inl ⟨f', by simp [h1], h2⟩
   ·exact .inr h1
def dir (ops : Array Oper) (i : Nat) : List Nat := match ops[i]? with | some o => (o.after.toList.filter (Region.binds .any ·)).map (·.on) | none => []
def zbA (ops : Array Oper) (i : Nat) : List Nat -> Bool
 | [] => true
 | a :: r => (memb a (dir ops i) || r.any fun b => memb a (dir ops b)) && zbA ops i r
def zc5 (ops : Array Oper) : Bool := (List.range ops.size).all fun i => (dir ops i).all fun j => j.blt i
def nbFr (nb : Option (Nat × Blk)) (k : Nat) : Bool := match nb with | some (k', B) => !(k'.beq k) && B.fr k | none => true
def zdH (f f' : Fact) : Bool :=
 (match f.d, f'.d with | some d, some d' => !(d.beq d') | _, _ => true) &&
 (match f.nb with | some (k, _) => f'.x.fr k && nbFr f'.nb k | none => true) &&
 (memb f'.i f.as || match f'.nb with | some (k, _) => f.x.fr k && nbFr f.nb k | none => true)
def okF (st : St) (hid : List Nat) : List Fact -> Bool
 | [] => true
 | f :: r => (match f.d with | some d => memb d hid | none => true) && nbOk st f.nb && r.all (zdH f) && okF st hid r
def zfr (ops : Array Oper) (m : Nat) : Nat -> Bool
 | 0 => true
 | n + 1 => memb (m + n) (dir ops (m + n + 1)) && zfr ops m n
def zdI (ops : Array Oper) (m : Nat) (as : List Nat) : Bool :=
 m.ble ops.size && (ops.size.beq m || (zbA ops m as && (List.range m).all (memb · as) && zfr ops m (ops.size - m - 1)))
def zd9 (ops : Array Oper) (m : Nat) (as : List Nat) : Bool :=
 ops.size.beq (m + 3) && zbA ops m as && (List.range m).all (memb · as) && memb m (dir ops (m + 2)) && memb (m + 1) (dir ops (m + 2))
def zck (ops : Array Oper) (m e : Nat) (as : List Nat) : Bool :=
 ops.size.beq (m + 2) && e.blt m && zbA ops m as && ((List.range m).all fun j => j.beq e || memb j as) && memb m (dir ops (m + 1)) && memb e (dir ops (m + 1))
def noF (e : Nat) (fs : List Fact) : List Fact := fs.filter fun f => !(f.i == e)
def Good (P : Program) (C : Ctx) (ops : Array Oper) (st : St) (hid : List Nat) (Q : Exit -> St -> Prop) (f : Fact) (fs0 : List Fact) : Prop :=
 zbA ops f.i f.as = true /\ dOk C.n f.d = true /\ ∀ g a w, Rel C (stOf st hid f.as fs0) g a w -> ∀ K : Act -> World -> Prop,
  (∀ v w' g', Add (f.nb.map (·.1)) g w g' w' -> RV g'.I g'.ρ f.x v -> ImOB g' w' -> (∀ k B, f.nb = some (k, B) -> y4 C g' w' k B) -> K (a.put f.d v) w') -> wpOpIn C.F 0 P ops (lift C Q) f.i K a w
inductive Chain (P : Program) (C : Ctx) (ops : Array Oper) (st : St) (hid : List Nat) (Q : Exit -> St -> Prop) : Nat -> List Fact -> Prop
 | step {i : Nat} {fs : List Fact} {o : Oper} {x : AV} {nb : Option (Nat × Blk)} (as : List Nat) (ho : ops[i]? = some o) (hg : o.guard = none) (ha : zbA ops i as = true) (hs : yr P C o.op o.type (stOf st hid as fs) x nb) (hd : dOk C.n o.dst = true)
  (h : Chain P C ops st hid Q (i + 1) (⟨i, o.dst, x, nb, as⟩ :: fs)) : Chain P C ops st hid Q i fs
 | gT {i : Nat} {fs : List Fact} {o : Oper} {x : AV} {nb : Option (Nat × Blk)} {gi t : Nat} {want b : Bool} (as : List Nat) (ho : ops[i]? = some o) (hg : o.guard = some (gi, want)) (ha : zbA ops i as = true) (hi : (ops[gi]?).bind (·.dst) = some t) (hb : lk (stOf st hid as fs).t t = some (.bool b))
  (hw : (b == want) = true) (hs : yr P C o.op o.type (stOf st hid as fs) x nb) (hd : dOk C.n o.dst = true) (h : Chain P C ops st hid Q (i + 1) (⟨i, o.dst, x, nb, as⟩ :: fs)) : Chain P C ops st hid Q i fs
 | gF {i : Nat} {fs : List Fact} {o : Oper} {gi t : Nat} {want b : Bool} (as : List Nat) (ho : ops[i]? = some o) (hg : o.guard = some (gi, want)) (ha : zbA ops i as = true) (hi : (ops[gi]?).bind (·.dst) = some t) (hb : lk (stOf st hid as fs).t t = some (.bool b))
  (hw : (b == want) = false) (hd : dOk C.n o.dst = true) (h : Chain P C ops st hid Q (i + 1) (⟨i, o.dst, .any, none, as⟩ :: fs)) : Chain P C ops st hid Q i fs
 | gen {i : Nat} {fs : List Fact} {f : Fact} (hi : f.i = i) (hf : Good P C ops st hid Q f fs) (h : Chain P C ops st hid Q (i + 1) (f :: fs)) : Chain P C ops st hid Q i fs
 | tail2 {i : Nat} {fs : List Fact} {o1 oe o2 : Oper} {x : AV} (as ase : List Nat) (hl : ops.toList.drop i = [o1, oe, o2]) (hge : oe.guard = none) (hok : okF st hid (⟨i + 1, oe.dst, x, none, ase⟩ :: fs) = true) (hf : zd9 ops i as = true) (hae : zbA ops (i + 1) ase = true) (hde : dOk C.n oe.dst = true)
  (hse : yr P C oe.op oe.type (stOf st hid ase fs) x none) (hA : Ex P C ops [o1, o2] (stOf st hid ((i + 1) :: fs.map (·.i)) (⟨i + 1, oe.dst, x, none, ase⟩ :: fs)) Q) (hB : Ex P C ops [o1, oe, o2] (stOf st hid (fs.map (·.i)) fs) Q) : Chain P C ops st hid Q i fs
 | tail {i : Nat} {fs : List Fact} (as : List Nat) (hok : okF st hid fs = true) (hf : zdI ops i as = true) (h : Ex P C ops (ops.toList.drop i) (stOf st hid (fs.map (·.i)) fs) Q) : Chain P C ops st hid Q i fs
 | late {i : Nat} {fs : List Fact} {o1 oe o2 : Oper} (e : Nat) (as : List Nat) (hl : ops.toList.drop i = [o1, o2]) (hoe : ops[e]? = some oe) (hok : okF st hid fs = true) (hf : zck ops i e as = true)
  (hA : Ex P C ops [o1, o2] (stOf st hid (fs.map (·.i)) fs) Q) (hB : Ex P C ops [o1, oe, o2] (stOf st hid ((noF e fs).map (·.i)) (noF e fs)) Q) : Chain P C ops st hid Q i fs
theorem Chain.collect {P : Program} {C : Ctx} {ops : Array Oper} {st : St} {hid : List Nat} {Q : Exit -> St -> Prop} {i : Nat} {fs : List Fact} (h : Chain P C ops st hid Q i fs) (h1 : ∀ j, j < i -> ∃ f ∈ fs, f.i = j) (h2 : ∀ f ∈ fs, f.i < i /\ ∃ fs0, (∀ f' ∈ fs0, f' ∈ fs) /\ Good P C ops st hid Q f fs0) (hu : ∀ f ∈ fs, ∀ f' ∈ fs, f'.i = f.i -> f' = f) :
 ∃ m fs' as, (∀ j, j < m -> ∃ f ∈ fs', f.i = j) /\ (∀ f ∈ fs', f.i < m /\ ∃ fs0, (∀ f' ∈ fs0, f' ∈ fs') /\ Good P C ops st hid Q f fs0) /\ (∀ f ∈ fs', ∀ f' ∈ fs', f'.i = f.i -> f' = f) ∧
  ((okF st hid fs' = true /\ zdI ops m as = true /\ Ex P C ops (ops.toList.drop m) (stOf st hid (fs'.map (·.i)) fs') Q) ∨
   (∃ fe o1 oe o2, ops.toList.drop m = [o1, oe, o2] /\ fe.i = m + 1 /\ okF st hid (fe :: fs') = true /\ zd9 ops m as = true /\ Good P C ops st hid Q fe fs' ∧
    Ex P C ops [o1, o2] (stOf st hid ((fe :: fs').map (·.i)) (fe :: fs')) Q /\ Ex P C ops [o1, oe, o2] (stOf st hid (fs'.map (·.i)) fs') Q) ∨
   ∃ e o1 oe o2, ops.toList.drop m = [o1, o2] /\ ops[e]? = some oe /\ okF st hid fs' = true /\ zck ops m e as = true /\ Ex P C ops [o1, o2] (stOf st hid (fs'.map (·.i)) fs') Q /\ Ex P C ops [o1, oe, o2] (stOf st hid ((noF e fs').map (·.i)) (noF e fs')) Q) := by
 induction h with
 | step as ho hg ha hs hd h ih =>
  rename_i i fs o x nb
  have hu' : ∀ y : Fact, y.i = i -> ∀ f ∈ y :: fs, ∀ f' ∈ y :: fs, f'.i = f.i -> f' = f := fun y hy f hf f' hf' e => by
   rcases List.mem_cons.1 hf with e1 | hf1
   ·rcases List.mem_cons.1 hf' with e2 | hf2
    ·rw [e1, e2]
    ·have := (h2 f' hf2).1; rw [e, e1, hy] at this; omega
   ·rcases List.mem_cons.1 hf' with e2 | hf2
    ·have := (h2 f hf1).1; rw [← e, e2, hy] at this; omega
    ·exact hu f hf1 f' hf2 e
  refine ih (fun j hj => ?_) (fun f hf => ?_) (hu' _ rfl)
  ·by_cases e : j = i
   ·exact ⟨_, List.mem_cons_self, e.symm⟩
   ·obtain ⟨f, hf, hfi⟩ := h1 j (by omega);exact ⟨f, by simp [hf], hfi⟩
  ·rcases List.mem_cons.1 hf with rfl | hf
   ·refine ⟨Nat.lt_succ_self _, fs, fun f' hf' => by simp [hf'], ha, hd, fun g a w hr K hK => ?_⟩;have : o = { dst := o.dst, op := o.op, type := o.type, pos := o.pos, after := o.after, guard := o.guard } := rfl;simp only [wpOpIn, ho];rw [if_pos (by simp [Region.wanted, hg])];exact zK (hs g a w o.dst o.pos o.after o.guard hr K hK)
   ·obtain ⟨h3, fs0, h4, h5⟩ := h2 f hf;exact ⟨by omega, fs0, fun f' hf' => by simp [h4 f' hf'], h5⟩
 | gen hfi hgd h ih =>
  rename_i i fs fnew
  have hu' : ∀ y : Fact, y.i = i -> ∀ f ∈ y :: fs, ∀ f' ∈ y :: fs, f'.i = f.i -> f' = f := fun y hy f hf f' hf' e => by
   rcases List.mem_cons.1 hf with e1 | hf1
   ·rcases List.mem_cons.1 hf' with e2 | hf2
    ·rw [e1, e2]
    ·have := (h2 f' hf2).1; rw [e, e1, hy] at this; omega
   ·rcases List.mem_cons.1 hf' with e2 | hf2
    ·have := (h2 f hf1).1; rw [← e, e2, hy] at this; omega
    ·exact hu f hf1 f' hf2 e
  refine ih (fun j hj => ?_) (fun f hf => ?_) (hu' _ hfi)
  ·by_cases e : j = i
   ·exact ⟨_, List.mem_cons_self, hfi.trans e.symm⟩
   ·obtain ⟨f, hf, hfi⟩ := h1 j (by omega);exact ⟨f, by simp [hf], hfi⟩
  ·rcases List.mem_cons.1 hf with rfl | hf
   ·exact ⟨by omega, fs, fun f' hf' => by simp [hf'], hgd⟩
   ·obtain ⟨h3, fs0, h4, h5⟩ := h2 f hf;exact ⟨by omega, fs0, fun f' hf' => by simp [h4 f' hf'], h5⟩
 | gT as ho hg ha hi hb hw hs hd h ih =>
  rename_i i fs o x nb gi t want b
  have hu' : ∀ y : Fact, y.i = i -> ∀ f ∈ y :: fs, ∀ f' ∈ y :: fs, f'.i = f.i -> f' = f := fun y hy f hf f' hf' e => by
   rcases List.mem_cons.1 hf with e1 | hf1
   ·rcases List.mem_cons.1 hf' with e2 | hf2
    ·rw [e1, e2]
    ·have := (h2 f' hf2).1; rw [e, e1, hy] at this; omega
   ·rcases List.mem_cons.1 hf' with e2 | hf2
    ·have := (h2 f hf1).1; rw [← e, e2, hy] at this; omega
    ·exact hu f hf1 f' hf2 e
  refine ih (fun j hj => ?_) (fun f hf => ?_) (hu' _ rfl)
  ·by_cases e : j = i
   ·exact ⟨_, List.mem_cons_self, e.symm⟩
   ·obtain ⟨f, hf, hfi⟩ := h1 j (by omega);exact ⟨f, by simp [hf], hfi⟩
  ·rcases List.mem_cons.1 hf with rfl | hf
   ·refine ⟨Nat.lt_succ_self _, fs, fun f' hf' => by simp [hf'], ha, hd, fun g a w hr K hK => ?_⟩
    have hy : yielded ops a.tmps gi = some b := by
     have := zg (hr.tmps t _ hb)
     have e : a.tmps[t]? = some (.bool b) := by
      simp only [Array.getD_eq_getD_getElem?] at this;cases h : a.tmps[t]? with
      | none => rw [h] at this; simp [undef] at this
      | some u => rw [h] at this; simpa using this
     simp [yielded, hi, e]
    simp only [wpOpIn, ho];rw [if_pos (by simp only [Region.wanted, hg, hy]; simpa using hw)];exact zK (hs g a w o.dst o.pos o.after o.guard hr K hK)
   ·obtain ⟨h3, fs0, h4, h5⟩ := h2 f hf;exact ⟨by omega, fs0, fun f' hf' => by simp [h4 f' hf'], h5⟩
 | gF as ho hg ha hi hb hw hd h ih =>
  rename_i i fs o gi t want b
  have hu' : ∀ y : Fact, y.i = i -> ∀ f ∈ y :: fs, ∀ f' ∈ y :: fs, f'.i = f.i -> f' = f := fun y hy f hf f' hf' e => by
   rcases List.mem_cons.1 hf with e1 | hf1
   ·rcases List.mem_cons.1 hf' with e2 | hf2
    ·rw [e1, e2]
    ·have := (h2 f' hf2).1; rw [e, e1, hy] at this; omega
   ·rcases List.mem_cons.1 hf' with e2 | hf2
    ·have := (h2 f hf1).1; rw [← e, e2, hy] at this; omega
    ·exact hu f hf1 f' hf2 e
  refine ih (fun j hj => ?_) (fun f hf => ?_) (hu' _ rfl)
  ·by_cases e : j = i
   ·exact ⟨_, List.mem_cons_self, e.symm⟩
   ·obtain ⟨f, hf, hfi⟩ := h1 j (by omega);exact ⟨f, by simp [hf], hfi⟩
  ·rcases List.mem_cons.1 hf with rfl | hf
   ·refine ⟨Nat.lt_succ_self _, fs, fun f' hf' => by simp [hf'], ha, hd, fun g a w hr K hK => ?_⟩
    have hy : yielded ops a.tmps gi = some b := by
     have := zg (hr.tmps t _ hb)
     have e : a.tmps[t]? = some (.bool b) := by
      simp only [Array.getD_eq_getD_getElem?] at this;cases h : a.tmps[t]? with
      | none => rw [h] at this; simp [undef] at this
      | some u => rw [h] at this; simpa using this
     simp [yielded, hi, e]
    simp only [wpOpIn, ho];rw [if_neg (by simp only [Region.wanted, hg, hy]; simpa using hw)];exact ⟨fun f _ => C.F_fn f, hK undef w g (Add.refl _ g w) (.any _) ⟨hr.sat.im, hr.sat.ob⟩ (fun _ _ h => by cases h)⟩
   ·obtain ⟨h3, fs0, h4, h5⟩ := h2 f hf;exact ⟨by omega, fs0, fun f' hf' => by simp [h4 f' hf'], h5⟩
 | tail as hok hf h => exact ⟨_, _, as, h1, h2, hu, .inl ⟨hok, hf, h⟩⟩
 | late e as hl hoe hok hf hA hB => exact ⟨_, _, as, h1, h2, hu, .inr (.inr ⟨e, _, _, _, hl, hoe, hok, hf, hA, hB⟩)⟩
 | tail2 as ase hl hge hok hf hae hde hse hA hB =>
  rename_i i fs o1 oe o2 x;refine ⟨_, _, as, h1, h2, hu, .inr (.inl ⟨_, o1, oe, o2, hl, rfl, hok, hf, ⟨hae, hde, fun g a w hr K hK => ?_⟩, hA, hB⟩)⟩
  have ho : ops[i + 1]? = some oe := by
   have : (ops.toList.drop i)[1]? = some oe := by rw [hl]; rfl
   simpa using this
  simp only [wpOpIn, ho];rw [if_pos (by simp [Region.wanted, hge])];exact zK (hse g a w oe.dst oe.pos oe.after oe.guard hr K hK)
structure RelD (C : Ctx) (st : St) (hid : List Nat) (fs : List Fact) (D : Nat -> Prop) (g : Gh) (a : Act) (w : World) : Prop where
 size : a.tmps.size = C.n
 defers : Dfs C g a.defers w
 tf : ∀ f ∈ fs, D f.i -> ∀ t, f.d = some t -> RV g.I g.ρ f.x (a.tmps.getD t undef)
 ts : ∀ t x, memb t hid = false -> lk st.t t = some x -> RV g.I g.ρ x (a.tmps.getD t undef)
 hf : ∀ f ∈ fs, D f.i -> ∀ k B, f.nb = some (k, B) -> y4 C g w k B
 hs : ∀ k B, lk st.h k = some B -> y4 C g w k B
 im : ImOB g w
 ext : Ext C g w
theorem RelD.rel {C : Ctx} {st : St} {hid : List Nat} {fs fs0 : List Fact} {D : Nat -> Prop} {g : Gh} {a : Act} {w : World} (h : RelD C st hid fs D g a w) {as : List Nat} (h0 : ∀ f ∈ fs0, f ∈ fs) (has : ∀ i, i ∈ as -> D i) : Rel C (stOf st hid as fs0) g a w := by
 refine ⟨h.size, h.defers, fun t x hx => ?_, ⟨h.im.1, h.im.2, fun k B hB => ?_⟩, h.ext⟩
 ·rcases zgB hx with ⟨f, h1, h2, h3, rfl⟩ | h1
  ·exact h.tf f (h0 f h1) (has _ (yU.1 h2)) t h3
  ·obtain ⟨h2, h3⟩ := zhr h1;exact h.ts t x h2 h3
 ·rcases zgC hB with ⟨f, h1, h2, h3⟩ | h1
  ·exact h.hf f (h0 f h1) (has _ (yU.1 h2)) k B h3
  ·exact h.hs k B h1
theorem zme {st : St} {hid : List Nat} : ∀ {fs : List Fact}, okF st hid fs = true -> ∀ f ∈ fs, (∀ d, f.d = some d -> memb d hid = true) /\ nbOk st f.nb = true
 | [], _, f, h => by simp at h
 | f0 :: r, h, f, hf => by
  simp only [okF, Bool.and_eq_true] at h;rcases List.mem_cons.1 hf with rfl | hf
  ·refine ⟨fun d hd => ?_, h.1.1.2⟩;have := h.1.1.1;rw [hd] at this;exact this
  ·exact zme h.2 f hf
theorem zhs {st : St} {hid : List Nat} : ∀ {fs : List Fact}, okF st hid fs = true -> ∀ f ∈ fs, ∀ f' ∈ fs, f.i ≠ f'.i -> zdH f f' = true \/ zdH f' f = true
 | [], _, f, h => by simp at h
 | f0 :: r, h, f, hf => fun f' hf' hne => by
  simp only [okF, Bool.and_eq_true] at h;have hall := List.all_eq_true.1 h.1.2;rcases List.mem_cons.1 hf with e1 | h1
  ·rcases List.mem_cons.1 hf' with e2 | h2
   ·exact absurd (by rw [e1, e2]) hne
   ·exact .inl (by rw [e1]; exact hall f' h2)
  ·rcases List.mem_cons.1 hf' with e2 | h2
   ·exact .inr (by rw [e2]; exact hall f h1)
   ·exact zhs h.2 f h1 f' h2 hne
theorem zke {f f' : Fact} (h : zdH f f' = true \/ zdH f' f = true) (hn : f.i ∉ f'.as) : (∀ d, f.d = some d -> f'.d ≠ some d) /\ ∀ k B, f.nb = some (k, B) -> f'.x.fr k = true /\ nbFr f'.nb k = true := by
 rcases h with h | h
 ·simp only [zdH, Bool.and_eq_true] at h;refine ⟨fun d hd hd' => ?_, fun k B hk => ?_⟩
  ·have := h.1.1; rw [hd, hd'] at this; simp at this
  ·have := h.1.2; rw [hk] at this; simpa using this
 ·simp only [zdH, Bool.and_eq_true] at h;refine ⟨fun d hd hd' => ?_, fun k B hk => ?_⟩
  ·have := h.1.1; rw [hd, hd'] at this; simp at this
  ·have := h.2;rw [hk] at this;simp only [Bool.or_eq_true, yU] at this;rcases this with h' | h'
   ·exact absurd h' hn
   ·simpa using h'
theorem RelD.add {C : Ctx} {st : St} {hid : List Nat} {fs : List Fact} {D D' : Nat -> Prop} {g g' : Gh} {a : Act} {w w' : World} (h : RelD C st hid fs D g a w) {f : Fact} {v : Value} (hf : f ∈ fs) (hok : okF st hid fs = true) (hnD : ¬ D f.i)
 (huniq : ∀ f' ∈ fs, f'.i = f.i -> f' = f) (hD' : ∀ j, D' j -> D j \/ j = f.i) (hanc : ∀ f' ∈ fs, D f'.i -> f.i ∉ f'.as) (hd : dOk C.n f.d = true)
 (ha : Add (f.nb.map (·.1)) g w g' w') (hx : RV g'.I g'.ρ f.x v) (him : ImOB g' w') (hB : ∀ k B, f.nb = some (k, B) -> y4 C g' w' k B) : RelD C st hid fs D' g' (a.put f.d v) w' := by
 have hm := zme hok f hf
 have hnk : ∀ n, f.nb.map (·.1) = some n -> ∃ B, f.nb = some (n, B) := fun n hn => by
  cases hb : f.nb with
  | none => simp [hb] at hn
  | some p => simp [hb] at hn; exact ⟨p.2, by rw [← hn]⟩
 have hstf : ∀ n, f.nb.map (·.1) = some n -> st.fr n = true := fun n hn => by
  obtain ⟨B, hb⟩ := hnk n hn;have := hm.2; rw [hb] at this; exact this
 have hget : ∀ t, f.d ≠ some t -> (a.put f.d v).tmps.getD t undef = a.tmps.getD t undef := fun t ht => by
  cases hfd : f.d with
  | none => rfl
  | some d =>
   rw [zaE (by rw [h.size]; rw [hfd] at hd; simpa [dOk] using hd), if_neg (fun e => ht (by rw [hfd, e]))]
 refine ⟨?_, ?_, fun f' hf' hDf t ht => ?_, fun t x hh hx' => ?_, fun f' hf' hDf k B hk => ?_, fun k B hk => ?_, him, h.ext.add ha⟩
 ·cases hfd : f.d <;> simp [Act.put, h.size]
 ·have := h.defers.add ha;cases hfd : f.d <;> exact this
 ·by_cases e : f'.i = f.i
  ·obtain rfl := huniq f' hf' e;rw [ht, zaE (by rw [h.size]; rw [ht] at hd; simpa [dOk] using hd), if_pos rfl];exact hx
  ·have hDD : D f'.i := (hD' _ hDf).resolve_right e;obtain ⟨p1, p2⟩ := zke (zhs hok f hf f' hf' (fun e' => e e'.symm)) (hanc f' hf' hDD);rw [hget t (fun e' => p1 t e' ht)];exact ((h.tf f' hf' hDD t ht).renameOpt (nk := f.nb.map (·.1)) (fun n hn => by obtain ⟨B, hb⟩ := hnk n hn; exact (p2 n B hb).1) ha.ρ).mono ha.I
 ·have : f.d ≠ some t := fun e => by have := hm.1 t e; rw [hh] at this; simp at this
  rw [hget t this];exact ((h.ts t x hh hx').renameOpt (nk := f.nb.map (·.1)) (fun n hn => zhm (by have := hstf n hn; simp [St.fr] at this; exact this.1) hx') ha.ρ).mono ha.I
 ·by_cases e : f'.i = f.i
  ·obtain rfl := huniq f' hf' e;exact hB k B hk
  ·have hDD : D f'.i := (hD' _ hDf).resolve_right e;obtain ⟨p1, p2⟩ := zke (zhs hok f hf f' hf' (fun e' => e e'.symm)) (hanc f' hf' hDD);refine (h.hf f' hf' hDD k B hk).add ha (fun hn => ?_) (fun n hn => ?_) h.ext.size him
   ·obtain ⟨B', hb⟩ := hnk k hn;have := (p2 k B' hb).2;rw [hk] at this; simp [nbFr] at this
   ·obtain ⟨B', hb⟩ := hnk n hn;have := (p2 n B' hb).2;rw [hk] at this; simp only [nbFr, Bool.and_eq_true] at this;exact this.2
 ·refine (h.hs k B hk).add ha (fun hn => ?_) (fun n hn => ?_) h.ext.size him
  ·have := hstf k hn;simp [St.fr] at this;exact (zb1 this.2 hk).2 rfl
  ·have := hstf n hn;simp [St.fr] at this;exact (zb1 this.2 hk).1
theorem zi {ops : Array Oper} {listed : Array Bool} {i : Nat} : i ∈ Region.ready .any ops listed ↔ i < ops.size /\ listed.getD i true = false /\ ∀ j ∈ dir ops i, listed.getD j false = true := by
 simp only [Region.ready, List.mem_filter, List.mem_range, Bool.and_eq_true, Bool.not_eq_true'];constructor
 ·rintro ⟨h1, h2, h3⟩
  refine ⟨h1, h2, fun j hj => ?_⟩;have hi : ops[i]? = some ops[i] := Array.getElem?_eq_getElem h1;simp only [dir, hi, List.mem_map, List.mem_filter] at hj;obtain ⟨e, ⟨he, hb⟩, rfl⟩ := hj;simp only [hi, Option.map_some, Option.getD_some, Array.all_eq_true_iff_forall_mem] at h3;have := h3 e (by simpa using he);simpa [hb] using this
 ·rintro ⟨h1, h2, h3⟩
  refine ⟨h1, h2, ?_⟩;have hi : ops[i]? = some ops[i] := Array.getElem?_eq_getElem h1;simp only [hi, Option.map_some, Option.getD_some, Array.all_eq_true_iff_forall_mem];intro e he;cases hb : Region.binds .any e with
  | false => rfl
  | true =>
   have := h3 e.on (by simp only [dir, hi, List.mem_map, List.mem_filter]; exact ⟨e, ⟨by simpa using he, hb⟩, rfl⟩);simp [this]
theorem zoA {ops : Array Oper} {i : Nat} (h : ops.size <= i) : dir ops i = [] := by simp [dir, h]
def zct (ops : Array Oper) (listed : Array Bool) : Prop := ∀ i, i < ops.size -> listed.getD i false = true -> ∀ j ∈ dir ops i, listed.getD j false = true
theorem yY {ops : Array Oper} {listed : Array Bool} {i : Nat} (hc : zct ops listed) (hi : ∀ j ∈ dir ops i, listed.getD j false = true) : ∀ {as : List Nat}, zbA ops i as = true -> ∀ a ∈ as, listed.getD a false = true
 | [], _, a, h => by simp at h
 | b :: r, h, a, ha => by
  simp only [zbA, Bool.and_eq_true, Bool.or_eq_true] at h;have ih := yY hc hi h.2;rcases List.mem_cons.1 ha with rfl | ha
  ·rcases h.1 with h1 | h1
   ·exact hi a (yU.1 h1)
   ·obtain ⟨c, hcr, hcm⟩ := List.any_eq_true.1 h1;have hcl := ih c hcr;rcases Nat.lt_or_ge c ops.size with hl | hl
    ·exact hc c hl hcl a (yU.1 hcm)
    ·rw [zoA hl] at hcm; simp [memb] at hcm
  ·exact ih a ha
theorem zfs {ops : Array Oper} {m : Nat} : ∀ {n : Nat}, zfr ops m n = true -> ∀ k, m < k -> k <= m + n -> (k - 1) ∈ dir ops k
 | 0, _, k, h1, h2 => by omega
 | n + 1, h, k, h1, h2 => by
  simp only [zfr, Bool.and_eq_true] at h;by_cases e : k = m + n + 1
  ·subst e; simpa using yU.1 h.1
  ·exact zfs h.2 k h1 (by omega)
theorem zj {l : Array Bool} {i j : Nat} (h : i < l.size) : (l.setIfInBounds i true).getD j false = if i = j then true else l.getD j false := by
 simp only [Array.getD_eq_getD_getElem?, Array.getElem?_setIfInBounds];split
 ·rename_i e; subst e; simp
 ·rfl
theorem zai {l : Array Bool} {i : Nat} (h : i < l.size) : l.getD i true = l.getD i false := by
 simp [Array.getD_eq_getD_getElem?, h]
theorem zht {F : Fence} {P : Program} {ops : Array Oper} {Q : Exit -> Act -> World -> Prop} {m : Nat} (he : zc5 ops = true) (hf : ∀ k, m < k -> k < ops.size -> (k - 1) ∈ dir ops k) : ∀ (n k : Nat) (listed : Array Bool) (a : Act) (w : World), m <= k -> k + n = ops.size -> listed.size = ops.size →
 (∀ j, j < ops.size -> (listed.getD j false = true ↔ j < k)) -> wpListIn F 0 P ops Q (ops.toList.drop k) a w -> wpAnyIn F 0 P .any ops Q n listed a w
 | 0, k, listed, a, w, hmk, hn, hsz, hl, h => by
  have hr : Region.ready .any ops listed = [] := List.eq_nil_iff_forall_not_mem.2 fun i hi => by
   obtain ⟨h1, h2, _⟩ := zi.1 hi;rw [zai (by omega)] at h2;have := (hl i h1).2 (by omega);rw [this] at h2; simp at h2
  refine ⟨hr, ?_⟩;rw [List.drop_of_length_le (by simp; omega)] at h;exact h
 | n + 1, k, listed, a, w, hmk, hn, hsz, hl, h => by
  have hk : k < ops.size := by omega
  have hdir : ∀ i, i < ops.size -> ∀ j ∈ dir ops i, j < i := fun i hi j hj => by
   have := List.all_eq_true.1 (List.all_eq_true.1 he i (by simpa using hi)) j hj;simpa using this
  have hready : ∀ i, i ∈ Region.ready .any ops listed ↔ i = k := fun i => by
   rw [zi];constructor
   ·rintro ⟨h1, h2, h3⟩
    rw [zai (by omega)] at h2;have hik : ¬ i < k := fun hlt => by rw [(hl i h1).2 hlt] at h2; simp at h2
    by_cases e : i = k
    ·exact e
    ·exfalso;have := h3 _ (hf i (by omega) h1);have := (hl (i - 1) (by omega)).1 this;omega
   ·rintro rfl
    refine ⟨hk, ?_, fun j hj => (hl j (by have := hdir _ hk j hj; omega)).2 (hdir _ hk j hj)⟩;rw [zai (by omega)];cases hb : listed.getD i false with
    | false => rfl
    | true => have := (hl i hk).1 hb; omega
  refine ⟨fun e => ?_, fun i hi => ?_⟩
  ·have : k ∈ Region.ready .any ops listed := (hready k).2 rfl;rw [e] at this; simp at this
  ·obtain rfl := (hready i).1 hi;have ho : ops[i]? = some ops[i] := Array.getElem?_eq_getElem hk;rw [List.drop_eq_getElem_cons (by simpa using hk)] at h
   have ih := fun a w => zht (F := F) (P := P) (Q := Q) he hf n (i + 1) (listed.setIfInBounds i true) a w (by omega) (by omega) (by simpa using hsz) (fun j hj => by
    rw [zj (by omega)];split
    ·rename_i e; subst e; simp
    ·rename_i e; rw [hl j hj]; omega)
   simp only [wpOpIn, ho];simp only [wpListIn] at h;simp only [Array.getElem_toList] at h;split
   ·rename_i hw; rw [if_pos hw] at h;exact Oper.wpIn_mono ih h
   ·rename_i hw; rw [if_neg hw] at h;exact ⟨h.1, ih _ _ h.2⟩
theorem Ex.wpl {P : Program} {C : Ctx} {ops : Array Oper} {l : List Oper} {st : St} {Q : Exit -> St -> Prop} (h : Ex P C ops l st Q) {g : Gh} {a : Act} {w : World} (hr : Rel C st g a w) : wpListIn C.F 0 P ops (lift C Q) l a w := h g a w hr
theorem zm1 {P : Program} {C : Ctx} {ops : Array Oper} {st : St} {hid : List Nat} {Q : Exit -> St -> Prop} {m : Nat} {fs : List Fact} {as : List Nat} (he : zc5 ops = true) (h1 : ∀ j, j < m -> ∃ f ∈ fs, f.i = j) (h2 : ∀ f ∈ fs, f.i < m /\ ∃ fs0, (∀ f' ∈ fs0, f' ∈ fs) /\ Good P C ops st hid Q f fs0)
 (huniq : ∀ f ∈ fs, ∀ f' ∈ fs, f'.i = f.i -> f' = f) (hok : okF st hid fs = true) (hf : zdI ops m as = true) (hex : Ex P C ops (ops.toList.drop m) (stOf st hid (fs.map (·.i)) fs) Q) : ∀ (n : Nat) (listed : Array Bool) (c : Nat) (g : Gh) (a : Act) (w : World), listed.size = ops.size -> n = c + (ops.size - m) →
 c = ((List.range m).filter fun j => !listed.getD j false).length -> (∀ j, m <= j -> j < ops.size -> listed.getD j false = false) -> zct ops listed -> RelD C st hid fs (fun j => listed.getD j false = true) g a w -> wpAnyIn C.F 0 P .any ops (lift C Q) n listed a w := by
 have hmle : m <= ops.size := by
  simp only [zdI, Bool.and_eq_true] at hf; simpa using hf.1
 have hdir : ∀ i, i < ops.size -> ∀ j ∈ dir ops i, j < i := fun i hi j hj => by
  have := List.all_eq_true.1 (List.all_eq_true.1 he i (by simpa using hi)) j hj;simpa using this
 have hforce : m < ops.size -> zbA ops m as = true /\ (∀ j, j < m -> j ∈ as) /\ ∀ k, m < k -> k < ops.size -> (k - 1) ∈ dir ops k := fun hlt => by
  simp only [zdI, Bool.and_eq_true, Bool.or_eq_true] at hf;rcases hf.2 with h | h
  ·have : ops.size = m := by simpa using h
   omega
  ·refine ⟨h.1.1, fun j hj => yU.1 (List.all_eq_true.1 h.1.2 j (by simpa using hj)), fun k hk1 hk2 => zfs h.2 k hk1 (by omega)⟩
 intro n
 induction n with
 | zero =>
  intro listed c g a w hsz hn hc hun hcl hr;have hm : m = ops.size := by omega
  have hall : ∀ j, j < m -> listed.getD j false = true := fun j hj => by
   have h0 : ((List.range m).filter fun j => !listed.getD j false) = [] := List.eq_nil_of_length_eq_zero (by omega);have := List.filter_eq_nil_iff.1 h0 j (by simpa using hj);simpa using this
  refine zht (m := m) he (fun k hk1 hk2 => by omega) 0 m listed a w (Nat.le_refl _) (by omega) hsz (fun j hj => ⟨fun _ => by omega, fun h => hall j h⟩) (hex.wpl (hr.rel (fun f hf => hf) fun i hi => ?_));obtain ⟨f, hf', rfl⟩ := List.mem_map.1 hi;exact hall _ (h2 f hf').1
 | succ n ih =>
  intro listed c g a w hsz hn hc hun hcl hr;by_cases hc0 : c = 0
  ·have hall : ∀ j, j < m -> listed.getD j false = true := fun j hj => by
    have h0 : ((List.range m).filter fun j => !listed.getD j false) = [] := List.eq_nil_of_length_eq_zero (by omega);have := List.filter_eq_nil_iff.1 h0 j (by simpa using hj);simpa using this
   have hlt : m < ops.size := by omega
   refine zht (m := m) he (hforce hlt).2.2 (n + 1) m listed a w (Nat.le_refl _) (by omega) hsz (fun j hj => ⟨fun h => ?_, fun h => hall j h⟩) (hex.wpl (hr.rel (fun f hf => hf) fun i hi => ?_))
   ·rcases Nat.lt_or_ge j m with hjm | hjm
    ·exact hjm
    ·have := hun j hjm hj; rw [h] at this; simp at this
   ·obtain ⟨f, hf', rfl⟩ := List.mem_map.1 hi;exact hall _ (h2 f hf').1
  ·-- some of the first m are left
   have hex1 : ∃ j, j < m /\ listed.getD j false = false := by
    have hne : ((List.range m).filter fun j => !listed.getD j false) ≠ [] := fun e => hc0 (by rw [hc, e]; rfl)
    obtain ⟨j, hj⟩ := List.exists_mem_of_ne_nil _ hne;simp only [List.mem_filter, List.mem_range, Bool.not_eq_true'] at hj;exact ⟨j, hj.1, hj.2⟩
   have hlow : ∀ i, i ∈ Region.ready .any ops listed -> i < m := fun i hi => by
    obtain ⟨r1, r2, r3⟩ := zi.1 hi;rcases Nat.lt_or_ge i m with hl | hl
    ·exact hl
    ·exfalso;obtain ⟨j, hj1, hj2⟩ := hex1;obtain ⟨f1, f2, f3⟩ := hforce (by omega);by_cases e : i = m
     ·subst e;have := yY hcl r3 f1 j (f2 j hj1);rw [this] at hj2; simp at hj2
     ·have := r3 _ (f3 i (by omega) r1);rw [hun (i - 1) (by omega) (by omega)] at this; simp at this
   have hsome : Region.ready .any ops listed ≠ [] := by
    -- the least one that is left
    have key : ∀ k, (∃ j, j < k /\ j < m /\ listed.getD j false = false) -> ∃ j, j < m /\ listed.getD j false = false /\ ∀ i, i < j -> listed.getD i false = true := by
     intro k
     induction k with
     | zero => rintro ⟨j, h, _⟩; omega
     | succ k ihk =>
      rintro ⟨j, h1, h2, h3⟩
      by_cases hex2 : ∃ j, j < k /\ j < m /\ listed.getD j false = false
      ·exact ihk hex2
      ·refine ⟨j, h2, h3, fun i hi => ?_⟩;cases hb : listed.getD i false with
       | true => rfl
       | false => exact absurd ⟨i, by omega, by omega, hb⟩ hex2
    obtain ⟨j0, hj0, hj1⟩ := hex1;obtain ⟨j, hj2, hj3, hj4⟩ := key m ⟨j0, hj0, hj0, hj1⟩;have : j ∈ Region.ready .any ops listed := zi.2 ⟨by omega, by rw [zai (by omega)]; exact hj3, fun i hi => hj4 i (hdir j (by omega) i hi)⟩;intro e; rw [e] at this; simp at this
   refine ⟨fun e => absurd e hsome, fun i hi => ?_⟩;have him := hlow i hi;obtain ⟨r1, r2, r3⟩ := zi.1 hi;rw [zai (by omega)] at r2;obtain ⟨f, hfm, hfi⟩ := h1 i him;subst hfi;obtain ⟨_, fs0, hsub, ga, gd, gk⟩ := h2 f hfm;have hanc := yY hcl r3 ga;refine gk g a w (hr.rel hsub hanc) _ fun v w' g' k1 k2 k3 k4 => ?_
   refine ih (listed.setIfInBounds f.i true) (c - 1) g' _ w' (by simpa using hsz) (by omega) ?_ (fun j hj1 hj2 => ?_) (fun k hk1 hk2 j hj => ?_) (hr.add hfm hok (by rw [r2]; simp) (huniq f hfm) (fun j hj => ?_) (fun f' hf' hD hin => ?_) gd k1 k2 k3 k4)
   ·have e : ((List.range m).filter fun j => !(listed.setIfInBounds f.i true).getD j false) = ((List.range m).filter fun j => !listed.getD j false).filter (fun j => !(j == f.i)) := by
     rw [List.filter_filter];refine List.filter_congr fun j hj => ?_
     rw [zj (by omega)];by_cases e : f.i = j
     ·subst e; simp
     ·have : (j == f.i) = false := by simpa using fun h => e h.symm
      simp [e, this]
    rw [e];have hnd : ((List.range m).filter fun j => !listed.getD j false).Nodup := List.nodup_range.filter _;have hin : f.i ∈ ((List.range m).filter fun j => !listed.getD j false) := List.mem_filter.2 ⟨List.mem_range.2 him, by rw [r2]; rfl⟩;have h3 := List.length_erase_of_mem hin;rw [hnd.erase_eq_filter] at h3;have e2 : (fun j => !(j == f.i)) = fun j => j != f.i := rfl
    rw [e2, h3, ← hc]
   ·rw [zj (by omega), if_neg (by omega)];exact hun j hj1 hj2
   ·rw [zj (by omega)] at hk2 ⊢;split
    ·rfl
    ·split at hk2
     ·rename_i e; subst e; exact r3 j hj
     ·exact hcl k hk1 hk2 j hj
   ·rw [zj (by omega)] at hj;split at hj
    ·rename_i e; exact .inr e.symm
    ·exact .inl hj
   ·-- a listed one does not hang on f
    obtain ⟨q1, fs1, _, qa, _, _⟩ := h2 f' hf';have h3 := yY hcl (hcl f'.i (by omega) hD) qa f.i hin;rw [h3] at r2; simp at r2
def zrE (ops : Array Oper) : List Nat -> Prop
 | [] => True
 | x :: r => x < ops.size /\ x ∉ r /\ (∀ j ∈ dir ops x, j < ops.size /\ j ∉ r /\ j ≠ x) /\ (∀ y ∈ r, ∃ j ∈ dir ops y, j ∈ x :: r) /\ zrE ops r
theorem zdJ {F : Fence} {P : Program} {ops : Array Oper} {Q : Exit -> Act -> World -> Prop} {x : Nat} {o : Oper} {rest : List Oper} {K : Act -> World -> Prop} {a : Act} {w : World} (ho : ops[x]? = some o) (h : wpListIn F 0 P ops Q (o :: rest) a w) (hK : ∀ a w, wpListIn F 0 P ops Q rest a w -> K a w) : wpOpIn F 0 P ops Q x K a w := by
 simp only [wpOpIn, ho];simp only [wpListIn] at h;split
 ·rename_i hw; rw [if_pos hw] at h;exact Oper.wpIn_mono hK h
 ·rename_i hw; rw [if_neg hw] at h;exact ⟨h.1, hK _ _ h.2⟩
theorem zft {F : Fence} {P : Program} {ops : Array Oper} {Q : Exit -> Act -> World -> Prop} : ∀ (L : List Nat) (os : List Oper) (listed : Array Bool) (a : Act) (w : World), listed.size = ops.size -> (∀ j, j < ops.size -> (listed.getD j false = false ↔ j ∈ L)) -> zrE ops L -> os.map some = L.map (ops[·]?) →
 wpListIn F 0 P ops Q os a w -> wpAnyIn F 0 P .any ops Q L.length listed a w
 | [], os, listed, a, w, hsz, hl, _, hos, h => by
  have hr : Region.ready .any ops listed = [] := List.eq_nil_iff_forall_not_mem.2 fun i hi => by
   obtain ⟨h1, h2, _⟩ := zi.1 hi;rw [zai (by omega)] at h2;have := (hl i h1).1 h2;simp at this
  cases os with
  | nil => exact ⟨hr, h⟩
  | cons _ _ => simp at hos
 | x :: r, os, listed, a, w, hsz, hl, hok, hos, h => by
  obtain ⟨k1, k2, k3, k4, k5⟩ := hok
  have hready : ∀ i, i ∈ Region.ready .any ops listed ↔ i = x := fun i => by
   rw [zi];constructor
   ·rintro ⟨h1, h2, h3⟩
    rw [zai (by omega)] at h2;rcases List.mem_cons.1 ((hl i h1).1 h2) with e | hm
    ·exact e
    ·obtain ⟨j, hj1, hj2⟩ := k4 i hm;have h4 := h3 j hj1
     have hjs : j < ops.size := by
      rcases Nat.lt_or_ge j ops.size with hlt | hge
      ·exact hlt
      ·simp [Array.getD_eq_getD_getElem?, Array.getElem?_eq_none (show listed.size <= j by omega)] at h4
     rw [(hl j hjs).2 hj2] at h4; simp at h4
   ·rintro rfl
    refine ⟨k1, by rw [zai (by omega)]; exact (hl i k1).2 (by simp), fun j hj => ?_⟩;cases hb : listed.getD j false with
    | true => rfl
    | false =>
     exfalso;obtain ⟨q1, q2, q3⟩ := k3 j hj;rcases List.mem_cons.1 ((hl j q1).1 hb) with e | hm
     ·exact q3 e
     ·exact q2 hm
  have ho : ops[x]? = some ops[x] := Array.getElem?_eq_getElem k1;cases os with
  | nil => simp at hos
  | cons o rest =>
   simp only [List.map_cons, List.cons.injEq] at hos;refine ⟨fun e => ?_, fun i hi => ?_⟩
   ·have : x ∈ Region.ready .any ops listed := (hready x).2 rfl;rw [e] at this; simp at this
   ·obtain rfl := (hready i).1 hi;refine zdJ hos.1.symm h fun a' w' h' => zft r rest (listed.setIfInBounds i true) a' w' (by simpa using hsz) (fun j hj => ?_) k5 hos.2 h'
    rw [zj (by omega)];split
    ·rename_i e; subst e; simp [k2]
    ·rename_i e;rw [hl j hj];simp [show j ≠ i from fun h => e h.symm]
theorem zla {P : Program} {C : Ctx} {ops : Array Oper} {st : St} {hid : List Nat} {Q : Exit -> St -> Prop} {m : Nat} {fs : List Fact} {fe : Fact} {o1 oe o2 : Oper} {as : List Nat} (he : zc5 ops = true) (h1 : ∀ j, j < m -> ∃ f ∈ fs, f.i = j) (h2 : ∀ f ∈ fs, f.i < m /\ ∃ fs0, (∀ f' ∈ fs0, f' ∈ fs) /\ Good P C ops st hid Q f fs0)
 (huniq : ∀ f ∈ fs, ∀ f' ∈ fs, f'.i = f.i -> f' = f) (hl3 : ops.toList.drop m = [o1, oe, o2]) (hfe : fe.i = m + 1) (hok : okF st hid (fe :: fs) = true) (hf : zd9 ops m as = true) (hge : Good P C ops st hid Q fe fs)
 (hA : Ex P C ops [o1, o2] (stOf st hid ((fe :: fs).map (·.i)) (fe :: fs)) Q) (hB : Ex P C ops [o1, oe, o2] (stOf st hid (fs.map (·.i)) fs) Q) :
 ∀ (n : Nat) (listed : Array Bool) (c : Nat) (g : Gh) (a : Act) (w : World), listed.size = ops.size -> n = c + 2 →
 c = ((List.range (m + 2)).filter fun j => !(j == m) && !listed.getD j false).length -> listed.getD m false = false -> listed.getD (m + 2) false = false -> zct ops listed -> RelD C st hid (fe :: fs) (fun j => listed.getD j false = true) g a w -> wpAnyIn C.F 0 P .any ops (lift C Q) n listed a w := by
 simp only [zd9, Bool.and_eq_true] at hf;obtain ⟨⟨⟨⟨f1, f2⟩, f3⟩, f4⟩, f5⟩ := hf;have hsz3 : ops.size = m + 3 := by simpa using f1
 have hdir : ∀ i, i < ops.size -> ∀ j ∈ dir ops i, j < i := fun i hi j hj => by
  have := List.all_eq_true.1 (List.all_eq_true.1 he i (by simpa using hi)) j hj;simpa using this
 have f3' : ∀ j, j < m -> j ∈ as := fun j hj => yU.1 (List.all_eq_true.1 f3 j (by simpa using hj))
 have g1 : ops[m]? = some o1 := by have : (ops.toList.drop m)[0]? = some o1 := by rw [hl3]; rfl
                                   simpa using this
 have g2 : ops[m + 1]? = some oe := by have : (ops.toList.drop m)[1]? = some oe := by rw [hl3]; rfl
                                       simpa using this
 have g3 : ops[m + 2]? = some o2 := by have : (ops.toList.drop m)[2]? = some o2 := by rw [hl3]; rfl
                                       simpa using this
 have hfacts : ∀ f ∈ fe :: fs, f.i ≠ m /\ f.i < m + 2 /\ ∃ fs0, (∀ f' ∈ fs0, f' ∈ fe :: fs) /\ Good P C ops st hid Q f fs0 := fun f hfm => by
  rcases List.mem_cons.1 hfm with rfl | hfm
  ·exact ⟨by omega, by omega, fs, fun f' hf' => by simp [hf'], hge⟩
  ·obtain ⟨q1, fs0, q2, q3⟩ := h2 f hfm;exact ⟨by omega, by omega, fs0, fun f' hf' => by simp [q2 f' hf'], q3⟩
 have huniq2 : ∀ f ∈ fe :: fs, ∀ f' ∈ fe :: fs, f'.i = f.i -> f' = f := fun f hfm f' hfm' e => by
  rcases List.mem_cons.1 hfm with e1 | hfm1
  ·rcases List.mem_cons.1 hfm' with e2 | hfm2
   ·rw [e1, e2]
   ·have := (h2 f' hfm2).1; rw [e, e1, hfe] at this; omega
  ·rcases List.mem_cons.1 hfm' with e2 | hfm2
   ·have := (h2 f hfm1).1; rw [← e, e2, hfe] at this; omega
   ·exact huniq f hfm1 f' hfm2 e
 intro n
 induction n with
 | zero => intro listed c g a w hsz hn; omega
 | succ n ih =>
  intro listed c g a w hsz hn hc hm0 hm2 hcl hr
  have hsome : Region.ready .any ops listed ≠ [] := by
   have key : ∀ k, (∃ j, j < k /\ j < ops.size /\ listed.getD j false = false) -> ∃ j, j < ops.size /\ listed.getD j false = false /\ ∀ i, i < j -> listed.getD i false = true := by
    intro k
    induction k with
    | zero => rintro ⟨j, h, _⟩; omega
    | succ k ihk =>
     rintro ⟨j, h1, h2, h3⟩
     by_cases hex2 : ∃ j, j < k /\ j < ops.size /\ listed.getD j false = false
     ·exact ihk hex2
     ·refine ⟨j, h2, h3, fun i hi => ?_⟩;cases hb : listed.getD i false with
      | true => rfl
      | false => exact absurd ⟨i, by omega, by omega, hb⟩ hex2
   obtain ⟨j, hj2, hj3, hj4⟩ := key (m + 1) ⟨m, by omega, by omega, hm0⟩;have : j ∈ Region.ready .any ops listed := zi.2 ⟨hj2, by rw [zai (by omega)]; exact hj3, fun i hi => hj4 i (hdir j hj2 i hi)⟩;intro e; rw [e] at this; simp at this
  refine ⟨fun e => absurd e hsome, fun i hi => ?_⟩;obtain ⟨r1, r2, r3⟩ := zi.1 hi;rw [zai (by omega)] at r2;by_cases him : i = m
  ·subst him;have hall : ∀ j, j < i -> listed.getD j false = true := fun j hj => yY hcl r3 f2 j (f3' j hj)
   cases hle : listed.getD (i + 1) false with
   | true =>
    have hc0 : c = 0 := by
     rw [hc];rw [List.filter_eq_nil_iff.2 (fun j hj => ?_)]
     ·rfl
     ·have hj := List.mem_range.1 hj;by_cases e : j = i
      ·subst e; simp
      ·by_cases e2 : j = i + 1
       ·subst e2; simp [hle]
       ·simp [hall j (by omega)]
    have hn2 : n = 1 := by omega
    subst hn2
    have hrel := hr.rel (fs0 := fe :: fs) (as := (fe :: fs).map (·.i)) (fun f hf => hf) (fun j hj => by
     obtain ⟨f, hf', rfl⟩ := List.mem_map.1 hj;rcases List.mem_cons.1 hf' with rfl | hf'
     ·rw [hfe]; exact hle
     ·exact hall _ (h2 f hf').1)
    refine zdJ g1 (hA.wpl hrel) fun a' w' h' => zft [i + 2] [o2] _ a' w' (by simpa using hsz) (fun j hj => ?_) ⟨by omega, by simp, fun j hj => ⟨by have := hdir _ (by omega) j hj; omega, by simp, by have := hdir _ (by omega) j hj; omega⟩, fun y hy => by simp at hy, trivial⟩ (by simp [g3]) h'
    rw [zj (by omega)];split
    ·rename_i e; subst e; simp
    ·rename_i e;simp only [List.mem_singleton];constructor
     ·intro hj0;by_cases e2 : j = i + 1
      ·subst e2; rw [hle] at hj0; simp at hj0
      ·rcases Nat.lt_or_ge j i with hl | hl
       ·rw [hall j hl] at hj0; simp at hj0
       ·omega
     ·rintro rfl; exact hm2
   | false =>
    have hc1 : c = 1 := by
     rw [hc]
     have : ((List.range (i + 2)).filter fun j => !(j == i) && !listed.getD j false) = [i + 1] := by
      rw [List.range_succ, List.range_succ, List.filter_append, List.filter_append];rw [List.filter_eq_nil_iff.2 (fun j hj => ?_)]
      ·simp only [List.filter_cons, List.filter_nil, hle, beq_self_eq_true, Bool.not_true, Bool.false_and, show (i + 1 == i) = false by simp, Bool.not_false, Bool.and_self, if_true, List.nil_append];rfl
      ·have hj := List.mem_range.1 hj;simp [hall j hj]
     rw [this]; rfl
    have hn2 : n = 2 := by omega
    subst hn2
    have hrel := hr.rel (fs0 := fs) (as := fs.map (·.i)) (fun f hf => by simp [hf]) (fun j hj => by
     obtain ⟨f, hf', rfl⟩ := List.mem_map.1 hj;exact hall _ (h2 f hf').1)
    refine zdJ g1 (hB.wpl hrel) fun a' w' h' => zft [i + 1, i + 2] [oe, o2] _ a' w' (by simpa using hsz) (fun j hj => ?_)
     ⟨by omega, by simp, fun j hj => ⟨by have := hdir _ (by omega) j hj; omega, by simp; have := hdir _ (by omega) j hj; omega, by have := hdir _ (by omega) j hj; omega⟩, fun y hy => by simp at hy; subst hy; exact ⟨i + 1, yU.1 f5, by simp⟩,
      by omega, by simp, fun j hj => ⟨by have := hdir _ (by omega) j hj; omega, by simp, by have := hdir _ (by omega) j hj; omega⟩, fun y hy => by simp at hy, trivial⟩ (by simp [g2, g3]) h'
    rw [zj (by omega)];split
    ·rename_i e; subst e; simp
    ·rename_i e;simp only [List.mem_cons, List.not_mem_nil, or_false];constructor
     ·intro hj0;rcases Nat.lt_or_ge j i with hl | hl
      ·rw [hall j hl] at hj0; simp at hj0
      ·omega
     ·rintro (rfl | rfl)
      ·exact hle
      ·exact hm2
  ·have hi2 : i < m + 2 := by
    rcases Nat.lt_or_ge i (m + 2) with hl | hl
    ·exact hl
    ·exfalso;have : i = m + 2 := by omega
     subst this;rw [r3 m (yU.1 f4)] at hm0; simp at hm0
   obtain ⟨f, hfm, hfi⟩ : ∃ f ∈ fe :: fs, f.i = i := by
    by_cases e : i = m + 1
    ·exact ⟨fe, by simp, by rw [hfe, e]⟩
    ·obtain ⟨f, hf1, hf2⟩ := h1 i (by omega);exact ⟨f, by simp [hf1], hf2⟩
   subst hfi;obtain ⟨_, _, fs0, hsub, ga, gd, gk⟩ := hfacts f hfm;have hanc := yY hcl r3 ga;refine gk g a w (hr.rel hsub hanc) _ fun v w' g' k1 k2 k3 k4 => ?_
   have e : ((List.range (m + 2)).filter fun j => !(j == m) && !(listed.setIfInBounds f.i true).getD j false) = ((List.range (m + 2)).filter fun j => !(j == m) && !listed.getD j false).filter (fun j => !(j == f.i)) := by
    rw [List.filter_filter];refine List.filter_congr fun j hj => ?_
    rw [zj (by omega)];by_cases e : f.i = j
    ·subst e; simp
    ·have : (j == f.i) = false := by simpa using fun h => e h.symm
     simp [e, this]
   have hnd : ((List.range (m + 2)).filter fun j => !(j == m) && !listed.getD j false).Nodup := List.nodup_range.filter _;have hin : f.i ∈ ((List.range (m + 2)).filter fun j => !(j == m) && !listed.getD j false) := List.mem_filter.2 ⟨List.mem_range.2 hi2, by simp [r2, him]⟩;have h3 := List.length_erase_of_mem hin;rw [hnd.erase_eq_filter] at h3;have hpos : 0 < c := by rw [hc]; exact List.length_pos_of_mem hin
   refine ih (listed.setIfInBounds f.i true) (c - 1) g' _ w' (by simpa using hsz) (by omega) ?_ ?_ ?_ (fun k hk1 hk2 j hj => ?_) (hr.add hfm hok (by rw [r2]; simp) (huniq2 f hfm) (fun j hj => ?_) (fun f' hf' hD hin => ?_) gd k1 k2 k3 k4)
   ·rw [e];have e2 : (fun j => !(j == f.i)) = fun j => j != f.i := rfl
    rw [e2, h3, ← hc]
   ·rw [zj (by omega), if_neg him]; exact hm0
   ·rw [zj (by omega), if_neg (by omega)]; exact hm2
   ·rw [zj (by omega)] at hk2 ⊢;split
    ·rfl
    ·split at hk2
     ·rename_i e; subst e; exact r3 j hj
     ·exact hcl k hk1 hk2 j hj
   ·rw [zj (by omega)] at hj;split at hj
    ·rename_i e; exact .inr e.symm
    ·exact .inl hj
   ·obtain ⟨_, q1, fs1, _, qa, _, _⟩ := hfacts f' hf';have h3 := yY hcl (hcl f'.i (by omega) hD) qa f.i hin;rw [h3] at r2; simp at r2
theorem zhu : ∀ {m e : Nat}, e < m -> ((List.range m).filter fun j => j == e) = [e]
 | 0, e, h => by omega
 | m + 1, e, h => by
  rw [List.range_succ, List.filter_append];by_cases h1 : e = m
  ·subst h1;rw [List.filter_eq_nil_iff.2 (fun j hj => by have := List.mem_range.1 hj; simp; omega)]; simp
  ·rw [zhu (by omega)];have : (m == e) = false := by simpa using fun h => h1 h.symm
   simp [this]
theorem zlb {P : Program} {C : Ctx} {ops : Array Oper} {st : St} {hid : List Nat} {Q : Exit -> St -> Prop} {m e : Nat} {fs : List Fact} {o1 oe o2 : Oper} {as : List Nat} (he : zc5 ops = true) (h1 : ∀ j, j < m -> ∃ f ∈ fs, f.i = j) (h2 : ∀ f ∈ fs, f.i < m /\ ∃ fs0, (∀ f' ∈ fs0, f' ∈ fs) /\ Good P C ops st hid Q f fs0)
 (huniq : ∀ f ∈ fs, ∀ f' ∈ fs, f'.i = f.i -> f' = f) (hl2 : ops.toList.drop m = [o1, o2]) (hoe : ops[e]? = some oe) (hok : okF st hid fs = true) (hf : zck ops m e as = true)
 (hA : Ex P C ops [o1, o2] (stOf st hid (fs.map (·.i)) fs) Q) (hB : Ex P C ops [o1, oe, o2] (stOf st hid ((noF e fs).map (·.i)) (noF e fs)) Q) :
 ∀ (n : Nat) (listed : Array Bool) (c : Nat) (g : Gh) (a : Act) (w : World), listed.size = ops.size -> n = c + 2 →
 c = ((List.range m).filter fun j => !listed.getD j false).length -> listed.getD m false = false -> listed.getD (m + 1) false = false -> zct ops listed -> RelD C st hid fs (fun j => listed.getD j false = true) g a w -> wpAnyIn C.F 0 P .any ops (lift C Q) n listed a w := by
 simp only [zck, Bool.and_eq_true] at hf;obtain ⟨⟨⟨⟨⟨f1, f0⟩, f2⟩, f3⟩, f4⟩, f5⟩ := hf;have hsz2 : ops.size = m + 2 := by simpa using f1
 have hem : e < m := by simpa using f0
 have hdir : ∀ i, i < ops.size -> ∀ j ∈ dir ops i, j < i := fun i hi j hj => by
  have := List.all_eq_true.1 (List.all_eq_true.1 he i (by simpa using hi)) j hj;simpa using this
 have f3' : ∀ j, j < m -> j ≠ e -> j ∈ as := fun j hj hje => by
  have := List.all_eq_true.1 f3 j (by simpa using hj);simp only [Bool.or_eq_true] at this;rcases this with h | h
  ·exact absurd (by simpa using h) hje
  ·exact yU.1 h
 have g1 : ops[m]? = some o1 := by have : (ops.toList.drop m)[0]? = some o1 := by rw [hl2]; rfl
                                   simpa using this
 have g3 : ops[m + 1]? = some o2 := by have : (ops.toList.drop m)[1]? = some o2 := by rw [hl2]; rfl
                                       simpa using this
 intro n
 induction n with
 | zero => intro listed c g a w hsz hn; omega
 | succ n ih =>
  intro listed c g a w hsz hn hc hm0 hm2 hcl hr
  have hsome : Region.ready .any ops listed ≠ [] := by
   have key : ∀ k, (∃ j, j < k /\ j < ops.size /\ listed.getD j false = false) -> ∃ j, j < ops.size /\ listed.getD j false = false /\ ∀ i, i < j -> listed.getD i false = true := by
    intro k
    induction k with
    | zero => rintro ⟨j, h, _⟩; omega
    | succ k ihk =>
     rintro ⟨j, h1, h2, h3⟩
     by_cases hex2 : ∃ j, j < k /\ j < ops.size /\ listed.getD j false = false
     ·exact ihk hex2
     ·refine ⟨j, h2, h3, fun i hi => ?_⟩;cases hb : listed.getD i false with
      | true => rfl
      | false => exact absurd ⟨i, by omega, by omega, hb⟩ hex2
   obtain ⟨j, hj2, hj3, hj4⟩ := key (m + 1) ⟨m, by omega, by omega, hm0⟩;have : j ∈ Region.ready .any ops listed := zi.2 ⟨hj2, by rw [zai (by omega)]; exact hj3, fun i hi => hj4 i (hdir j hj2 i hi)⟩;intro e; rw [e] at this; simp at this
  refine ⟨fun e => absurd e hsome, fun i hi => ?_⟩;obtain ⟨r1, r2, r3⟩ := zi.1 hi;rw [zai (by omega)] at r2;by_cases him : i = m
  ·subst him;have hall : ∀ j, j < i -> j ≠ e -> listed.getD j false = true := fun j hj hje => yY hcl r3 f2 j (f3' j hj hje)
   cases hle : listed.getD e false with
   | true =>
    have hall2 : ∀ j, j < i -> listed.getD j false = true := fun j hj => by
     by_cases h : j = e
     ·rw [h]; exact hle
     ·exact hall j hj h
    have hc0 : c = 0 := by
     rw [hc];rw [List.filter_eq_nil_iff.2 (fun j hj => ?_)]
     ·rfl
     ·have hj := List.mem_range.1 hj;simp [hall2 j hj]
    have hn2 : n = 1 := by omega
    subst hn2
    have hrel := hr.rel (fs0 := fs) (as := fs.map (·.i)) (fun f hf => hf) (fun j hj => by
     obtain ⟨f, hf', rfl⟩ := List.mem_map.1 hj;exact hall2 _ (h2 f hf').1)
    refine zdJ g1 (hA.wpl hrel) fun a' w' h' => zft [i + 1] [o2] _ a' w' (by simpa using hsz) (fun j hj => ?_) ⟨by omega, by simp, fun j hj => ⟨by have := hdir _ (by omega) j hj; omega, by simp, by have := hdir _ (by omega) j hj; omega⟩, fun y hy => by simp at hy, trivial⟩ (by simp [g3]) h'
    rw [zj (by omega)];split
    ·rename_i e; subst e; simp
    ·rename_i e;simp only [List.mem_singleton];constructor
     ·intro hj0;rcases Nat.lt_or_ge j i with hl | hl
      ·rw [hall2 j hl] at hj0; simp at hj0
      ·omega
     ·rintro rfl; exact hm2
   | false =>
    have hc1 : c = 1 := by
     rw [hc, List.filter_congr (q := fun j => j == e) (fun j hj => ?_), zhu hem]
     ·rfl
     ·have hj := List.mem_range.1 hj;by_cases h : j = e
      ·subst h; simp [hle]
      ·simp [hall j hj h, h]
    have hn2 : n = 2 := by omega
    subst hn2
    have hrel := hr.rel (fs0 := noF e fs) (as := (noF e fs).map (·.i)) (fun f hf => (List.mem_filter.1 hf).1) (fun j hj => by
     obtain ⟨f, hf', rfl⟩ := List.mem_map.1 hj;have h3 := List.mem_filter.1 hf';exact hall _ (h2 f h3.1).1 (by simpa using h3.2))
    refine zdJ g1 (hB.wpl hrel) fun a' w' h' => zft [e, i + 1] [oe, o2] _ a' w' (by simpa using hsz) (fun j hj => ?_)
     ⟨by omega, by simp; omega, fun j hj => ⟨by have := hdir _ (by omega) j hj; omega, by simp; have := hdir _ (by omega) j hj; omega, by have := hdir _ (by omega) j hj; omega⟩, fun y hy => by simp at hy; subst hy; exact ⟨e, yU.1 f5, by simp⟩,
      by omega, by simp, fun j hj => ⟨by have := hdir _ (by omega) j hj; omega, by simp, by have := hdir _ (by omega) j hj; omega⟩, fun y hy => by simp at hy, trivial⟩ (by simp [hoe, g3]) h'
    rw [zj (by omega)];split
    ·rename_i h; subst h; simp; omega
    ·rename_i h;simp only [List.mem_cons, List.not_mem_nil, or_false];constructor
     ·intro hj0;by_cases h3 : j = e
      ·exact .inl h3
      ·rcases Nat.lt_or_ge j i with hl | hl
       ·rw [hall j hl h3] at hj0; simp at hj0
       ·omega
     ·rintro (rfl | rfl)
      ·exact hle
      ·exact hm2
  ·have hi2 : i < m := by
    rcases Nat.lt_or_ge i m with hl | hl
    ·exact hl
    ·exfalso;have : i = m + 1 := by omega
     subst this;rw [r3 m (yU.1 f4)] at hm0; simp at hm0
   obtain ⟨f, hfm, hfi⟩ := h1 i hi2;subst hfi;obtain ⟨_, fs0, hsub, ga, gd, gk⟩ := h2 f hfm;have hanc := yY hcl r3 ga;refine gk g a w (hr.rel hsub hanc) _ fun v w' g' k1 k2 k3 k4 => ?_
   have e : ((List.range m).filter fun j => !(listed.setIfInBounds f.i true).getD j false) = ((List.range m).filter fun j => !listed.getD j false).filter (fun j => !(j == f.i)) := by
    rw [List.filter_filter];refine List.filter_congr fun j hj => ?_
    rw [zj (by omega)];by_cases e : f.i = j
    ·subst e; simp
    ·have : (j == f.i) = false := by simpa using fun h => e h.symm
     simp [e, this]
   have hnd : ((List.range m).filter fun j => !listed.getD j false).Nodup := List.nodup_range.filter _;have hin : f.i ∈ ((List.range m).filter fun j => !listed.getD j false) := List.mem_filter.2 ⟨List.mem_range.2 hi2, by simp [r2]⟩;have h3 := List.length_erase_of_mem hin;rw [hnd.erase_eq_filter] at h3;have hpos : 0 < c := by rw [hc]; exact List.length_pos_of_mem hin
   refine ih (listed.setIfInBounds f.i true) (c - 1) g' _ w' (by simpa using hsz) (by omega) ?_ ?_ ?_ (fun k hk1 hk2 j hj => ?_) (hr.add hfm hok (by rw [r2]; simp) (huniq f hfm) (fun j hj => ?_) (fun f' hf' hD hin => ?_) gd k1 k2 k3 k4)
   ·rw [e];have e2 : (fun j => !(j == f.i)) = fun j => j != f.i := rfl
    rw [e2, h3, ← hc]
   ·rw [zj (by omega), if_neg him]; exact hm0
   ·rw [zj (by omega), if_neg (by omega)]; exact hm2
   ·rw [zj (by omega)] at hk2 ⊢;split
    ·rfl
    ·split at hk2
     ·rename_i e; subst e; exact r3 j hj
     ·exact hcl k hk1 hk2 j hj
   ·rw [zj (by omega)] at hj;split at hj
    ·rename_i e; exact .inr e.symm
    ·exact .inl hj
   ·obtain ⟨q1, fs1, _, qa, _, _⟩ := h2 f' hf';have h3 := yY hcl (hcl f'.i (by omega) hD) qa f.i hin;rw [h3] at r2; simp at r2
theorem ztg {P : Program} {C : Ctx} {id : Nat} {l : List Oper} {st : St} {Q : Exit -> St -> Prop} (hid : List Nat) (hm : P.follows .mixedOrders = true) (he : zc5 l.toArray = true) (h : Chain P C l.toArray st hid Q 0 []) : X P C (.region id l.toArray true) st Q := fun g a w hr => by
 obtain ⟨m, fs, as, h1, h2, hu, htl⟩ := h.collect (fun j hj => by omega) (fun f hf => by simp at hf) (fun f hf => by simp at hf);refine wpIn_region_any hm ?_;have hr' : Rel C st g a w.drew := hr.add (nk := none) (d := none) (x := .any) (v := .nilIface) ⟨Im.le_refl _, fun _ _ => rfl, fun _ _ => rfl, Grow.drew w⟩ (fun k h => by simp at h) (fun t h => by simp at h) (.any _) hr.sat.im hr.sat.ob
 have hz : ∀ j, (Array.replicate l.toArray.size false).getD j false = false := fun j => by
  simp only [Array.getD_eq_getD_getElem?, Array.getElem?_replicate];split <;> rfl
 have hrd : ∀ fs' : List Fact, RelD C st hid fs' (fun j => (Array.replicate l.toArray.size false).getD j false = true) g a w.drew := fun fs' =>
  ⟨hr'.size, hr'.defers, fun f _ hD => by rw [hz] at hD; simp at hD, fun t x _ hx => hr'.tmps t x hx, fun f _ hD => by rw [hz] at hD; simp at hD, hr'.sat.blk, ⟨hr'.sat.im, hr'.sat.ob⟩, hr'.ext⟩
 rcases htl with ⟨hok, hf, hex⟩ | ⟨fe, o1, oe, o2, hl3, hfe, hok, hf, hge, hA, hB⟩ | ⟨e, o1, oe, o2, hl2, hoe, hok, hf, hA, hB⟩
 ·have hmle : m <= l.toArray.size := by
   simp only [zdI, Bool.and_eq_true] at hf; simpa using hf.1
  refine zm1 he h1 h2 hu hok hf hex l.toArray.size (Array.replicate l.toArray.size false) m g a w.drew (by simp) (by omega) ?_ (fun j _ _ => hz j) (fun i _ hi => by rw [hz] at hi; simp at hi) (hrd fs);have : ((List.range m).filter fun j => !(Array.replicate l.toArray.size false).getD j false) = List.range m := List.filter_eq_self.2 fun j _ => by rw [hz]; rfl
  rw [this]; simp
 ·have hsz3 : l.toArray.size = m + 3 := by
   simp only [zd9, Bool.and_eq_true] at hf; simpa using hf.1.1.1.1
  refine zla he h1 h2 hu hl3 hfe hok hf hge hA hB l.toArray.size (Array.replicate l.toArray.size false) (m + 1) g a w.drew (by simp) (by omega) ?_ (hz _) (hz _) (fun i _ hi => by rw [hz] at hi; simp at hi) (hrd (fe :: fs))
  have : ((List.range (m + 2)).filter fun j => !(j == m) && !(Array.replicate l.toArray.size false).getD j false) = List.range m ++ [m + 1] := by
   rw [List.range_succ, List.range_succ, List.filter_append, List.filter_append, List.filter_eq_self.2 (fun j hj => by have := List.mem_range.1 hj; rw [hz]; simp; omega)];simp only [List.filter_cons, List.filter_nil, hz, beq_self_eq_true, Bool.not_true, Bool.false_and, show (m + 1 == m) = false by simp, Bool.not_false, Bool.and_self, if_true, List.append_nil, Bool.false_eq_true, if_false]
  rw [this]; simp
 ·have hsz2 : l.toArray.size = m + 2 := by
   simp only [zck, Bool.and_eq_true] at hf; simpa using hf.1.1.1.1.1
  refine zlb he h1 h2 hu hl2 hoe hok hf hA hB l.toArray.size (Array.replicate l.toArray.size false) m g a w.drew (by simp) (by omega) ?_ (hz _) (hz _) (fun i _ hi => by rw [hz] at hi; simp at hi) (hrd fs);have : ((List.range m).filter fun j => !(Array.replicate l.toArray.size false).getD j false) = List.range m := List.filter_eq_self.2 fun j _ => by rw [hz]; rfl
  rw [this]; simp
end Go.Rse
namespace Go.Rse
open Go Go.RowKit
theorem zhv {C : Ctx} {st : St} {g : Gh} {a : Act} {w : World} {ops : Array Oper} {i t : Nat} {b : Bool} (hr : Rel C st g a w) (hi : (ops[i]?).bind (·.dst) = some t) (hb : lk st.t t = some (.bool b)) : yielded ops a.tmps i = some b := by
 have := zg (hr.tmps t _ hb)
 have e : a.tmps[t]? = some (.bool b) := by
  simp only [Array.getD_eq_getD_getElem?] at this;cases h : a.tmps[t]? with
  | none => rw [h] at this; simp [undef] at this
  | some u => rw [h] at this; simpa using this
 simp [yielded, hi, e]
section
variable {P : Program} {C : Ctx} {ops : Array Oper} {st : St} {Q : Exit -> St -> Prop} {rest : List Oper} {d : Nat} {op : Op} {ty : TypeId} {pos : String} {af : Array Edge} {x : AV} {i t : Nat} {want b : Bool}
theorem zoB {nb : Option (Nat × Blk)} (hi : (ops[i]?).bind (·.dst) = some t) (hb : lk st.t t = some (.bool b)) (hw : (b == want) = true) (hs : yr P C op ty st x nb) (hd : d.blt C.n = true) (hn : nbOk st nb = true) (h : Ex P C ops rest (addSt st (some d) x nb) Q) :
 Ex P C ops ({ dst := some d, op := op, type := ty, pos := pos, after := af, guard := some (i, want) } :: rest) st Q := fun g a w hr => by
 have hy := zhv hr hi hb;unfold wpListIn;rw [if_pos (by simp only [Region.wanted, hy]; simpa using hw)];exact zK (hs g a w (some d) pos af (some (i, want)) hr _ fun v w' g' h2 h3 h4 h5 => h g' _ w' (hr.addSt h2 hd hn h3 h4.1 h4.2 h5))
theorem zvL (hi : (ops[i]?).bind (·.dst) = some t) (hb : lk st.t t = some (.bool b)) (hw : (b == want) = false) (hd : d.blt C.n = true) (h : Ex P C ops rest { t := (d, .tup []) :: st.t, h := st.h } Q) :
 Ex P C ops ({ dst := some d, op := op, type := ty, pos := pos, after := af, guard := some (i, want) } :: rest) st Q := fun g a w hr => by
 have hy := zhv hr hi hb;unfold wpListIn;rw [if_neg (by simp only [Region.wanted, hy]; simpa using hw)];exact ⟨fun f _ => C.F_fn f, h g _ w (hr.addSt (d := some d) (nb := none) (Add.refl _ g w) hd rfl (.tup [] [] rfl (fun j c v hc => by simp at hc)) hr.sat.im hr.sat.ob (fun _ _ h => by cases h))⟩
theorem zkf {l : List Oper} (want : Bool) (_hb : lk st.t t = some (.bool b)) (h1 : (b == want) = true -> Ex P C ops l st Q) (h2 : (b == want) = false -> Ex P C ops l st Q) : Ex P C ops l st Q := by
 cases h : (b == want) with
 | true => exact h1 h
 | false => exact h2 h
theorem zkg {c y z : Operand} {u : AV} (hc : ev st c = some (.bool b)) (hb : b = true) (hx : ev st y = some u) : Pur P C (.pick c y z) ty st u := fun g a w dst pos af gd hr => by
 have ec := zg (yn hr hc);subst hb;exact ⟨a.eval y, by simp [execOp, ec, asBool], yn hr hx⟩
theorem zc6 {c y z : Operand} {u : AV} (hc : ev st c = some (.bool b)) (hb : b = false) (hx : ev st z = some u) : Pur P C (.pick c y z) ty st u := fun g a w dst pos af gd hr => by
 have ec := zg (yn hr hc);subst hb;exact ⟨a.eval z, by simp [execOp, ec, asBool], yn hr hx⟩
end
theorem ltB {a b : Nat} (h : a.blt b = true) : a < b := by simpa using h
theorem leB {a b : Nat} (h : a.ble b = true) : a <= b := by simpa using h
end Go.Rse
namespace Go.Rse
open Go Go.RowKit
def zaL (P : Program) (t : TypeId) : Bool := match P.underlying t with | some (.struct _) => true | some (.array _ _) => true | _ => false
def kAV : AV -> Nat
 | .int .i64 _ => 1
 | .int _ _ => 3
 | .bool _ => 2
 | _ => 0
def flat (P : Program) : Nat -> TypeId -> List Nat
 | 0, _ => []
 | d + 1, t => match P.underlying t with
  | some .bool => [2]
  | some (.int k) => [if k = .i64 then 1 else 3]
  | some (.struct fs) => fs.toList.flatMap fun f => flat P d f.type
  | _ => []
def zb9 (P : Program) (E : TypeId -> Bool) (F : TypeId -> List Nat) : Nat -> List Field -> Nat -> Bool
 | off, [], n => off == n
 | off, f :: fs, n => f.offset == off && (f.name != "_") && tyOk P f.type (zaL P f.type) (P.cellsOf f.type) && ((zaL P f.type || P.cellsOf f.type == 1) && (F f.type).length == P.cellsOf f.type) && E f.type && zb9 P E F (off + P.cellsOf f.type) fs n
def eqOk (P : Program) : Nat -> TypeId -> Bool
 | 0, _ => false
 | d + 1, t => match P.underlying t with
  | some .bool => true
  | some (.int _) => true
  | some (.struct fs) => !P.stoodInHeld t && zb9 P (eqOk P d) (flat P d) 0 fs.toList (P.cellsOf t)
  | _ => false
def valT (P : Program) (t : TypeId) (vs : List Value) : Value := if zaL P t then .agg vs.toArray else vs.headD .nilIface
theorem zis : ∀ (n : Nat) {xs ys : List AV} {b : Bool}, eqL xs ys = some b -> ∃ b1 b2, eqL (xs.take n) (ys.take n) = some b1 /\ eqL (xs.drop n) (ys.drop n) = some b2 /\ b = (b1 && b2)
 | 0, xs, ys, b, h => ⟨true, b, by simp [eqL], by simpa using h, by simp⟩
 | n + 1, [], [], b, h => by simp [eqL] at h; subst h; exact ⟨true, true, by simp [eqL], by simp [eqL], rfl⟩
 | n + 1, [], y :: ys, b, h => by simp [eqL] at h
 | n + 1, x :: xs, [], b, h => by simp [eqL] at h
 | n + 1, x :: xs, y :: ys, b, h => by
  simp only [eqL] at h;cases hx : eqAV x y with
  | none => simp [hx] at h
  | some p =>
   cases hq : eqL xs ys with
   | none => simp [hx, hq] at h
   | some q =>
    simp only [hx, hq, Option.some.injEq] at h;subst h;obtain ⟨b1, b2, h1, h2, h3⟩ := zis n hq;refine ⟨p && b1, b2, by simp only [List.take_succ_cons, eqL, hx, h1], by simpa using h2, by rw [h3, Bool.and_assoc]⟩
theorem RVL.take {I : Im} {ρ : Nat -> Value} {xs : List AV} {vs : List Value} (n : Nat) (h : RVL I ρ xs vs) : RVL I ρ (xs.take n) (vs.take n) := by
 refine ⟨by simp [h.1], fun j c v hc hv => ?_⟩;rw [List.getElem?_take] at hc hv;split at hc
 ·rename_i hj; rw [if_pos hj] at hv; exact h.2 j c v hc hv
 ·simp at hc
theorem RVL.drop {I : Im} {ρ : Nat -> Value} {xs : List AV} {vs : List Value} (n : Nat) (h : RVL I ρ xs vs) : RVL I ρ (xs.drop n) (vs.drop n) := by
 refine ⟨by simp [h.1], fun j c v hc hv => ?_⟩;rw [List.getElem?_drop] at hc hv;exact h.2 _ c v hc hv
def EqD (P : Program) (D : Nat) (t : TypeId) (L : List Nat) : Prop := ∀ (I : Im) (ρ : Nat -> Value) (xs ys : List AV) (vs us : List Value) (b : Bool) (w : World), RVL I ρ xs vs -> RVL I ρ ys us -> xs.map kAV = L -> ys.map kAV = L -> (zaL P t = true -> xs.length = P.cellsOf t) -> eqL xs ys = some b →
 (Op.equalIn D t (valT P t vs) (valT P t us)).run P w = .ok b w
theorem zjw : ∀ {xs ys : List AV} {b : Bool}, eqL xs ys = some b -> xs.length = ys.length
 | [], [], _, _ => rfl
 | [], _ :: _, _, h => by simp [eqL] at h
 | _ :: _, [], _, h => by simp [eqL] at h
 | x :: xs, y :: ys, b, h => by
  simp only [eqL] at h;cases hx : eqAV x y with
  | none => simp [hx] at h
  | some p =>
   cases hq : eqL xs ys with
   | none => simp [hx, hq] at h
   | some q => simp [zjw hq]
theorem zit {P : Program} {E : TypeId -> Bool} {F : TypeId -> List Nat} : ∀ {fs : List Field} {off n : Nat}, zb9 P E F off fs n = true -> off <= n
 | [], off, n, h => by simp [zb9] at h; omega
 | f :: fs, off, n, h => by
  simp only [zb9, Bool.and_eq_true] at h;have := zit h.2; omega
theorem zfu {P : Program} {t : TypeId} (ht : tyOk P t (zaL P t) (P.cellsOf t) = true) (h1 : zaL P t = true \/ P.cellsOf t = 1) {vs : List Value} {off : Nat} (hl : off + P.cellsOf t <= vs.length) (w : World) : (part t vs.toArray off).run P w = .ok (valT P t ((vs.drop off).take (P.cellsOf t))) w := by
 have key : vs.toArray.extract off (off + P.cellsOf t) = ((vs.drop off).take (P.cellsOf t)).toArray := by
  simp [List.extract_toArray, List.extract]
 unfold part valT;by_cases ha : zaL P t = true
 ·rw [ha] at ht;simp only [Sem.run_bind, zbK ht, Result.andThen_ok, if_true, yX ht, Sem.run_pure, key, ha]
 ·have h2 : P.cellsOf t = 1 := by rcases h1 with h | h; exact absurd h ha; exact h
  have ha' : zaL P t = false := by simpa using ha
  rw [ha'] at ht;have hlt : off < vs.length := by omega
  have e : vs.toArray[off]? = some vs[off] := by simp [hlt]
  simp only [Sem.run_bind, zbK ht, Result.andThen_ok, Bool.false_eq_true, if_false, e, Sem.run_pure, ha', h2];rw [List.drop_eq_getElem_cons hlt];rfl
theorem zhw {P : Program} {D : Nat} {E : TypeId -> Bool} {F : TypeId -> List Nat} (hE : ∀ t, E t = true -> EqD P D t (F t)) : ∀ (fs : List Field) (off n : Nat), zb9 P E F off fs n = true -> ∀ (I : Im) (ρ : Nat -> Value) (xs ys : List AV) (vs us : List Value) (b : Bool) (w : World), RVL I ρ xs vs -> RVL I ρ ys us -> xs.length = n -> ys.length = n →
 (xs.drop off).map kAV = fs.flatMap (fun f => F f.type) -> (ys.drop off).map kAV = fs.flatMap (fun f => F f.type) →
 eqL (xs.drop off) (ys.drop off) = some b -> (Op.eqFields D vs.toArray us.toArray fs).run P w = .ok b w
 | [], off, n, h, I, ρ, xs, ys, vs, us, b, w, hx, hy, hxn, hyn, kx, ky, he => by
  simp [zb9] at h;rw [List.drop_of_length_le (by omega), List.drop_of_length_le (by omega)] at he;simp [eqL] at he; subst he;simp [Op.eqFields]
 | f :: fs, off, n, h, I, ρ, xs, ys, vs, us, b, w, hx, hy, hxn, hyn, kx, ky, he => by
  simp only [zb9, Bool.and_eq_true, beq_iff_eq, Bool.or_eq_true] at h;obtain ⟨⟨⟨⟨⟨h1, h2⟩, h3⟩, h4, h4'⟩, h5⟩, h6⟩ := h;have hle := zit h6;have hn : f.name ≠ "_" := by simpa using h2
  simp only [List.flatMap_cons] at kx ky
  have spl : ∀ {zs : List AV}, (zs.drop off).map kAV = F f.type ++ fs.flatMap (fun f => F f.type) -> ((zs.drop off).take (P.cellsOf f.type)).map kAV = F f.type /\ (zs.drop (off + P.cellsOf f.type)).map kAV = fs.flatMap (fun f => F f.type) := fun hz => by
   constructor
   ·rw [List.map_take, hz, List.take_append_of_le_length (by omega), List.take_of_length_le (by omega)]
   ·rw [← List.drop_drop, List.map_drop, hz, ← h4', List.drop_left]
  obtain ⟨b1, b2, e1, e2, e3⟩ := zis (P.cellsOf f.type) he;have q1 := hE f.type h5 I ρ _ _ _ _ b1 w ((hx.drop off).take (P.cellsOf f.type)) ((hy.drop off).take (P.cellsOf f.type)) (spl kx).1 (spl ky).1 (fun ha => by simp; omega) e1;have p1 := zfu h3 h4 (vs := vs) (off := off) (by rw [hx.1]; omega) w;have p2 := zfu h3 h4 (vs := us) (off := off) (by rw [hy.1]; omega) w;rw [List.drop_drop, List.drop_drop] at e2;have q2 := zhw hE fs (off + P.cellsOf f.type) n h6 I ρ xs ys vs us b2 w hx hy hxn hyn (spl kx).2 (spl ky).2 e2;rw [Op.eqFields, if_pos hn, h1];simp only [Sem.run_bind, p1, Result.andThen_ok, p2, q1];subst e3;cases b1
  ·simp
  ·simpa using q2
theorem eqAt {P : Program} : ∀ (d : Nat) (t : TypeId), eqOk P d t = true -> ∀ D, d <= D -> EqD P D t (flat P d t)
 | 0, t, h, D, hD => by simp [eqOk] at h
 | d + 1, t, h, D, hD => fun I ρ xs ys vs us b w hx hy kx ky ha he => by
  obtain ⟨D', rfl⟩ : ∃ D', D = D' + 1 := ⟨D - 1, by omega⟩;unfold eqOk at h;unfold flat at kx ky
  have sc : ∀ q : Nat, zaL P t = false -> xs.map kAV = [q] -> ys.map kAV = [q] -> (∀ x y v u p, kAV x = q -> kAV y = q -> RV I ρ x v -> RV I ρ y u -> eqAV x y = some p -> (Op.equalIn (D' + 1) t v u).run P w = .ok p w) -> (Op.equalIn (D' + 1) t (valT P t vs) (valT P t us)).run P w = .ok b w := fun q hag k1 k2 hsc => by
   have hl : xs.length = 1 := by have := congrArg List.length k1; simpa using this
   have hl2 := zjw he;unfold valT; rw [hag]
   match xs, ys, vs, us, hl, hl2, hx, hy, he, k1, k2 with
   | [x], [y], [v], [u], _, _, hx, hy, he, k1, k2 =>
    simp only [eqL] at he;cases hq : eqAV x y with
    | none => simp [hq] at he
    | some p =>
     simp [hq] at he; subst he;simp at k1 k2;exact hsc x y v u p k1 k2 (hx.2 0 x v rfl rfl) (hy.2 0 y u rfl rfl) hq
   | [_], [_], [], _, _, _, hx, _, _, _, _ => simp [RVL] at hx
   | [_], [_], _ :: _ :: _, _, _, _, hx, _, _, _, _ => simp [RVL] at hx
   | [_], [_], [_], [], _, _, _, hy, _, _, _ => simp [RVL] at hy
   | [_], [_], [_], _ :: _ :: _, _, _, _, hy, _, _, _ => simp [RVL] at hy
  cases hu : P.underlying t with
  | none => simp [hu] at h
  | some T =>
   cases T with
   | bool =>
    simp only [hu] at kx ky;refine sc 2 (by simp [zaL, hu]) kx ky fun x y v u p h1 h2 hxv hyu hp => ?_
    unfold eqAV at hp;split at hp
    ·simp [kAV] at h1
    ·rename_i a c; rw [zg hxv, zg hyu]; simp at hp; subst hp;exact run_equalIn_bool' w D' t a c hu
    ·simp at hp
   | int k =>
    simp only [hu] at kx ky;refine sc _ (by simp [zaL, hu]) kx ky fun x y v u p h1 h2 hxv hyu hp => ?_
    unfold eqAV at hp;split at hp
    ·rename_i a c; rw [za hxv, za hyu]; simp at hp; subst hp;rw [run_equalIn_int w D' t .i64 k a c hu]; rfl
    ·simp only [kAV] at h1; split at h1 <;> simp at h1
    ·simp at hp
   | struct fs =>
    simp only [hu, Bool.and_eq_true, Bool.not_eq_true'] at h;simp only [hu] at kx ky;have hag : zaL P t = true := by simp [zaL, hu]
    have hf : P.fieldsOf t = fs := by simp [Program.fieldsOf, hu]
    have hn := ha hag;unfold valT; rw [hag];simp only [if_true];rw [run_equalIn_struct w D' t vs.toArray us.toArray (by rw [hf]; exact hu) h.1, hf];exact zhw (E := eqOk P d) (F := flat P d) (fun t' ht' => eqAt d t' ht' D' (by omega)) fs.toList 0 _ h.2 I ρ xs ys vs us b w hx hy hn (by rw [← zjw he]; exact hn) (by simpa using kx) (by simpa using ky) (by simpa using he)
   | _ => simp [hu] at h
theorem zbu {P : Program} {t : TypeId} {d : Nat} (h : eqOk P d t = true) (hd : d <= 10000) {xs ys : List AV} {vs us : List Value} {I : Im} {ρ : Nat -> Value} {b : Bool} {w : World} (hx : RVL I ρ xs vs) (hy : RVL I ρ ys us) (hty : tyOk P t true xs.length = true)
 (kx : xs.map kAV = flat P d t) (ky : ys.map kAV = flat P d t) (he : eqL xs ys = some b) : (Op.equal t (.agg vs.toArray) (.agg us.toArray)).run P w = .ok b w := by
 have ha : zaL P t = true := by
  simp only [tyOk, Bool.and_eq_true] at hty;obtain ⟨_, h2⟩ := hty;unfold zaL;cases hu : P.underlying t with
  | none => simp [hu] at h2
  | some T => cases T <;> simp_all
 have h1 := eqAt d t h 10000 hd I ρ xs ys vs us b w hx hy kx ky (fun _ => by
  simp only [tyOk, Bool.and_eq_true] at hty;obtain ⟨h1, _⟩ := hty;unfold Program.cellsOf;cases hi : P.info? t with
  | none => simp [hi] at h1
  | some i => simp [hi] at h1 ⊢; omega) he
 unfold valT at h1; rw [ha] at h1;exact h1
section
variable {P : Program} {C : Ctx} {st : St} {ty : TypeId}
theorem zoC {t : TypeId} {x y : Operand} {yt : TypeId} {xs ys : List AV} {b : Bool} {L : List Nat} {d : Nat} (h : (eqOk P d t && decide (d <= 10000)) = true) (hL : flat P d t = L) (hm : P.eqGuardType P.depth t = false) (ht : tyOk P t true xs.length = true) (hx : ev st x = some (.agg xs)) (hy : ev st y = some (.agg ys)) (kx : xs.map kAV = L) (ky : ys.map kAV = L) (he : eqL xs ys = some b) :
 Pur P C (.binOp .eql t x y yt) ty st (.bool b) := fun g a w dst pos af gd hr => by
 simp at h;obtain ⟨vs, e, hl, hv⟩ := za6 (yn hr hx);obtain ⟨us, e', hl', hv'⟩ := za6 (yn hr hy);refine ⟨.bool b, ?_, .bool _⟩;have h1 := zbu (w := w) h.1 h.2 ⟨hl, hv⟩ ⟨hl', hv'⟩ ht (kx.trans hL.symm) (ky.trans hL.symm) he;simp only [execOp, e, e', Sem.run_bind, zcM hm, Result.andThen_ok, binOp, h1, Sem.run_pure]
theorem zoD {t : TypeId} {x y : Operand} {yt : TypeId} {xs ys : List AV} {b : Bool} {L : List Nat} {d : Nat} (h : (eqOk P d t && decide (d <= 10000)) = true) (hL : flat P d t = L) (hm : P.eqGuardType P.depth t = false) (ht : tyOk P t true xs.length = true) (hx : ev st x = some (.agg xs)) (hy : ev st y = some (.agg ys)) (kx : xs.map kAV = L) (ky : ys.map kAV = L) (he : eqL xs ys = some b) :
 Pur P C (.binOp .neq t x y yt) ty st (.bool (!b)) := fun g a w dst pos af gd hr => by
 simp at h;obtain ⟨vs, e, hl, hv⟩ := za6 (yn hr hx);obtain ⟨us, e', hl', hv'⟩ := za6 (yn hr hy);refine ⟨.bool (!b), ?_, .bool _⟩;have h1 := zbu (w := w) h.1 h.2 ⟨hl, hv⟩ ⟨hl', hv'⟩ ht (kx.trans hL.symm) (ky.trans hL.symm) he;simp only [execOp, e, e', Sem.run_bind, zcM hm, Result.andThen_ok, binOp, h1, Sem.run_pure]
end
end Go.Rse
