/-
  A small logic of our own over the walk's rules: abstract values, named blocks of the function's own, memory that no longer changes. Definitions and their keeping under growth.
-/
import Derived.WalkKit
import Derived.Maps.AppendAt
import Derived.Deep.AppendLies
namespace Go.Rse
open Go Go.RowKit

/-- What is known for good: cells that no longer change. -/
abbrev Im := Nat → Nat → Option Value
def Im.le (I J : Im) : Prop := ∀ b o v, I b o = some v → J b o = some v
theorem Im.le_refl (I : Im) : Im.le I I := fun _ _ _ h => h
theorem Im.le_trans {I J K : Im} (h : Im.le I J) (h' : Im.le J K) : Im.le I K := fun b o v e => h' b o v (h b o v e)

theorem beqF {a b : Nat} : a.beq b = false ↔ a ≠ b := by
  constructor
  · intro h e; subst e; simp at h
  · intro h; cases hb : a.beq b with
    | false => rfl
    | true => exact absurd (by simpa using hb) h

inductive AV : Type 1
  | int (k : IntKind) (n : Int)
  | bool (b : Bool)
  | str (s : ByteArray)
  | nils
  | nilf
  | sl {α : Type} (enc : α → List AV) (l : List α)
  | own (k : Nat)
  | ptr (k s i j : Nat)
  | sub (k s i m : Nat)
  | ept {α : Type} (enc : α → List AV) (x : α) (j : Nat)
  | fn (f : FuncId) (caps : List AV)
  | yv (l : Nat)
  | agg (cs : List AV)
  | tup (vs : List AV)
  | ifb (b : Bool) (x : AV)
  | any

def blkOf : Value → Option Nat
  | .pointer (some a) => some a.block
  | .slice (some a) _ _ => some a.block
  | _ => none

def noNames : Nat → Value := fun _ => .nilIface

inductive RV (I : Im) : (Nat → Value) → AV → Value → Prop
  | int {ρ} (k : IntKind) (n : Int) : RV I ρ (.int k n) (.int k n)
  | bool {ρ} (b : Bool) : RV I ρ (.bool b) (.bool b)
  | str {ρ} (s : ByteArray) : RV I ρ (.str s) (.string s)
  | nils {ρ} : RV I ρ .nils (.slice none 0 0)
  | nilf {ρ} : RV I ρ .nilf .nilFunc
  | sl {ρ} {α : Type} (enc : α → List AV) (l : List α) (A : Option Addr) (b o s c : Nat) (vs : Nat → Nat → Value)
      (hA : l ≠ [] → A = some ⟨b, o, none⟩) (hc : l.length ≤ c) (hm : c ≤ maxLen)
      (hs : ∀ (i : Nat) (x : α), l[i]? = some x → (enc x).length = s)
      (hI : ∀ (i : Nat) (x : α) (j : Nat), l[i]? = some x → j < s → I b (o + i * s + j) = some (vs i j))
      (hv : ∀ (i : Nat) (x : α) (j : Nat) (cell : AV), l[i]? = some x → (enc x)[j]? = some cell → RV I noNames cell (vs i j)) : RV I ρ (.sl enc l) (.slice A l.length c)
  | own {ρ} (k : Nat) (A : Option Addr) (n c : Nat) (h : ρ k = .slice A n c) : RV I ρ (.own k) (.slice A n c)
  | ptr {ρ} (k s i j b : Nat) (h : blkOf (ρ k) = some b) : RV I ρ (.ptr k s i j) (.pointer (some ⟨b, i * s + j, none⟩))
  | sub {ρ} (k s i m c : Nat) (A : Option Addr) (h : m ≠ 0 → ∃ b, blkOf (ρ k) = some b ∧ A = some ⟨b, i * s, none⟩) : RV I ρ (.sub k s i m) (.slice A m c)
  | ept {ρ} {α : Type} (enc : α → List AV) (x : α) (j b o : Nat) (vs : Nat → Value)
      (hI : ∀ (j : Nat), j < (enc x).length → I b (o + j) = some (vs j))
      (hv : ∀ (j : Nat) (cell : AV), (enc x)[j]? = some cell → RV I noNames cell (vs j)) : RV I ρ (.ept enc x j) (.pointer (some ⟨b, o + j, none⟩))
  | fn {ρ} (f : FuncId) (caps : List AV) (vs : List Value) (hl : vs.length = caps.length)
      (hv : ∀ (j : Nat) (c : AV) (v : Value), caps[j]? = some c → vs[j]? = some v → RV I ρ c v) : RV I ρ (.fn f caps) (.func (.func f) #[] vs.toArray)
  | yv {ρ} (l : Nat) : RV I ρ (.yv l) (.func (.yield l) #[] #[])
  | agg {ρ} (cs : List AV) (vs : List Value) (hl : vs.length = cs.length)
      (hv : ∀ (j : Nat) (c : AV) (v : Value), cs[j]? = some c → vs[j]? = some v → RV I ρ c v) : RV I ρ (.agg cs) (.agg vs.toArray)
  | tup {ρ} (cs : List AV) (vs : List Value) (hl : vs.length = cs.length)
      (hv : ∀ (j : Nat) (c : AV) (v : Value), cs[j]? = some c → vs[j]? = some v → RV I ρ c v) : RV I ρ (.tup cs) (.tuple vs.toArray)
  | ifb {ρ} (b : Bool) (x : AV) (v : Value) (h : b = true → RV I ρ x v) : RV I ρ (.ifb b x) v
  | any {ρ} (v : Value) : RV I ρ .any v

theorem RV.mono {I J : Im} {ρ : Nat → Value} {x : AV} {v : Value} (h : RV I ρ x v) (hIJ : Im.le I J) : RV J ρ x v := by
  induction h with
  | int k n => exact .int k n
  | bool b => exact .bool b
  | str s => exact .str s
  | nils => exact .nils
  | nilf => exact .nilf
  | sl enc l A b o s c vs hA hc hm hs hI hv ih => exact .sl enc l A b o s c vs hA hc hm hs (fun i x j hx hj => hIJ _ _ _ (hI i x j hx hj)) ih
  | own k A n c h => exact .own k A n c h
  | ptr k s i j b h => exact .ptr k s i j b h
  | sub k s i m c A h => exact .sub k s i m c A h
  | ept enc x j b o vs hI hv ih => exact .ept enc x j b o vs (fun j hj => hIJ _ _ _ (hI j hj)) ih
  | fn f caps vs hl hv ih => exact .fn f caps vs hl ih
  | yv l => exact .yv l
  | agg cs vs hl hv ih => exact .agg cs vs hl ih
  | tup cs vs hl hv ih => exact .tup cs vs hl ih
  | ifb b x v h ih => exact .ifb b x v ih
  | any v => exact .any v

/-- The name k does not occur in x. -/
def AV.fr (k : Nat) : AV → Bool
  | .own k' => !(k'.beq k)
  | .ptr k' _ _ _ => !(k'.beq k)
  | .sub k' _ _ _ => !(k'.beq k)
  | .fn _ cs => frL k cs
  | .agg cs => frL k cs
  | .tup cs => frL k cs
  | .ifb _ x => x.fr k
  | _ => true
where frL (k : Nat) : List AV → Bool
  | [] => true
  | x :: r => x.fr k && frL k r

theorem AV.frL_get {k : Nat} : ∀ {cs : List AV}, AV.fr.frL k cs = true → ∀ {j : Nat} {c : AV}, cs[j]? = some c → c.fr k = true
  | [], _, _, _, h => by simp at h
  | x :: r, h, 0, c, e => by
    simp [AV.fr.frL] at h
    simp at e
    exact e ▸ h.1
  | x :: r, h, j + 1, c, e => by
    simp [AV.fr.frL] at h
    exact AV.frL_get h.2 (by simpa using e)

theorem RV.rename {I : Im} {ρ ρ' : Nat → Value} {x : AV} {v : Value} {k : Nat} (h : RV I ρ x v) (hf : x.fr k = true) (hρ : ∀ n, n ≠ k → ρ' n = ρ n) : RV I ρ' x v := by
  induction h with
  | int k n => exact .int k n
  | bool b => exact .bool b
  | str s => exact .str s
  | nils => exact .nils
  | nilf => exact .nilf
  | sl enc l A b o s c vs hA hc hm hs hI hv ih => exact .sl enc l A b o s c vs hA hc hm hs hI hv
  | own k' A n c h =>
    have : k' ≠ k := beqF.1 (by simpa [AV.fr] using hf)
    exact .own k' A n c ((hρ k' this).trans h)
  | ptr k' s i j b h =>
    have : k' ≠ k := beqF.1 (by simpa [AV.fr] using hf)
    exact .ptr k' s i j b (by rw [hρ k' this]; exact h)
  | sub k' s i m c A h =>
    have : k' ≠ k := beqF.1 (by simpa [AV.fr] using hf)
    exact .sub k' s i m c A (by rw [hρ k' this]; exact h)
  | ept enc x j b o vs hI hv ih => exact .ept enc x j b o vs hI hv
  | fn f caps vs hl hv ih => exact .fn f caps vs hl (fun j c v hc hvv => ih j c v hc hvv (AV.frL_get (by simpa [AV.fr] using hf) hc) hρ)
  | yv l => exact .yv l
  | agg cs vs hl hv ih => exact .agg cs vs hl (fun j c v hc hvv => ih j c v hc hvv (AV.frL_get (by simpa [AV.fr] using hf) hc) hρ)
  | tup cs vs hl hv ih => exact .tup cs vs hl (fun j c v hc hvv => ih j c v hc hvv (AV.frL_get (by simpa [AV.fr] using hf) hc) hρ)
  | ifb b x v h ih => exact .ifb b x v (fun hb => ih hb (by simpa [AV.fr] using hf) hρ)
  | any v => exact .any v

/-- What is known of a block of the function's own. -/
inductive Blk : Type 1
  | box (cs : List AV) (E : TypeId)
  | row {α : Type} (enc : α → List AV) (l : List α) (E : TypeId) (s : Nat)
  | hold (vs : List Value) (cs : List AV)
  | obj (b : Nat) (o : Obj)
  | yld (j : Nat) (on : Bool)
  | dead

def Blk.fr (k : Nat) : Blk → Bool
  | .box cs _ => AV.fr.frL k cs
  | .hold _ cs => AV.fr.frL k cs
  | _ => true

/-- The first entry of the key. -/
def lk {α : Type 1} : List (Nat × α) → Nat → Option α
  | [], _ => none
  | (k', a) :: r, k => bif k'.beq k then some a else lk r k

structure St : Type 1 where
  t : List (Nat × AV)
  h : List (Nat × Blk)

def frT (k : Nat) : List (Nat × AV) → Bool
  | [] => true
  | (_, x) :: r => x.fr k && frT k r
def frH (k : Nat) : List (Nat × Blk) → Bool
  | [] => true
  | (k', x) :: r => !(k'.beq k) && x.fr k && frH k r
def St.fr (st : St) (k : Nat) : Bool := frT k st.t && frH k st.h

theorem frT_lk {k : Nat} : ∀ {l : List (Nat × AV)}, frT k l = true → ∀ {t : Nat} {x : AV}, lk l t = some x → x.fr k = true
  | [], _, _, _, h => by simp [lk] at h
  | (t', y) :: r, h, t, x, e => by
    simp [frT] at h
    simp only [lk] at e
    cases hb : t'.beq t <;> simp [hb] at e
    · exact frT_lk h.2 e
    · exact e ▸ h.1
theorem frH_lk {k : Nat} : ∀ {l : List (Nat × Blk)}, frH k l = true → ∀ {t : Nat} {x : Blk}, lk l t = some x → x.fr k = true ∧ t ≠ k
  | [], _, _, _, h => by simp [lk] at h
  | (t', y) :: r, h, t, x, e => by
    simp [frH] at h
    simp only [lk] at e
    cases hb : t'.beq t <;> simp [hb] at e
    · exact frH_lk h.2 e
    · have : t' = t := by simpa using hb
      subst this; exact ⟨e ▸ h.1.2, fun e' => by simp [e'] at h⟩

abbrev Owns := Nat → Option (Nat × Nat)
structure Gh where
  ρ : Nat → Value
  I : Im
  O : Owns

/-- Known cells are there and owned by nobody; owners are of blocks that are there. -/
def ImO (I : Im) (O : Owns) (w : World) : Prop := (∀ b o u, I b o = some u → w.cell? ⟨b, o, none⟩ = some u ∧ O b = none) ∧ ∀ b k, O b = some k → b < w.heap.size
def ImOB (g : Gh) (w : World) : Prop := ImO g.I g.O w

/-- An activation's frame, or a round's: whose it is (d), who else may change what is theirs meanwhile (ds), what those ask to find (Y), and how it began. -/
structure Ctx where
  rd : Option Nat
  n : Nat
  d : Nat
  ds : List Nat
  yB : Nat
  Y : Nat → Bool → Im → Owns → World → Prop
  g0 : Gh
  w0 : World

def Ctx.okb (C : Ctx) (b : Nat) : Prop := C.w0.heap.size ≤ b ∨ ∃ n, C.g0.O b = some (C.d, n)
def Ctx.oth (C : Ctx) (b : Nat) : Prop := ∃ y n, y ∈ C.ds ∧ C.g0.O b = some (y, n)

/-- What Y says stays while its owners' blocks and those from before B stay. -/
def YCl (Y : Nat → Bool → Im → Owns → World → Prop) (ds : List Nat) (B : Nat) : Prop := ∀ (j : Nat) (on : Bool) (I : Im) (O : Owns) (w : World) (I' : Im) (O' : Owns) (w' : World), Y j on I O w → Im.le I I' →
  (∀ b, b < w.heap.size → (b < B ∨ ∃ y n, y ∈ ds ∧ O b = some (y, n)) → w'.heap[b]? = w.heap[b]? ∧ O' b = O b) → w'.os = w.os → w'.tape = w.tape → w'.output = w.output → w.heap.size ≤ w'.heap.size → ImO I' O' w' → Y j on I' O' w'

def BlkSat (C : Ctx) (g : Gh) (w : World) (k : Nat) : Blk → Prop
  | .box cs E => ∃ b vs, g.ρ k = .pointer (some ⟨b, 0, none⟩) ∧ g.O b = some (C.d, k) ∧ C.okb b ∧ w.heap[b]? = some (.cells vs E (0, 0)) ∧ vs.size = cs.length ∧
      ∀ (j : Nat) c v, cs[j]? = some c → vs[j]? = some v → RV g.I g.ρ c v
  | .row enc l E s => ∃ xs, w.ownsRow 0 E s (g.ρ k) l.length xs ∧ (∀ (i : Nat) x, l[i]? = some x → (enc x).length = s) ∧
      (∀ (i : Nat) x (j : Nat) c v, l[i]? = some x → (enc x)[j]? = some c → xs[i * s + j]? = some v → RV g.I noNames c v) ∧
      ∀ b, blkOf (g.ρ k) = some b → g.O b = some (C.d, k) ∧ C.okb b
  | .hold vs cs => vs.length = cs.length ∧ ∀ (j : Nat) c v, cs[j]? = some c → vs[j]? = some v → RV g.I g.ρ c v
  | .obj b o => w.heap[b]? = some o ∧ g.O b = some (C.d, k) ∧ C.okb b
  | .yld j on => C.d ∉ C.ds ∧ YCl C.Y C.ds C.yB ∧ C.yB ≤ C.w0.heap.size ∧ (∀ b n, g.O b = some (C.d, n) → C.yB ≤ b) ∧ C.Y j on g.I g.O w
  | .dead => True

structure Sat (C : Ctx) (h : List (Nat × Blk)) (g : Gh) (w : World) : Prop where
  im : ∀ b o v, g.I b o = some v → w.cell? ⟨b, o, none⟩ = some v ∧ g.O b = none
  ob : ∀ b k, g.O b = some k → b < w.heap.size
  blk : ∀ k B, lk h k = some B → BlkSat C g w k B

/-- What the others ask stays while a block of one's own changes. -/
theorem yld_far {C : Ctx} {g g' : Gh} {w w' : World} {k j : Nat} {on : Bool} {bo : Option Nat} (h : BlkSat C g w k (.yld j on)) (hI : Im.le g.I g'.I) (hO : ∀ b, b < w.heap.size → bo ≠ some b → g'.O b = g.O b)
    (hb : ∀ b, bo = some b → (∃ n, g.O b = some (C.d, n)) ∨ (g.O b = none ∧ C.w0.heap.size ≤ b)) (hm : w.grownBy w' bo) (hn : ∀ b n, g'.O b = some (C.d, n) → C.yB ≤ b) (hio : ImOB g' w') : BlkSat C g' w' k (.yld j on) := by
  obtain ⟨h1, h2, h3, h4, h5⟩ := h
  refine ⟨h1, h2, h3, hn, h2 j on _ _ _ _ _ _ h5 hI (fun b hlt hy => ?_) hm.os hm.tape hm.output hm.size hio⟩
  have hne : bo ≠ some b := fun e => by
    rcases hb b e with ⟨n, hn⟩ | ⟨h6, h7⟩
    · rcases hy with hy | ⟨y, m, hy, hym⟩
      · have := h4 b n hn; omega
      · rw [hn] at hym; injection hym with hym; injection hym with e1 e2; exact h1 (e1 ▸ hy)
    · rcases hy with hy | ⟨y, m, hy, hym⟩
      · omega
      · rw [h6] at hym; simp at hym
  exact ⟨hm.block b hlt (fun e => hne e.symm), hO b hlt hne⟩

/-- What a call leaves as it was. -/
structure Ext (C : Ctx) (g : Gh) (w : World) : Prop where
  I : Im.le C.g0.I g.I
  os : w.os = C.w0.os
  tape : w.tape = C.w0.tape
  output : w.output = C.w0.output
  size : C.w0.heap.size ≤ w.heap.size
  keep : ∀ b, b < C.w0.heap.size → ¬ C.okb b → ¬ C.oth b → w.heap[b]? = C.w0.heap[b]? ∧ g.O b = C.g0.O b
  own : ∀ b y n, b < C.w0.heap.size → g.O b = some (y, n) → ∃ n', C.g0.O b = some (y, n')

/-- The marks that loops over functions have left among the deferred calls. -/
def mkD (r : Nat) : Deferred := { target := .collected r, args := #[] }
def Dfs (C : Ctx) (g : Gh) (ds : List Deferred) (w : World) : Prop := ∃ D : List Nat, ds = D.map mkD ∧ D.Nodup ∧ ∀ r, r ∈ D → w.heap[r]? = some (.deferred (some [])) ∧ g.O r = none ∧ C.w0.heap.size ≤ r
theorem Dfs.nil (C : Ctx) (g : Gh) (w : World) : Dfs C g [] w := ⟨[], rfl, List.nodup_nil, fun r h => by simp at h⟩

structure Rel (C : Ctx) (st : St) (g : Gh) (a : Act) (w : World) : Prop where
  size : a.tmps.size = C.n
  defers : Dfs C g a.defers w
  tmps : ∀ t x, lk st.t t = some x → RV g.I g.ρ x (a.tmps.getD t undef)
  sat : Sat C st.h g w
  ext : Ext C g w

/-- The world has grown by blocks alone: what was there is as it was. -/
structure Grow (w w' : World) : Prop where
  os : w'.os = w.os
  tape : w'.tape = w.tape
  output : w'.output = w.output
  size : w.heap.size ≤ w'.heap.size
  keep : ∀ b, b < w.heap.size → w'.heap[b]? = w.heap[b]?

theorem Grow.refl (w : World) : Grow w w := ⟨rfl, rfl, rfl, Nat.le_refl _, fun _ _ => rfl⟩
theorem Grow.trans {a b c : World} (h : Grow a b) (k : Grow b c) : Grow a c :=
  ⟨k.os.trans h.os, k.tape.trans h.tape, k.output.trans h.output, Nat.le_trans h.size k.size, fun i hi => (k.keep i (Nat.lt_of_lt_of_le hi h.size)).trans (h.keep i hi)⟩
theorem Grow.drew (w : World) : Grow w w.drew := ⟨rfl, rfl, rfl, Nat.le_refl _, fun _ _ => rfl⟩
theorem Grow.alloc (w : World) (o : Obj) : Grow w (w.alloc o) := ⟨rfl, rfl, rfl, by simp, fun k hk => Below.heap_alloc _ _ _ hk⟩

theorem heap_lt {w : World} {b : Nat} {o : Obj} (h : w.heap[b]? = some o) : b < w.heap.size := by
  rcases Nat.lt_or_ge b w.heap.size with hl | hl
  · exact hl
  · simp [Array.getElem?_eq_none hl] at h

theorem cell_lt {w : World} {b o : Nat} {v : Value} (h : w.cell? ⟨b, o, none⟩ = some v) : b < w.heap.size := by
  rcases Nat.lt_or_ge b w.heap.size with hl | hl
  · exact hl
  · simp [World.cell?, Array.getElem?_eq_none hl] at h

theorem Grow.cell {w w' : World} (h : Grow w w') {b o : Nat} {v : Value} (hc : w.cell? ⟨b, o, none⟩ = some v) : w'.cell? ⟨b, o, none⟩ = some v := by
  rw [World.cell?_of_block (w := w) (a := ⟨b, o, none⟩) (h.keep b (cell_lt hc))]; exact hc

/-- Only known memory has grown: new blocks may have got names; the name nk alone may mean something new. -/
structure Add (nk : Option Nat) (g : Gh) (w : World) (g' : Gh) (w' : World) : Prop where
  I : Im.le g.I g'.I
  ρ : ∀ n, nk ≠ some n → g'.ρ n = g.ρ n
  O : ∀ b, b < w.heap.size → g'.O b = g.O b
  grow : Grow w w'

theorem Dfs.add {C : Ctx} {g g' : Gh} {w w' : World} {nk : Option Nat} {ds : List Deferred} (h : Dfs C g ds w) (ha : Add nk g w g' w') : Dfs C g' ds w' := by
  obtain ⟨D, h1, hn, h2⟩ := h
  refine ⟨D, h1, hn, fun r hr => ?_⟩
  obtain ⟨h3, h4, h5⟩ := h2 r hr
  have hlt : r < w.heap.size := by
    rcases Nat.lt_or_ge r w.heap.size with hl | hl
    · exact hl
    · simp [Array.getElem?_eq_none hl] at h3
  exact ⟨(ha.grow.keep r hlt).trans h3, (ha.O r hlt).trans h4, h5⟩

theorem Add.refl (nk : Option Nat) (g : Gh) (w : World) : Add nk g w g w := ⟨Im.le_refl _, fun _ _ => rfl, fun _ _ => rfl, Grow.refl w⟩

theorem ownsRow_grow {w w' : World} {E s : Nat} {v : Value} {n : Nat} {xs : List Value} (h : w.ownsRow 0 E s v n xs) (hg : Grow w w') : w'.ownsRow 0 E s v n xs := by
  obtain ⟨h1, h2⟩ := h
  refine ⟨h1, ?_⟩
  rcases h2 with h2 | ⟨g, cap, cur, hv, hb, hh, r⟩
  · exact Or.inl h2
  · refine Or.inr ⟨g, cap, cur, hv, hb, ?_, r⟩
    have hlt : g < w.heap.size := by
      rcases Nat.lt_or_ge g w.heap.size with hl | hl
      · exact hl
      · simp [Array.getElem?_eq_none hl] at hh
    rw [hg.keep g hlt]; exact hh

theorem ownsRow_lt {w : World} {E s : Nat} {v : Value} {n : Nat} {xs : List Value} (h : w.ownsRow 0 E s v n xs) {b : Nat} (hb : blkOf v = some b) : b < w.heap.size := by
  refine (h.lt b ?_).2
  cases v <;> simp [blkOf] at hb
  case slice a n c => cases a <;> simp at hb; simpa [Value.ownBlock] using hb
  case pointer a => rcases h.2 with ⟨h, _⟩ | ⟨_, _, _, h, _⟩ <;> cases h

theorem RV.renameOpt {I : Im} {ρ ρ' : Nat → Value} {x : AV} {v : Value} {nk : Option Nat} (h : RV I ρ x v) (hf : ∀ k, nk = some k → x.fr k = true) (hρ : ∀ n, nk ≠ some n → ρ' n = ρ n) : RV I ρ' x v := by
  cases nk with
  | none =>
    have : ρ' = ρ := funext fun n => hρ n (by simp)
    rw [this]; exact h
  | some k => exact h.rename (k := k) (hf k rfl) (fun n hn => hρ n (by simpa using fun e => hn e.symm))

theorem BlkSat.add {C : Ctx} {g g' : Gh} {w w' : World} {nk : Option Nat} {k : Nat} {B : Blk} (h : BlkSat C g w k B) (ha : Add nk g w g' w') (hk : nk ≠ some k) (hf : ∀ n, nk = some n → B.fr n = true) (hw : C.w0.heap.size ≤ w.heap.size) (hio : ImOB g' w') : BlkSat C g' w' k B := by
  cases B with
  | box cs E =>
    obtain ⟨b, vs, h1, h2, h3, h4, h5, h6⟩ := h
    have hb : b < w.heap.size := by
      rcases Nat.lt_or_ge b w.heap.size with hl | hl
      · exact hl
      · simp [Array.getElem?_eq_none hl] at h4
    refine ⟨b, vs, (ha.ρ k hk).trans h1, (ha.O b hb).trans h2, h3, (ha.grow.keep b hb).trans h4, h5, fun j c v hc hv => ?_⟩
    exact ((h6 j c v hc hv).renameOpt (nk := nk) (fun n hn => AV.frL_get (by simpa [Blk.fr] using hf n hn) hc) ha.ρ).mono ha.I
  | row enc l E s =>
    obtain ⟨xs, h1, h2, h3, h4⟩ := h
    refine ⟨xs, ?_, h2, fun i x j c v hx hc hv => (h3 i x j c v hx hc hv).mono ha.I, fun b hb => ?_⟩
    · rw [ha.ρ k hk]; exact ownsRow_grow h1 ha.grow
    · rw [ha.ρ k hk] at hb
      exact ⟨(ha.O b (ownsRow_lt h1 hb)).trans (h4 b hb).1, (h4 b hb).2⟩
  | hold vs cs => exact ⟨h.1, fun j c v hc hv => ((h.2 j c v hc hv).renameOpt (nk := nk) (fun n hn => AV.frL_get (by simpa [Blk.fr] using hf n hn) hc) ha.ρ).mono ha.I⟩
  | obj b o =>
    obtain ⟨h1, h2, h3⟩ := h
    have hb : b < w.heap.size := heap_lt h1
    exact ⟨(ha.grow.keep b hb).trans h1, (ha.O b hb).trans h2, h3⟩
  | yld j on =>
    obtain ⟨h1, h2, h3, h4, h5⟩ := h
    refine ⟨h1, h2, h3, fun b n hn => ?_, h2 j on _ _ _ _ _ _ h5 ha.I (fun b hb _ => ⟨ha.grow.keep b hb, ha.O b hb⟩) ha.grow.os ha.grow.tape ha.grow.output ha.grow.size hio⟩
    rcases Nat.lt_or_ge b w.heap.size with hl | hl
    · exact h4 b n ((ha.O b hl).symm.trans hn)
    · omega
  | dead => trivial

theorem Ext.add {C : Ctx} {g g' : Gh} {w w' : World} {nk : Option Nat} (h : Ext C g w) (ha : Add nk g w g' w') : Ext C g' w' :=
  ⟨Im.le_trans h.I ha.I, ha.grow.os.trans h.os, ha.grow.tape.trans h.tape, ha.grow.output.trans h.output, Nat.le_trans h.size ha.grow.size,
   fun b hb hn ho => ⟨(ha.grow.keep b (Nat.lt_of_lt_of_le hb h.size)).trans (h.keep b hb hn ho).1, (ha.O b (Nat.lt_of_lt_of_le hb h.size)).trans (h.keep b hb hn ho).2⟩,
   fun b y n hb hy => h.own b y n hb ((ha.O b (Nat.lt_of_lt_of_le hb h.size)).symm.trans hy)⟩

def putT (st : St) (d : Option Nat) (x : AV) : St :=
  match d with
  | some d => { st with t := (d, x) :: st.t }
  | none => st
def putH (st : St) (k : Nat) (B : Blk) : St := { st with h := (k, B) :: st.h }

theorem lk_cons {α : Type 1} (k' : Nat) (a : α) (r : List (Nat × α)) (k : Nat) : lk ((k', a) :: r) k = bif k'.beq k then some a else lk r k := rfl

theorem getD_put {a : Act} {d t : Nat} {v : Value} (h : d < a.tmps.size) : (a.put (some d) v).tmps.getD t undef = if d = t then v else a.tmps.getD t undef := by
  simp only [Act.put, Array.getD_eq_getD_getElem?, Array.getElem?_setIfInBounds]
  split
  · rename_i e; subst e; simp
  · rfl

/-- After a step that only adds: the relation holds with the new value and, if there is one, the new block. -/
theorem Rel.add {C : Ctx} {st : St} {g g' : Gh} {a : Act} {w w' : World} {nk : Option Nat} {d : Option Nat} {x : AV} {v : Value} (h : Rel C st g a w) (ha : Add nk g w g' w')
    (hfr : ∀ k, nk = some k → st.fr k = true) (hd : ∀ t, d = some t → t < C.n) (hx : RV g'.I g'.ρ x v)
    (him : ∀ b o u, g'.I b o = some u → w'.cell? ⟨b, o, none⟩ = some u ∧ g'.O b = none) (hob : ∀ b k, g'.O b = some k → b < w'.heap.size) :
    Rel C (putT st d x) g' (a.put d v) w' := by
  have htm : ∀ t y, lk st.t t = some y → RV g'.I g'.ρ y (a.tmps.getD t undef) := fun t y hy =>
    ((h.tmps t y hy).renameOpt (nk := nk) (fun n hn => frT_lk (by have := hfr n hn; simp [St.fr] at this; exact this.1) hy) ha.ρ).mono ha.I
  have hsat : Sat C st.h g' w' := ⟨him, hob, fun k B hB => by
    refine (h.sat.blk k B hB).add ha ?_ ?_ h.ext.size ⟨him, hob⟩
    · intro hk
      have := hfr k hk
      simp [St.fr] at this
      exact (frH_lk this.2 hB).2 rfl
    · intro n hn
      have := hfr n hn
      simp [St.fr] at this
      exact (frH_lk this.2 hB).1⟩
  cases d with
  | none => exact ⟨h.size, h.defers.add ha, htm, hsat, h.ext.add ha⟩
  | some d =>
    refine ⟨by simp [Act.put, h.size], h.defers.add ha, fun t y hy => ?_, hsat, h.ext.add ha⟩
    rw [getD_put (by rw [h.size]; exact hd d rfl)]
    simp only [putT, lk_cons] at hy
    by_cases e : d = t
    · subst e
      simp at hy
      rw [if_pos rfl, ← hy]; exact hx
    · have : d.beq t = false := beqF.2 e
      simp [this] at hy
      rw [if_neg e]; exact htm t y hy

/-- The same, with a new block. -/
theorem Rel.withBlk {C : Ctx} {st : St} {g : Gh} {a : Act} {w : World} (h : Rel C st g a w) {k : Nat} {B : Blk} (hB : BlkSat C g w k B) : Rel C (putH st k B) g a w :=
  ⟨h.size, h.defers, h.tmps, ⟨h.sat.im, h.sat.ob, fun k' B' hB' => by
    simp only [putH, lk_cons] at hB'
    cases hb : k.beq k' <;> simp [hb] at hB'
    · exact h.sat.blk k' B' hB'
    · have : k = k' := by simpa using hb
      subst this; exact hB' ▸ hB⟩, h.ext⟩

end Go.Rse
