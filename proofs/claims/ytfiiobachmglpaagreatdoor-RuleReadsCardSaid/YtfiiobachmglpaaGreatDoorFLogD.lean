/-
  Rules: a function that panics with a value, from its body.
  Rules: functions compared with nil; a loop whose last round is of another shape.
  Rules: bytes and length of a known text.
  Rules: own blocks are lent for a call that answers a tuple with a new row at its head.
-/
import Derived.Test.YtfiiobachmglpaaGreatDoorFLogB
import Derived.Test.YtfiiobachmglpaaGreatDoorFLogC
set_option linter.unusedSimpArgs false
set_option linter.unusedVariables false
namespace Go.Rse
open Go Go.RowKit
def zp0 (C : Ctx) (pv : Value) (vs : List Value) (cs : List AV) (hs' : List (Nat × Blk)) (e : Exit) (st : St) : Prop :=
 e = pnc pv /\ ∃ ts ex, Imp C st ⟨ts, (kN, .hold vs cs) :: (hs' ++ ex)⟩
theorem zp0.mk {C : Ctx} {pv : Value} {vs : List Value} {cs : List AV} {hs' : List (Nat × Blk)} {st : St} (hi : Imp C st ⟨[], (kN, .hold vs cs) :: (hs' ++ [])⟩ := by exact yl) : zp0 C pv vs cs hs' (pnc pv) st := ⟨rfl, [], [], hi⟩
theorem FnP.intro {P : Program} {f : FuncId} {fn : Func} {c : Code} {n : Nat} {az : List AV} {ts : List (Nat × AV)} {pv : Value} {hs hs' : List (Nat × Blk)} {kp : List Nat} {cs : List AV} (hc : zaa P f = true) (hf : P.funcs[f]? = some fn) (hb : fn.body = some c) (hn : fn.ntmps = n)
 (hts : za4 0 az = ts) (hlen : az.length <= n) (hkn : (hs.all fun p => !(p.1.beq kN)) = true) (hkn' : (hs'.all fun p => !(p.1.beq kN)) = true) (hkp : kp.mapM (hdr hs) = some cs) (hkp' : kp.mapM (hdr hs') = some cs)
 (h : ∀ g w d vs, X P (C0 n d g w) c ⟨ts, (kN, .hold vs cs) :: hs⟩ (zp0 (C0 n d g w) pv vs cs hs')) : FnP P f az hs kp pv hs' := by
 refine ⟨hc, fun d ρ I O w args hsat hargs => (callsIn_wide (n := 0)).1 (callsIn_of_wp_marks hf hb trivial ?_)⟩;subst hts;have hsz : args.length = az.length := hargs.1;let C := C0 n d ⟨ρ, I, O⟩ w
 have hrel : Rel C ⟨za4 0 az, (kN, .hold (kp.map ρ) cs) :: hs⟩ ⟨ρ, I, O⟩ { tmps := args.toArray ++ Array.replicate (fn.ntmps - args.toArray.size) undef, defers := [] } w := by
  refine ⟨by simp [hn, C]; omega, Dfs.nil _ _ _, fun t x hx => ?_, ⟨hsat.im, hsat.ob, fun k B hB => ?_⟩, ⟨Im.le_refl _, rfl, rfl, rfl, Nat.le_refl _, Nat.le_refl _, fun _ _ _ _ => ⟨rfl, rfl⟩, fun b y n _ hy => ⟨n, hy⟩⟩⟩
  ·obtain ⟨_, hx'⟩ := zb5 (I := I) (ρ := ρ) az 0 t x hx;simp only [Nat.sub_zero] at hx';have ht : t < args.length := by rw [hsz]; exact (List.getElem?_eq_some_iff.1 hx').1
   have e : (args.toArray ++ Array.replicate (fn.ntmps - args.toArray.size) undef).getD t undef = args[t] := by
    simp [Array.getD_eq_getD_getElem?, Array.getElem?_append, ht]
   rw [e];exact hargs.2 t x _ hx' (List.getElem?_eq_getElem ht)
  ·simp only [yy] at hB;cases hbq : kN.beq k <;> simp [hbq] at hB
   ·exact (hsat.blk k B hB).ctx
   ·subst hB;exact zfy (g := ⟨ρ, I, O⟩) hsat hkp
 refine wpIn_mono (h _ w d _ _ _ w hrel) ?_
 rintro e a w' ⟨st, g1, hr1, rfl, ts', ex', himp⟩
 obtain ⟨g2, hr2⟩ := himp g1 a w' hr1;show LeavesInM Fence.wide 0 P fn a.tmps _ a.defers (.panicking [{ v := pv, recovered := false }]) w';obtain ⟨D, hD, hnd, hDr⟩ := hr2.defers;have hpl := hD.plain (C := C) rfl;have hpl : a.defers = D.map mkD ++ [] := by rw [hpl]; simp [C]
 rw [hpl];refine zeq (C := C) (st := ⟨ts', (kN, .hold (kp.map ρ) cs) :: (hs' ++ ex')⟩) (tmps := a.tmps) (by simp) (tl := []) (fun g3 w3 hr3 => ?_) D (g := g2) (w := w') (by rw [← hpl]; exact hr2)
 have hs3 : Sat (C0 0 d ⟨ρ, I, O⟩ w) hs' g3 w3 := ⟨hr3.sat.im, hr3.sat.ob, fun k B hB => by
  refine (hr3.sat.blk k B ?_).ctx
  have : kN.beq k = false := by
   cases hb : kN.beq k
   ·rfl
   ·have : kN = k := by simpa using hb
    subst this; rw [zdY hkn'] at hB; simp at hB
  simp [yy, this, zbW, hB]⟩
 have hh := hr3.sat.blk kN (.hold (kp.map ρ) cs) (by simp [yy])
 have hend : ∃ v ρ' I' O', (Ending.panicked [{ v := pv, recovered := false }] = Ending.panicked [{ v := pv, recovered := false }]) /\ Sat (C0 0 d ⟨ρ, I, O⟩ w) hs' ⟨ρ', I', O'⟩ w3 /\ RV I' ρ' (.tup []) v /\ Ext (C0 0 d ⟨ρ, I, O⟩ w) ⟨ρ', I', O'⟩ w3 /\ ∀ n ∈ kp, ρ' n = ρ n :=
  ⟨.tuple #[], g3.ρ, g3.I, g3.O, rfl, hs3, .tup [] [] rfl (fun j c v hc => by simp at hc), ⟨hr3.ext.I, hr3.ext.os, hr3.ext.tape, hr3.ext.output, hr3.ext.drawn, hr3.ext.size, hr3.ext.keep, hr3.ext.own⟩, zdX (ρ := ρ) hs3 hkp' hh⟩
 exact hend
end Go.Rse
namespace Go.Rse
open Go Go.RowKit
section
variable {P : Program} {C : Ctx} {st : St} {ty : TypeId} {Q : Exit -> St -> Prop}
theorem zmp {T : TypeId} {x : Operand} {yt : TypeId} {f : FuncId} {cs : List AV} (hu : ∃ a b c, P.underlying T = some (.func a b c)) (hx : ev st x = some (.fn f cs)) : Pur P C (.binOp .neq T x (.const .nilFunc) yt) ty st (.bool true) := fun g a w dst pos af gd hr => by
 obtain ⟨us, e, _, _⟩ := zcz (yI hr hx);have e0 : a.eval (.const .nilFunc) = .nilFunc := rfl;refine ⟨.bool true, ?_, .bool _⟩;obtain ⟨p, q, r, hu⟩ := hu;have hg : (eqGuard .neq T x (.const .nilFunc) (.func (.func f) #[] us.toArray) .nilFunc).run P w = .ok () w := by unfold eqGuard; simp
 have h1 : (Op.equal T (.func (.func f) #[] us.toArray) .nilFunc).run P w = .ok false w := by
  unfold Op.equal;rw [show Op.maxDepth = 9999 + 1 from rfl];unfold Op.equalIn;simp [run_underlying hu]
 simp only [execOp, e, e0, Sem.run_bind, hg, Result.andThen_ok, binOp, h1, Sem.run_pure]; rfl
theorem zkM {T : TypeId} {x : Operand} {yt : TypeId} (hu : ∃ a b c, P.underlying T = some (.func a b c)) (hx : ev st x = some .nilf) : Pur P C (.binOp .neq T x (.const .nilFunc) yt) ty st (.bool false) := fun g a w dst pos af gd hr => by
 have e := zmZ (yI hr hx);have e0 : a.eval (.const .nilFunc) = .nilFunc := rfl;refine ⟨.bool false, ?_, .bool _⟩;obtain ⟨p, q, r, hu⟩ := hu;have hg : (eqGuard .neq T x (.const .nilFunc) .nilFunc .nilFunc).run P w = .ok () w := by unfold eqGuard; simp
 have h1 : (Op.equal T .nilFunc .nilFunc).run P w = .ok true w := by
  unfold Op.equal;rw [show Op.maxDepth = 9999 + 1 from rfl];unfold Op.equalIn;simp [run_underlying hu]
 simp only [execOp, e, e0, Sem.run_bind, hg, Result.andThen_ok, binOp, h1, Sem.run_pure]; rfl
theorem zsv {ι : Type} {c : Code} (I : ι -> List (Nat × AV)) (H : ι -> List (Nat × Blk)) (J : ι -> Prop) (μ : ι -> Nat) (i0 : ι) (IB : ι -> List (Nat × AV)) (HB : ι -> List (Nat × Blk)) (JB : ι -> Prop)
 (hB : ∀ i, JB i -> X P C c ⟨IB i, HB i⟩ (zdS (fun _ => False) Q))
 (h : ∀ i, J i -> X P C c ⟨I i, H i⟩ (zdS (fun st' => (∃ i', Imp C st' ⟨I i', H i'⟩ /\ J i' /\ μ i' < μ i) \/ (∃ i', Imp C st' ⟨IB i', HB i'⟩ /\ JB i')) Q))
 (hJ : J i0) (h0 : Imp C st ⟨I i0, H i0⟩) : X P C (.loop c) st Q := by
 refine X.loop (fun s : ι ⊕ ι => (⟨Sum.elim I IB s, Sum.elim H HB s⟩ : St)) (Sum.elim J JB) (Sum.elim (fun i => μ i + 1) (fun _ => 0)) (.inl i0) h0 hJ (fun s hs => ?_);cases s with
 | inl i =>
  intro g a w hr;refine wpIn_mono (h i hs g a w hr) ?_
  rintro e a w ⟨st, g, hr, q⟩
  refine ⟨st, g, hr, ?_⟩;cases e
  case normal =>
   rcases q with ⟨i', q1, q2, q3⟩ | ⟨i', q1, q2⟩
   ·exact ⟨.inl i', q1, q2, Nat.succ_lt_succ q3⟩
   ·exact ⟨.inr i', q1, q2, Nat.succ_pos _⟩
  all_goals exact q
 | inr i =>
  intro g a w hr;refine wpIn_mono (hB i hs g a w hr) ?_
  rintro e a w ⟨st, g, hr, q⟩
  refine ⟨st, g, hr, ?_⟩;cases e
  case normal => exact q.elim
  all_goals exact q
end
end Go.Rse
namespace Go.Rse
open Go Go.RowKit
section
variable {P : Program} {C : Ctx} {st : St} {ty : TypeId}
theorem zc9 {t : TypeId} {s : ByteArray} {x y : Operand} {kk : IntKind} {i : Int} (ht : P.underlying t = some .string) (hx : ev st x = some (.str s)) (hy : ev st y = some (.int kk i)) (h0 : 0 <= i) (h1 : i.toNat < s.size) :
 Pur P C (.index t x y) ty st (.int .u8 ((s[i.toNat]'h1).toNat : Int)) := fun g a w dst pos af gd hr => by
 have ex := zle (yI hr hx);have ey := zp (yI hr hy);refine ⟨.int .u8 ((s[i.toNat]'h1).toNat : Int), ?_, .int _ _⟩;simp [execOp, Instr.index, asIntOf, ex, ey, run_underlying ht, h0, h1]
theorem zkN {t : TypeId} {s : ByteArray} {x : Operand} (ht : P.underlying t = some .string) (hx : ev st x = some (.str s)) :
 Pur P C (.call { callee := .builtin .len, args := #[x], argTypes := #[t] }) ty st (.int .i64 s.size) := fun g a w dst pos af gd hr => by
 have ex := zle (yI hr hx);refine ⟨.int .i64 s.size, ?_, .int _ _⟩;simp [execOp, resolve, invoke, builtin, ex, Builtin.len_, run_underlying ht, Result.andThen];rfl
end
end Go.Rse
namespace Go.Rse
open Go Go.RowKit
section
variable {P : Program} {C : Ctx} {st : St} {ty : TypeId}
theorem zlE {fop : Operand} {args : Array Operand} {ts : Array TypeId} {f : FuncId} {caps xs az fl : List AV} {α : Type} {enc : α -> List AV} {l : List α} {E s q : Nat} {stF : St} (k : Nat) (hi : Imp C st stF) (h : FnO P f az [] [] (.tup (.own q :: fl)) [(q, .row enc l E s)])
 (hfl : ∀ x, AV.flat.flatL (enc x) = true := by intro x; rfl) (hff : AV.flat.flatL fl = true := by rfl) (hf : ev stF fop = some (.fn f caps) := by rfl) (hx : evs stF args.toList = some xs := by rfl) (hle : LeL (xs ++ caps) az := by exact LeL.refl _) :
 yK P C (.call { callee := .value fop, args := args, argTypes := ts }) ty st (.tup (.own k :: fl)) (some (k, .row enc l E s)) := fun g a w dst pos af gd hr0 K hK => by
 obtain ⟨gF, hrF⟩ := hi g a w hr0;obtain ⟨us, e, hl1, hu⟩ := zcz (yI hrF hf);have hargs := zdT hrF hx;have hall : RVL gF.I gF.ρ az (args.toList.map a.eval ++ us) := hle.rvl (hargs.append ⟨hl1, hu⟩);obtain ⟨dc, hdc, _⟩ := zb6 gF.O w.heap.size [] hrF.sat.ob.1;have h0 := h.2 dc gF.ρ gF.I gF.O w _ ⟨hrF.sat.im, hrF.sat.ob, fun k B hB => by simp [lk] at hB⟩ hall;have e1 : (args.toList.map a.eval ++ us).toArray = args.map a.eval ++ us.toArray := by simp [← Array.toList_map]
 rw [e1] at h0
 have e2 : (execOp a.eval { dst := dst, op := .call { callee := .value fop, args := args, argTypes := ts }, type := ty, pos := pos, after := af, guard := gd }).run P w = .ok (.enter f (args.map a.eval ++ us.toArray)) w := by
  simp only [execOp, resolve, e, Deferred.ofValue, Sem.run_bind, Sem.run_pure, Result.andThen_ok, invoke, zQ h.1];simp
 unfold wp1;rw [e2];refine Calls.mono h0 ?_
 rintro e w' ⟨v, ρ', I', O', rfl, hs, hv, hx1, _⟩
 refine ⟨v, rfl, ?_⟩
 have hgr : Grow w w' := ⟨hx1.os, hx1.tape, hx1.output, hx1.drawn, hx1.size, fun b hb => (hx1.keep b hb (fun hk => by
  rcases hk with hk | ⟨n, hk⟩
  ·exact absurd hk (Nat.not_le.2 hb)
  ·exact hdc b n hk) (fun ⟨y, n, hy, _⟩ => by simp at hy)).1⟩
 cases hv with
 | tup _ vs hl hvv =>
 cases vs with
 | nil => simp at hl
 | cons v0 vr =>
 have hv0 : RV I' ρ' (.own q) v0 := hvv 0 _ _ (by rfl) (by rfl);let g3 : Gh := { ρ := fun n => if n = k then v0 else g.ρ n, I := g.I, O := fun b => if b < w.heap.size then g.O b else (match O' b with | some (y, n) => if y = dc /\ n = q then some (C.d, k) else none | none => none) };have hO3 : ∀ b, b < w.heap.size -> g3.O b = g.O b := fun b hb => by simp [g3, hb]
 have hvk : ρ' q = v0 := zZ hv0;obtain ⟨xs', p1, p2, p3, p4⟩ := hs.blk q (.row enc l E s) (by simp [yy])
 have hnew : ∀ b, y7 (ρ' q) = some b -> O' b = some (dc, q) /\ w.heap.size <= b := fun b hb => by
  obtain ⟨q1, q2⟩ := p4 b hb;refine ⟨q1, ?_⟩;rcases q2 with q2 | ⟨n, q2⟩
  ·exact q2
  ·exact absurd q2 (hdc b n)
 have him : ImOB g3 w' := by
  refine ⟨fun b o u hI => ?_, fun b p hO => ?_, hr0.sat.ob.2⟩
  ·obtain ⟨q1, q2⟩ := hr0.sat.im b o u hI;exact ⟨hgr.cell q1, by rw [hO3 b (zbP q1)]; exact q2⟩
  ·rcases Nat.lt_or_ge b w.heap.size with hb | hb
   ·exact Nat.lt_of_lt_of_le hb hgr.size
   ·simp only [g3, Nat.not_lt.2 hb, if_false] at hO;cases hO' : O' b with
    | none => simp [hO'] at hO
    | some q => exact hs.ob.1 b q hO'
 refine hK _ w' g3 ⟨Im.le_refl _, fun n hn => ?_, hO3, hgr⟩ ?_ him (fun k' B hB => ?_)
 ·have : n ≠ k := fun e => hn (by simp [e])
  simp [g3, this]
 ·refine .tup _ _ (by simpa using hl) (fun j c u hc hu' => ?_)
  match j with
  | 0 =>
   simp at hc hu'; subst hc; subst hu';rcases p1.2 with ⟨e, _⟩ | ⟨b, cap, cur, e, _⟩ <;>
   ·have e : ρ' q = _ := e;rw [hvk] at e;rw [e];exact .own k _ _ _ (by simp [g3, e])
  | j + 1 =>
   have hc1 : fl[j]? = some c := by simpa using hc
   exact (hvv (j + 1) c u (by simpa using hc1) hu').flat (zaD hff hc1)
 ·injection hB with hB; injection hB with e3 e4; subst e3; subst e4;have hk3 : g3.ρ k = v0 := by simp [g3]
  refine ⟨xs', by rw [hk3, ← hvk]; exact p1, p2, fun j x q c u hx hc hu => (p3 j x q c u hx hc hu).flat (zaD (hfl x) hc), fun b hb => ?_⟩;rw [hk3, ← hvk] at hb;obtain ⟨q1, q2⟩ := hnew b hb;refine ⟨by simp [g3, Nat.not_lt.2 q2, q1], .inl (Nat.le_trans hr0.ext.size q2)⟩
end
end Go.Rse
