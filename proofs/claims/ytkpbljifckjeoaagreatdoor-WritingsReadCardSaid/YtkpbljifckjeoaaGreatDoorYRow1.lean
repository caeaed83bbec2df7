/-
  Opening a row's arguments: what lies in memory, as plain data.
-/
import Derived.Test.YtkpbljifckjeoaaGreatDoorYLogA
import Derived.WideShapes
import Derived.DataReads
import Derived.Below
import Derived.ChangeShapes
set_option linter.unusedVariables false
namespace Go.Rse
open Go Go.RowKit Go.WideShapes
def okK (k : Nat) (v : Value) : Prop := (k = 1 -> ∃ n, v = .int .i64 n /\ (Lit.int .i64 n).wf = true) /\ (k = 2 -> ∃ b, v = .bool b)
def fits (L : List Nat) (cs : List Value) : Prop := cs.length = L.length /\ ∀ (j k : Nat) (v : Value), L[j]? = some k -> cs[j]? = some v -> okK k v
theorem zkw {L M : List Nat} {cs ds : List Value} (h : fits L cs) (h' : fits M ds) : fits (L ++ M) (cs ++ ds) := by
 refine ⟨by simp [h.1, h'.1], fun j k v hk hv => ?_⟩;rw [List.getElem?_append] at hk hv;split at hk
 ·rename_i hj; rw [if_pos (by rw [h.1]; exact hj)] at hv; exact h.2 j k v hk hv
 ·rename_i hj; rw [if_neg (by rw [h.1]; exact hj), h.1] at hv; exact h'.2 _ k v hk hv
section
variable {H : Type} {ench : TypeId × Value -> H} {P : Program} {w : World} {base : Nat} {sp : Nat -> Bool} {held : Bool}
theorem zf6 {E : TypeId -> Bool} {F : TypeId -> List Nat} {fuel : Nat} (hE : ∀ t cs x, E t = true -> DataW.trod ench P w base sp held fuel t cs = some x -> fits (F t) cs) : ∀ (fs : List Field) (off n : Nat), zb9 P E F off fs n = true -> ∀ (cs : List Value) xs, cs.length = n →
 fs.mapM (fun f => DataW.trod ench P w base sp held fuel f.type ((cs.drop f.offset).take (P.cellsOf f.type))) = some xs -> fits (fs.flatMap fun f => F f.type) (cs.drop off)
 | [], off, n, h, cs, xs, hl, hm => by
  simp [zb9] at h;rw [List.drop_of_length_le (by omega)];exact ⟨rfl, fun j k v hk => by simp at hk⟩
 | f :: fs, off, n, h, cs, xs, hl, hm => by
  simp only [zb9, Bool.and_eq_true, beq_iff_eq, Bool.or_eq_true] at h;obtain ⟨⟨⟨⟨⟨h1, h2⟩, h3⟩, h4, h4'⟩, h5⟩, h6⟩ := h;rw [List.mapM_cons] at hm;cases hf : DataW.trod ench P w base sp held fuel f.type ((cs.drop f.offset).take (P.cellsOf f.type)) with
  | none => simp [hf] at hm
  | some x =>
   cases hr : fs.mapM (fun f => DataW.trod ench P w base sp held fuel f.type ((cs.drop f.offset).take (P.cellsOf f.type))) with
   | none => simp [hf, hr] at hm
   | some ys =>
    have q1 := hE _ _ _ h5 hf;have q2 := zf6 hE fs _ n h6 cs ys hl hr
    have e : cs.drop off = (cs.drop off).take (P.cellsOf f.type) ++ cs.drop (off + P.cellsOf f.type) := by
     rw [← List.drop_drop, List.take_append_drop]
    rw [e, List.flatMap_cons];rw [h1] at q1;exact zkw q1 q2
theorem zfT : ∀ (d fuel : Nat) (t : TypeId) (cs : List Value) x, eqOk P d t = true -> DataW.trod ench P w base sp held fuel t cs = some x -> fits (flat P d t) cs
 | 0, fuel, t, cs, x, h, _ => by simp [eqOk] at h
 | d + 1, 0, t, cs, x, h, hx => by simp [DataW.trod] at hx
 | d + 1, fuel + 1, t, cs, x, h, hx => by
  unfold eqOk at h;unfold flat;unfold DataW.trod at hx;cases hu : P.underlying t with
  | none => simp [hu] at h
  | some T =>
   cases T with
   | bool =>
    simp only [hu] at hx ⊢;split at hx <;> simp_all;rename_i b
    exact ⟨rfl, fun j k v hk hv => by
     cases j with
     | zero => simp at hk hv; subst hk; subst hv; exact ⟨fun h => by simp at h, fun _ => ⟨_, rfl⟩⟩
     | succ j => simp at hk⟩
   | int q =>
    simp only [hu] at hx ⊢;split at hx <;> simp_all;rename_i k' n k2 e;obtain ⟨⟨e1, e2⟩, e3⟩ := hx;subst e1
    exact ⟨rfl, fun j k v hk hv => by
     cases j with
     | zero =>
      simp at hk hv; subst hv;refine ⟨fun h => ?_, fun h => ?_⟩
      ·rw [h] at hk;split at hk
       ·rename_i e; subst e; exact ⟨_, rfl, e2⟩
       ·simp at hk
      ·rw [h] at hk; split at hk <;> simp at hk
     | succ j => simp at hk⟩
   | struct fs =>
    simp only [hu, Bool.and_eq_true] at h hx ⊢;split at hx
    ·rename_i hl;cases hm : fs.toList.mapM (fun f => DataW.trod ench P w base sp held fuel f.type ((cs.drop f.offset).take (P.cellsOf f.type))) with
     | none => simp [hm] at hx
     | some xs =>
      have := zf6 (E := eqOk P d) (F := flat P d) (fun t cs x ht hx => zfT d fuel t cs x ht hx) fs.toList 0 _ h.2 cs xs hl hm;simpa using this
    ·simp at hx
   | _ => simp [hu] at h
end
def avV : Value -> AV
 | .int k n => .int k n
 | .bool b => .bool b
 | _ => .any
theorem zoZ {I : Im} {ρ : Nat -> Value} (v : Value) : RV I ρ (avV v) v := by
 cases v <;> first | exact .int _ _ | exact .bool _ | exact .any _
theorem ztq {I : Im} {ρ : Nat -> Value} {as : List AV} {cs : List Value} (h : as = cs.map avV) : RVL I ρ as cs := by
 subst h;refine ⟨by simp, fun j c v hc hv => ?_⟩;rw [List.getElem?_map, hv] at hc;simp at hc; subst hc; exact zoZ v
def wIm (w : World) : Im := fun b o => w.cell? ⟨b, o, none⟩
def g0 (w : World) : Gh := ⟨noNames, wIm w, fun _ => none⟩
theorem zvQ (w : World) (hG : Im.le gIm (wIm w)) : ImOB (g0 w) w := ⟨fun b o u h => ⟨h, rfl⟩, fun b k h => by simp [g0] at h, hG⟩
section
variable {H : Type} {ench : TypeId × Value -> H} {P : Program} {w : World} {sp : Nat -> Bool} {held : Bool} {r : Reach} {b0 : Nat}
theorem zxi {t : TypeId} {d : Nat} {L : List Nat} {α : Type} {enc : α -> List AV} {dec : List Value -> α} {v : Value} {dd : DataW H} {ps : List MemPlace} {ρ : Nat -> Value} (hs : ∃ fs, P.underlying t = some (.struct fs)) (hE : (eqOk P d t && decide (d <= 10000)) = true) (hL : flat P d t = L)
 (hdec : ∀ cs, fits L cs -> enc (dec cs) = cs.map avV) (hv : Value.okWide P w r b0 t v) (h : DataW.Trod ench P w 0 sp held t v dd ps) : ∃ cs, fits L cs /\ RV (wIm w) ρ (.agg (enc (dec cs))) v := by
 simp only [Bool.and_eq_true] at hE;obtain ⟨fs, hu⟩ := hs;obtain ⟨cs, rfl, -⟩ := okWide_struct hu hv;obtain ⟨fuel, hf⟩ := h;have := zfT d fuel t _ _ hE.1 hf;rw [hL] at this;refine ⟨cs.toList, this, ?_⟩;obtain ⟨h1, h2⟩ := ztq (I := wIm w) (ρ := ρ) (hdec _ this);have := RV.agg (I := wIm w) (ρ := ρ) _ cs.toList h1 h2;simpa [Value.cells] using this
theorem open_int {t : TypeId} {v : Value} {dd : DataW H} {ps : List MemPlace} {ρ : Nat -> Value} (hu : P.underlying t = some (.int .i64)) (hv : Value.okWide P w r b0 t v) (h : DataW.Trod ench P w 0 sp held t v dd ps) : ∃ n, (Lit.int .i64 n).wf = true /\ RV (wIm w) ρ (.int .i64 n) v := by
 obtain ⟨n, rfl⟩ := okWide_int hu hv;obtain ⟨fuel, hf⟩ := h;cases fuel with
 | zero => simp [DataW.trod] at hf
 | succ fuel =>
  unfold DataW.trod at hf;simp only [hu, Value.cells] at hf;split at hf <;> simp_all;exact ⟨_, by assumption, .int _ _⟩
theorem open_sl {t e : TypeId} {d c : Nat} {L : List Nat} {α : Type} {enc : α -> List AV} {dec : List Value -> α} {v : Value} {dd : DataW H} {ps : List MemPlace} {ρ : Nat -> Value} (hu : P.underlying t = some (.slice e)) (hc : P.cellsOf e = c) (h0 : 0 < c) (hE : (eqOk P d e && decide (d <= 10000)) = true) (hL : flat P d e = L) (hLl : L.length = c)
 (hdec : ∀ cs, fits L cs -> enc (dec cs) = cs.map avV) (hv : Value.okWide P w r b0 t v) (h : DataW.Trod ench P w 0 sp held t v dd ps) : ∃ l : List (List Value), (∀ cs ∈ l, fits L cs) /\ l.length <= maxLen /\ RV (wIm w) ρ (.sl enc (l.map dec)) v := by
 simp only [Bool.and_eq_true] at hE;obtain ⟨a, len, cap, rfl⟩ := okWide_slice hu hv;obtain ⟨fuel, hf⟩ := h
 have nilc : ∀ n c, n = 0 -> c = 0 -> RV (wIm w) ρ (.sl enc (([] : List (List Value)).map dec)) (.slice none n c) := fun n c h1 h2 => by
  subst h1; subst h2;exact .sl enc [] none 0 0 0 0 (fun _ _ => .nilIface) (fun h => absurd rfl h) (Nat.le_refl _) (Nat.zero_le _) (fun i x h => by simp at h) (fun i x j h => by simp at h) (fun i x j cell h => by simp at h)
 cases fuel with
 | zero => simp [DataW.trod] at hf
 | succ fuel =>
  unfold DataW.trod at hf;simp only [hu, Value.cells] at hf;split at hf;all_goals try (simp_all; done)
  ·refine ⟨[], by simp, Nat.zero_le _, ?_⟩;rename_i h1 h2 h3;simp at h3;obtain ⟨rfl, rfl, rfl⟩ := h3;exact nilc 0 0 rfl rfl
  ·rename_i e' a' len' cap' h1 h2;simp at h1 h2;obtain ⟨rfl, rfl, rfl⟩ := h2;subst h1;split at hf
   ·rename_i hb;cases hm : (List.range len).mapM (fun i => (w.cells? 0 (a'.add (i * P.cellsOf e)) (P.cellsOf e)).bind (DataW.trod ench P w 0 sp held fuel e)) with
    | none => simp [hm] at hf
    | some xs =>
     have hget : ∀ i, i < len -> ∃ cs, w.cells? 0 (a'.add (i * c)) c = some cs /\ fits L cs := fun i hi => by
      have h3 := mapM_some_get hm i i (by simp [hi]);have hlx : xs.length = len := by simpa using mapM_some_length hm
      rw [List.getElem?_eq_getElem (by omega)] at h3;rw [hc] at h3;cases h4 : w.cells? 0 (a'.add (i * c)) c with
      | none => simp [h4] at h3
      | some cs =>
       simp [h4] at h3;refine ⟨cs, rfl, ?_⟩;rw [← hL];exact zfT d fuel e cs _ hE.1 h3
     let cell : Nat -> List Value := fun i => if h : i < len then (hget i h).choose else []
     have hcell : ∀ i, i < len -> w.cells? 0 (a'.add (i * c)) c = some (cell i) /\ fits L (cell i) := fun i hi => by
      have := (hget i hi).choose_spec;simp only [cell, hi, dif_pos];exact this
     have hlen2 : ((List.range len).map cell).length = len := by simp
     have key := RV.sl (I := wIm w) (ρ := ρ) enc (((List.range len).map cell).map dec) (some a') a'.block a'.off c cap (fun i j => ((cell i)[j]?).getD .nilIface)
      (fun hne => by
       have hlt : 0 < len := by
        rcases Nat.eq_zero_or_pos len with h | h
        ·subst h; simp at hne
        ·exact h
       obtain ⟨h5, h6⟩ := hcell 0 hlt;obtain ⟨_, h7, h8⟩ := World.cells?_some h5;have h9 := h8 0 h0;rw [List.getElem?_eq_getElem (by omega)] at h9;have hsp := World.cell?_spot h9;obtain ⟨B, O, S⟩ := a';simp [Addr.add] at hsp;simp [hsp])
      (by simp; exact hb.2.1) hb.2.2
      (fun i x hx => by
       simp at hx;obtain ⟨i', hx', rfl⟩ := hx
       obtain ⟨hi, rfl⟩ : i < len /\ i' = i := by
        rw [List.getElem?_eq_some_iff] at hx'; obtain ⟨h1, h2⟩ := hx'; simp at h1 h2; exact ⟨h1, h2.symm⟩
       rw [hdec _ (hcell i' hi).2, List.length_map, (hcell i' hi).2.1, hLl])
      (fun i x j hx hj => by
       simp at hx;obtain ⟨i', hx', rfl⟩ := hx
       obtain ⟨hi, rfl⟩ : i < len /\ i' = i := by
        rw [List.getElem?_eq_some_iff] at hx'; obtain ⟨h1, h2⟩ := hx'; simp at h1 h2; exact ⟨h1, h2.symm⟩
       obtain ⟨h5, h6⟩ := hcell i' hi;obtain ⟨_, h7, h8⟩ := World.cells?_some h5;have h9 := h8 j hj;have hlj : j < (cell i').length := by omega
       rw [List.getElem?_eq_getElem hlj] at h9;have hsp := World.cell?_spot h9;simp only [wIm, List.getElem?_eq_getElem hlj, Option.getD_some];rw [← h9];congr 1;obtain ⟨B, O, S⟩ := a';unfold Addr.add;unfold Addr.add at hsp;by_cases e1 : i' * c = 0 <;> by_cases e2 : j = 0 <;> simp [e1, e2] at hsp ⊢ <;> simp_all)
      (fun i x j cl hx hcl => by
       simp at hx;obtain ⟨i', hx', rfl⟩ := hx
       obtain ⟨hi, rfl⟩ : i < len /\ i' = i := by
        rw [List.getElem?_eq_some_iff] at hx'; obtain ⟨h1, h2⟩ := hx'; simp at h1 h2; exact ⟨h1, h2.symm⟩
       have h6 := (hcell i' hi).2;rw [hdec _ h6, List.getElem?_map] at hcl;cases hv : (cell i')[j]? with
       | none => simp [hv] at hcl
       | some u => simp [hv] at hcl; subst hcl; exact zoZ u)
     refine ⟨(List.range len).map cell, fun cs hcs => ?_, by simp; omega, ?_⟩
     ·obtain ⟨i, hi, rfl⟩ := List.mem_map.1 hcs;exact (hcell i (by simpa using hi)).2
     ·simpa using key
   ·simp at hf
end
end Go.Rse
