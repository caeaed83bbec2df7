/-
  Allowed and Apply: one contract for all inputs.
-/
import Derived.Test.YtbilklnipfabpaaGreatDoorEJLvl12
import Derived.Test.YtbilklnipfabpaaGreatDoorEJLvl3
import Derived.Test.YtbilklnipfabpaaGreatDoorEJDurs1
import Derived.Test.YtbilklnipfabpaaGreatDoorEJColor4
set_option linter.unusedSimpArgs false
set_option linter.unusedVariables false
namespace Go.Rse
open Go Go.Proofs
attribute [local irreducible] Pur yD yE Ex X Fn Imp LeV LeB FnO It yJ FnW FnOW
theorem zpN (n d : Int) : 0 <= (tmkT n d).N := by
 unfold tmkT;split
 ·rename_i h;unfold tmkE at h;split at h
  ·cases h
  ·refine Int.ediv_nonneg (by omega) ?_;unfold gI; omega
 ·exact Int.le_refl _
theorem zsL (u : Tm) (l : List Ite) (s : Sgm) : 0 <= (cnV u l s).N := by
 unfold cnV;split
 ·unfold divV;split
  ·split
   ·exact Int.le_refl _
   ·unfold tmsV;split
    ·exact Int.le_refl _
    ·exact zpN _ _
  ·exact Int.le_refl _
 ·exact Int.le_refl _
theorem zfn (m : Mn) (k : Int) (l : List Ite) : ∀ s ∈ segV m k l, 0 <= s.Count.N := by
 unfold segV;split
 ·intro s hs;obtain ⟨t, ht, rfl⟩ := List.mem_map.1 hs;exact zsL _ _ _
 ·intro s hs; cases hs
section
variable {m : Mn} {k : Int} {l : List Ite} {M : List Int}
theorem zwq (h : ¬ segE m k l = 0) : alE m k l M = segE m k l /\ alV m k l M = [] := by
 have : alE m k l M = segE m k l := by unfold alE; rw [if_neg h]
 refine ⟨this, ?_⟩; unfold alV; rw [this, if_neg h]
theorem zus (h : segE m k l = 0) (h2 : (segV m k l).length <= M.length \/ okJ (unT m k) k (segV m k l) l M M.length = false) : alE m k l M = 2 /\ alV m k l M = [] := by
 have : alE m k l M = 2 := by unfold alE; rw [if_pos h, if_pos h2]
 refine ⟨this, ?_⟩; unfold alV; rw [this, if_neg (by decide)]
theorem zwr (h : segE m k l = 0) (h2 : ¬ ((segV m k l).length <= M.length \/ okJ (unT m k) k (segV m k l) l M M.length = false)) : alE m k l M = 0 /\ alV m k l M = alK (unT m k) k (segV m k l) l M M.length := by
 have : alE m k l M = 0 := by unfold alE; rw [if_pos h, if_neg h2]
 refine ⟨this, ?_⟩; unfold alV; rw [if_pos this]
theorem zws (h : ¬ segE m k l = 0) : apE m k l M = segE m k l /\ apV m k l M = [] := by
 have : apE m k l M = segE m k l := by unfold apE; rw [if_neg h]
 refine ⟨this, ?_⟩; unfold apV; rw [this, if_neg h]
theorem zut (h : segE m k l = 0) (h2 : ¬ (segV m k l).length = M.length \/ okJ (unT m k) k (segV m k l) l M M.length = false) : apE m k l M = 2 /\ apV m k l M = [] := by
 have : apE m k l M = 2 := by unfold apE; rw [if_pos h, if_pos h2]
 refine ⟨this, ?_⟩; unfold apV; rw [this, if_neg (by decide)]
theorem zwt (h : segE m k l = 0) (h2 : ¬ (¬ (segV m k l).length = M.length \/ okJ (unT m k) k (segV m k l) l M M.length = false)) : apE m k l M = 0 /\ apV m k l M = (stK (unT m k) (segV m k l) l M M.length).1 := by
 have : apE m k l M = 0 := by unfold apE; rw [if_pos h, if_neg h2]
 refine ⟨this, ?_⟩; unfold apV; rw [if_pos this]
end
theorem zf3 (m : Mn) (k : Int) (l : List Ite) (M : List Int) (h0 : -9223372036854775808 <= k) (h1 : k <= 9223372036854775807) (hl : l.length <= 1000000) (hM : M.length <= 4000000) : Fn Tryz.prog 162 [mnA m, iv k, itsA l, yd M] (.tup [yd (alV m k l M), iv (alE m k l M)]) := by
 by_cases hE : segE m k l = 0
 ·by_cases hX : (segV m k l).length <= M.length
  ·obtain ⟨e1, e2⟩ := zus hE (.inl hX); rw [e1, e2];exact zeH m k l M h0 h1 hl hM hE (by simpa using hX)
  ·by_cases hO : okJ (unT m k) k (segV m k l) l M M.length = false
   ·obtain ⟨e1, e2⟩ := zus hE (.inr hO); rw [e1, e2];exact zeI m k l M h0 h1 hl hM hE (by simp; omega) (hok := hO) (hN := zfn m k l) (hMS := by omega)
   ·obtain ⟨e1, e2⟩ := zwr hE (fun h => h.elim hX hO); rw [e1, e2];exact zeJ m k l M h0 h1 hl hM hE (by simp; omega) (hok := by simpa using hO) (hN := zfn m k l) (hMS := by omega)
 ·obtain ⟨e1, e2⟩ := zwq (M := M) hE; rw [e1, e2];exact zeG m k l M h0 h1 hl hM hE
theorem zca (m : Mn) (k : Int) (l : List Ite) (M : List Int) (h0 : -9223372036854775808 <= k) (h1 : k <= 9223372036854775807) (hl : l.length <= 1000000) (hM : M.length <= 4000000) : Fn Tryz.prog 48 [mnA m, iv k, itsA l, yd M] (.tup [itsA (apV m k l M), iv (apE m k l M)]) := by
 by_cases hE : segE m k l = 0
 ·by_cases hX : (segV m k l).length = M.length
  ·by_cases hO : okJ (unT m k) k (segV m k l) l M M.length = false
   ·obtain ⟨e1, e2⟩ := zut hE (.inr hO); rw [e1, e2];exact zf1 m k l M h0 h1 hl hM hE (by simp; omega) (hok := hO) (hN := zfn m k l) (hMS := by omega)
   ·obtain ⟨e1, e2⟩ := zwt hE (fun h => h.elim (fun g => g hX) hO); rw [e1, e2];exact zf2 m k l M h0 h1 hl hM hE (by simp; omega) (hok := by simpa using hO) (hN := zfn m k l) (hMS := by omega)
  ·obtain ⟨e1, e2⟩ := zut hE (.inl hX); rw [e1, e2];exact zf0 m k l M h0 h1 hl hM hE (by simp; omega)
 ·obtain ⟨e1, e2⟩ := zws (M := M) hE; rw [e1, e2];exact zfZ m k l M h0 h1 hl hM hE
end Go.Rse
namespace Go.Rse
open Go Go.Proofs
def wnL (s : Sgm) : List Int :=
 if s.Free = true then [1, 0] else if s.Count.N % 3 = 0 then [0] else if s.Count.N % 3 = 1 then [1, 2] else if s.Count.N = 2 then [4, 3] else [3, 4]
def chF (s : Sgm) (A : List Int) : Option Int := (wnL s).find? fun c => decide (c ∈ A)
theorem zpO {s : Sgm} {A : List Int} {c : Int} (h : chF s A = some c) : c ∈ A := by
 have := List.find?_some h; simpa using this
theorem zpP (s : Sgm) : ∀ c ∈ wnL s, 0 <= c /\ c <= 4 := by
 intro c h;unfold wnL at h;split at h
 ·simp at h; omega
 ·split at h
  ·simp at h; omega
  ·split at h
   ·simp at h; omega
   ·split at h <;> simp at h <;> omega
theorem zsM {s : Sgm} {A : List Int} {c : Int} (h : chF s A = some c) : 0 <= c /\ c <= 4 := zpP s c (List.mem_of_find?_eq_some h)
def mdJ (u : Tm) (k : Int) (S : List Sgm) (l : List Ite) : Nat -> Option (List Int)
 | 0 => some []
 | n + 1 => match mdJ u k S l n with
  | none => none
  | some M => match chF (S.getD n default) (alK u k S l M n) with
   | none => none
   | some c => some (M ++ [c])
section
variable {u : Tm} {k : Int} {S : List Sgm} {l : List Ite}
theorem znT {n : Nat} {M : List Int} (h : mdJ u k S l n = some M) : mdJ u k S l (n + 1) = match chF (S.getD n default) (alK u k S l M n) with
 | none => none
 | some c => some (M ++ [c]) := by conv => lhs; unfold mdJ
                                   rw [h]
theorem zjL {n : Nat} (h : mdJ u k S l n = none) : ∀ j, mdJ u k S l (n + j) = none
 | 0 => h
 | j + 1 => by
  show mdJ u k S l (n + j + 1) = none;unfold mdJ; rw [zjL h j]
theorem zlw (M M2 : List Int) : ∀ n, n <= M.length -> stK u S l (M ++ M2) n = stK u S l M n
 | 0, _ => rfl
 | n + 1, h => by
  rw [zh7, zh7, zlw M M2 n (by omega)]
  have : (M ++ M2).getD n 0 = M.getD n 0 := by
   rw [List.getD_eq_getElem?_getD, List.getD_eq_getElem?_getD, List.getElem?_append_left (by omega)]
  rw [this]
theorem zgn (M M2 : List Int) {n : Nat} (h : n <= M.length) : alK u k S l (M ++ M2) n = alK u k S l M n := by
 unfold alK; rw [zlw M M2 n h]
theorem zgo (M M2 : List Int) : ∀ n, n <= M.length -> okJ u k S l (M ++ M2) n = okJ u k S l M n
 | 0, _ => rfl
 | n + 1, h => by
  show (okJ u k S l (M ++ M2) n && decide ((M ++ M2).getD n 0 ∈ alK u k S l (M ++ M2) n)) = (okJ u k S l M n && decide (M.getD n 0 ∈ alK u k S l M n));rw [zgo M M2 n (by omega), zgn M M2 (by omega)]
  have : (M ++ M2).getD n 0 = M.getD n 0 := by
   rw [List.getD_eq_getElem?_getD, List.getD_eq_getElem?_getD, List.getElem?_append_left (by omega)]
  rw [this]
theorem zfo : ∀ {n : Nat} {M : List Int}, mdJ u k S l n = some M -> M.length = n /\ okJ u k S l M n = true /\ ∀ c ∈ M, 0 <= c /\ c <= 4
 | 0, M, h => by
  have : M = [] := by simpa [mdJ] using h.symm
  subst this; exact ⟨rfl, rfl, by simp⟩
 | n + 1, M, h => by
  cases hm : mdJ u k S l n with
  | none => unfold mdJ at h; rw [hm] at h; cases h
  | some M1 =>
   rw [znT hm] at h;obtain ⟨i1, i2, i3⟩ := zfo hm;cases hc : chF (S.getD n default) (alK u k S l M1 n) with
   | none => rw [hc] at h; cases h
   | some c =>
    rw [hc] at h;have : M1 ++ [c] = M := by injection h
    subst this;refine ⟨by simp [i1], ?_, ?_⟩
    ·show (okJ u k S l (M1 ++ [c]) n && decide ((M1 ++ [c]).getD n 0 ∈ alK u k S l (M1 ++ [c]) n)) = true;rw [zgo M1 [c] n (by omega), zgn M1 [c] (by omega), i2]
     have : (M1 ++ [c]).getD n 0 = c := by
      rw [List.getD_eq_getElem?_getD, List.getElem?_append_right (by omega), show n - M1.length = 0 by omega]; rfl
     rw [this, Bool.true_and, decide_eq_true_iff];exact zpO hc
    ·intro x hx;rcases List.mem_append.1 hx with hx | hx
     ·exact i3 x hx
     ·simp at hx; subst hx; exact zsM hc
end
def cuO (m : Mn) (k : Int) (l : List Ite) : Option (List Int) := mdJ (unT m k) k (segV m k l) l (segV m k l).length
def cuE (m : Mn) (k : Int) (l : List Ite) : Int := if segE m k l = 0 then (if (cuO m k l).isSome then 0 else 14) else segE m k l
def cuV (m : Mn) (k : Int) (l : List Ite) : List Int := if cuE m k l = 0 then (cuO m k l).getD [] else []
theorem znU {m : Mn} {k : Int} {l : List Ite} (h : cuE m k l = 0) : segE m k l = 0 /\ cuO m k l = some (cuV m k l) := by
 have h' := h;unfold cuE at h;split at h
 ·rename_i h0;refine ⟨h0, ?_⟩;unfold cuV; rw [if_pos h'];cases ho : cuO m k l with
  | none => rw [ho] at h; simp at h
  | some M => rfl
 ·exact absurd h (by assumption)
theorem zh8 {m : Mn} {k : Int} {l : List Ite} (h : cuE m k l = 0) : apE m k l (cuV m k l) = 0 := by
 obtain ⟨h0, h1⟩ := znU h;unfold cuO at h1;obtain ⟨i1, i2, i3⟩ := zfo h1;unfold apE;rw [if_pos h0, if_neg];intro hc;rcases hc with hc | hc
 ·exact hc i1.symm
 ·rw [i1, i2] at hc; cases hc
def lvF (m : Mn) : List Int -> List Ite -> List Int -> List Int × List Ite × Int
 | [], l, C => (C, l, 0)
 | k :: r, l, C => if cuE m k l = 0 then lvF m r (apV m k l (cuV m k l)) (C ++ cuV m k l) else ([], [], cuE m k l)
theorem zjM {m : Mn} {L : List Int} {n : Nat} {k : Int} (h : L[n]? = some k) (l : List Ite) (C : List Int) :
 lvF m (L.drop n) l C = if cuE m k l = 0 then lvF m (L.drop (n + 1)) (apV m k l (cuV m k l)) (C ++ cuV m k l) else ([], [], cuE m k l) := by
 have h1 := List.getElem?_eq_some_iff.1 h;rw [List.drop_eq_getElem_cons h1.1, h1.2]; rfl
def leE (m : Mn) (l : List Ite) : Int := if ckM m = 0 then (if ckIE l = 0 then (lvF m (perfL m) l []).2.2 else ckIE l) else ckM m
def leC (m : Mn) (l : List Ite) : List Int := if leE m l = 0 then (lvF m (perfL m) l []).1 else []
def leI (m : Mn) (l : List Ite) : List Ite := if leE m l = 0 then (lvF m (perfL m) l []).2.1 else []
structure Rdg where
 Dots : List Int
 Minor : List Int
 Choices : List Int
 Durs : List Tm
 deriving DecidableEq
instance : Inhabited Rdg := ⟨⟨[], [], [], []⟩⟩
def rdgE (r : Rdg) : List AV := [yd r.Dots, yd r.Minor, yd r.Choices, tmsA r.Durs]
abbrev rdgA (r : Rdg) : AV := .agg (rdgE r)
end Go.Rse
namespace Go.Rse
open Go Go.Proofs
def muF (m : Mn) (k : Int) (l : List Ite) (n : Nat) : List Int := (mdJ (unT m k) k (segV m k l) l n).getD []
def muI (m : Mn) (k : Int) (l : List Ite) (n : Nat) : Bool := (mdJ (unT m k) k (segV m k l) l n).isSome
section
variable {m : Mn} {k : Int} {l : List Ite} {n : Nat}
theorem zwI : muF m k l 0 = [] := rfl
theorem zuu : muI m k l 0 = true := rfl
theorem zeK (h : muI m k l n = true) : mdJ (unT m k) k (segV m k l) l n = some (muF m k l n) := by
 unfold muI at h;obtain ⟨M, e⟩ := Option.isSome_iff_exists.1 h;unfold muF; rw [e]; rfl
theorem ziX (h : muI m k l n = true) : (muF m k l n).length = n := (zfo (zeK h)).1
theorem zuv (h : muI m k l n = true) : okJ (unT m k) k (segV m k l) l (muF m k l n) (muF m k l n).length = true := by
 rw [ziX h]; exact (zfo (zeK h)).2.1
abbrev akF (m : Mn) (k : Int) (l : List Ite) (n : Nat) : List Int := alK (unT m k) k (segV m k l) l (muF m k l n) (muF m k l n).length
theorem zwu {s : Sgm} {c : Int} (h : muI m k l n = true) (hs : (segV m k l)[n]? = some s) (hc : chF s (akF m k l n) = some c) : muI m k l (n + 1) = true /\ muF m k l n ++ [c] = muF m k l (n + 1) := by
 have h1 := znT (zeK h);unfold akF at hc;rw [ziX h] at hc;rw [show (segV m k l).getD n default = s by rw [List.getD_eq_getElem?_getD, hs]; rfl, hc] at h1;unfold muI; rw [h1];refine ⟨rfl, ?_⟩;conv => rhs; unfold muF
 rw [h1]; rfl
theorem zwv (h : ¬ segE m k l = 0) : cuE m k l = segE m k l /\ cuV m k l = [] := by
 have : cuE m k l = segE m k l := by unfold cuE; rw [if_neg h]
 refine ⟨this, ?_⟩; unfold cuV; rw [this, if_neg h]
theorem zww {s : Sgm} (h0 : segE m k l = 0) (h : muI m k l n = true) (hs : (segV m k l)[n]? = some s) (hc : chF s (akF m k l n) = none) : cuE m k l = 14 /\ cuV m k l = [] := by
 have h1 := znT (zeK h);unfold akF at hc;rw [ziX h] at hc;rw [show (segV m k l).getD n default = s by rw [List.getD_eq_getElem?_getD, hs]; rfl, hc] at h1;have hl := (List.getElem?_eq_some_iff.1 hs).1
 have h2 : cuO m k l = none := by
  unfold cuO;have := zjL h1 ((segV m k l).length - (n + 1))
  rwa [show n + 1 + ((segV m k l).length - (n + 1)) = (segV m k l).length by omega] at this
 have : cuE m k l = 14 := by unfold cuE; rw [if_pos h0, h2]; rfl
 refine ⟨this, ?_⟩; unfold cuV; rw [this]; rfl
theorem zsN (h0 : segE m k l = 0) (h : muI m k l n = true) (hn : n = (segV m k l).length) : cuE m k l = 0 /\ muF m k l n = cuV m k l := by
 have h2 : cuO m k l = some (muF m k l n) := by unfold cuO; rw [← hn]; exact zeK h
 have : cuE m k l = 0 := by unfold cuE; rw [if_pos h0, h2]; rfl
 refine ⟨this, ?_⟩; unfold cuV; rw [this, h2]; rfl
end
theorem zlx (u : Tm) (k : Int) (S : List Sgm) (l : List Ite) (M : List Int) (n : Nat) : (alK u k S l M n).length <= 5 := by
 unfold alK alQ alR;simp only [List.length_append];have h : ∀ (p : Prop) [Decidable p] (x : Int), (if p then [x] else []).length <= 1 := fun p _ x => by split <;> simp
 have a1 := h;refine Nat.le_trans (Nat.add_le_add (Nat.add_le_add (Nat.add_le_add (Nat.add_le_add (h _ _) (h _ _)) (h _ _)) (h _ _)) (h _ _)) (by omega)
end Go.Rse
namespace Go.Rse
open Go Go.Proofs
def lvN (m : Mn) (L : List Int) (l : List Ite) : Nat -> List Int × List Ite
 | 0 => ([], l)
 | n + 1 => ((lvN m L l n).1 ++ cuV m (L.getD n 0) (lvN m L l n).2, apV m (L.getD n 0) (lvN m L l n).2 (cuV m (L.getD n 0) (lvN m L l n).2))
structure LvJ (m : Mn) (L : List Int) (l : List Ite) (n : Nat) : Prop where
 le : n <= L.length
 go : lvF m L l [] = lvF m (L.drop n) (lvN m L l n).2 (lvN m L l n).1
 len : (lvN m L l n).2.length = l.length
 cho : (lvN m L l n).1.length <= n * (2 * l.length + 2)
theorem zrm (m : Mn) (L : List Int) (l : List Ite) : LvJ m L l 0 := ⟨by omega, rfl, rfl, by simp [lvN]⟩
theorem ziY {m : Mn} {k : Int} {l : List Ite} : (cuV m k l).length <= 2 * l.length + 2 := by
 by_cases h : cuE m k l = 0
 ·obtain ⟨h0, h1⟩ := znU h;unfold cuO at h1;have := (zfo h1).1;have := zan m k l;omega
 ·unfold cuV; rw [if_neg h]; simp
theorem zgp {m : Mn} {k : Int} {l : List Ite} {M : List Int} (h : apE m k l M = 0) : (apV m k l M).length = l.length := by
 unfold apV; rw [if_pos h]; exact zbX _ _ _ _ _
theorem zgq {m : Mn} {L : List Int} {l : List Ite} {n : Nat} {k : Int} (hk : L[n]? = some k) : (lvN m L l n).1 ++ cuV m k (lvN m L l n).2 = (lvN m L l (n + 1)).1 /\ apV m k (lvN m L l n).2 (cuV m k (lvN m L l n).2) = (lvN m L l (n + 1)).2 := by
 have e : L.getD n 0 = k := by rw [List.getD_eq_getElem?_getD, hk]; rfl
 show _ = ((lvN m L l n).1 ++ cuV m (L.getD n 0) (lvN m L l n).2) /\ _ = apV m (L.getD n 0) (lvN m L l n).2 (cuV m (L.getD n 0) (lvN m L l n).2);rw [e]; exact ⟨rfl, rfl⟩
theorem LvJ.s {m : Mn} {L : List Int} {l : List Ite} {n : Nat} {k : Int} (h : LvJ m L l n) (hk : L[n]? = some k) (he : cuE m k (lvN m L l n).2 = 0) : LvJ m L l (n + 1) := by
 obtain ⟨e1, e2⟩ := zgq (m := m) (l := l) hk;have hlt := (List.getElem?_eq_some_iff.1 hk).1;refine ⟨by omega, ?_, ?_, ?_⟩
 ·rw [h.go, zjM hk, if_pos he, e1, e2]
 ·rw [← e2, zgp (zh8 he), h.len]
 ·rw [← e1, List.length_append, Nat.add_mul, Nat.one_mul];have := h.cho;have := ziY (m := m) (k := k) (l := (lvN m L l n).2);rw [h.len] at this;omega
section
variable {m : Mn} {l : List Ite} {n : Nat} {k : Int}
theorem zuw (h : ¬ ckM m = 0) : leE m l = ckM m /\ leC m l = [] /\ leI m l = [] := by
 have : leE m l = ckM m := by unfold leE; rw [if_neg h]
 refine ⟨this, ?_, ?_⟩
 ·unfold leC; rw [this, if_neg h]
 ·unfold leI; rw [this, if_neg h]
theorem zux (h : ckM m = 0) (h2 : ¬ ckIE l = 0) : leE m l = ckIE l /\ leC m l = [] /\ leI m l = [] := by
 have : leE m l = ckIE l := by unfold leE; rw [if_pos h, if_neg h2]
 refine ⟨this, ?_, ?_⟩
 ·unfold leC; rw [this, if_neg h2]
 ·unfold leI; rw [this, if_neg h2]
theorem zsO (h : ckM m = 0) (h2 : ckIE l = 0) (hJ : LvJ m (perfL m) l n) (hk : (perfL m)[n]? = some k) (he : ¬ cuE m k (lvN m (perfL m) l n).2 = 0) : leE m l = cuE m k (lvN m (perfL m) l n).2 /\ leC m l = [] /\ leI m l = [] := by
 have : leE m l = cuE m k (lvN m (perfL m) l n).2 := by unfold leE; rw [if_pos h, if_pos h2, hJ.go, zjM hk, if_neg he]
 refine ⟨this, ?_, ?_⟩
 ·unfold leC; rw [this, if_neg he]
 ·unfold leI; rw [this, if_neg he]
theorem zsP (h : ckM m = 0) (h2 : ckIE l = 0) (hJ : LvJ m (perfL m) l n) (hn : n = (perfL m).length) : leE m l = 0 /\ (lvN m (perfL m) l n).1 = leC m l /\ (lvN m (perfL m) l n).2 = leI m l := by
 have e : lvF m (perfL m) l [] = ((lvN m (perfL m) l n).1, (lvN m (perfL m) l n).2, 0) := by rw [hJ.go, hn, List.drop_length]; rfl
 have : leE m l = 0 := by unfold leE; rw [if_pos h, if_pos h2, e]
 refine ⟨this, ?_, ?_⟩
 ·unfold leC; rw [this, if_pos rfl, e]
 ·unfold leI; rw [this, if_pos rfl, e]
theorem zeL (m : Mn) : (perfL m).length <= 4 := by
 unfold perfL; exact List.length_filter_le _ _
theorem zkA (hk : (perfL m)[n]? = some k) : 1 <= k /\ k <= 4 := by
 have h := List.mem_of_getElem? hk;rw [zdG] at h; exact ⟨h.1, h.2.1⟩
end
end Go.Rse
namespace Go.Rse
open Go Go.Proofs
def prodL : List Int -> Int
 | [] => 1
 | x :: r => x * prodL r
theorem zjN {a b : Int} (h : 1 <= a) (h' : 1 <= b) : 1 <= a * b := by
 have := Int.mul_le_mul h h' (by omega) (by omega); simpa using this
theorem zkB {a b : Int} (h : 1 <= a) (h' : 1 <= b) : a <= a * b := by
 have := Int.mul_le_mul_of_nonneg_left h' (show 0 <= a by omega); simpa using this
theorem zfp : ∀ {l : List Int}, (∀ x ∈ l, 1 <= x) -> 1 <= prodL l
 | [], _ => Int.le_refl _
 | x :: r, h => zjN (h x (by simp)) (zfp fun y hy => h y (by simp [hy]))
theorem zeM : ∀ (a b : List Int), prodL (a ++ b) = prodL a * prodL b
 | [], b => by simp [prodL]
 | x :: r, b => by simp only [List.cons_append, prodL, zeM r b, Int.mul_assoc]
theorem zg2 : ∀ n, prodL (twos n) = 2 ^ n
 | 0 => rfl
 | n + 1 => by
  have e : twos (n + 1) = 2 :: twos n := by unfold twos; rfl
  rw [e]; simp only [prodL, zg2 n]; exact zrV n
def cntK : Int -> List Int -> Int
 | n, [] => n
 | n, x :: r => if n * x > 64 then n * x else cntK (n * x) r
theorem znV : ∀ (L : List (List Int)) (n : Int), cntF n L = cntK n (L.map fun x => (x.length : Int))
 | [], n => rfl
 | x :: r, n => by simp only [cntF, List.map_cons, cntK, znV r]
theorem zg3 : ∀ {l : List Int}, (∀ x ∈ l, 1 <= x) -> ∀ {n : Int}, 1 <= n -> n <= 64 -> (64 < cntK n l ↔ 64 < n * prodL l) /\ (cntK n l <= 64 -> cntK n l = n * prodL l)
 | [], _, n, h1, h2 => by simp [cntK, prodL]
 | x :: r, h, n, h1, h2 => by
  have hx := h x (by simp);have hr : ∀ y ∈ r, 1 <= y := fun y hy => h y (by simp [hy])
  have hp := zfp hr;have hnx := zjN h1 hx;have e : n * prodL (x :: r) = n * x * prodL r := by simp only [prodL, Int.mul_assoc]
  rw [e];unfold cntK;by_cases hg : n * x > 64
  ·rw [if_pos hg];have := zkB hnx hp;exact ⟨⟨fun _ => by omega, fun _ => hg⟩, fun h => by omega⟩
  ·rw [if_neg hg];exact zg3 hr hnx (by omega)
def kL (m : Mn) (l : List Sg) : List Int := (mnsD m l).map (fun x => (x.length : Int)) ++ twos (prL m l).length
def ictE (m : Mn) (l : List Sg) : Int := if cntE m l = 0 then (if colE m l = 0 then (if 64 < cntV m l * colN m l then 15 else 0) else colE m l) else cntE m l
def ictV (m : Mn) (l : List Sg) : Int := if ictE m l = 0 then cntV m l * colN m l else 0
theorem znW {m : Mn} {l : List Sg} (hck : ckD m l = 0) : ∀ x ∈ kL m l, 1 <= x := fun x hx => by
 unfold kL at hx;rcases List.mem_append.1 hx with h | h
 ·obtain ⟨y, hy, rfl⟩ := List.mem_map.1 h;have := zer hck hy; omega
 ·unfold twos at h; rw [List.eq_of_mem_replicate h]; decide
theorem zpQ {n : Nat} (h : 6 < n) : 64 < (2 : Int) ^ n := by
 obtain ⟨k, rfl⟩ : ∃ k, n = 7 + k := ⟨n - 7, by omega⟩;have : (1 : Int) <= 2 ^ k := Int.pow_pos (by decide);rw [Int.pow_add];have e : (2 : Int) ^ 7 = 128 := by decide
 rw [e]; omega
theorem zuy {m : Mn} {l : List Sg} (h : ¬ ckD m l = 0) : ictE m l = ckD m l /\ ictV m l = 0 := by
 have e : cntE m l = ckD m l := by unfold cntE; rw [if_neg h]
 have e2 : ictE m l = ckD m l := by unfold ictE; rw [e, if_neg h]
 exact ⟨e2, by unfold ictV; rw [e2, if_neg h]⟩
theorem zpR {m : Mn} {l : List Sg} (h : ckD m l = 0) : ictE m l = (if 64 < cntK 1 (kL m l) then 15 else 0) /\ ictV m l = (if 64 < cntK 1 (kL m l) then 0 else cntK 1 (kL m l)) := by
 have h1 : ∀ x ∈ (mnsD m l).map (fun x => (x.length : Int)), 1 <= x := fun x hx => znW h x (by unfold kL; exact List.mem_append_left _ hx)
 have c1 := zg3 h1 (n := 1) (by omega) (by omega);have c2 := zg3 (znW h) (n := 1) (by omega) (by omega);have p1 := zfp h1;have e : prodL (kL m l) = prodL ((mnsD m l).map (fun x => (x.length : Int))) * 2 ^ (prL m l).length := by unfold kL; rw [zeM, zg2]
 rw [← znV] at c1;rw [e] at c2;simp only [Int.one_mul] at c1 c2;generalize prodL ((mnsD m l).map (fun x => (x.length : Int))) = p at *
 have e1 : cntE m l = if cntF 1 (mnsD m l) > 64 then 15 else 0 := by unfold cntE; rw [if_pos h]
 have e2 : cntV m l = if cntF 1 (mnsD m l) > 64 then 0 else cntF 1 (mnsD m l) := by unfold cntV; rw [if_pos h]
 have e3 : colE m l = if 6 < (prL m l).length then 15 else 0 := by unfold colE; rw [if_pos h]
 have e4 : colN m l = if 6 < (prL m l).length then 0 else 2 ^ (prL m l).length := by unfold colN; rw [if_pos h]
 by_cases g1 : 64 < cntF 1 (mnsD m l)
 ·have hp : 64 < p := c1.1.1 g1;have hq : (1 : Int) <= 2 ^ (prL m l).length := Int.pow_pos (by decide);have := zkB p1 hq;have g2 := c2.1.2 (by omega);have : ictE m l = 15 := by unfold ictE; rw [e1, if_pos g1]; rfl
  exact ⟨by rw [if_pos g2]; exact this, by unfold ictV; rw [if_pos g2, this]; rfl⟩
 ·have hE1 : cntE m l = 0 := by rw [e1, if_neg (by omega)]
  have hV1 : cntV m l = p := by rw [e2, if_neg (by omega)]; exact c1.2 (by omega)
  by_cases g3 : 6 < (prL m l).length
  ·have hb := zpQ g3;have hm : 2 ^ (prL m l).length <= p * 2 ^ (prL m l).length := by rw [Int.mul_comm]; exact zkB (by omega) p1
   have g2 := c2.1.2 (by omega);have : ictE m l = 15 := by unfold ictE; rw [if_pos hE1, e3, if_pos g3]; rfl
   exact ⟨by rw [if_pos g2]; exact this, by unfold ictV; rw [if_pos g2, this]; rfl⟩
  ·have hE2 : colE m l = 0 := by rw [e3, if_neg g3]
   have hV2 : colN m l = 2 ^ (prL m l).length := by rw [e4, if_neg g3]
   have hE : ictE m l = if 64 < p * 2 ^ (prL m l).length then 15 else 0 := by unfold ictE; rw [if_pos hE1, if_pos hE2, hV1, hV2]
   by_cases g2 : 64 < cntK 1 (kL m l)
   ·rw [if_pos g2, if_pos g2];have : ictE m l = 15 := by rw [hE, if_pos (c2.1.1 g2)]
    exact ⟨this, by unfold ictV; rw [this]; rfl⟩
   ·rw [if_neg g2, if_neg g2];have : ictE m l = 0 := by rw [hE, if_neg (fun x => g2 (c2.1.2 x))]
    exact ⟨this, by unfold ictV; rw [if_pos this, hV1, hV2, c2.2 (by omega)]⟩
theorem zg4 {m : Mn} {l : List Sg} (h : ictE m l = 0) : ckD m l = 0 /\ cntE m l = 0 /\ colE m l = 0 /\ (prL m l).length <= 6 /\ colN m l = 2 ^ (prL m l).length /\ ictV m l = cntV m l * colN m l /\ ictV m l <= 64 /\ 1 <= cntV m l := by
 have hck : ckD m l = 0 := by
  apply Classical.byContradiction; intro hn;rw [(zuy hn).1] at h; exact hn h
 have hV : ictV m l = cntV m l * colN m l := by unfold ictV; rw [if_pos h]
 unfold ictE at h;split at h
 ·next a =>
  split at h
  ·next b =>
   split at h
   ·omega
   ·next c =>
    obtain ⟨q1, q2, q3⟩ := zmT b;refine ⟨hck, a, b, q2, q3, hV, by omega, ?_⟩;have e2 : cntV m l = if cntF 1 (mnsD m l) > 64 then 0 else cntF 1 (mnsD m l) := by unfold cntV; rw [if_pos hck]
    have hp := zgI (L := mnsD m l) (n := 1) (fun x hx => zer hck hx) (by omega) (by omega);unfold cntE at a; rw [if_pos hck] at a;split at a
    ·omega
    ·next d => rw [e2, if_neg d]; exact hp
  ·next b => exact absurd h b
 ·next a => exact absurd h a
def dgL : Int -> List Int -> List Int × Int
 | n, [] => ([], n)
 | n, b :: r => ((dgL n r).2 % b :: (dgL n r).1, (dgL n r).2 / b)
theorem znX : ∀ {l : List Int} {n : Int}, 0 <= n -> (∀ x ∈ l, 1 <= x) -> 0 <= (dgL n l).2 /\ (dgL n l).2 <= n
 | [], n, h, _ => ⟨h, Int.le_refl _⟩
 | b :: r, n, h, hl => by
  obtain ⟨a, c⟩ := znX (l := r) h (fun y hy => hl y (by simp [hy]));have hb := hl b (by simp);exact ⟨Int.ediv_nonneg a (by omega), Int.le_trans (Int.ediv_le_self _ a) c⟩
theorem zly : ∀ (l : List Int) (n : Int), (dgL n l).1.length = l.length
 | [], n => rfl
 | b :: r, n => by simp [dgL, zly r n]
def iofE (m : Mn) (l : List Sg) (n : Int) : Int := if ictE m l = 0 then (if n < 0 \/ ictV m l <= n then 2 else 0) else ictE m l
def iofD (m : Mn) (l : List Sg) (n : Int) : List Int := if iofE m l n = 0 then ofD (mnsD m l) (n / 2 ^ (prL m l).length) else []
def iofM (m : Mn) (l : List Sg) (n : Int) : List Int := if iofE m l n = 0 then digP n (prL m l).length (prL m l).length else []
theorem zrn {m : Mn} {l : List Sg} {n : Int} (h : iofE m l n = 0) : ictE m l = 0 /\ 0 <= n /\ n < ictV m l := by
 unfold iofE at h;split at h
 ·next a =>
  split at h
  ·omega
  ·next b => exact ⟨a, by omega, by omega⟩
 ·next a => exact absurd h a
theorem znY {m : Mn} {l : List Sg} {n : Int} (h : ¬ iofE m l n = 0) : iofD m l n = [] := by unfold iofD; rw [if_neg h]
theorem znZ {m : Mn} {l : List Sg} {n : Int} (h : ¬ iofE m l n = 0) : iofM m l n = [] := by unfold iofM; rw [if_neg h]
theorem zpS : ∀ n : Fin 64, ∀ K : Fin 7, ∀ j : Fin 7, j.val < K.val -> ((n.val : Int) % 2 ^ K.val) / 2 ^ (K.val - 1 - j.val) % 2 = (n.val : Int) / 2 ^ (K.val - 1 - j.val) % 2 := by decide +kernel
theorem zpT {n : Int} {K : Nat} (h0 : 0 <= n) (h1 : n < 64) (hK : K <= 6) : digP (n % 2 ^ K) K K = digP n K K := by
 unfold digP;refine List.map_congr_left fun j hj => ?_
 have hj := List.mem_range.1 hj;unfold dig;have := zpS ⟨n.toNat, by omega⟩ ⟨K, by omega⟩ ⟨j, by omega⟩ hj;simp only at this;rw [show ((n.toNat : Nat) : Int) = n by omega] at this;rw [this]
theorem zn0 {m : Mn} {l : List Sg} {n : Int} (h : iofE m l n = 0) :
 ofE m l (n / colN m l % cntV m l) = 0 /\ ofL m l (n / colN m l % cntV m l) = iofD m l n /\ cfE m l (n % colN m l) = 0 /\ cfV m l (n % colN m l) = iofM m l n := by
 obtain ⟨hE, h0, h1⟩ := zrn h;obtain ⟨hck, a, b, q2, q3, hV, h64, hc⟩ := zg4 hE;have hb := zch q2;rw [← q3] at hb;have hq0 : 0 <= n / colN m l := Int.ediv_nonneg h0 (by omega);have hq1 : n / colN m l < cntV m l := Int.ediv_lt_of_lt_mul (by omega) (by rw [← hV]; exact h1);have hr0 : 0 <= n % colN m l := Int.emod_nonneg _ (by omega);have hr1 : n % colN m l < colN m l := Int.emod_lt_of_pos _ (by omega);have e0 : n / colN m l % cntV m l = n / colN m l := Int.emod_eq_of_lt hq0 hq1;rw [e0];have e1 : ofE m l (n / colN m l) = 0 := by unfold ofE; rw [if_pos a, if_neg (by omega)]
 have e2 : cfE m l (n % colN m l) = 0 := by unfold cfE; rw [if_pos b, if_neg (by omega)]
 refine ⟨e1, ?_, e2, ?_⟩
 ·unfold ofL iofD; rw [if_pos e1, if_pos h, q3]
 ·unfold cfV iofM; rw [if_pos b, if_neg (by omega), if_pos h, q3]; exact zpT h0 (by omega) q2
section
variable {m : Mn} {l : List Sg}
end
end Go.Rse
