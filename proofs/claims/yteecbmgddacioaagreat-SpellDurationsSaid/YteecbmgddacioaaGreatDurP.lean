/-
  Plain: the durations of the eight values under the sixteen mensurations, by going through all.
-/
import Derived.Test.YteecbmgddacioaaGreatColor1
namespace Go.Rse
open Go Go.Proofs
set_option linter.unusedVariables false
set_option linter.unusedSimpArgs false
def ckAll (f : Mn → Int → Bool) : Bool := ([2, 3] : List Int).all fun a => ([2, 3] : List Int).all fun b => ([2, 3] : List Int).all fun c => ([2, 3] : List Int).all fun e => ([1, 2, 3, 4, 5, 6, 7, 8] : List Int).all fun v => f ⟨a, b, c, e⟩ v
theorem ckAll_use {f : Mn → Int → Bool} (h : ckAll f = true) {m : Mn} {v : Int} (hm : ckM m = 0) (h1 : 1 ≤ v) (h8 : v ≤ 8) : f m v = true := by
  have ho : m.Ok := by
    unfold ckM at hm; split at hm
    · assumption
    · simp at hm
  obtain ⟨a, b, c, e⟩ := m
  have hv : v ∈ ([1, 2, 3, 4, 5, 6, 7, 8] : List Int) := by simp; omega
  have h2 : ∀ x : Int, two3 x → x ∈ ([2, 3] : List Int) := fun x hx => by simpa [two3] using hx
  unfold ckAll at h
  exact List.all_eq_true.1 (List.all_eq_true.1 (List.all_eq_true.1 (List.all_eq_true.1 (List.all_eq_true.1 h a (h2 _ ho.1)) b (h2 _ ho.2.1)) c (h2 _ ho.2.2.1)) e (h2 _ ho.2.2.2)) v hv
def durOk (m : Mn) (v : Int) : Bool :=
  decide (mulV (fullT m v) ⟨2, 3⟩ = tmkT ((fullT m v).N * 2) ((fullT m v).D * 3)) && decide (mulV (durT m v) ⟨2, 1⟩ = tmkT ((durT m v).N * 2) ((durT m v).D * 1)) &&
  decide (ckT (fullT m v) = 0) && decide (ckT (durT m v) = 0) && decide ((fullT m v).N ≤ 81) && decide ((fullT m v).D ≤ 8) && decide ((durT m v).N ≤ 81) && decide ((durT m v).D ≤ 24) && decide (1 ≤ (fullT m v).N) && decide (1 ≤ (durT m v).N)
theorem durOk_all : ckAll durOk = true := by kernel_rfl
theorem dur_facts {m : Mn} {v : Int} (hm : ckM m = 0) (h1 : 1 ≤ v) (h8 : v ≤ 8) : mulV (fullT m v) ⟨2, 3⟩ = tmkT ((fullT m v).N * 2) ((fullT m v).D * 3) ∧ mulV (durT m v) ⟨2, 1⟩ = tmkT ((durT m v).N * 2) ((durT m v).D * 1) ∧
    ckT (fullT m v) = 0 ∧ ckT (durT m v) = 0 ∧ (fullT m v).N ≤ 81 ∧ (fullT m v).D ≤ 8 ∧ (durT m v).N ≤ 81 ∧ (durT m v).D ≤ 24 ∧ 1 ≤ (fullT m v).N ∧ 1 ≤ (durT m v).N := by
  have h := ckAll_use durOk_all hm h1 h8
  unfold durOk at h
  simp only [Bool.and_eq_true, decide_eq_true_eq] at h
  obtain ⟨⟨⟨⟨⟨⟨⟨⟨⟨a, b⟩, c⟩, d⟩, e⟩, f⟩, g⟩, i⟩, j⟩, k⟩ := h
  exact ⟨a, b, c, d, e, f, g, i, j, k⟩
theorem perfL_pl (m : Mn) (hm : ckM m = 0) : ((perfL m).length : Int) = 0 ↔ m.pl = true := by
  have h : ∀ v : Int, 1 ≤ v → m.p v = 2 ∨ m.p v = 3 := ckM_two hm
  have a := h 1 (by omega); have b := h 2 (by omega); have c := h 3 (by omega); have e := h 4 (by omega)
  have e1 : m.p 1 = m.Max := rfl
  have e2 : m.p 2 = m.Mod := rfl
  have e3 : m.p 3 = m.Tem := rfl
  have e4 : m.p 4 = m.Pro := rfl
  unfold perfL Mn.pl
  rw [e1] at a; rw [e2] at b; rw [e3] at c; rw [e4] at e
  simp only [List.filter_cons, e1, e2, e3, e4, List.filter_nil]
  rcases a with a | a <;> rcases b with b | b <;> rcases c with c | c <;> rcases e with e | e <;> simp [a, b, c, e]
end Go.Rse
