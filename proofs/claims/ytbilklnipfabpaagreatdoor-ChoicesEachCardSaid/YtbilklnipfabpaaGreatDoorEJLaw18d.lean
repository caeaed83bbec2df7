/-
  Walks: a copy of a reading whose lists are rows of one's own.
-/
import Derived.Test.YtbilklnipfabpaaGreatDoorEJLaw18a
import Derived.Test.YtbilklnipfabpaaGreatDoorECho2
import Derived.Test.YtbilklnipfabpaaGreatDoorEJRl0
set_option linter.unusedSimpArgs false
set_option linter.unusedVariables false
namespace Go.Rse
open Go Go.Proofs
attribute [local irreducible] Pur yD yE Ex X Fn Imp LeV LeB FnO It yJ FnW FnOW FnP FnD
theorem zb8 (r : Rdg) (h1 : r.Dots.length <= 1000000) (h2 : r.Minor.length <= 1000000) (h3 : r.Choices.length <= 1000000) (h4 : r.Durs.length <= 1000000) : FnO Tryz.prog 18 [rdgA r] [] [] (.agg [.own 31, .own 32, .own 33, .own 34]) [(2, .box [.own 31, .own 32, .own 33, .own 34] 35), (31, .row intE r.Dots 3 1), (32, .row intE r.Minor 3 1), (33, .row intE r.Choices 3 1), (34, .row tmE r.Durs 46 2)] := by
 refine FnO.intro (ts := [(0, rdgA r)]) (rv := [.cell 2 35]) (n := 16) (cs := []) (by kernel_rfl) Tryz.func18 rfl Tryz.ntmps18 rfl rfl (by simp) rfl rfl rfl rfl (fun g w d vs => ?_);apply yb;refine yH ?_;refine yG ?_;apply Ex.nil;apply ye;refine X.drawQ [⟨0, 3, .ptr 1 0 0 (0 + 0), []⟩, ⟨1, 4, yd r.Dots, [0]⟩, ⟨3, 6, .ptr 1 0 0 (0 + 1), []⟩, ⟨4, 7, yd r.Minor, [3]⟩, ⟨6, 9, .ptr 1 0 0 (0 + 2), []⟩, ⟨7, 10, yd r.Choices, [6]⟩, ⟨9, 12, .ptr 1 0 0 (0 + 3), []⟩, ⟨10, 13, tmsA r.Durs, [9]⟩] [(2, [0, 1]), (5, [0, 1, 3, 2, 4]), (8, [0, 1, 3, 2, 4, 6, 5, 7]), (11, [0, 1, 3, 2, 4, 6, 5, 7, 9, 8, 10]), (12, [9, 6, 3, 0, 10, 7, 4, 1, 11, 8, 5, 2]), (13, [10, 9, 8, 7, 6, 5, 4, 3, 2, 1, 0, 11, 12])] (fun j => match j with | 0 => ⟨[(0, rdgA r), (1, .ptr 1 0 0 0), (2, .ptr 2 0 0 0)], [(1000001, .hold vs []), (1, .box (rdgE r) 35), (2, .box [.nils, .nils, .nils, .nils] 35)]⟩ | 1 => ⟨[(0, rdgA r), (1, .ptr 1 0 0 0), (2, .ptr 2 0 0 0), (5, .own 31)], [(1000001, .hold vs []), (1, .box (rdgE r) 35), (2, .box [.nils, .nils, .nils, .nils] 35), (31, .row intE r.Dots 3 1)]⟩ | 2 => ⟨[(0, rdgA r), (1, .ptr 1 0 0 0), (2, .ptr 2 0 0 0), (5, .own 31), (8, .own 32)], [(1000001, .hold vs []), (1, .box (rdgE r) 35), (2, .box [.nils, .nils, .nils, .nils] 35), (31, .row intE r.Dots 3 1), (32, .row intE r.Minor 3 1)]⟩ | 3 => ⟨[(0, rdgA r), (1, .ptr 1 0 0 0), (2, .ptr 2 0 0 0), (5, .own 31), (8, .own 32), (11, .own 33)], [(1000001, .hold vs []), (1, .box (rdgE r) 35), (2, .box [.nils, .nils, .nils, .nils] 35), (31, .row intE r.Dots 3 1), (32, .row intE r.Minor 3 1), (33, .row intE r.Choices 3 1)]⟩ | 4 => ⟨[(0, rdgA r), (1, .ptr 1 0 0 0), (2, .ptr 2 0 0 0), (5, .own 31), (8, .own 32), (11, .own 33), (14, .own 34)], [(1000001, .hold vs []), (1, .box (rdgE r) 35), (2, .box [.nils, .nils, .nils, .nils] 35), (31, .row intE r.Dots 3 1), (32, .row intE r.Minor 3 1), (33, .row intE r.Choices 3 1), (34, .row tmE r.Durs 46 2)]⟩ | 5 => ⟨[(0, rdgA r), (1, .ptr 1 0 0 0), (2, .ptr 2 0 0 0), (15, .agg [.own 31, .own 32, .own 33, .own 34])], [(1000001, .hold vs []), (1, .box (rdgE r) 35), (2, .box [.nils, .nils, .nils, .nils] 35), (31, .row intE r.Dots 3 1), (32, .row intE r.Minor 3 1), (33, .row intE r.Choices 3 1), (34, .row tmE r.Durs 46 2)]⟩ | _ => ⟨[(0, rdgA r), (1, .ptr 1 0 0 0), (2, .ptr 2 0 0 0)], [(1000001, .hold vs []), (1, .box (rdgE r) 35), (2, .box [.own 31, .own 32, .own 33, .own 34] 35), (31, .row intE r.Dots 3 1), (32, .row intE r.Minor 3 1), (33, .row intE r.Choices 3 1), (34, .row tmE r.Durs 46 2)]⟩) mo (by kernel_rfl) (z6 (yi)) (fun j hj => ?_) (fun j c hc β hβ => ?_) ?_
 ·rcases j with _ | _ | _ | _ | _ | _ | _ | j
  ·exact yM
  ·exact yM
  ·exact yM
  ·exact yM
  ·exact yM
  ·exact yM
  ·exact yM
  ·exact absurd (show j + 7 <= 6 from hj) (by omega)
 ·rcases j with _ | _ | _ | _ | _ | _ | j
  ·obtain rfl : (2, [0, 1]) = c := by injection hc
   refine yn rfl (yz (st0 := ⟨[(3, .ptr 1 0 0 (0 + 0)), (4, yd r.Dots), (6, .ifb (β 3) (.ptr 1 0 0 (0 + 1))), (7, .ifb (β 4) (yd r.Minor)), (9, .ifb (β 6) (.ptr 1 0 0 (0 + 2))), (10, .ifb (β 7) (yd r.Choices)), (12, .ifb (β 9) (.ptr 1 0 0 (0 + 3))), (13, .ifb (β 10) (tmsA r.Durs)), (0, rdgA r), (1, .ptr 1 0 0 0), (2, .ptr 2 0 0 0)], [(1000001, .hold vs []), (1, .box (rdgE r) 35), (2, .box [.nils, .nils, .nils, .nils] 35)]⟩) (yy) ?_);refine yE.imp (zka [(3, 31)] (zac r.Dots h1)) (yy)
  ·obtain rfl : (5, [0, 1, 3, 2, 4]) = c := by injection hc
   refine yn rfl (yz (st0 := ⟨[(3, .ptr 1 0 0 (0 + 0)), (4, yd r.Dots), (6, .ptr 1 0 0 (0 + 1)), (7, yd r.Minor), (9, .ifb (β 6) (.ptr 1 0 0 (0 + 2))), (10, .ifb (β 7) (yd r.Choices)), (12, .ifb (β 9) (.ptr 1 0 0 (0 + 3))), (13, .ifb (β 10) (tmsA r.Durs)), (0, rdgA r), (1, .ptr 1 0 0 0), (2, .ptr 2 0 0 0), (5, .own 31)], [(1000001, .hold vs []), (1, .box (rdgE r) 35), (2, .box [.nils, .nils, .nils, .nils] 35), (31, .row intE r.Dots 3 1)]⟩) (yy) ?_);refine yE.imp (zka [(3, 32)] (zac r.Minor h2)) (yy)
  ·obtain rfl : (8, [0, 1, 3, 2, 4, 6, 5, 7]) = c := by injection hc
   refine yn rfl (yz (st0 := ⟨[(3, .ptr 1 0 0 (0 + 0)), (4, yd r.Dots), (6, .ptr 1 0 0 (0 + 1)), (7, yd r.Minor), (9, .ptr 1 0 0 (0 + 2)), (10, yd r.Choices), (12, .ifb (β 9) (.ptr 1 0 0 (0 + 3))), (13, .ifb (β 10) (tmsA r.Durs)), (0, rdgA r), (1, .ptr 1 0 0 0), (2, .ptr 2 0 0 0), (5, .own 31), (8, .own 32)], [(1000001, .hold vs []), (1, .box (rdgE r) 35), (2, .box [.nils, .nils, .nils, .nils] 35), (31, .row intE r.Dots 3 1), (32, .row intE r.Minor 3 1)]⟩) (yy) ?_);refine yE.imp (zka [(3, 33)] (zac r.Choices h3)) (yy)
  ·obtain rfl : (11, [0, 1, 3, 2, 4, 6, 5, 7, 9, 8, 10]) = c := by injection hc
   refine yn rfl (yz (st0 := ⟨[(3, .ptr 1 0 0 (0 + 0)), (4, yd r.Dots), (6, .ptr 1 0 0 (0 + 1)), (7, yd r.Minor), (9, .ptr 1 0 0 (0 + 2)), (10, yd r.Choices), (12, .ptr 1 0 0 (0 + 3)), (13, tmsA r.Durs), (0, rdgA r), (1, .ptr 1 0 0 0), (2, .ptr 2 0 0 0), (5, .own 31), (8, .own 32), (11, .own 33)], [(1000001, .hold vs []), (1, .box (rdgE r) 35), (2, .box [.nils, .nils, .nils, .nils] 35), (31, .row intE r.Dots 3 1), (32, .row intE r.Minor 3 1), (33, .row intE r.Choices 3 1)]⟩) (yy) ?_);refine yE.imp (zka [(3, 34)] (zcB r.Durs h4)) (yy)
  ·obtain rfl : (12, [9, 6, 3, 0, 10, 7, 4, 1, 11, 8, 5, 2]) = c := by injection hc
   refine yn rfl (yz (st0 := ⟨[(3, .ptr 1 0 0 (0 + 0)), (4, yd r.Dots), (6, .ptr 1 0 0 (0 + 1)), (7, yd r.Minor), (9, .ptr 1 0 0 (0 + 2)), (10, yd r.Choices), (12, .ptr 1 0 0 (0 + 3)), (13, tmsA r.Durs), (0, rdgA r), (1, .ptr 1 0 0 0), (2, .ptr 2 0 0 0), (5, .own 31), (8, .own 32), (11, .own 33), (14, .own 34)], [(1000001, .hold vs []), (1, .box (rdgE r) 35), (2, .box [.nils, .nils, .nils, .nils] 35), (31, .row intE r.Dots 3 1), (32, .row intE r.Minor 3 1), (33, .row intE r.Choices 3 1), (34, .row tmE r.Durs 46 2)]⟩) (yy) ?_);refine yE.imp (yw (Pur.stepA yP) rfl rfl) (yy)
  ·obtain rfl : (13, [10, 9, 8, 7, 6, 5, 4, 3, 2, 1, 0, 11, 12]) = c := by injection hc
   refine yn rfl (yz (st0 := ⟨[(3, .ptr 1 0 0 (0 + 0)), (4, yd r.Dots), (6, .ptr 1 0 0 (0 + 1)), (7, yd r.Minor), (9, .ptr 1 0 0 (0 + 2)), (10, yd r.Choices), (12, .ptr 1 0 0 (0 + 3)), (13, tmsA r.Durs), (0, rdgA r), (1, .ptr 1 0 0 0), (2, .ptr 2 0 0 0), (15, .agg [.own 31, .own 32, .own 33, .own 34])], [(1000001, .hold vs []), (1, .box (rdgE r) 35), (2, .box [.nils, .nils, .nils, .nils] 35), (31, .row intE r.Dots 3 1), (32, .row intE r.Minor 3 1), (33, .row intE r.Choices 3 1), (34, .row tmE r.Durs 46 2)]⟩) (yy) ?_);refine yE.imp (zfM rfl rfl rfl rfl TyK.h rfl (leB rfl)) (yy)
  ·exact absurd hc (by simp)
 refine X.ret ?_;refine zlV.mk (ts := [(2, .ptr 2 0 0 0)]) (.inr rfl) (yi) (.one (.cellA rfl rfl rfl rfl ty35 (LeV.eq rfl)))
end Go.Rse
namespace Go.Rse
open Go Go.Proofs
attribute [local irreducible] Pur yD yE Ex X Fn Imp LeV LeB FnO It yJ FnW FnOW FnP FnD
def spQ (k : Int) : Int := ([1, 1, 1, 2, 2, 3, 4, 6, 8] : List Int).getD (k % 216 % 9).toNat 0
def spN (k : Int) : Tm := ⟨(1 + k % 216 / 9) / gI (1 + k % 216 / 9) (spQ k), spQ k / gI (1 + k % 216 / 9) (spQ k)⟩
theorem zsy (k : Int) : ([1, 1, 1, 2, 2, 3, 4, 6, 8] : List Int)[(k % 216 % 9).toNat]? = some (spQ k) /\ 1 <= spQ k /\ spQ k <= 8 := by
 unfold spQ;have h9 : (k % 216 % 9).toNat = 0 \/ (k % 216 % 9).toNat = 1 \/ (k % 216 % 9).toNat = 2 \/ (k % 216 % 9).toNat = 3 \/ (k % 216 % 9).toNat = 4 \/ (k % 216 % 9).toNat = 5 \/ (k % 216 % 9).toNat = 6 \/ (k % 216 % 9).toNat = 7 \/ (k % 216 % 9).toNat = 8 := by omega
 rcases h9 with h | h | h | h | h | h | h | h | h <;> rw [h] <;> decide
theorem zfl (n : Int) (hn : -9223372036854775808 <= n /\ n <= 9223372036854775807) : Fn Tryz.prog 19 [iv n] (tmA (spN n)) := by
 obtain ⟨hq, q1, q8⟩ := zsy n;refine Fn.go Tryz.func19 Tryz.ntmps19 (fun g w d => ?_);apply yb;refine yG ?_;apply yk;refine yS intE [1, 1, 1, 2, 2, 3, 4, 6, 8] ?_;refine ya ?_;apply yk;refine ya ?_;refine yp (zp n 216 hn (by omega)) ?_;refine ya ?_;apply yk;iterate 6 refine ya ?_
 refine Ex.imp (Imp.freeze (k := 5) rfl) ?_;iterate 2 refine ya ?_
 refine yp (zhI (1 + n % 216 / 9) (spQ n) (by omega) (by omega)) ?_;refine yj ?_;apply Ex.nil;refine X.ret ?_;refine RetQ.ret (.one (.cellA rfl rfl rfl rfl ty46 (LeV.eq ?_)));all_goals (rfl)
theorem zlk {u : Tm} {k : Int} {S : List Sgm} {l : List Ite} {M : List Int} : ∀ n, okJ u k S l M n = true -> ∀ i, i < n -> 0 <= M.getD i 0 /\ M.getD i 0 <= 4
 | 0, _, i, hi => absurd hi (by omega)
 | n + 1, h, i, hi => by
  have h : (okJ u k S l M n && decide (M.getD n 0 ∈ alK u k S l M n)) = true := h;simp only [Bool.and_eq_true, decide_eq_true_eq] at h;rcases Nat.lt_or_eq_of_le (Nat.lt_succ_iff.1 hi) with h1 | h1
  ·exact zlk n h.1 i h1
  ·have h2 := h.2;unfold alK alQ at h2;rw [h1];rcases zbq h2 with ⟨e, _⟩ | ⟨e, _⟩ | ⟨e, _⟩ | ⟨e, _⟩ | ⟨e, _⟩ <;> rw [e] <;> decide
theorem zpC {m : Mn} {k : Int} {l : List Ite} {M : List Int} (h : apE m k l M = 0) : ∀ c ∈ M, 0 <= c /\ c <= 4 := fun c hc => by
 obtain ⟨h1, h2, h3⟩ := zh4 h;obtain ⟨i, hi⟩ := List.mem_iff_getElem?.1 hc;have hlt := (List.getElem?_eq_some_iff.1 hi).1;have := zlk _ h3 i hlt
 rwa [List.getD_eq_getElem?_getD, hi] at this
theorem zll {m : Mn} : ∀ (L : List Int) (I : List Ite) (C : List Int) (J : List Ite), gLv m L I C J -> ∀ c ∈ C, 0 <= c /\ c <= 4
 | [], I, C, J, h => by rw [h.1]; simp
 | k :: r, I, C, J, h => fun c hc => by
  obtain ⟨M, C', rfl, h1, h2⟩ := h;rcases List.mem_append.1 hc with hc | hc
  ·exact zpC h1 c hc
  ·exact zll r _ C' J h2 c hc
theorem zsz {m : Mn} {l : List Sg} (h : aqE m l = 0) {r : Rdg} (hr : r ∈ aqV m l) : ∀ c ∈ r.Choices, 0 <= c /\ c <= 4 := by
 obtain ⟨n, -, C, J, hg, rfl⟩ := (ziy h).1 hr;exact zll _ _ _ _ hg
end Go.Rse
namespace Go.Rse
open Go Go.Proofs
def DfP (p q : Par) : Prop := ¬ (p.made = q.made /\ p.now = q.now)
theorem zsA (p a t : Bool) (s : Sgm) : (alR p a t s).Pairwise (· ≠ ·) := by
 unfold alR
 repeat' (split)
 all_goals simp
theorem zsB (m : Mn) (k : Int) (l : List Ite) (M : List Int) : (alV m k l M).Pairwise (· ≠ ·) := by
 unfold alV; split
 ·unfold alK alQ; exact zsA _ _ _ _
 ·exact .nil
section
variable {m : Mn} {k : Int}
theorem zsC (p : Par) : (br1 m k p).Pairwise DfP := by
 unfold br1;rw [List.pairwise_map];refine (zsB m k p.items p.now).imp ?_
 rintro a b hab ⟨-, h⟩
 have h : p.now ++ [a] = p.now ++ [b] := h;have := List.append_cancel_left h;simp at this; exact hab this
theorem zsD {l : List Par} (h : l.Pairwise DfP) : (brF m k l).Pairwise DfP := by
 unfold brF;rw [List.pairwise_flatMap];refine ⟨fun p _ => zsC p, h.imp ?_⟩;intro p q hpq x hx y hy hxy;unfold br1 at hx hy;obtain ⟨c, _, rfl⟩ := List.mem_map.1 hx;obtain ⟨d, _, rfl⟩ := List.mem_map.1 hy;obtain ⟨h1, h2⟩ := hxy;have h2 : p.now ++ [c] = q.now ++ [d] := h2;exact hpq ⟨h1, (List.append_inj' h2 rfl).1⟩
theorem znI {l : List Par} (h : l.Pairwise DfP) : ∀ n, (brN m k l n).Pairwise DfP
 | 0 => List.Pairwise.filter _ h
 | n + 1 => zsD (znI h n)
theorem zlm {l : List Par} (h : ∀ p ∈ l, p.now = []) : ∀ n, ∀ p ∈ brN m k l n, p.now.length = n
 | 0, p, hp => by rw [h p (List.mem_filter.1 hp).1]; rfl
 | n + 1, p, hp => by
  have hp : p ∈ brF m k (brN m k l n) := hp;unfold brF at hp;obtain ⟨q, hq, hp⟩ := List.mem_flatMap.1 hp;unfold br1 at hp;obtain ⟨c, _, rfl⟩ := List.mem_map.1 hp;show (q.now ++ [c]).length = _;rw [List.length_append, zlm h n q hq]; rfl
theorem zsE {l : List Par} (h0 : alvE m k l = 0) (hn : ∀ p ∈ l, p.now = []) (h : l.Pairwise fun p q => p.made ≠ q.made) : (alvV m k l).Pairwise fun p q => p.made ≠ q.made := by
 rw [zmH h0, List.pairwise_map];have hnd := znI (m := m) (k := k) (h.imp (S := DfP) fun hpq e => hpq e.1) (cgN m k l).toNat;have hl := zlm (m := m) (k := k) hn (cgN m k l).toNat;refine hnd.imp_of_mem ?_;intro p q hp hq hpq e;have e : p.made ++ p.now = q.made ++ q.now := e;obtain ⟨e1, e2⟩ := List.append_inj' e (by rw [hl p hp, hl q hq]);exact hpq ⟨e1, e2⟩
theorem zpD {l : List Par} : ∀ p ∈ alvV m k l, p.now = [] := by
 intro p hp;unfold alvV at hp;split at hp
 ·obtain ⟨q, _, rfl⟩ := List.mem_map.1 hp; rfl
 ·simp at hp
end
theorem znJ {m : Mn} : ∀ (L : List Int) (l : List Par), (∀ p ∈ l, p.now = []) -> (l.Pairwise fun p q => p.made ≠ q.made) -> (cmL m L l).1.Pairwise fun p q => p.made ≠ q.made
 | [], l, _, h => h
 | k :: r, l, hn, h => by
  simp only [cmL];split
  ·rename_i h0;exact znJ r _ zpD (zsE h0 hn h)
  ·exact .nil
section
variable {m : Mn} {l : List Sg}
theorem zsF (n : Int) : (cmV m l n).Pairwise (· ≠ ·) := by
 unfold cmV; split
 ·rw [List.pairwise_map];refine (znJ (perfL m) [⟨cmI m l n, [], []⟩] (by simp) (by simp)).imp ?_;intro p q h e;exact h (congrArg Rdg.Choices e)
 ·exact .nil
theorem znK {n : Int} {r : Rdg} (h : r ∈ cmV m l n) : r.Dots = iofD m l n /\ r.Minor = iofM m l n := by
 unfold cmV at h; split at h
 ·obtain ⟨p, _, rfl⟩ := List.mem_map.1 h; exact ⟨rfl, rfl⟩
 ·simp at h
theorem zpE (hM : ckM m = 0) (hck : ckD m l = 0) (h : ictE m l = 0) {i j : Nat} (hi : (i : Int) < ictV m l) (hj : (j : Int) < ictV m l) (e1 : iofD m l i = iofD m l j) (e2 : iofM m l i = iofM m l j) : i = j := by
 have g1 := zlb (zfj h hi);have g2 := zlb (zfj h hj);have : ofG (rP m l) i = ofG (rP m l) j := by rw [← g1, ← g2]; unfold cmb; rw [e1, e2]
 have := zgh (ziM hM hck) (n := (i : Int)) (k := (j : Int)) (by omega) (by rw [← zfi h]; exact hi) (by omega) (by rw [← zfi h]; exact hj) this;omega
theorem znL (hM : ckM m = 0) (hck : ckD m l = 0) (h : ictE m l = 0) : ∀ N : Nat, (N : Int) <= ictV m l -> (aqN m l N).Pairwise (· ≠ ·)
 | 0, _ => .nil
 | N + 1, hN => by
  show (aqN m l N ++ cmV m l N).Pairwise _;rw [List.pairwise_append];refine ⟨znL hM hck h N (by omega), zsF _, fun r hr r' hr' e => ?_⟩;subst e;obtain ⟨n, hn, hr⟩ := (zgb N).1 hr;obtain ⟨a1, a2⟩ := znK hr;obtain ⟨b1, b2⟩ := znK hr';have := zpE hM hck h (i := n) (j := N) (by omega) (by omega) (a1.symm.trans b1) (a2.symm.trans b2);omega
theorem zsG (hM : ckM m = 0) (hck : ckD m l = 0) : (aqV m l).Pairwise (· ≠ ·) := by
 by_cases h : aqE m l = 0
 ·obtain ⟨h1, -, h3, -⟩ := zjk h;rw [h3];have := (zld hM h1).1;exact znL hM hck h1 _ (by omega)
 ·unfold aqV; rw [if_neg h]; exact .nil
theorem zpF (hM : ckM m = 0) (hck : ckD m l = 0) {i j : Nat} {r s : Rdg} (hij : i < j) (hr : (aqV m l)[i]? = some r) (hs : (aqV m l)[j]? = some s) : r ≠ s := by
 have h := List.pairwise_iff_getElem.1 (zsG (m := m) (l := l) hM hck) i j (List.getElem?_eq_some_iff.1 hr).1 (List.getElem?_eq_some_iff.1 hs).1 hij;rw [(List.getElem?_eq_some_iff.1 hr).2, (List.getElem?_eq_some_iff.1 hs).2] at h; exact h
theorem zuq (hck : ckD m l = 0) (h : aqE m l = 14) : ¬ rdE m l = 0 := by
 intro he;have hM := (zak hck).1;unfold aqE at h;split at h
 ·rename_i h1;split at h
  ·rename_i h2;split at h
   ·rename_i h3;have hle : leE m (rdI m l) = 0 := by unfold rdE at he; rw [if_pos hck] at he; exact he
    obtain ⟨-, hI⟩ := zs4 hle;obtain ⟨n0, hn, hn2⟩ := zjB hM hck h1;obtain ⟨e1, e2⟩ := (hn2 n0 hn).2 rfl;obtain ⟨C, hg, -⟩ := zgC hM hI hle (perfL m).length 0 (by omega);rw [List.drop_zero] at hg
    have hr : (⟨iofD m l n0, iofM m l n0, C, (leI m (rdI m l)).map (·.Dur)⟩ : Rdg) ∈ aqN m l (ictV m l).toNat :=
     (zgb _).2 ⟨n0, by omega, (zix (zgc h2 n0 (by omega))).2 ⟨C, leI m (rdI m l), by unfold cmI; rw [e1, e2]; exact hg, rfl⟩⟩
    rw [List.length_eq_zero_iff.1 h3] at hr;simp at hr
   ·cases h
  ·cases h
 ·rename_i h1; rw [znz hck h1] at h; cases h
theorem zsH (hck : ckD m l = 0) : aqE m l = 0 \/ aqE m l = 14 \/ aqE m l = 15 := by
 unfold aqE;split
 ·split
  ·split
   ·exact .inr (.inl rfl)
   ·exact .inl rfl
  ·exact .inr (.inr rfl)
 ·rename_i h; exact .inr (.inr (znz hck h))
end
end Go.Rse
namespace Go.Rse
open Go Go.Proofs
structure GT (B : Int) (t : Tm) : Prop where
 c : ckT t = 0
 d : t.D ∣ 48
 b : t.N <= B * t.D
theorem zpG : ∀ k : Fin 49, (k.val ∣ 48) -> k.val = 1 \/ k.val = 2 \/ k.val = 3 \/ k.val = 4 \/ k.val = 6 \/ k.val = 8 \/ k.val = 12 \/ k.val = 16 \/ k.val = 24 \/ k.val = 48 := by decide
theorem d48 {d : Int} (h1 : 1 <= d) (h : d ∣ 48) : d = 1 \/ d = 2 \/ d = 3 \/ d = 4 \/ d = 6 \/ d = 8 \/ d = 12 \/ d = 16 \/ d = 24 \/ d = 48 := by
 have h48 := Int.le_of_dvd (by decide) h;obtain ⟨k, rfl⟩ := Int.eq_ofNat_of_zero_le (show 0 <= d by omega);have hk : k ∣ 48 := by exact_mod_cast h
 have := zpG ⟨k, by omega⟩ hk;simp only at this;omega
theorem GT.dc {B : Int} {t : Tm} (h : GT B t) : t.D = 1 \/ t.D = 2 \/ t.D = 3 \/ t.D = 4 \/ t.D = 6 \/ t.D = 8 \/ t.D = 12 \/ t.D = 16 \/ t.D = 24 \/ t.D = 48 := d48 (zap h.c).2.2.2.2.1 h.d
theorem GT.mono {A B : Int} {t : Tm} (h : GT A t) (hAB : A <= B) : GT B t := ⟨h.c, h.d, by
 have h1 := (zap h.c).2.2.1;exact Int.le_trans h.b (Int.mul_le_mul_of_nonneg_right hAB h1)⟩
theorem zri {n d B : Int} (h0 : 0 <= n) (h1 : 1 <= d) (hn : n <= 1099511627776) (hd : d <= 1048576) (hb : n <= B * d) (h48 : d ∣ 48 * n) : tmkE n d = 0 /\ GT B (tmkT n d) := by
 have hg := zbJ (n := n) (d := d) (by omega);have gn : gI n d ∣ n := Int.ofNat_dvd_left.2 (Nat.gcd_dvd_left _ _);have gd : gI n d ∣ d := Int.ofNat_dvd_left.2 (Nat.gcd_dvd_right _ _);have en := Int.mul_ediv_cancel' gn;have ed := Int.mul_ediv_cancel' gd;have ln : n / gI n d <= n := Int.ediv_le_self _ h0;have ld : d / gI n d <= d := Int.ediv_le_self _ (by omega)
 have hE : tmkE n d = 0 := by
  unfold tmkE;rw [if_neg (by omega), if_neg (by omega), if_neg (by omega)]
 have hc := znO h0 h1 hE;have hT : tmkT n d = ⟨n / gI n d, d / gI n d⟩ := by unfold tmkT; rw [if_pos hE]
 refine ⟨hE, hc, ?_, ?_⟩
 ·have hcop := znM hc;rw [hT] at hcop ⊢;show d / gI n d ∣ 48
  have hdv : d / gI n d ∣ 48 * (n / gI n d) := by
   obtain ⟨c, hc2⟩ := h48;refine ⟨c, ?_⟩;refine Int.eq_of_mul_eq_mul_left (a := gI n d) (by omega) ?_
   calc gI n d * (48 * (n / gI n d)) = 48 * (gI n d * (n / gI n d)) := by rw [← Int.mul_assoc, Int.mul_comm (gI n d) 48, Int.mul_assoc]
    _ = d * c := by rw [en]; exact hc2
    _ = gI n d * (d / gI n d * c) := by rw [← Int.mul_assoc, ed]
  have h2 : (d / gI n d).natAbs ∣ 48 * (n / gI n d).natAbs := by
   have := Int.natAbs_dvd_natAbs.2 hdv
   rwa [Int.natAbs_mul] at this
  have hco : Nat.Coprime (d / gI n d).natAbs (n / gI n d).natAbs := Nat.Coprime.symm hcop;have h3 := Nat.Coprime.dvd_of_dvd_mul_right hco h2;exact Int.natAbs_dvd.1 (Int.ofNat_dvd.2 h3)
 ·rw [hT];show n / gI n d <= B * (d / gI n d);refine Int.le_of_mul_le_mul_left (a := gI n d) ?_ hg;rw [en, ← Int.mul_assoc, Int.mul_comm (gI n d) B, Int.mul_assoc, ed]; exact hb
theorem zkt {A B : Int} {a b : Tm} (ha : GT A a) (hb : GT B b) (h0 : 0 <= A) (h1 : 0 <= B) (hA : A <= 100000) (hB : B <= 100000) : addE a b = 0 /\ GT (A + B) (addV a b) := by
 have hf := zgk ha.c hb.c;have na := (zap ha.c).1;have nb := (zap hb.c).1;have ba := ha.b;have bb := hb.b;unfold addE addV;rw [if_pos hf, if_pos hf];rcases ha.dc with e | e | e | e | e | e | e | e | e | e <;> rcases hb.dc with f | f | f | f | f | f | f | f | f | f <;> rw [e] at ba ⊢ <;> rw [f] at bb ⊢ <;> exact zri (by omega) (by omega) (by omega) (by omega) (by omega) (by omega)
theorem ziT {A B : Int} {a b : Tm} (ha : GT A a) (hb : GT B b) (h0 : 0 <= A) (hA : A <= 100000) (h : ¬ subE a b = 2) : subE a b = 0 /\ GT A (subV a b) := by
 have hf := zgk ha.c hb.c;have na := (zap ha.c).1;have nb := (zap hb.c).1;have ba := ha.b;unfold subE at h;unfold subE subV;rw [if_pos hf] at h ⊢;rw [if_pos hf];have hn : ¬ (a.N * b.D - b.N * a.D < 0) := fun hl => h (by unfold tmkE; rw [if_pos (.inl hl)])
 rcases ha.dc with e | e | e | e | e | e | e | e | e | e <;> rcases hb.dc with f | f | f | f | f | f | f | f | f | f <;> rw [e, f] at hn <;> rw [e] at ba ⊢ <;> rw [f] <;> exact zri (by omega) (by omega) (by omega) (by omega) (by omega) (by omega)
end Go.Rse
