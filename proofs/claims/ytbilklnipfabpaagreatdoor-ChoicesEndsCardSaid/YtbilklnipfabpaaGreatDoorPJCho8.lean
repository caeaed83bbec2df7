/-
  Walks: all readings of a run.
-/
import Derived.Test.YtbilklnipfabpaaGreatDoorPJCho6
import Derived.Test.YtbilklnipfabpaaGreatDoorPJRl0
set_option linter.unusedSimpArgs false
set_option linter.unusedVariables false
namespace Go.Rse
open Go Go.Proofs
attribute [local irreducible] Pur yx yz Ex X Fn Imp LeV LeB FnO It yC FnW FnOW
theorem zlI (m : Mn) : ∀ (L : List Int) (l : List Par), (cmL m L l).2 = 0 \/ (cmL m L l).2 = 15
 | [], _ => .inl rfl
 | k :: r, l => by
  simp only [cmL]; split
  ·exact zlI m r _
  ·exact .inr rfl
theorem zqi (m : Mn) (l : List Sg) (n : Int) : cmE m l n = 0 \/ cmE m l n = 15 := zlI _ _ _
theorem zpx (m : Mn) (l : List Sg) (n : Nat) : aqN m l n ++ cmV m l (n : Int) = aqN m l (n + 1) := rfl
theorem zlJ {m : Mn} {l : List Sg} (h : ictE m l = 0) : ckM m = 0 /\ ckD m l = 0 := ⟨(zd7 (zgc h).1).1, (zgc h).1⟩
attribute [local irreducible] cmV cmE iofD iofM perfL ictE ictV aqN aqX aqE aqV
theorem zbV (m : Mn) (l : List Sg) (hl : l.length <= 1000) : Fn Tryz.prog 32 [mnA m, sgsA l] (.tup [iv (ictV m l), iv (ictE m l)]) := by
 refine Fn.go Tryz.func32 Tryz.ntmps32 (fun g w d => ?_);apply yb;refine yF ?_;iterate 2 refine ya ?_
 apply yj;iterate 2 refine ya ?_
 refine yq (zhS m l hl) ?_;refine zT ?_;refine X.ret ?_;refine yu ?_ ?_;all_goals (first | rfl | (simp_all; done))
set_option maxHeartbeats 4000000 in
theorem zbO (m : Mn) (l : List Sg) (hl : l.length <= 1000) : Fn Tryz.prog 9 [mnA m, sgsA l] (.tup [zI (aqV m l), iv (aqE m l)]) := by
 have hz0 : [] = aqN m l 0 := by unfold aqN; rfl
 refine Fn.go Tryz.func9 Tryz.ntmps9 (fun g w d => ?_);apply yb;refine yF ?_;iterate 2 refine ya ?_
 apply yj;iterate 2 refine ya ?_
 refine yq (zbV m l hl) ?_;refine ze ?_;apply yd;apply yb;refine yh ?_;refine yk rfl ?_ ?_<;>intro hc1
 ·have hZ1 := zsZ hc1;obtain ⟨hE, hV⟩ := hZ1;apply yb;refine yn ?_;refine X.ret ?_;refine RetQ.imp (yi (ts := [(4, zI []), (5, iv (ictE m l))]) (hs := [])) ?_;refine yu ?_ ?_;all_goals (first | (rw [hV]; done) | (rw [hE, h15]; done) | (rw [hE]; done) | exact congrArg (fun z => zI z) hV | exact congrArg (fun z => AV.int .i64 z) hE.symm)
 have h0 : ictE m l = 0 := by omega
 have hZ2 := zlJ h0;obtain ⟨hM, hck⟩ := hZ2;have hrg := zkc hM h0;apply yf;apply yb;refine ye ?_;iterate 2 apply yd
 refine X.imp (y5 rdgE 35 4 8 30 rfl rfl) ?_;apply yc;refine yh ?_;apply X.block
 refine zh (ι := Nat) (fun (k : Nat) => [(1, sgsA l), (2, .ptr 2 0 0 0), (8, .own 30), (21, iv (ictV m l)), (22, iv (k : Int))]) (fun (k : Nat) => [(2, .box (mnE m) 24), (30, .row rdgE (aqN m l k) 35 4)]) (fun (k : Nat) => k <= (ictV m l).toNat /\ aqX m l k = true) (fun (k : Nat) => (ictV m l).toNat - k) 0 (fun k hk => ?_) (hJ := by
  exact ⟨Nat.zero_le _, by unfold aqX; rfl⟩) (h0 := by
  exact yw)
 obtain ⟨hk1, hX⟩ := hk;apply yb;refine ye ?_;apply yd;refine yk rfl ?_ ?_<;>intro hc2
 ·have hkn : (k : Int) < ictV m l := by omega
  have hie := zhC h0 hkn;have hit := zjo hM hck hie;have hsn := zpx m l k;have hln := zh8 hX;have hcl := zlH m hl (k : Int);apply yf;apply yd;apply X.block;apply yb;iterate 2 refine ya ?_
  apply yj;iterate 3 refine ya ?_
  refine yq (zcq m l (k : Int) hl hM hie hit) ?_;refine ze ?_;apply yd;apply yb;refine yh ?_;refine yk rfl ?_ ?_<;>intro hc3
  ·have hZ3 := zoR h0 hkn (.inl hc3);obtain ⟨hE, hV⟩ := hZ3;have h15 := (zqi m l (k : Int)).resolve_left hc3;apply yb;refine yn ?_;refine X.ret ?_;refine RetQ.imp (yi (ts := [(4, zI []), (5, iv (cmE m l (k : Int)))]) (hs := [])) ?_;refine yu ?_ ?_;all_goals (first | (rw [hV]; done) | (rw [hE, h15]; done) | (rw [hE]; done) | exact congrArg (fun z => zI z) hV | exact congrArg (fun z => AV.int .i64 z) hE.symm)
  have hc0 : cmE m l (k : Int) = 0 := by omega
  apply yf;apply yb;iterate 2 refine ya ?_
  refine Ex.mo ?_;refine ya ?_;apply yj;refine yn ?_;refine yk rfl ?_ ?_<;>intro hc4
  ·have hl4 : 4096 < (aqN m l (k + 1)).length := by rw [← hsn]; omega
   have hZ4 := zoR h0 hkn (.inr hl4);obtain ⟨hE, hV⟩ := hZ4;apply yb;refine yh ?_;refine X.ret ?_;refine RetQ.imp (yi (ts := [(4, zI []), (5, iv 15)]) (hs := [])) ?_;refine yu ?_ ?_;all_goals (first | (rw [hV]; done) | (rw [hE, h15]; done) | (rw [hE]; done) | exact congrArg (fun z => zI z) hV | exact congrArg (fun z => AV.int .i64 z) hE.symm)
  have hl4 : (aqN m l (k + 1)).length <= 4096 := by rw [← hsn]; omega
  apply yf;apply yc;refine yh ?_
  refine yP (k + 1) (hJ := by
   exact ⟨by omega, zs0 hX hc0 hl4⟩) (hI := yw)
 ·obtain rfl : k = (ictV m l).toNat := by omega
  apply X.exit;apply yd;apply yb;refine yn ?_;refine yk rfl ?_ ?_<;>intro hc5
  ·have hZ5 := zs1 h0 rfl hX (by omega);obtain ⟨hE, hV⟩ := hZ5;apply yb;refine yh ?_;refine X.ret ?_;refine RetQ.imp (yi (ts := [(4, zI []), (5, iv 14)]) (hs := [])) ?_;refine yu ?_ ?_;all_goals (first | (rw [hV]; done) | (rw [hE, h15]; done) | (rw [hE]; done) | exact congrArg (fun z => zI z) hV | exact congrArg (fun z => AV.int .i64 z) hE.symm)
  have hZ6 := zs2 h0 rfl hX (by omega);obtain ⟨hE, hV⟩ := hZ6;apply yf;apply yb;refine yn ?_;refine X.ret ?_;refine RetQ.imp (Imp.freeze (k := 30) rfl) ?_;refine yu ?_ ?_;all_goals (first | (rw [hV]; done) | (rw [hE, h15]; done) | (rw [hE]; done) | exact congrArg (fun z => zI z) hV | exact congrArg (fun z => AV.int .i64 z) hE.symm)
end Go.Rse
namespace Go.Rse
open Go Go.Proofs
theorem ziv {k : Int} {l l' : List Ite} (hl : l.length = l'.length) (h : ∀ i : Int, 0 <= i -> sameI (itg l i) (itg l' i)) : ∀ n, n <= l.length -> bdK k l n = bdK k l' n
 | 0, _ => rfl
 | n + 1, hn => by
  have hx : l[n]? = some (l[n]'hn) := lgg hn;have hx' : l'[n]? = some (l'[n]'(by omega)) := lgg (by omega);have hs := h (n : Int) (by omega);rw [zjG hx, zjG hx'] at hs;rw [za0 hx, za0 hx', ziv hl h n (by omega)];generalize l[n]'hn = x at *
  generalize l'[n]'(by omega) = x' at *
  obtain ⟨s1, s2, s3, s4, s5, s6⟩ := hs;unfold isH isC;rw [s2, s4, s6]
theorem zlK {m : Mn} {k : Int} {l : List Ite} (h : segE m k l = 0) : (segV m k l).length = (bds k l).length - 1 := by
 unfold segV; rw [if_pos h, List.length_map, zcH]
def Sam (I J : List Ite) : Prop := J.length = I.length /\ ∀ i : Int, 0 <= i -> sameI (itg J i) (itg I i)
theorem zqj (I : List Ite) : Sam I I := ⟨rfl, fun _ _ => zN _⟩
theorem Sam.segs {I J : List Ite} (h : Sam I J) {k : Int} : (bds k J).length = (bds k I).length := by
 unfold bds;rw [List.length_append, List.length_append, ziv h.1 h.2 J.length (Nat.le_refl _), h.1]
theorem znS {m : Mn} {k : Int} {I J : List Ite} {M : List Int} (h : Sam I J) (h0 : apE m k J M = 0) : Sam I (apV m k J M) := by
 obtain ⟨h1, h2, h3⟩ := zmu h0;have hst := zjJ (zcI h1) M.length (by omega) h3;unfold apV; rw [if_pos h0];exact ⟨hst.len.trans h.1, fun i hi => (hst.same i hi).tr (h.2 i hi)⟩
structure SamL (I : List Ite) (l : List Par) : Prop where
 s : ∀ p ∈ l, Sam I p.items
 n : ∀ p ∈ l, p.now = []
section
variable {m : Mn} {k : Int} {I : List Ite} {l : List Par}
theorem zlL {N : Int} (h : ∀ p ∈ l, segE m k p.items = 0 -> ((segV m k p.items).length : Int) = N) : ∀ a : Int, l.foldl (fun a p => if segE m k p.items = 0 then ((segV m k p.items).length : Int) else a) a = a /\ (∀ p ∈ l, ¬ segE m k p.items = 0) \/ l.foldl (fun a p => if segE m k p.items = 0 then ((segV m k p.items).length : Int) else a) a = N := by
 induction l with
 | nil => intro a; exact .inl ⟨rfl, by simp⟩
 | cons p r ih =>
  intro a;rw [List.foldl_cons];have ih := ih fun q hq => h q (List.mem_cons_of_mem _ hq)
  by_cases h0 : segE m k p.items = 0
  ·rw [if_pos h0, h p (by simp) h0];rcases ih N with h1 | h1
   ·exact .inr h1.1
   ·exact .inr h1
  ·rw [if_neg h0];rcases ih a with h1 | h1
   ·refine .inl ⟨h1.1, fun q hq => ?_⟩;rcases List.mem_cons.1 hq with rfl | hq
    ·exact h0
    ·exact h1.2 q hq
   ·exact .inr h1
theorem zjn (hS : SamL I l) {p : Par} (hp : p ∈ l) (h0 : segE m k p.items = 0) : (cgN m k l).toNat = (segV m k p.items).length := by
 have hN : ∀ q ∈ l, segE m k q.items = 0 -> ((segV m k q.items).length : Int) = ((segV m k p.items).length : Int) := fun q hq hq0 => by
  rw [zlK hq0, zlK h0, (hS.s q hq).segs, (hS.s p hp).segs]
 rcases zlL hN 0 with h1 | h1
 ·exact absurd h0 (h1.2 p hp)
 ·unfold cgN; rw [h1]; omega
theorem zhz (hS : SamL I l) {q : Par} : ∀ n, n <= (cgN m k l).toNat -> (q ∈ brN m k l n ↔ ∃ p ∈ l, segE m k p.items = 0 /\ ∃ M : List Int, M.length = n /\ okJ (unT m k) k (segV m k p.items) p.items M n = true /\ q = { p with now := M })
 | 0, _ => by
  show q ∈ cgS m k l ↔ _;unfold cgS;rw [List.mem_filter];constructor
  ·rintro ⟨h1, h2⟩
   refine ⟨q, h1, by simpa [cgP] using h2, [], rfl, rfl, ?_⟩;have := hS.n q h1;cases q; simp at this; subst this; rfl
  ·rintro ⟨p, hp, h0, M, hM, -, rfl⟩
   have : M = [] := List.length_eq_zero_iff.1 hM;subst this;have hn := hS.n p hp;have e : ({ p with now := [] } : Par) = p := by cases p; simp at hn; subst hn; rfl
   rw [e];exact ⟨hp, by simpa [cgP] using h0⟩
 | n + 1, hn => by
  have ih := fun q => zhz hS (q := q) n (by omega)
  show q ∈ brF m k (brN m k l n) ↔ _;unfold brF;rw [List.mem_flatMap]
  have hal : ∀ (p : Par), p ∈ l -> segE m k p.items = 0 -> ∀ M : List Int, M.length = n -> okJ (unT m k) k (segV m k p.items) p.items M n = true -> alV m k p.items M = alK (unT m k) k (segV m k p.items) p.items M n := by
   intro p hp h0 M hM hok;have hN := zjn hS hp h0
   have hE : alE m k p.items M = 0 := by
    unfold alE;rw [if_pos h0, if_neg];intro hc;rcases hc with hc | hc
    ·omega
    ·rw [hM, hok] at hc; cases hc
   unfold alV; rw [if_pos hE, hM]
  constructor
  ·rintro ⟨p', hp', hq⟩
   obtain ⟨p, hp, h0, M, hM, hok, rfl⟩ := (ih p').1 hp';unfold br1 at hq;obtain ⟨c, hc, rfl⟩ := List.mem_map.1 hq;have hc : c ∈ alV m k p.items M := hc;rw [hal p hp h0 M hM hok] at hc;refine ⟨p, hp, h0, M ++ [c], by simp [hM], ?_, rfl⟩;show (okJ _ k _ p.items (M ++ [c]) n && decide ((M ++ [c]).getD n 0 ∈ alK _ k _ p.items (M ++ [c]) n)) = true;rw [zh1 M [c] n (by omega), zh0 M [c] (by omega), hok, Bool.true_and, decide_eq_true_iff]
   have : (M ++ [c]).getD n 0 = c := by
    rw [List.getD_eq_getElem?_getD, List.getElem?_append_right (by omega), show n - M.length = 0 by omega]; rfl
   rw [this]; exact hc
  ·rintro ⟨p, hp, h0, M, hM, hok, rfl⟩
   have hok : (okJ (unT m k) k (segV m k p.items) p.items M n && decide (M.getD n 0 ∈ alK (unT m k) k (segV m k p.items) p.items M n)) = true := hok;simp only [Bool.and_eq_true, decide_eq_true_eq] at hok
   have hsp : M = M.take n ++ [M.getD n 0] := by
    have hx : M[n]? = some (M[n]'(by omega)) := lgg (by omega);rw [List.getD_eq_getElem?_getD, hx];conv => lhs; rw [← List.take_length (l := M), hM, List.take_add_one, hx]
    rfl
   have htl : (M.take n).length = n := by rw [List.length_take]; omega
   have e1 : okJ (unT m k) k (segV m k p.items) p.items (M.take n) n = true := by
    have := zh1 (u := unT m k) (k := k) (S := segV m k p.items) (l := p.items) (M.take n) [M.getD n 0] n (by omega);rw [← hsp] at this; rw [← this]; exact hok.1
   have e2 : M.getD n 0 ∈ alK (unT m k) k (segV m k p.items) p.items (M.take n) n := by
    have := zh0 (u := unT m k) (k := k) (S := segV m k p.items) (l := p.items) (M.take n) [M.getD n 0] (n := n) (by omega);rw [← hsp] at this; rw [← this]; exact hok.2
   refine ⟨{ p with now := M.take n }, (ih _).2 ⟨p, hp, h0, M.take n, htl, e1, rfl⟩, ?_⟩;unfold br1;refine List.mem_map.2 ⟨M.getD n 0, ?_, ?_⟩
   ·show _ ∈ alV m k p.items (M.take n);rw [hal p hp h0 _ htl e1]; exact e2
   ·show ({ p with now := M.take n ++ [M.getD n 0] } : Par) = { p with now := M };rw [← hsp]
theorem zj7 : ∀ (n j : Nat), (brX m k n (brN m k l j)).2 = 0 -> (brX m k n (brN m k l j)).1 = brN m k l (j + n)
 | 0, j, _ => rfl
 | n + 1, j, h => by
  unfold brX at h ⊢;split at h
  ·cases h
  ·rename_i h2;rw [if_neg h2];have := zj7 n (j + 1) h;rw [show j + (n + 1) = j + 1 + n by omega]; exact this
theorem zqk (h0 : alvE m k l = 0) : alvV m k l = (brN m k l (cgN m k l).toNat).map (ap1 m k) := by
 unfold alvV; rw [if_pos h0];have := zj7 (m := m) (k := k) (l := l) (cgN m k l).toNat 0 h0;rw [Nat.zero_add] at this;unfold alvR; rw [show cgS m k l = brN m k l 0 from rfl, this]
theorem zfs (hS : SamL I l) (h0 : alvE m k l = 0) {q : Par} : q ∈ alvV m k l ↔ ∃ p ∈ l, ∃ M : List Int, apE m k p.items M = 0 /\ q = ⟨apV m k p.items M, [], p.made ++ M⟩ := by
 rw [zqk h0, List.mem_map];constructor
 ·rintro ⟨p', hp', rfl⟩
  obtain ⟨p, hp, h1, M, hM, hok, rfl⟩ := (zhz hS _ (Nat.le_refl _)).1 hp';have hN := zjn hS hp h1;refine ⟨p, hp, M, ?_, rfl⟩;unfold apE;rw [if_pos h1, if_neg];intro hc;rcases hc with hc | hc
  ·omega
  ·rw [hM, hok] at hc; cases hc
 ·rintro ⟨p, hp, M, hM, rfl⟩
  obtain ⟨h1, h2, h3⟩ := zmu hM;have hN := zjn hS hp h1;refine ⟨{ p with now := M }, (zhz hS _ (Nat.le_refl _)).2 ⟨p, hp, h1, M, by omega, ?_, rfl⟩, rfl⟩;rw [hN, h2]; exact h3
theorem znT (hS : SamL I l) (h0 : alvE m k l = 0) : SamL I (alvV m k l) := by
 constructor
 ·intro q hq;obtain ⟨p, hp, M, hM, rfl⟩ := (zfs hS h0).1 hq;exact znS (hS.s p hp) hM
 ·intro q hq;obtain ⟨p, hp, M, hM, rfl⟩ := (zfs hS h0).1 hq;rfl
end
def gLv (m : Mn) : List Int -> List Ite -> List Int -> List Ite -> Prop
 | [], I, C, J => C = [] /\ J = I
 | k :: r, I, C, J => ∃ M C', C = M ++ C' /\ apE m k I M = 0 /\ gLv m r (apV m k I M) C' J
theorem zj8 {m : Mn} {I : List Ite} : ∀ (L : List Int) (l : List Par), SamL I l -> (cmL m L l).2 = 0 -> ∀ q, (q ∈ (cmL m L l).1 ↔ ∃ p ∈ l, ∃ C J, gLv m L p.items C J /\ q = ⟨J, [], p.made ++ C⟩)
 | [], l, hS, h, q => by
  show q ∈ l ↔ _;constructor
  ·intro hq;refine ⟨q, hq, [], q.items, ⟨rfl, rfl⟩, ?_⟩;have := hS.n q hq;cases q; simp at this; subst this; simp
  ·rintro ⟨p, hp, C, J, ⟨rfl, rfl⟩, rfl⟩
   have := hS.n p hp;cases p; simp at this; subst this; simpa using hp
 | k :: r, l, hS, h, q => by
  simp only [cmL] at h ⊢;by_cases h0 : alvE m k l = 0
  ·rw [if_pos h0] at h ⊢;rw [zj8 r _ (znT hS h0) h q];constructor
   ·rintro ⟨p', hp', C, J, hg, rfl⟩
    obtain ⟨p, hp, M, hM, rfl⟩ := (zfs hS h0).1 hp';exact ⟨p, hp, M ++ C, J, ⟨M, C, rfl, hM, hg⟩, by simp⟩
   ·rintro ⟨p, hp, C, J, ⟨M, C', rfl, hM, hg⟩, rfl⟩
    exact ⟨_, (zfs hS h0).2 ⟨p, hp, M, hM, rfl⟩, C', J, hg, by simp⟩
  ·rw [if_neg h0] at h; cases h
section
variable {m : Mn} {l : List Sg}
theorem zj9 {n : Int} (h : cmE m l n = 0) {r : Rdg} : r ∈ cmV m l n ↔ ∃ C J, gLv m (perfL m) (cmI m l n) C J /\ r = ⟨iofD m l n, iofM m l n, C, J.map (·.Dur)⟩ := by
 unfold cmV; rw [if_pos h, List.mem_map];have hS : SamL (cmI m l n) [⟨cmI m l n, [], []⟩] := ⟨fun p hp => by simp at hp; subst hp; exact zqj _, fun p hp => by simp at hp; subst hp; rfl⟩;have hm := zj8 (perfL m) _ hS h;constructor
 ·rintro ⟨q, hq, rfl⟩
  obtain ⟨p, hp, C, J, hg, rfl⟩ := (hm q).1 hq;simp at hp; subst hp;exact ⟨C, J, hg, rfl⟩
 ·rintro ⟨C, J, hg, rfl⟩
  exact ⟨⟨J, [], C⟩, (hm _).2 ⟨⟨cmI m l n, [], []⟩, by simp, C, J, hg, by simp⟩, rfl⟩
theorem zka {r : Rdg} : ∀ N, r ∈ aqN m l N ↔ ∃ n : Nat, n < N /\ r ∈ cmV m l n
 | 0 => by simp [aqN]
 | N + 1 => by
  show r ∈ aqN m l N ++ cmV m l N ↔ _;rw [List.mem_append, zka N];constructor
  ·rintro (⟨n, h1, h2⟩ | h)
   ·exact ⟨n, by omega, h2⟩
   ·exact ⟨N, by omega, h⟩
  ·rintro ⟨n, h1, h2⟩
   rcases Nat.lt_or_ge n N with h | h
   ·exact .inl ⟨n, h, h2⟩
   ·have : n = N := by omega
    subst this; exact .inr h2
theorem zhA : ∀ {N : Nat}, aqX m l N = true -> ∀ n : Nat, n < N -> cmE m l n = 0
 | 0, _, n, hn => by omega
 | N + 1, h, n, hn => by
  have h : (aqX m l N && decide (cmE m l N = 0) && decide ((aqN m l (N + 1)).length <= 4096)) = true := h;simp only [Bool.and_eq_true, decide_eq_true_eq] at h;rcases Nat.lt_or_ge n N with h1 | h1
  ·exact zhA h.1.1 n h1
  ·have : n = N := by omega
   subst this; exact h.1.2
theorem zpy (h : aqE m l = 0) : ictE m l = 0 /\ aqX m l (ictV m l).toNat = true /\ aqV m l = aqN m l (ictV m l).toNat /\ ¬ (aqV m l).length = 0 := by
 have hV : aqV m l = aqN m l (ictV m l).toNat := by unfold aqV; rw [if_pos h]
 rw [hV];unfold aqE at h;split at h
 ·rename_i h1;split at h
  ·rename_i h2;split at h
   ·cases h
   ·rename_i h3; exact ⟨h1, h2, rfl, h3⟩
  ·cases h
 ·exact absurd h (by assumption)
theorem zql (h : aqE m l = 0) {r : Rdg} : r ∈ aqV m l ↔ ∃ n : Nat, (n : Int) < ictV m l /\ ∃ C J, gLv m (perfL m) (cmI m l n) C J /\ r = ⟨iofD m l n, iofM m l n, C, J.map (·.Dur)⟩ := by
 obtain ⟨h1, h2, h3, -⟩ := zpy h;rw [h3, zka];constructor
 ·rintro ⟨n, hn, hr⟩
  exact ⟨n, by omega, (zj9 (zhA h2 n hn)).1 hr⟩
 ·rintro ⟨n, hn, hr⟩
  exact ⟨n, by omega, (zj9 (zhA h2 n (by omega))).2 hr⟩
end
def isG (m : Mn) : List Int -> List Ite -> List Int -> Option (List Ite × List Int)
 | [], I, C => some (I, C)
 | k :: r, I, C => if segE m k I = 0 /\ (segV m k I).length <= C.length /\ apE m k I (C.take (segV m k I).length) = 0 then isG m r (apV m k I (C.take (segV m k I).length)) (C.drop (segV m k I).length) else none
def isqB (m : Mn) (l : List Sg) (r : Rdg) : Bool := decide (itmE m l r.Dots r.Minor = 0) && (match isG m (perfL m) (itmV m l r.Dots r.Minor) r.Choices with
 | some (J, D) => decide (D = []) && decide (J.map (·.Dur) = r.Durs)
 | none => false)
theorem znU {m : Mn} {l : List Sg} (hM : ckM m = 0) (hck : ckD m l = 0) (h : ictE m l = 0) {d mi : List Int} : itmE m l d mi = 0 ↔ ∃ n : Nat, (n : Int) < ictV m l /\ iofD m l n = d /\ iofM m l n = mi := by
 constructor
 ·intro hE;obtain ⟨h1, h2⟩ := zmv hE;obtain ⟨a1, a2⟩ := zmL h1;obtain ⟨-, b2, b3⟩ := zqS h2;rw [← zsD hck] at b2;have hc1 := zpO a1 (zcA.1 a2) (mnsD m l).length (Nat.le_refl _);rw [List.take_length, a1, List.take_length] at hc1
  have hc2 : ∀ (r : List Int), mnOk r.reverse = true -> ChG (List.replicate r.length [1, 2] ++ (mnsD m l).reverse) (d ++ r.reverse) := by
   intro r
   induction r with
   | nil => intro _; simpa using hc1
   | cons x r ih =>
    intro hx;rw [List.reverse_cons] at hx ⊢;have hx1 : mnOk r.reverse = true := by unfold mnOk at hx ⊢; rw [List.all_append, Bool.and_eq_true] at hx; exact hx.1
    have hx2 : x = 1 \/ x = 2 := by unfold mnOk at hx; rw [List.all_append, Bool.and_eq_true] at hx; simpa using hx.2
    rw [List.length_cons, List.replicate_succ, List.cons_append, ← List.append_assoc];exact .snoc (by rcases hx2 with rfl | rfl <;> simp) (ih hx1)
  have hc := hc2 mi.reverse (by rw [List.reverse_reverse]; exact b3);rw [List.reverse_reverse, List.length_reverse, b2] at hc;obtain ⟨n, n0, n1, n2⟩ := zoz (R := rP m l) hc (zlQ hM hck);have hn : ((n.toNat : Nat) : Int) = n := Int.toNat_of_nonneg n0;have hlt : ((n.toNat : Nat) : Int) < ictV m l := by rw [hn, zlR h]; exact n1
  have he := zhC h hlt;have hG := zr5 he;rw [hn, n2] at hG;have hl : (iofD m l n).length = d.length := by rw [hn] at he; rw [zhD he]; exact a1
  unfold cmb at hG;refine ⟨n.toNat, hlt, ?_, ?_⟩
  ·rw [hn]; exact List.append_inj_left hG hl
  ·rw [hn]; exact List.append_inj_right hG hl
 ·rintro ⟨n, hn, rfl, rfl⟩
  exact zjo hM hck (zhC h hn)
end Go.Rse
