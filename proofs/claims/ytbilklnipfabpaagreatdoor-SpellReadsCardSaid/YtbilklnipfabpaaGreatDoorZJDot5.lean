/-
  Walks: how many lists of meanings.
-/
import Derived.Test.YtbilklnipfabpaaGreatDoorZJSlice1
import Derived.Test.YtbilklnipfabpaaGreatDoorZLogB
import Derived.Test.YtbilklnipfabpaaGreatDoorZLogC
set_option linter.unusedSimpArgs false
set_option linter.unusedVariables false
namespace Go.Rse
open Go Go.Proofs
attribute [local irreducible] Pur yD yE Ex X Fn Imp LeV LeB FnO It yH
def cntF : Int -> List (List Int) -> Int
 | n, [] => n
 | n, x :: r => if n * x.length > 64 then n * x.length else cntF (n * x.length) r
theorem zmd (m : Mn) (s : Sg) : (mngs m s).length <= 2 := by
 unfold mngs;split
 ·exact Nat.le_trans (zei _ _) (by simp)
 ·split
  ·simp
  ·split
   ·exact zei _ _
   ·have := zei posI [m.aV s.Value]; simp at this ⊢; omega
theorem zeF {m : Mn} {l : List Sg} {x : List Int} (h : x ∈ mnsD m l) : x.length <= 2 := by
 obtain ⟨i, _, rfl⟩ := List.mem_map.1 h;unfold mnAt;split
 ·exact zmd _ _
 ·simp
theorem zfT (m : Mn) (l : List Sg) : (mnsD m l).length <= l.length := by simpa [mnsD] using zbm l l.length
theorem zhe {L : List (List Int)} {k : Nat} {x : List Int} {n : Int} (h : L[k]? = some x) : cntF n (L.drop k) = if n * x.length > 64 then n * x.length else cntF (n * x.length) (L.drop (k + 1)) := by
 have hk : k < L.length := (List.getElem?_eq_some_iff.1 h).1;rw [List.drop_eq_getElem_cons hk];have : L[k] = x := (List.getElem?_eq_some_iff.1 h).2;rw [this]; rfl
def cntV (m : Mn) (l : List Sg) : Int := if ckD m l = 0 then (if cntF 1 (mnsD m l) > 64 then 0 else cntF 1 (mnsD m l)) else 0
def cntE (m : Mn) (l : List Sg) : Int := if ckD m l = 0 then (if cntF 1 (mnsD m l) > 64 then 15 else 0) else ckD m l
theorem ze0 (m : Mn) (l : List Sg) (hl : l.length <= 1000) : Fn Tryz.prog 157 [mnA m, sgsA l] (.tup [iv (cntV m l), iv (cntE m l)]) := by
 refine Fn.go Tryz.func157 Tryz.ntmps157 (fun g w d => ?_);apply yb;refine yG ?_;refine yg ?_;refine X.scope ?_;apply yb;iterate 2 refine ya ?_
 refine yq (C_dot_Meanings m l hl) ?_;refine zv ?_;apply ye;apply yb;refine yg ?_;refine ym rfl ?_ ?_<;>intro hc1
 ·apply yb;refine yr ?_;refine X.ret ?_;refine yy ?_ ?_;all_goals (first | (unfold cntV; rw [if_neg hc1]; done) | (unfold cntE; rw [if_neg hc1]; done))
 apply yf;apply yb;refine yd ?_;apply ye;refine X.label ?_;iterate 2 apply ye
 have hms : (if ckD m l = 0 then mnsD m l else []) = mnsD m l := if_pos hc1;have hml := zfT m l;rw [hms];apply yc;refine yr ?_;apply X.block
 refine zw (ι := Nat × Int) (fun (p : Nat × Int) => [(8, iv p.2), (20, zdW (mnsD m l)), (21, iv (mnsD m l).length), (22, iv (p.1 : Int))]) (fun (p : Nat × Int) => []) (fun (p : Nat × Int) => p.1 <= (mnsD m l).length /\ 0 <= p.2 /\ p.2 <= 64 /\ cntF 1 (mnsD m l) = cntF p.2 ((mnsD m l).drop p.1)) (fun (p : Nat × Int) => (mnsD m l).length - p.1) (0, 1) (fun p hk => ?_) (hJ := by
  exact ⟨by simp, by simp, by simp, rfl⟩)
 obtain ⟨k, n⟩ := p;obtain ⟨hk1, hn0, hn1, hk2⟩ := hk;dsimp only at *
 apply yb;refine yd ?_;apply ye;refine ym rfl ?_ ?_<;>intro hc2
 ·obtain ⟨x, hx⟩ : ∃ x, (mnsD m l)[k]? = some x := ⟨_, lgg (by omega)⟩;have hx2 : (mnsD m l)[(k : Int).toNat]? = some x := by simpa using hx
  have hxl := zeF (List.mem_of_getElem? hx);have hb0 : 0 <= n * (x.length : Int) := Int.mul_nonneg hn0 (by omega);have hb1 : n * (x.length : Int) <= 64 * 2 := Int.mul_le_mul hn1 (by omega) (by omega) (by omega);apply yf;apply ye;apply X.block;apply yb;iterate 3 refine ya ?_
  apply yk;iterate 5 refine ya ?_
  apply yk;refine yg ?_;refine ym rfl ?_ ?_<;>intro hc3
  ·have hC : cntF 1 (mnsD m l) = n * (x.length : Int) := by rw [hk2, zhe hx, if_pos (by omega)]
   apply X.exit;apply ye;apply yb;refine yg ?_;refine ym rfl ?_ ?_<;>intro hc4
   ·apply yb;refine yg ?_;refine X.ret ?_;refine yy ?_ ?_;all_goals (first | (unfold cntV; rw [if_pos hc1, hC, if_pos (by omega)]; done) | (unfold cntE; rw [if_pos hc1, hC, if_pos (by omega)]; done))
   omega
  apply yf;apply yc;refine yg ?_
  refine yY ((k + 1, n * (x.length : Int))) (hJ := by
   exact ⟨by omega, by omega, by omega, by rw [hk2, zhe hx, if_neg (by omega)]⟩) (hm := by dsimp only; omega)
 ·have hC : cntF 1 (mnsD m l) = n := by rw [hk2, List.drop_of_length_le (by omega)]; rfl
  apply X.exit;apply ye;apply yb;refine yg ?_;refine ym rfl ?_ ?_<;>intro hc5
  ·apply yb;refine yg ?_;refine X.ret ?_;refine yy ?_ ?_;all_goals (first | (unfold cntV; rw [if_pos hc1, hC, if_pos (by omega)]; done) | (unfold cntE; rw [if_pos hc1, hC, if_pos (by omega)]; done))
  apply yf;apply yb;refine yr ?_;refine X.ret ?_;refine yy ?_ ?_;all_goals (first | (unfold cntV; rw [if_pos hc1, hC, if_neg (by omega)]; done) | (unfold cntE; rw [if_pos hc1, hC, if_neg (by omega)]; done))
end Go.Rse
namespace Go.Rse
open Go Go.Proofs
attribute [local irreducible] Pur yD yE Ex X Fn Imp LeV LeB FnO It yH
def zhf (l : List Sg) (i : Int) : Int := match l[(i + 1).toNat]? with | some s => s.Value | none => 9
def zeG (m : Mn) (l : List Sg) (i : Int) (p : Sg) : Int :=
 if (mngs m p).length = 2 then (if zhf l i <= p.Value then m.aV p.Value else if m.pV p.Value = 3 then p.Value else 0) else (mngs m p).headD 0
def zme (m : Mn) (l : List Sg) (i : Int) : Int := match zfa l i with | some p => zeG m l i p | none => 0
def zd4 (m : Mn) (l : List Sg) : List Int := (yK l l.length).map (zme m l)
theorem ziU {m : Mn} {l : List Sg} (h : zL m l 0 l = 0) : ∀ k, k <= l.length -> ∀ x, x ∈ yK l k -> ∀ p, l[(x - 1).toNat]? = some p -> (mngs m p).length ≠ 0
 | 0, _, x, hx => by simp [yK] at hx
 | k + 1, hk, x, hx => by
  simp only [yK, List.mem_append] at hx;rcases hx with hx | hx
  ·exact ziU h k (by omega) x hx
  ·have hs : l[k]? = some l[k] := lgg (by omega);simp only [hs] at hx;split at hx
   ·rename_i hK;have h0 := (zae h (k + 1) hk).2 k _ (by omega) hs;simp at hx;intro p hp;cases k with
    | zero => unfold sgF at h0; rw [if_neg (by omega), if_pos hK] at h0; simp at h0
    | succ j =>
     rw [show (x - 1).toNat = j by omega] at hp;unfold sgF at h0;rw [if_neg (by omega), if_pos hK] at h0;simp only [hp] at h0;intro hz;rw [if_pos (.inr hz)] at h0;simp at h0
   ·simp at hx
end Go.Rse
namespace Go.Rse
open Go Go.Proofs
attribute [local irreducible] Pur yD yE Ex X Fn Imp LeV LeB FnO It yH
theorem zq3 : ∀ (I : Im) (j : Nat) c, (intE 0)[j]? = some c -> RV I noNames c (.int .i64 0) := fun I j c h => by
 cases j with
 | zero => simp [intE] at h; subst h; exact .int _ _
 | succ j => simp [intE] at h
def zfU (l : List (List Int)) : List (List AV) := (List.range l.length).map fun (j : Nat) => [iv ((l.length : Int) - 1 - (j : Int)), yh (l.getD (l.length - 1 - j) [])]
theorem zhg {l : List (List Int)} {k : Nat} (h : k < l.length) : (zfU l)[k]? = some [iv ((l.length : Int) - 1 - k), yh (l.getD (l.length - 1 - k) [])] := by
 simp [zfU, h]
theorem zeH {l : List (List Int)} {j : Nat} {zs : List AV} (h : (zfU l)[j]? = some zs) : j < l.length /\ zs = [iv ((l.length : Int) - 1 - j), yh (l.getD (l.length - 1 - j) [])] := by
 have hlt : j < l.length := by have := (List.getElem?_eq_some_iff.1 h).1; simpa [zfU] using this
 rw [zhg hlt] at h;exact ⟨hlt, by simpa using h.symm⟩
theorem zhh (l : List (List Int)) : (zfU l).length = l.length := by simp [zfU]
def ofN (L : List (List Int)) (n : Int) : Nat -> Int
 | 0 => n
 | j + 1 => ofN L n j / ((L.getD (L.length - 1 - j) []).length : Int)
def ofV (L : List (List Int)) (n : Int) (j : Nat) : Int := (L.getD (L.length - 1 - j) []).getD (ofN L n j % ((L.getD (L.length - 1 - j) []).length : Int)).toNat 0
def zaF (L : List (List Int)) (n : Int) : Nat -> List Int
 | 0 => []
 | j + 1 => ofV L n j :: zaF L n j
theorem zhi (L : List (List Int)) (n : Int) : ∀ j, (zaF L n j).length = j
 | 0 => rfl
 | j + 1 => by simp [zaF, zhi L n j]
theorem zku {L : List (List Int)} {n : Int} (h0 : 0 <= n) (h1 : n <= 64) (hL : ∀ x ∈ L, 1 <= x.length) : ∀ j, j <= L.length -> 0 <= ofN L n j /\ ofN L n j <= 64
 | 0, _ => ⟨h0, h1⟩
 | j + 1, hj => by
  obtain ⟨a, b⟩ := zku h0 h1 hL j (by omega)
  have hx : 1 <= (L.getD (L.length - 1 - j) []).length := by
   rw [List.getD_eq_getElem?_getD, lgg (by omega)];exact hL _ (List.getElem_mem _)
  simp only [ofN];generalize (L.getD (L.length - 1 - j) []).length = q at hx ⊢;refine ⟨Int.ediv_nonneg a (by omega), Int.le_trans (Int.ediv_le_self _ a) b⟩
def ofD (L : List (List Int)) (n : Int) : List Int := zaF L n L.length
theorem zq4 {L : List (List Int)} {n : Int} {j : Nat} (hj : j < L.length) : (List.replicate (L.length - j) 0 ++ zaF L n j).set ((L.length : Int) - 1 - j).toNat (ofV L n j) = List.replicate (L.length - (j + 1)) 0 ++ zaF L n (j + 1) := by
 have e : ((L.length : Int) - 1 - j).toNat = L.length - (j + 1) := by omega
 rw [e, show L.length - j = (L.length - (j + 1)) + 1 by omega, List.replicate_succ', List.append_assoc, List.set_append_right _ _ (by simp)];simp [zaF]
def ofE (m : Mn) (l : List Sg) (n : Int) : Int := if cntE m l = 0 then (if n < 0 \/ cntV m l <= n then 2 else 0) else cntE m l
def ofL (m : Mn) (l : List Sg) (n : Int) : List Int := if ofE m l n = 0 then ofD (mnsD m l) n else []
theorem zkv {m : Mn} {l : List Sg} (h : cntE m l = 0) : ckD m l = 0 := by
 unfold cntE at h;split at h
 ·assumption
 ·exact h
theorem zfV : ∀ {L : List (List Int)} {n : Int}, (∀ x ∈ L, 1 <= x.length) -> 1 <= n -> n <= 64 -> 1 <= cntF n L
 | [], n, _, h, _ => h
 | x :: r, n, hL, h, h64 => by
  have hx := hL x (by simp)
  have hp : 1 <= n * (x.length : Int) := by
   have : (1 : Int) * 1 <= n * (x.length : Int) := Int.mul_le_mul h (by omega) (by omega) (by omega);simpa using this
  unfold cntF;split
  ·omega
  ·exact zfV (fun y hy => hL y (by simp [hy])) hp (by omega)
theorem zhW {m : Mn} {l : List Sg} : cntV m l <= 64 := by
 unfold cntV; split
 ·split <;> omega
 ·omega
theorem zd5 {m : Mn} {l : List Sg} (h : ckD m l = 0) {x : List Int} (hx : x ∈ mnsD m l) : 1 <= x.length := by
 obtain ⟨i, hi, rfl⟩ := List.mem_map.1 hx
 have hF : zL m l 0 l = 0 := by unfold ckD at h; split at h
                                ·exact h
                                ·exact absurd h (by assumption)
 obtain ⟨j, s, p, h1, h2, h3⟩ := zdr hF l.length (Nat.le_refl _) i hi;have hp : l[(i - 1).toNat]? = some p := by rw [show (i - 1).toNat = j by omega]; exact h3
 have := ziU hF l.length (Nat.le_refl _) i hi p hp;unfold mnAt zfa;rw [hp]; show 1 <= (mngs m p).length; omega
theorem zba (l : List (List Int)) (hl : l.length <= 4000000000) : It Tryz.prog 189 [.ept (fun _ : Unit => [.sl zfg l]) () 0] (zfU l) := by
 refine It.intro (ts := fun lY => [(0, .yv lY), (1, .ept (fun _ : Unit => [.sl zfg l]) () 0)]) (n := 19) (by kernel_rfl) Tryz.func189 rfl Tryz.ntmps189 rfl (fun _ => rfl) (by simp) (fun g w d ds Y lY hY => ?_);apply yb;refine zaj ?_;apply X.block;refine zw (ι := Nat) (fun (k : Nat) => [(0, .yv lY), (1, .ept (fun _ : Unit => [.sl zfg l]) () 0), (3, iv ((l.length : Int) - 1 - k))]) (fun (k : Nat) => [(1000000, .yld k true)]) (fun (k : Nat) => k <= l.length) (fun (k : Nat) => l.length - k) 0 (fun k hk => ?_);apply ye;apply yb;refine yg ?_;refine ym rfl ?_ ?_<;>intro hc1
 ·have hlt : k < l.length := by omega
  have hu : l[((l.length : Int) - 1 - k).toNat]? = some (l.getD (l.length - 1 - k) []) := by
   rw [show ((l.length : Int) - 1 - k).toNat = l.length - 1 - k by omega, List.getD_eq_getElem?_getD, lgg (by omega)]; rfl
  apply yf;apply ye;apply X.block;apply yb;iterate 6 refine ya ?_
  refine Ex.yield hY rfl rfl rfl (LeL.refl _) rfl rfl (zhg hlt) rfl (fun b => ?_);refine yd ?_;refine ym rfl ?_ ?_<;>intro hc2
  ·refine X.ret ?_;refine ⟨.inr rfl, _, b, rfl, fun hb => by simp_all⟩
  subst hc2;apply yf;apply yc;refine yr ?_;refine ⟨k + 1, yi, ?_, ?_⟩
  ·omega
  ·omega
 ·apply X.exit;refine ⟨.inl rfl, k, true, rfl, fun _ => by rw [zhh]; omega⟩
theorem zbq (l : List (List Int)) : Fn Tryz.prog 159 [zdW l] (.fn 189 [.ept (fun _ : Unit => [.sl zfg l]) () 0]) := by
 refine Fn.go Tryz.func159 Tryz.ntmps159 (fun g w d => ?_);apply yb;refine zcf ?_;refine ya ?_;apply yk;refine yg ?_;refine X.ret ?_;refine yo (y3 (k := 1) rfl rfl) ?_;refine yn ?_;all_goals (first | rfl | (simp_all; done))
theorem zoi (L : List (List Int)) (n : Int) : List.replicate L.length 0 = List.replicate (L.length - 0) 0 ++ zaF L n 0 := by simp [zaF]
theorem zoj (L : List (List Int)) (n : Int) : List.replicate (L.length - L.length) 0 ++ zaF L n L.length = ofD L n := by simp [ofD]
attribute [local irreducible] mnsD zaF ofV ofL ofE ofD cntE cntV ckD
set_option maxHeartbeats 1000000 in
theorem zmf (m : Mn) (z : List Sg) (hl : z.length <= 1000) (n : Int) : Fn Tryz.prog 110 [mnA m, sgsA z, iv n] (.tup [yh (ofL m z n), iv (ofE m z n)]) := by
 refine Fn.go Tryz.func110 Tryz.ntmps110 (fun g w d => ?_);apply yb;refine yG ?_;refine zcf ?_;iterate 2 refine ya ?_
 apply yk;iterate 2 refine ya ?_
 refine yq (ze0 m z hl) ?_;refine zv ?_;apply ye;apply yb;refine yg ?_;refine ym rfl ?_ ?_<;>intro hc1
 ·have hE : ofE m z n = cntE m z := by unfold ofE; rw [if_neg hc1]
  have hL : ofL m z n = [] := by unfold ofL; rw [if_neg (by rw [hE]; exact hc1)]
  apply yb;refine yr ?_;refine X.ret ?_;refine yo (yi (ts := [(6, yh []), (7, iv (cntE m z))]) (hs := [])) ?_;refine yy ?_ ?_;all_goals (first | (simp [*]; done) | (rw [hE]; rfl) | (rw [hL, ← hrowN]; simp only [hbl]; rfl))
 have hck := zkv hc1;have hM := C_dot_Meanings m z hl;rw [if_pos hck] at hM;have hml := zfT m z;have hmp : ∀ x ∈ mnsD m z, 1 <= x.length := fun x hx => zd5 hck hx
 have hcv := zhW (m := m) (l := z);apply yf;apply ye;apply yb;iterate 2 refine ya ?_
 refine ExF.at 2 ?_;refine yF ?_;iterate 3 refine ExF.gi ?_
 refine yC ?_;refine yd ?_;refine ym rfl ?_ ?_<;>intro hc2
 ·have hE : ofE m z n = 2 := by unfold ofE; rw [if_pos hc1, if_pos (by omega)]
  have hL : ofL m z n = [] := by unfold ofL; rw [if_neg (by omega)]
  apply yb;refine yg ?_;refine X.ret ?_;refine yo (yi (ts := [(6, yh []), (7, iv 2)]) (hs := [])) ?_;refine yy ?_ ?_;all_goals (first | (simp [*]; done) | (rw [hE]; rfl) | (rw [hL, ← hrowN]; simp only [hbl]; rfl))
 have hE : ofE m z n = 0 := by unfold ofE; rw [if_pos hc1, if_neg (by omega)]
 have hL : ofL m z n = ofD (mnsD m z) n := by unfold ofL; rw [if_pos hE]
 have hn0 : 0 <= n := by omega
 have hn1 : n <= 64 := by omega
 apply yf;apply yb;iterate 2 refine ya ?_
 refine yq hM ?_;iterate 5 refine ya ?_
 apply yk;iterate 2 refine ya ?_
 refine Ex.stepA (zff (k := 39) (enc := intE) 0 sl22 ti3 rfl (by decide) rfl rfl rfl rfl (by omega) (fun _ => rfl) zq3) rfl rfl ?_;refine yJ ?_;refine yj ?_;apply Ex.nil;apply ye;apply yb;refine ya ?_;refine yq (zbq _) ?_;apply Ex.nil;apply X.block;have hrow0 := zoi (mnsD m z) n;have hrowN := zoj (mnsD m z) n;have hbl := zhh (mnsD m z);refine X.range (sl := [5, 12]) (fun j => ([.ptr 5 0 0 0, .ptr 12 0 0 0], [(5, .box [iv (ofN (mnsD m z) n j)] 3), (12, .box [.own 39] 22), (39, .row intE (List.replicate ((mnsD m z).length - j) 0 ++ zaF (mnsD m z) n j) 3 1)])) (fun j => True) 900001 900002 rfl rfl (by decide) (fun j zs hj => by obtain ⟨_, rfl⟩ := zeH hj; rfl) (zba (mnsD m z) (by omega)) trivial rfl rfl (by decide) (Nat.zero_le _) (by simp) (fun j zs hj => by obtain ⟨_, rfl⟩ := zeH hj; rfl) (fun _ => rfl) rfl rfl (fun l o us => yi) (trivial) (fun j zs hj hJ l ready busy rb vs g w hb hyB => ?_) (fun hJ => ?_)
 ·obtain ⟨hj4, rfl⟩ := zeH hj;obtain ⟨hN0, hN1⟩ := zku hn0 hn1 hmp j (by omega)
  have hxm : (mnsD m z).getD ((mnsD m z).length - 1 - j) [] ∈ mnsD m z := by
   rw [List.getD_eq_getElem?_getD, lgg (by omega)]; exact List.getElem_mem _
  have hx1 := hmp _ hxm;have hx2 := zeF hxm;have hr0 : 0 <= ofN (mnsD m z) n j % (((mnsD m z).getD ((mnsD m z).length - 1 - j) []).length : Int) := Int.emod_nonneg _ (by omega);have hr1 : ofN (mnsD m z) n j % (((mnsD m z).getD ((mnsD m z).length - 1 - j) []).length : Int) < (((mnsD m z).getD ((mnsD m z).length - 1 - j) []).length : Int) := Int.emod_lt_of_pos _ (by omega)
  have hv : ((mnsD m z).getD ((mnsD m z).length - 1 - j) [])[(ofN (mnsD m z) n j % (((mnsD m z).getD ((mnsD m z).length - 1 - j) []).length : Int)).toNat]? = some (ofV (mnsD m z) n j) := by
   unfold ofV; rw [List.getD_eq_getElem?_getD (l := (mnsD m z).getD ((mnsD m z).length - 1 - j) []), lgg (by omega)]; rfl
  have hrl : (List.replicate ((mnsD m z).length - j) 0 ++ zaF (mnsD m z) n j).length = (mnsD m z).length := by simp [zhi]; omega
  have hset := zq4 (n := n) hj4;apply yb;refine yd ?_;apply yc;refine yd ?_;refine ⟨rfl, rfl, ?_⟩;apply X.block;apply ye;refine zC [44,45,46,47,48,49,50,51,52] [0,0,0,0,0,16,56,124,252,511,1023] mo ?_;iterate 9 refine yl ?_
  refine zb ?_;refine ya ?_;refine yj ?_;apply Ex.nil;apply yc;iterate 4 refine ya ?_
  refine yj ?_;apply Ex.nil;refine ⟨[.ptr 5 0 0 0, .ptr 12 0 0 0], [(5, .box [iv (ofN (mnsD m z) n (j + 1))] 3), (12, .box [.own 39] 22), (39, .row intE (List.replicate ((mnsD m z).length - (j + 1)) 0 ++ zaF (mnsD m z) n (j + 1)) 3 1)], yi, rfl, trivial⟩
 apply yb;refine yr ?_;refine X.ret ?_;refine yo (Imp.freeze (k := 39) rfl) ?_;refine yy ?_ ?_;all_goals (first | (simp [*]; done) | (rw [hE]; rfl) | (rw [hL, ← hrowN]; simp only [hbl]; rfl))
end Go.Rse
namespace Go.Rse
open Go Go.Proofs
attribute [local irreducible] Pur yD yE Ex X Fn Imp LeV LeB FnO It yH
theorem zmg (x : Int) (l : List Int) : decide (0 <= fidx (fun u => decide (x = u)) l) = decide (x ∈ l) := by
 by_cases h : x ∈ l
 ·have : l.findIdx (fun u => decide (x = u)) < l.length := List.findIdx_lt_length_of_exists ⟨x, h, by simp⟩;simp only [fidx, if_pos this, h]; simp
 ·have h2 : l.findIdx (fun u => decide (x = u)) = l.length := List.findIdx_eq_length.2 fun u hu => decide_eq_false fun e => h (e ▸ hu)
  have : ¬ l.findIdx (fun u => decide (x = u)) < l.length := by omega
  simp only [fidx, if_neg this, h]; simp
theorem zcj (l : List Int) (x : Int) (hl : l.length <= 4000000000) : Fn Tryz.prog 174 [yh l, iv x] (iv (fidx (fun u => decide (x = u)) l)) := by
 refine Fn.go Tryz.func174 Tryz.ntmps174 (fun g w d => ?_);apply yb;refine yd ?_;apply ye;apply yb;refine yr ?_;apply X.block
 refine zw (ι := Nat) (fun (k : Nat) => [(0, yh l), (1, iv x), (7, iv l.length), (8, iv (k : Int))]) (fun (k : Nat) => []) (fun (k : Nat) => k <= l.length /\ ∀ i u, i < k -> l[i]? = some u -> decide (x = u) = false) (fun (k : Nat) => l.length - k) 0 (fun k hk => ?_) (hJ := by
  exact ⟨by omega, fun i u h => absurd h (Nat.not_lt_zero i)⟩)
 obtain ⟨hk1, hk2⟩ := hk;apply yb;refine yd ?_;apply ye;refine ym rfl ?_ ?_<;>intro hc1
 ·obtain ⟨v, hv⟩ : ∃ v, l[k]? = some v := ⟨_, lgg (by omega)⟩;have hv2 : l[(k : Int).toNat]? = some v := by simpa using hv
  apply yf;apply ye;apply X.block;apply yb;iterate 2 refine ya ?_
  apply yk;iterate 5 refine ya ?_
  refine yd ?_;refine ym rfl ?_ ?_<;>intro hc2
  ·apply yb;refine yg ?_;refine X.ret ?_;refine yn ?_;all_goals (congr 1; exact (zi7 hv (by simpa using hc2) hk2).symm)
  apply yf;apply yc;refine yg ?_
  refine yY (k + 1) (hJ := by
   refine ⟨by omega, fun i u hi hu => ?_⟩;rcases Nat.lt_succ_iff_lt_or_eq.1 hi with h | h
   ·exact hk2 i u h hu
   ·subst h; rw [hv] at hu; injection hu with hu; subst hu; simpa using hc2)
 ·apply X.exit;apply yb;refine yd ?_;refine X.ret ?_;refine yn ?_;all_goals (congr 1; exact (zhp (fun i u hi => hk2 i u (by omega))).symm)
theorem zr (l : List Int) (x : Int) (hl : l.length <= 4000000000) : Fn Tryz.prog 130 [yh l, iv x] (.bool (decide (x ∈ l))) := by
 refine Fn.go Tryz.func130 Tryz.ntmps130 (fun g w d => ?_);apply yb;refine ya ?_;apply yk;iterate 2 refine ya ?_
 refine yq (zcj l x hl) ?_;refine yg ?_;refine X.ret ?_;refine yn ?_;all_goals (congr 1; exact zmg x l)
theorem zgZ (v : Int) (a : List Int) (b : List Bool) (ha : 1 <= a.length) (hb : 1 <= b.length) (ha2 : a.length <= 1000) (hb2 : b.length <= 1000) : FnO Tryz.prog 131 [iv v, .ptr 2000000 0 0 0, .ptr 2000001 0 0 0] [(2000000, .box [.own 2000002] 22), (2000001, .box [.own 2000003] 138), (2000002, .row intE a 3 1), (2000003, .row y4 b 4 1)] [2000000, 2000001, 2000002, 2000003] (.tup []) [(2000000, .box [.own 2000002] 22), (2000001, .box [.own 2000003] 138), (2000002, .row intE (a.set ((a.length : Int) - 1).toNat v) 3 1), (2000003, .row y4 (b.set ((b.length : Int) - 1).toNat (decide (v = 0))) 4 1)] := by
 refine FnO.intro (ts := [(0, iv v), (1, .ptr 2000000 0 0 0), (2, .ptr 2000001 0 0 0)]) (rv := []) (n := 17) (cs := [.ptr 2000000 0 0 0, .ptr 2000001 0 0 0, .own 2000002, .own 2000003]) (by kernel_rfl) Tryz.func131 rfl Tryz.ntmps131 rfl rfl (by simp) rfl rfl rfl rfl (fun g w d vs => ?_);refine X.drawP [⟨0, 4, .own 2000002, []⟩, ⟨1, 5, .own 2000002, []⟩, ⟨2, 6, iv a.length, [1]⟩, ⟨3, 7, iv ((a.length : Int) - 1), [1, 2]⟩, ⟨4, 8, .own 2000003, []⟩, ⟨5, 9, .own 2000003, []⟩, ⟨6, 10, iv b.length, [5]⟩, ⟨7, 11, iv ((b.length : Int) - 1), [5, 6]⟩, ⟨8, 12, iv v, []⟩, ⟨9, 13, iv v, []⟩, ⟨10, 14, .bool (decide (v = 0)), [9]⟩, ⟨11, 15, .ptr 2000002 1 ((a.length : Int) - 1).toNat 0, [8, 2, 1, 3, 0]⟩, ⟨13, 16, .ptr 2000003 1 ((b.length : Int) - 1).toNat 0, [12, 11, 10, 9, 8, 6, 5, 3, 2, 1, 0, 7, 4]⟩] [(12, [3, 2, 1, 0, 8, 11]), (14, [11, 9, 8, 7, 6, 5, 4, 3, 2, 1, 0, 12, 10, 13])] (fun j => ⟨[(0, iv v), (1, .ptr 2000000 0 0 0), (2, .ptr 2000001 0 0 0)], match j with | 0 => [(1000001, .hold vs [.ptr 2000000 0 0 0, .ptr 2000001 0 0 0, .own 2000002, .own 2000003]), (2000000, .box [.own 2000002] 22), (2000001, .box [.own 2000003] 138), (2000002, .row intE (a) 3 1), (2000003, .row y4 (b) 4 1)] | 1 => [(1000001, .hold vs [.ptr 2000000 0 0 0, .ptr 2000001 0 0 0, .own 2000002, .own 2000003]), (2000000, .box [.own 2000002] 22), (2000001, .box [.own 2000003] 138), (2000002, .row intE (a.set ((a.length : Int) - 1).toNat v) 3 1), (2000003, .row y4 (b) 4 1)] | _ => [(1000001, .hold vs [.ptr 2000000 0 0 0, .ptr 2000001 0 0 0, .own 2000002, .own 2000003]), (2000000, .box [.own 2000002] 22), (2000001, .box [.own 2000003] 138), (2000002, .row intE (a.set ((a.length : Int) - 1).toNat v) 3 1), (2000003, .row y4 (b.set ((b.length : Int) - 1).toNat (decide (v = 0))) 4 1)]⟩) mo (by kernel_rfl) (zbO (yi)) (fun j hj => ?_) (fun j c hc β hβ => ?_) ?_
 ·rcases j with _ | _ | _ | j
  ·first
    | refine ⟨.inr ⟨_, rfl, rfl, rfl, rfl, yM rfl rfl rfl ty22⟩, ?_⟩
    | refine ⟨.inr ⟨_, rfl, rfl, rfl, rfl, zar rfl rfl rfl ty22⟩, ?_⟩
    | refine ⟨.inr ⟨_, rfl, rfl, rfl, rfl, zas rfl rfl (by assumption) rfl rfl ty22⟩, ?_⟩
   first
    | refine ⟨.inr ⟨_, rfl, rfl, rfl, rfl, yM rfl rfl rfl ty22⟩, ?_⟩
    | refine ⟨.inr ⟨_, rfl, rfl, rfl, rfl, zar rfl rfl rfl ty22⟩, ?_⟩
    | refine ⟨.inr ⟨_, rfl, rfl, rfl, rfl, zas rfl rfl (by assumption) rfl rfl ty22⟩, ?_⟩
   first
    | refine ⟨.inr ⟨_, rfl, rfl, rfl, rfl, zeq rfl sl22⟩, ?_⟩
    | refine ⟨.inr ⟨_, rfl, rfl, rfl, rfl, zdt rfl rfl sl22⟩, ?_⟩
    | refine ⟨.inr ⟨_, rfl, rfl, rfl, rfl, zct rfl sl22⟩, ?_⟩
   refine ⟨.inr ⟨_, rfl, rfl, rfl, rfl, zk0 rfl rfl (IntWalk.i64_in _ (by omega))⟩, ?_⟩
   first
    | refine ⟨.inr ⟨_, rfl, rfl, rfl, rfl, yM rfl rfl rfl zaa⟩, ?_⟩
    | refine ⟨.inr ⟨_, rfl, rfl, rfl, rfl, zar rfl rfl rfl zaa⟩, ?_⟩
    | refine ⟨.inr ⟨_, rfl, rfl, rfl, rfl, zas rfl rfl (by assumption) rfl rfl zaa⟩, ?_⟩
   first
    | refine ⟨.inr ⟨_, rfl, rfl, rfl, rfl, yM rfl rfl rfl zaa⟩, ?_⟩
    | refine ⟨.inr ⟨_, rfl, rfl, rfl, rfl, zar rfl rfl rfl zaa⟩, ?_⟩
    | refine ⟨.inr ⟨_, rfl, rfl, rfl, rfl, zas rfl rfl (by assumption) rfl rfl zaa⟩, ?_⟩
   first
    | refine ⟨.inr ⟨_, rfl, rfl, rfl, rfl, zeq rfl zaD⟩, ?_⟩
    | refine ⟨.inr ⟨_, rfl, rfl, rfl, rfl, zdt rfl rfl zaD⟩, ?_⟩
    | refine ⟨.inr ⟨_, rfl, rfl, rfl, rfl, zct rfl zaD⟩, ?_⟩
   refine ⟨.inr ⟨_, rfl, rfl, rfl, rfl, zk0 rfl rfl (IntWalk.i64_in _ (by omega))⟩, ?_⟩;(iterate 2 refine ⟨.inr ⟨_, rfl, rfl, rfl, rfl, zjY rfl⟩, ?_⟩);refine ⟨.inr ⟨_, rfl, rfl, rfl, rfl, znl rfl rfl⟩, ?_⟩
   first
    | refine ⟨.inr ⟨_, rfl, rfl, rfl, rfl, zcu rfl rfl sl22 ty3 (fun _ => rfl) (by omega) (by assumption)⟩, ?_⟩
    | refine ⟨.inr ⟨_, rfl, rfl, rfl, rfl, zc5 rfl rfl rfl sl22 ty3 (by omega) (by omega)⟩, ?_⟩
   refine ⟨.inl rfl, ?_⟩;exact True.intro
  ·iterate 4 refine ⟨.inl rfl, ?_⟩
   first
    | refine ⟨.inr ⟨_, rfl, rfl, rfl, rfl, yM rfl rfl rfl zaa⟩, ?_⟩
    | refine ⟨.inr ⟨_, rfl, rfl, rfl, rfl, zar rfl rfl rfl zaa⟩, ?_⟩
    | refine ⟨.inr ⟨_, rfl, rfl, rfl, rfl, zas rfl rfl (by assumption) rfl rfl zaa⟩, ?_⟩
   first
    | refine ⟨.inr ⟨_, rfl, rfl, rfl, rfl, yM rfl rfl rfl zaa⟩, ?_⟩
    | refine ⟨.inr ⟨_, rfl, rfl, rfl, rfl, zar rfl rfl rfl zaa⟩, ?_⟩
    | refine ⟨.inr ⟨_, rfl, rfl, rfl, rfl, zas rfl rfl (by assumption) rfl rfl zaa⟩, ?_⟩
   first
    | refine ⟨.inr ⟨_, rfl, rfl, rfl, rfl, zeq rfl zaD⟩, ?_⟩
    | refine ⟨.inr ⟨_, rfl, rfl, rfl, rfl, zdt rfl rfl zaD⟩, ?_⟩
    | refine ⟨.inr ⟨_, rfl, rfl, rfl, rfl, zct rfl zaD⟩, ?_⟩
   refine ⟨.inr ⟨_, rfl, rfl, rfl, rfl, zk0 rfl rfl (IntWalk.i64_in _ (by omega))⟩, ?_⟩;refine ⟨.inl rfl, ?_⟩;refine ⟨.inr ⟨_, rfl, rfl, rfl, rfl, zjY rfl⟩, ?_⟩;refine ⟨.inr ⟨_, rfl, rfl, rfl, rfl, znl rfl rfl⟩, ?_⟩;refine ⟨.inl rfl, ?_⟩
   first
    | refine ⟨.inr ⟨_, rfl, rfl, rfl, rfl, zcu rfl rfl zaD ty4 (fun _ => rfl) (by omega) (by assumption)⟩, ?_⟩
    | refine ⟨.inr ⟨_, rfl, rfl, rfl, rfl, zc5 rfl rfl rfl zaD ty4 (by omega) (by omega)⟩, ?_⟩
   exact True.intro
  ·(iterate 13 refine ⟨.inl rfl, ?_⟩);exact True.intro
  ·exact absurd (show j + 3 <= 2 from hj) (by omega)
 ·rcases j with _ | _ | j
  ·obtain rfl : (12, [3, 2, 1, 0, 8, 11]) = c := by injection hc
   refine yu rfl (yR (st0 := ⟨[(4, .own 2000002), (5, .own 2000002), (6, iv a.length), (7, iv ((a.length : Int) - 1)), (8, .ifb (β 4) (.own 2000003)), (9, .ifb (β 5) (.own 2000003)), (10, .ifb (β 6) (iv b.length)), (11, .ifb (β 7) (iv ((b.length : Int) - 1))), (12, iv v), (13, .ifb (β 9) (iv v)), (14, .ifb (β 10) (.bool (decide (v = 0)))), (15, .ptr 2000002 1 ((a.length : Int) - 1).toNat 0), (16, .ifb (β 13) (.ptr 2000003 1 ((b.length : Int) - 1).toNat 0)), (0, iv v), (1, .ptr 2000000 0 0 0), (2, .ptr 2000001 0 0 0)], [(1000001, .hold vs [.ptr 2000000 0 0 0, .ptr 2000001 0 0 0, .own 2000002, .own 2000003]), (2000000, .box [.own 2000002] 22), (2000001, .box [.own 2000003] 138), (2000002, .row intE (a) 3 1), (2000003, .row y4 (b) 4 1)]⟩) (yO) ?_);refine yp (zbM v rfl rfl (fun _ => rfl) (by decide) (by omega) rfl rfl rfl rfl rfl ty3) (yO)
  ·obtain rfl : (14, [11, 9, 8, 7, 6, 5, 4, 3, 2, 1, 0, 12, 10, 13]) = c := by injection hc
   refine yu rfl (yR (st0 := ⟨[(4, .own 2000002), (5, .own 2000002), (6, iv a.length), (7, iv ((a.length : Int) - 1)), (8, .own 2000003), (9, .own 2000003), (10, iv b.length), (11, iv ((b.length : Int) - 1)), (12, iv v), (13, iv v), (14, .bool (decide (v = 0))), (15, .ptr 2000002 1 ((a.length : Int) - 1).toNat 0), (16, .ptr 2000003 1 ((b.length : Int) - 1).toNat 0), (0, iv v), (1, .ptr 2000000 0 0 0), (2, .ptr 2000001 0 0 0)], [(1000001, .hold vs [.ptr 2000000 0 0 0, .ptr 2000001 0 0 0, .own 2000002, .own 2000003]), (2000000, .box [.own 2000002] 22), (2000001, .box [.own 2000003] 138), (2000002, .row intE (a.set ((a.length : Int) - 1).toNat v) 3 1), (2000003, .row y4 (b) 4 1)]⟩) (yO) ?_);refine yp (zbM (decide (v = 0)) rfl rfl (fun _ => rfl) (by decide) (by omega) rfl rfl rfl rfl rfl ty4) (yO)
  ·exact absurd hc (by simp)
 refine zk6.mk (ts := []) (.inl rfl) (yi) (.many (by decide) .nil)
end Go.Rse
