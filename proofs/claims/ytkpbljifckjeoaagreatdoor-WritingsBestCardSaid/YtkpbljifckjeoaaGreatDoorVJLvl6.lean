/-
  Walks: which choices are allowed at a level (the passage through its segments is only read).
-/
import Derived.Test.YtkpbljifckjeoaaGreatDoorVJLvl4
set_option linter.unusedSimpArgs false
set_option linter.unusedVariables false
namespace Go.Rse
open Go Go.Proofs
attribute [local irreducible] Pur yw yy Ex X Fn Imp LeV LeB FnO It yz FnW FnOW
theorem znh (l : List Ite) : (lasL l).length <= l.length := by
 have h := ziQ l;unfold lasL;cases hg : (fsL l).getLast? with
 | none => simp
 | some a =>
  simp only [List.length_cons, List.length_map];have := List.length_filter_le (fun t => decide (subE a t = 0)) (fsL l).dropLast;rw [List.length_dropLast] at this;have : (fsL l) ≠ [] := fun e => by rw [e] at hg; simp at hg
  have := List.length_pos_iff.2 this;omega
theorem zeu {l : List Ite} {i : Int} (h0 : 0 <= i) (h : i < l.length) : l[i.toNat]? = some (itg l i) := by
 unfold itg;rw [List.getD_eq_getElem?_getD, lgg (by omega)]; rfl
theorem zrY {k : Int} {l : List Ite} {h : Int} (h1 : (itg l h).Value = k) (h2 : h + 1 < l.length) (h3 : (itg l h).Cut <= 0) (h4 : (itg l (h + 1)).Color = false) (h5 : (itg l (h + 1)).Value = k) : blQ k l h = true := by
 unfold blQ; rw [decide_eq_true h1, decide_eq_true h2, decide_eq_false (show ¬ 0 < (itg l h).Cut by omega), h4, decide_eq_true h5]; rfl
theorem zrZ {k : Int} {l : List Ite} {h : Int} (hh : (¬ (itg l h).Value = k \/ (l.length : Int) <= h + 1) \/ 0 < (itg l h).Cut) : blQ k l h = false := by
 unfold blQ;rcases hh with (hh | hh) | hh
 ·rw [decide_eq_false hh]; rfl
 ·rw [decide_eq_false (show ¬ h + 1 < (l.length : Int) by omega)]; simp
 ·rw [decide_eq_true hh]; simp
theorem zr0 {k : Int} {l : List Ite} {h : Int} (hh : (itg l (h + 1)).Color = true \/ ¬ (itg l (h + 1)).Value = k) : blQ k l h = false := by
 unfold blQ;rcases hh with hh | hh
 ·rw [hh]; simp
 ·rw [decide_eq_false hh]; simp
theorem ztO {s : Sgm} (h : s.From = s.To \/ s.Free = true) : (decide (s.From = s.To) || s.Free) = true := by
 rcases h with h | h
 ·rw [decide_eq_true h]; rfl
 ·rw [h]; simp
theorem ztP {s : Sgm} (h : ¬ s.From = s.To /\ s.Free = false) : (decide (s.From = s.To) || s.Free) = false := by
 rw [decide_eq_false h.1, h.2]; rfl
def tbL (f w p a t : Bool) : List (List Bool) := [[true, f, f], [false, w && p, false], [false, !f && a, false], [false, false, !f && p && a], [false, false, !f && t]]
def tbV (f w p a t : Bool) (k : Nat) (r : Nat) : Bool := ((tbL f w p a t).getD k []).getD r false
abbrev tbA (f w p a t : Bool) : List AV := [.bool true, .bool f, .bool f, .bool false, .bool (w && p), .bool false, .bool false, .bool (!f && a), .bool false, .bool false, .bool false, .bool (!f && p && a), .bool false, .bool false, .bool (!f && t)]
theorem zr1 (f w p a t : Bool) {k : Nat} (h : k < 5) : ((tbA f w p a t).drop ((k : Int).toNat * 3)).take 3 = [.bool (tbV f w p a t k 0), .bool (tbV f w p a t k 1), .bool (tbV f w p a t k 2)] := by
 have : k = 0 \/ k = 1 \/ k = 2 \/ k = 3 \/ k = 4 := by omega
 rcases this with rfl | rfl | rfl | rfl | rfl <;> rfl
theorem ztQ (f w p a t : Bool) {k : Nat} (h : k < 5) {r : Int} (h0 : 0 <= r) (h3 : r < 3) : ([.bool (tbV f w p a t k 0), .bool (tbV f w p a t k 1), .bool (tbV f w p a t k 2)] : List AV)[0 * 0 + (0 + r.toNat * 1)]? = some (.bool (tbV f w p a t k r.toNat)) := by
 have h1 : k = 0 \/ k = 1 \/ k = 2 \/ k = 3 \/ k = 4 := by omega
 have h2 : r = 0 \/ r = 1 \/ r = 2 := by omega
 rcases h1 with rfl | rfl | rfl | rfl | rfl <;> rcases h2 with rfl | rfl | rfl <;> rfl
def alP (f w p a t : Bool) (r : Nat) : Nat -> List Int
 | 0 => []
 | k + 1 => alP f w p a t r k ++ if tbV f w p a t k r = true \/ (k = 0 /\ f = true) then [(k : Int)] else []
theorem ztR {f w p a t : Bool} {r n : Nat} (h : tbV f w p a t n r = true \/ ((n : Int) = 0 /\ f = true)) : alP f w p a t r n ++ [(n : Int)] = alP f w p a t r (n + 1) := by
 show _ = _ ++ _;rw [if_pos (by rcases h with h | ⟨h, h2⟩; exact .inl h; exact .inr ⟨by omega, h2⟩)]
theorem ztS {f w p a t : Bool} {r n : Nat} (h : tbV f w p a t n r = false /\ (¬ (n : Int) = 0 \/ f = false)) : alP f w p a t r n = alP f w p a t r (n + 1) := by
 show _ = _ ++ _;rw [if_neg (fun hh => by rcases hh with hh | ⟨hh, h2⟩; (rw [h.1] at hh; cases hh); (rcases h.2 with h3 | h3; (exact h3 (by omega)); (rw [h3] at h2; cases h2))), List.append_nil]
theorem zli (f w p a t : Bool) (r : Nat) : ∀ k, (alP f w p a t r k).length <= k
 | 0 => Nat.le_refl _
 | k + 1 => by
  have := zli f w p a t r k;rw [show alP f w p a t r (k + 1) = alP f w p a t r k ++ (if tbV f w p a t k r = true \/ (k = 0 /\ f = true) then [(k : Int)] else []) from rfl, List.length_append];split <;> simp <;> omega
theorem zpf (p a t : Bool) {s : Sgm} : alP s.Free (decide (s.Count.D = 1)) p a t (s.Count.N % 3).toNat 5 = alR p a t s := by
 have hm0 := Int.emod_nonneg s.Count.N (show (3 : Int) ≠ 0 by omega);have hm1 := Int.emod_lt_of_pos s.Count.N (show (0 : Int) < 3 by omega);unfold alR;generalize s.Count.N % 3 = r at *
 have hr : r = 0 \/ r = 1 \/ r = 2 := by omega
 have hw : ∀ w : Bool, w = decide (s.Count.D = 1) -> (s.Count.D = 1 ↔ w = true) := fun w e => by rw [e]; simp
 have := hw _ rfl;generalize decide (s.Count.D = 1) = w at *
 simp only [this];generalize s.Free = f at *
 rcases hr with rfl | rfl | rfl <;> cases f <;> cases w <;> cases p <;> cases a <;> cases t <;> rfl
theorem zni : mpOk Tryz.prog 241 3 4 := ⟨by kernel_rfl, _, Tryz.underlying3⟩
theorem zlj : ∃ d, Tryz.prog.underlying 3 = some (.int d) /\ d = .i64 := ⟨_, Tryz.underlying3, rfl⟩
theorem znj {P : Program} {T : TypeId} (h : (P.info? T).bind (·.zero) = some (.bool false)) : ∃ z i, P.info? T = some i /\ i.zero = some z /\ ∀ I, RV I noNames (.bool false) z := by
 cases hi : P.info? T with
 | none => simp [hi] at h
 | some i => exact ⟨.bool false, i, rfl, by simpa [hi] using h, fun I => .bool _⟩
theorem znk : ∃ z i, Tryz.prog.info? 4 = some i /\ i.zero = some z /\ ∀ I, RV I noNames (AV.bool false) z := znj ze4
attribute [local irreducible] fsL fsP fsA lasL laP cmpV addV addE subV subE drL
set_option maxHeartbeats 2000000 in
theorem zcz (l : List Ite) (k : Int) (u : Tm) (b : Nat) (L : List (Int × Bool)) (s : Sgm) (hs : SgB l.length s) (hl : l.length <= 1000000) : FnW Tryz.prog 229 [.ept (fun _ : Unit => [.sl itE l, iv k, iv u.N, iv u.D, .val (.map (some b))]) () 0, smA s] (.bool (poQ u k l L s)) (zhH b (fun i : Int => .int .i64 i) AV.bool L) := by
 have f0 := hs.f0;have ft := hs.ft;have tn := hs.tn;have lf := hs.lf;have hrl : (itR l s).length <= 1000000 := by unfold itR; simp; omega
 have hfl := ziQ (itR l s);refine FnW.go Tryz.func229 Tryz.ntmps229 (fun g w d hH hfr => ?_);refine gd ?_ ?_<;>intro hc1
 ·have hE : poQ u k l L s = false := by unfold poQ; rw [decide_eq_true hc1]; rfl
  refine gq ?_;all_goals (rw [hE])
 have hx := zeu (l := l) (i := s.Left) (by omega) lf;have hE : poQ u k l L s = ((decide ((itg l s.Left).Value < k) || !(mget s.Left L).getD false) && lgQ u (itg l s.Left) && rcQ u (fsL (itR l s)) (itg l s.Left).After) := by unfold poQ; rw [decide_eq_false (show ¬ s.Left < 0 by omega)]; rfl
 refine gq ?_;refine zn [5,9,10,11,12,13,14,15,16,17] [0,1,3,7,15,0,32,127,255,0,1023] mo ?_;iterate 9 refine yc ?_
 refine ChM.step rfl rfl rfl (zbl (k := 5) ziv) rfl ?_;refine yM ?_;refine gq ?_;refine zn [4,18,19,20,21,22,23,24,25,26,27,28,29,30,31,32,33,34,35,36,37,38,39,40,41,42,43,44,45,46,47,48,49,50,51,52,53,54,55,56] [0,1,0,4,12,28,63,127,255,511,1023,2047,255,4351,16383,32767,65535,131071,262143,262143,1048575,2097151,4194303,8388607,8388607,25165823,58720255,125829119,260046847,8388607,545259519,8388607,2155872255,8581545983,17171480575,8388607,34368126975,137438953471,274877906943,549755813887] mo ?_;iterate 8 refine yc ?_
 iterate 6 refine ChM.gi ?_
 refine ChM.gi ?_ (hs := by intro hgd; exact zmL false hH hfr zni zlj znk);refine ChM.gi ?_;iterate 2 refine yc ?_
 iterate 2 refine ChM.gi ?_
 refine ChM.cg (zaF l k u b (itg l s.Left)) ?_;iterate 2 refine yc ?_
 iterate 10 refine ChM.gi ?_
 refine ChM.gi ?_ (hs := by intro hgd; exact zco rfl rfl rfl ziw zkj (fun _ => rfl) (by omega) (by omega) (by omega));refine ChM.cg (zej (itR l s) hrl) ?_;iterate 2 refine ChM.gi ?_
 refine ChM.cg (zay l k u b (fsL (itR l s)) (itg l s.Left).After (by omega)) ?_;iterate 2 refine yc ?_
 refine yM ?_;refine gq ?_;all_goals (rw [hE])
set_option maxHeartbeats 2000000 in
theorem zcA (l : List Ite) (k : Int) (u : Tm) (b : Nat) (s : Sgm) (hs : SgB l.length s) (hl : l.length <= 1000000) : Fn Tryz.prog 230 [.ept (fun _ : Unit => [.sl itE l, iv k, iv u.N, iv u.D, .val (.map (some b))]) () 0, smA s] (.bool (anQ u k l s)) := by
 have f0 := hs.f0;have ft := hs.ft;have tn := hs.tn;have rt := hs.rt;have hrl : (itR l s).length <= 1000000 := by unfold itR; simp; omega
 have hfl := znh (itR l s);refine Fn.go Tryz.func230 Tryz.ntmps230 (fun g w d => ?_);refine gd ?_ ?_<;>intro hc1
 ·have hE : anQ u k l s = false := by unfold anQ; rw [decide_eq_true hc1]; rfl
  refine gq ?_;all_goals (rw [hE])
 have hx := zeu (l := l) (i := s.Right) (by omega) rt;refine gq ?_;refine zn [5,10,11,12,13,14,15,16,17,18] [0,1,3,7,15,0,32,127,255,0,1023] mo ?_;iterate 9 refine yc ?_
 refine ChM.step rfl rfl rfl (zbl (k := 5) ziv) rfl ?_;refine yM ?_;refine gq ?_;refine zn [19,20,21,22,23,24,25,26,27,28,29,30,31,32,33,34,35,36,37,38,39,40,41,42,43] [0,1,0,4,12,28,63,127,255,511,1023,255,2303,6399,14591,30975,63743,131071,262143,524287,1048575,2097151,4194303,8388607,16777215] mo ?_;iterate 8 refine yc ?_
 iterate 10 refine ChM.gi ?_
 iterate 2 refine yc ?_
 iterate 4 refine ChM.gi ?_
 refine yc ?_;refine yM ?_;refine gd ?_ ?_<;>intro hc2
 ·obtain ⟨⟨hv1, hv2⟩, hv3⟩ := hc2;have hx2 := zeu (l := l) (i := s.Right + 1) (by omega) (by omega);apply yn;refine zn [6,44,45,46,47,48,49,50,51,52,53] [0,1,3,7,15,0,32,96,255,511,0,2047] mo ?_;iterate 10 refine yc ?_
  refine ChM.step rfl rfl rfl (zbl (k := 6) ziv) rfl ?_;refine yM ?_;refine gq ?_;refine zn [54,55,56,57,58,59,60,61,62,63,64,65] [0,1,3,7,15,31,15,79,207,463,1023,2047] mo ?_;iterate 4 refine yc ?_
  iterate 7 refine ChM.gi ?_
  refine yc ?_;refine yM ?_;refine gd ?_ ?_<;>intro hc3
  ·have hB : blQ k l s.Right = true := zrY hv1 hv2 hv3 hc3.1 hc3.2;have hE : anQ u k l s = false := by unfold anQ; rw [hB, decide_eq_false (show ¬ s.Right < 0 by omega)]; rfl
   refine gq ?_;all_goals (rw [hE])
  have hB : blQ k l s.Right = false := zr0 hc3;have hE : anQ u k l s = (lgQ u (itg l s.Right) && rcQ u (lasL (itR l s)) (itg l s.Right).Before) := by unfold anQ; rw [decide_eq_false (show ¬ s.Right < 0 by omega), hB]; rfl
  refine gq ?_;refine zn [4,66,67,68,69,70,71,72,73,74,75,76,77,78,79,80,81,82,83,84,85] [0,0,3,7,15,15,47,111,239,495,15,1039,15,4111,16367,32751,15,65551,262143,524287,1048575] mo ?_;iterate 2 refine yc ?_
  refine yT (zaF l k u b (itg l s.Right)) ?_;refine yc ?_;iterate 10 refine ChM.gi ?_
  refine ChM.gi ?_ (hs := by intro hgd; exact zco rfl rfl rfl ziw zkj (fun _ => rfl) (by omega) (by omega) (by omega));refine ChM.cg (zeX (itR l s) hrl) ?_;iterate 2 refine ChM.gi ?_
  refine ChM.cg (zay l k u b (lasL (itR l s)) (itg l s.Right).Before (by omega)) ?_;iterate 2 refine yc ?_
  refine yM ?_;refine gq ?_;all_goals (rw [hE])
 ·have hB : blQ k l s.Right = false := zrZ hc2;have hE : anQ u k l s = (lgQ u (itg l s.Right) && rcQ u (lasL (itR l s)) (itg l s.Right).Before) := by unfold anQ; rw [decide_eq_false (show ¬ s.Right < 0 by omega), hB]; rfl
  refine gq ?_;refine zn [4,66,67,68,69,70,71,72,73,74,75,76,77,78,79,80,81,82,83,84,85] [0,0,3,7,15,15,47,111,239,495,15,1039,15,4111,16367,32751,15,65551,262143,524287,1048575] mo ?_;iterate 2 refine yc ?_
  refine yT (zaF l k u b (itg l s.Right)) ?_;refine yc ?_;iterate 10 refine ChM.gi ?_
  refine ChM.gi ?_ (hs := by intro hgd; exact zco rfl rfl rfl ziw zkj (fun _ => rfl) (by omega) (by omega) (by omega));refine ChM.cg (zeX (itR l s) hrl) ?_;iterate 2 refine ChM.gi ?_
  refine ChM.cg (zay l k u b (lasL (itR l s)) (itg l s.Right).Before (by omega)) ?_;iterate 2 refine yc ?_
  refine yM ?_;refine gq ?_;all_goals (rw [hE])
set_option maxHeartbeats 2000000 in
theorem zeY (l : List Ite) (k : Int) (u : Tm) (b : Nat) (s : Sgm) (hs : SgB l.length s) (hl : l.length <= 1000000) (k0 : -9223372036854775808 <= k) (k1 : k + 1 <= 9223372036854775807) : Fn Tryz.prog 231 [.ept (fun _ : Unit => [.sl itE l, iv k, iv u.N, iv u.D, .val (.map (some b))]) () 0, smA s] (.bool (atQ u k l s)) := by
 have f0 := hs.f0;have ft := hs.ft;have tn := hs.tn;have rt := hs.rt;refine Fn.go Tryz.func231 Tryz.ntmps231 (fun g w d => ?_);apply yg;refine zbs ?_;refine yx ?_;apply yn;apply yg;iterate 5 refine ya ?_
 refine ExF.at 5 ?_;refine yC ?_;iterate 2 refine ExF.gi ?_
 refine ym ?_;refine gd ?_ ?_<;>intro hc1
 ·have hE : atQ u k l s = false := by unfold atQ; rw [ztO hc1]; rfl
  refine gq ?_;all_goals (first | (rw [hE]; done) | (rw [hE]; unfold ntQ; rfl))
 have hx := zeu (l := l) (i := s.To - 1) (by omega) (by omega);have hE : atQ u k l s = (ntQ u k (itg l (s.To - 1)) && (decide (s.Right < 0) || decide ((itg l s.Right).Before.N = 0))) := by unfold atQ; rw [ztP hc1]; rfl
 refine gq ?_;refine zn [5,16,17,18,19,20,21,22,23,24,25] [0,1,3,7,15,0,32,96,255,511,0,2047] mo ?_;iterate 10 refine yc ?_
 refine ChM.step rfl rfl rfl (zbl (k := 5) ziv) rfl ?_;refine yM ?_;refine gq ?_;refine zn [6,26,27,28,29,30,31,32,33,34,35,36,37,38,39,40,41,42,43,44,45,46,47,48,49,50,51,52,53,54,55,56,57] [0,1,3,7,15,31,63,127,255,511,1023,2047,4095,8191,16383,32767,16383,81919,212991,475135,999423,2097151,4194303,8388607,16777215,33554431,16777215,83886079,218103807,486539263,1073741823,2147483647,4294967295] mo ?_;iterate 4 refine yc ?_
 iterate 3 refine ChM.gi ?_
 iterate 2 refine yc ?_
 iterate 3 refine ChM.gi ?_
 iterate 2 refine yc ?_
 iterate 8 refine ChM.gi ?_
 iterate 2 refine yc ?_
 iterate 7 refine ChM.gi ?_
 iterate 2 refine yc ?_
 refine yM ?_;refine gq ?_;refine zn [4,58,59,60,61,62,63,64,65,66,67,68,69,70,71,72,73,74,75,76,77] [0,1,3,7,15,31,63,127,255,511,1023,63,2111,8191,16383,32767,65535,131071,262143,524287,1048575] mo ?_;iterate 2 refine yc ?_
 iterate 17 refine ChM.gi ?_
 iterate 2 refine yc ?_
 refine yM ?_;refine gq ?_;all_goals (first | (rw [hE]; done) | (rw [hE]; unfold ntQ; rfl))
set_option maxHeartbeats 4000000 in
theorem zaz (l : List Ite) (k : Int) (u : Tm) (b : Nat) (L : List (Int × Bool)) (s : Sgm) (hs : SgB l.length s) (hl : l.length <= 1000000) (k0 : -9223372036854775808 <= k) (k1 : k + 1 <= 9223372036854775807) (hN : 0 <= s.Count.N) : FnOW Tryz.prog 209 [.ept (fun _ : Unit => [.sl itE l, iv k, iv u.N, iv u.D, .val (.map (some b))]) () 0, smA s] intE (alQ u k l L s) 3 1 (zhH b (fun i : Int => .int .i64 i) AV.bool L) := by
 have hr0 := Int.emod_nonneg s.Count.N (show (3 : Int) ≠ 0 by omega);have hr1 := Int.emod_lt_of_pos s.Count.N (show (0 : Int) < 3 by omega);refine FnOW.go Tryz.func209 Tryz.ntmps209 (rv := [.tmp 4]) (fun g w d hH hfr => ?_);have hH2 : ∀ st g' a w', Rel (C0 86 d g w) st g' a w' -> zhH b (fun i : Int => .int .i64 i) AV.bool L g'.I g'.O w' := fun st g' a w' hr => hH.now rfl hfr hr
 refine gq ?_;refine zn [7,19,20,21,22,23,24,25,26,27,28,29,30,31,32,33,34,35,36,37,38,39,40,41,42,43,44,45,46,47,48,49,50,51,52,53,54,55,56,57,58,59,60,61,62,63] [0,1,0,4,15,0,32,96,96,480,992,2016,0,4096,12288,29664,62432,62432,259040,521184,1045472,0,2097152,6291456,15201248,31978464,31978464,132641760,266859488,535294944,1072165856,1072165856,4293391328,8588358624,17178293216,0,34359738368,103079215104,249106527200,523984434144,523984434144,2173251875808,4372275131360,8770321642464,17592186044415,0,70368744177663] mo ?_;iterate 7 refine yc ?_
 iterate 2 refine ChM.gi ?_
 refine ChM.lg (x := .bool (poQ u k l L s)) hH2 (zcz l k u b L s hs hl) ?_;iterate 6 refine yc ?_
 iterate 2 refine ChM.gi ?_
 refine ChM.cg (zcA l k u b s hs hl) ?_;iterate 6 refine yc ?_
 iterate 2 refine ChM.gi ?_
 refine ChM.lg (x := .bool (poQ u k l L s)) hH2 (zcz l k u b L s hs hl) ?_;iterate 2 refine yc ?_
 iterate 2 refine ChM.gi ?_
 refine ChM.cg (zcA l k u b s hs hl) ?_;iterate 6 refine yc ?_
 iterate 2 refine ChM.gi ?_
 refine ChM.cg (zeY l k u b s hs hl k0 k1) ?_;iterate 3 refine yc ?_
 refine ChM.step rfl rfl rfl (zbl (k := 7) zrB) rfl ?_;refine yM ?_;refine Ex.mo ?_;apply yK;refine yx ?_;iterate 2 apply yn
 refine X.imp (yP intE 3 1 8 5 rfl rfl) ?_;refine gq ?_;refine yZ (ι := Nat) (fun (n : Nat) => [(3, .ptr 3 0 0 0), (6, iv (s.Count.N % 3)), (8, .own 5), (64, .agg (tbA s.Free (decide (s.Count.D = 1)) (poQ u k l L s) (anQ u k l s) (atQ u k l s))), (65, iv (n : Int))]) (fun (n : Nat) => [(3, .box (smE s) 232), (5, .row intE (alP s.Free (decide (s.Count.D = 1)) (poQ u k l L s) (anQ u k l s) (atQ u k l s) (s.Count.N % 3).toNat n) 3 1)]) (fun (n : Nat) => n <= 5) (fun (n : Nat) => 5 - n) 0 (fun n hk => ?_);refine gd ?_ ?_<;>intro hc1
 ·have hn5 : n < 5 := by omega
  have hpt := zr1 s.Free (decide (s.Count.D = 1)) (poQ u k l L s) (anQ u k l s) (atQ u k l s) hn5;have hcell := ztQ s.Free (decide (s.Count.D = 1)) (poQ u k l L s) (anQ u k l s) (atQ u k l s) hn5 hr0 hr1;have hal := zli s.Free (decide (s.Count.D = 1)) (poQ u k l L s) (anQ u k l s) (atQ u k l s) (s.Count.N % 3).toNat n;apply yr;apply yn;apply X.block;apply yg;refine ya ?_;refine ya (hs := by exact zx ArK.h TyK.h rfl rfl (by omega) (by omega) hpt) ?_;refine zD ?_;refine ya ?_;refine Ex.mo ?_;apply yK;refine ya ?_;refine ya (hs := by exact zf2 rfl rfl ArK.h ty4 (by omega) (by omega)) ?_;refine ya (hs := by exact yH rfl rfl hcell ty4) ?_;refine ExF.at 3 ?_;refine yC ?_;iterate 6 refine ExF.gi ?_
  refine ym ?_;refine gd ?_ ?_<;>intro hc2
  ·have hst := ztR (r := (s.Count.N % 3).toNat) hc2;refine gq ?_;refine yL intE [_] ?_;refine gq ?_;refine yD (n + 1)
  ·have hst := ztS (r := (s.Count.N % 3).toNat) hc2;refine gq ?_;refine yD (n + 1)
 ·have hn : n = 5 := by omega
  subst hn;have he : alP s.Free (decide (s.Count.D = 1)) (poQ u k l L s) (anQ u k l s) (atQ u k l s) (s.Count.N % 3).toNat 5 = alQ u k l L s := zpf _ _ _;apply X.exit;apply yg;refine zq ?_;refine X.ret ?_;refine ⟨.inr rfl, [(4, .own 5)], [], yd, .one (.tmp rfl (LeV.eq rfl))⟩
end Go.Rse
namespace Go.Rse
open Go Go.Proofs
section
variable {P : Program} {C : Ctx} {st : St} {ty : TypeId} {Q : Exit -> St -> Prop} {ops : Array Oper} {ms : List Nat} {hid : List Nat} {i m : Nat} {fs : List FactM} {o : Oper} {x : AV} {nb : Option (Nat × Blk)}
theorem ChM.lo {d : Nat} {α : Type} {enc : α -> List AV} {l : List α} {E s : Nat} {f : FuncId} {caps xs : List AV} {fop : Operand} {args : Array Operand} {ts : Array TypeId} (q : Nat) (hc : FnOW P f (xs ++ caps) enc l E s fun _ _ _ => True) (hfl : ∀ x, AV.flat.flatL (enc x) = true) (h : ChM P C ops ms st hid Q (i + 1) (⟨i, some d, .own q, some (q, .row enc l E s), m, []⟩ :: fs)) (hm : ms[i]? = some m := by exact rfl) (ho : ops[i]? = some o := by exact rfl) (hg : o.guard = none := by exact rfl) (hod : o.dst = some d := by exact rfl)
 (hop : o.op = .call { callee := .value fop, args := args, argTypes := ts } := by exact rfl) (hf : ev (stV st hid m fs []) fop = some (.fn f caps) := by exact rfl) (hx : evs (stV st hid m fs []) args.toList = some xs := by exact rfl) (hd : d.blt C.n = true := by exact rfl) : ChM P C ops ms st hid Q i fs :=
 .step hm ho hg (by rw [hop]; exact zgF (ι := Unit) (stF := fun _ => stV st hid m fs []) (caps := fun _ => caps) (xs := fun _ => xs) q (fun g a w hr => zvc Imp.refl hr) (fun _ => hc) hfl (fun _ => hf) (fun _ => hx) (fun _ => LeL.refl _)) (by rw [hod]; exact hd) (by rw [hod]; exact h)
end
instance : ZcK Tryz.prog 243 [.nils, .int .i64 0, .int .i64 0, .int .i64 0, .val (.map none)] := ⟨⟨_, zvU, rfl⟩⟩
attribute [local irreducible] Pur yw yy Ex X Fn Imp LeV LeB FnO It yz FnW FnOW
theorem set2 {l : List Ite} {i : Nat} {x y : Ite} : (l.set i x).set i y = l.set i y := by rw [List.set_set]
theorem znl {l : List Ite} {i : Nat} {x y : Ite} (h : l[i]? = some x) : (l.set i y)[i]? = some y := by
 have := (List.getElem?_eq_some_iff.1 h).1;rw [List.getElem?_set]; simp [this]
attribute [local irreducible] addV addE subV subE
theorem zfw (m : Mn) (k : Int) (l : List Ite) (h0 : -9223372036854775808 <= k) (h1 : k <= 9223372036854775807) (hl : l.length <= 1000000) (hE : ¬ segE m k l = 0) : Fn Tryz.prog 178 [mnA m, iv k, itsA l] (.tup [.val (.pointer none), smsA [], iv (segE m k l)]) := by
 refine Fn.go Tryz.func178 Tryz.ntmps178 (fun g w d => ?_);refine gq ?_;refine yb (zbc m k l h0 h1 hl) ?_;refine gd ?_ ?_<;>intro hc1
 ·apply yg;refine zl4 ?_;refine X.ret ?_;refine RetQ.imp (yd (ts := [(6, .val (.pointer none)), (7, smsA []), (8, iv (segE m k l))]) (hs := [])) ?_;refine RetQ.ret (.many (by decide) (.cons (.tmp rfl (LeV.eq ?_)) (.cons (.tmp rfl (LeV.eq ?_)) (.cons (.tmp rfl (LeV.eq ?_)) .nil))));all_goals (first | rfl | (simp_all; done))
 exact absurd hc1 hE
theorem zap (m : Mn) (k : Int) (l : List Ite) (h0 : -9223372036854775808 <= k) (h1 : k <= 9223372036854775807) (hl : l.length <= 1000000) (hE : segE m k l = 0) : FnO Tryz.prog 178 [mnA m, iv k, itsA l] [] [] (.tup [.ptr 36 0 0 0, smsA (segV m k l), iv 0]) [(36, .box [.own 30, iv k, iv (unT m k).N, iv (unT m k).D, .mp 34] 243), (30, .row itE l 120 12), (34, .mpb (fun i : Int => .int .i64 i) AV.bool [])] := by
 refine FnO.introX (ts := [(0, mnA m), (1, iv k), (2, itsA l)]) (rv := [.tmp 6, .tmp 7, .tmp 8]) (n := 38) (cs := []) (by kernel_rfl) Tryz.func178 rfl Tryz.ntmps178 rfl rfl (by simp) rfl rfl rfl rfl (fun g w d vs => ?_);refine gq ?_;refine yb (zbc m k l h0 h1 hl) ?_;refine gd ?_ ?_<;>intro hc1
 ·exact absurd hE hc1
 refine gq ?_;refine yb (zeU m k h0 h1) ?_;refine gq ?_;refine zn [6,7,8,29,30,31,32,33,34,35,36,37] [0,1,3,0,0,0,63,127,0,255,1023,2047] mo ?_;refine yc ?_;refine ChM.lo 30 (zO l (by omega)).ow (fun _ => rfl) ?_;iterate 3 refine yc ?_
 refine ChM.step rfl rfl rfl (zfO (k := 34) (fun i : Int => .int .i64 i) AV.bool) rfl ?_;refine yc ?_;refine ChM.step rfl rfl rfl (zfH (k := 36) rfl rfl) rfl ?_;iterate 4 refine yc ?_
 refine yM ?_;apply Ex.nil;refine X.ret ?_;refine zit.mk [(6, .ptr 36 0 0 0), (7, smsA (segV m k l)), (8, iv 0)] [] (.inr rfl) (.many (by decide) (.cons (.tmp rfl (LeV.eq ?_)) (.cons (.tmp rfl (LeV.eq ?_)) (.cons (.tmp rfl (LeV.eq ?_)) .nil))));all_goals (rfl)
set_option maxHeartbeats 2000000 in
theorem zcU (l : List Ite) (k : Int) (u : Tm) (L : List (Int × Bool)) (i : Nat) (x : Ite) (hx : l[i]? = some x) : FnO Tryz.prog 236 [.ptr 2000001 12 i 0, .ptr 2000001 12 i 10, .ptr 2000003 0 0 0] [(2000003, .box [.ptr 2000000 0 0 0] 235), (2000000, .box [.own 2000001, iv k, iv u.N, iv u.D, .mp 2000002] 243), (2000001, .row itE (l) 120 12), (2000002, .mpb (fun i : Int => .int .i64 i) AV.bool (L))] [2000003, 2000000, 2000001, 2000002] (iv (max (subE x.Dur u) (addE x.After u))) [(2000003, .box [.ptr 2000000 0 0 0] 235), (2000000, .box [.own 2000001, iv k, iv u.N, iv u.D, .mp 2000002] 243), (2000001, .row itE (l.set i (zb1 u x)) 120 12), (2000002, .mpb (fun i : Int => .int .i64 i) AV.bool (L))] := by
 have hx1 := znl (y := { x with Dur := subV x.Dur u }) hx;have hst : (l.set i { x with Dur := subV x.Dur u }).set i (zb1 u x) = l.set i (zb1 u x) := set2;refine FnO.introX (ts := [(0, .ptr 2000001 12 i 0), (1, .ptr 2000001 12 i 10), (2, .ptr 2000003 0 0 0)]) (rv := [.tmp 5]) (n := 39) (cs := [.ptr 2000003 0 0 0, .ptr 2000000 0 0 0, .own 2000001, .mp 2000002]) (by kernel_rfl) Tryz.func236 rfl Tryz.ntmps236 rfl rfl (by simp) rfl rfl rfl rfl (fun g w d vs => ?_);refine gq ?_;refine zn [8,9,10,11,12,13,14,15,16,17,18,19,20,21,22] [0,0,2,6,14,0,32,96,224,510,1022,2046,2046,4095,12287,28671,65535] mo ?_;iterate 2 refine yc ?_
 refine yc ?_ (hs := by exact yl rfl);refine yc ?_;refine yc ?_ (hs := by exact zN (n := 2) rfl rfl hx rfl rfl (by decide) rfl TyK.h);refine yc ?_;refine yc ?_ (hs := by exact yl rfl);iterate 2 refine yc ?_
 refine yT (zbW x.Dur u) ?_;iterate 3 refine yc ?_
 refine yc ?_ (hs := by exact yl rfl);refine yc ?_;refine zd7 12 ⟨[(0, .ptr 2000001 12 i 0), (1, .ptr 2000001 12 i 10), (2, .ptr 2000003 0 0 0), (6, iv (subE x.Dur u)), (7, iv 0)], [(1000001, .hold vs [.ptr 2000003 0 0 0, .ptr 2000000 0 0 0, .own 2000001, .mp 2000002]), (2000003, .box [.ptr 2000000 0 0 0] 235), (2000000, .box [.own 2000001, iv k, iv u.N, iv u.D, .mp 2000002] 243), (2000001, .row itE (l.set i { x with Dur := subV x.Dur u }) 120 12), (2000002, .mpb (fun i : Int => .int .i64 i) AV.bool (L))]⟩ (fun Q hQ => ?_) (fun Q hQ => ?_) ?_
 ·refine Ex.mo (hs := zr (n := 2) x { x with Dur := subV x.Dur u } rfl rfl hx (fun _ => rfl) (by decide) rfl rfl rfl (by decide) rfl rfl rfl TyK.h) ?_;refine ya ?_;exact Ex.imp yf hQ
 ·refine Ex.mo (hs := zr (n := 2) x { x with Dur := subV x.Dur u } rfl rfl hx (fun _ => rfl) (by decide) rfl rfl rfl (by decide) rfl rfl rfl TyK.h) ?_;iterate 2 refine ya ?_
  exact Ex.imp yf hQ
 refine gq ?_;refine zn [23,24,25,26,27,28,29,30,31,32,33,34,35] [0,0,2,6,0,16,48,112,254,510,1022,1022,2047,6143,16383] mo ?_;iterate 2 refine yc ?_
 refine yc ?_ (hs := by exact yl rfl);refine yc ?_ (hs := by exact zN (n := 2) rfl rfl hx1 rfl rfl (by decide) rfl TyK.h);refine yc ?_;refine yc ?_ (hs := by exact yl rfl);iterate 2 refine yc ?_
 refine yT (zbe x.After u) ?_;iterate 3 refine yc ?_
 refine yc ?_ (hs := by exact yl rfl);refine zd7 11 ⟨[(6, iv (subE x.Dur u)), (7, iv (addE x.After u))], [(1000001, .hold vs [.ptr 2000003 0 0 0, .ptr 2000000 0 0 0, .own 2000001, .mp 2000002]), (2000003, .box [.ptr 2000000 0 0 0] 235), (2000000, .box [.own 2000001, iv k, iv u.N, iv u.D, .mp 2000002] 243), (2000001, .row itE ((l.set i { x with Dur := subV x.Dur u }).set i (zb1 u x)) 120 12), (2000002, .mpb (fun i : Int => .int .i64 i) AV.bool (L))]⟩ (fun Q hQ => ?_) (fun Q hQ => ?_) ?_
 ·refine Ex.mo (hs := zr (n := 2) { x with Dur := subV x.Dur u } (zb1 u x) rfl rfl hx1 (fun _ => rfl) (by decide) rfl rfl rfl (by decide) rfl rfl rfl TyK.h) ?_;refine ya ?_;exact Ex.imp yf hQ
 ·refine Ex.mo (hs := zr (n := 2) { x with Dur := subV x.Dur u } (zb1 u x) rfl rfl hx1 (fun _ => rfl) (by decide) rfl rfl rfl (by decide) rfl rfl rfl TyK.h) ?_;iterate 2 refine ya ?_
  exact Ex.imp yf hQ
 apply yK;iterate 2 refine ya ?_
 refine ya (hs := by exact zl0 rfl rfl) ?_;refine yx ?_;refine X.ret ?_;refine zfP (st' := ⟨[(5, iv (max (subE x.Dur u) (addE x.After u)))], [(1000001, .hold vs [.ptr 2000003 0 0 0, .ptr 2000000 0 0 0, .own 2000001, .mp 2000002]), (2000003, .box [.ptr 2000000 0 0 0] 235), (2000000, .box [.own 2000001, iv k, iv u.N, iv u.D, .mp 2000002] 243), (2000001, .row itE (l.set i (zb1 u x)) 120 12), (2000002, .mpb (fun i : Int => .int .i64 i) AV.bool (L))]⟩) (by first | exact yd | exact yf) ?_;refine zit.mk [(5, iv (max (subE x.Dur u) (addE x.After u)))] [] (.inr rfl) (.one (.tmp rfl (LeV.eq ?_)));all_goals (rfl)
set_option maxHeartbeats 2000000 in
theorem zcV (l : List Ite) (k : Int) (u : Tm) (L : List (Int × Bool)) (i : Nat) (x : Ite) (hx : l[i]? = some x) : FnO Tryz.prog 236 [.ptr 2000001 12 i 0, .ptr 2000001 12 i 8, .ptr 2000003 0 0 0] [(2000003, .box [.ptr 2000000 0 0 0] 235), (2000000, .box [.own 2000001, iv k, iv u.N, iv u.D, .mp 2000002] 243), (2000001, .row itE (l) 120 12), (2000002, .mpb (fun i : Int => .int .i64 i) AV.bool (L))] [2000003, 2000000, 2000001, 2000002] (iv (max (subE x.Dur u) (addE x.Before u))) [(2000003, .box [.ptr 2000000 0 0 0] 235), (2000000, .box [.own 2000001, iv k, iv u.N, iv u.D, .mp 2000002] 243), (2000001, .row itE (l.set i (zb2 u x)) 120 12), (2000002, .mpb (fun i : Int => .int .i64 i) AV.bool (L))] := by
 have hx1 := znl (y := { x with Dur := subV x.Dur u }) hx;have hst : (l.set i { x with Dur := subV x.Dur u }).set i (zb2 u x) = l.set i (zb2 u x) := set2;refine FnO.introX (ts := [(0, .ptr 2000001 12 i 0), (1, .ptr 2000001 12 i 8), (2, .ptr 2000003 0 0 0)]) (rv := [.tmp 5]) (n := 39) (cs := [.ptr 2000003 0 0 0, .ptr 2000000 0 0 0, .own 2000001, .mp 2000002]) (by kernel_rfl) Tryz.func236 rfl Tryz.ntmps236 rfl rfl (by simp) rfl rfl rfl rfl (fun g w d vs => ?_);refine gq ?_;refine zn [8,9,10,11,12,13,14,15,16,17,18,19,20,21,22] [0,0,2,6,14,0,32,96,224,510,1022,2046,2046,4095,12287,28671,65535] mo ?_;iterate 2 refine yc ?_
 refine yc ?_ (hs := by exact yl rfl);refine yc ?_;refine yc ?_ (hs := by exact zN (n := 2) rfl rfl hx rfl rfl (by decide) rfl TyK.h);refine yc ?_;refine yc ?_ (hs := by exact yl rfl);iterate 2 refine yc ?_
 refine yT (zbW x.Dur u) ?_;iterate 3 refine yc ?_
 refine yc ?_ (hs := by exact yl rfl);refine yc ?_;refine zd7 12 ⟨[(0, .ptr 2000001 12 i 0), (1, .ptr 2000001 12 i 8), (2, .ptr 2000003 0 0 0), (6, iv (subE x.Dur u)), (7, iv 0)], [(1000001, .hold vs [.ptr 2000003 0 0 0, .ptr 2000000 0 0 0, .own 2000001, .mp 2000002]), (2000003, .box [.ptr 2000000 0 0 0] 235), (2000000, .box [.own 2000001, iv k, iv u.N, iv u.D, .mp 2000002] 243), (2000001, .row itE (l.set i { x with Dur := subV x.Dur u }) 120 12), (2000002, .mpb (fun i : Int => .int .i64 i) AV.bool (L))]⟩ (fun Q hQ => ?_) (fun Q hQ => ?_) ?_
 ·refine Ex.mo (hs := zr (n := 2) x { x with Dur := subV x.Dur u } rfl rfl hx (fun _ => rfl) (by decide) rfl rfl rfl (by decide) rfl rfl rfl TyK.h) ?_;refine ya ?_;exact Ex.imp yf hQ
 ·refine Ex.mo (hs := zr (n := 2) x { x with Dur := subV x.Dur u } rfl rfl hx (fun _ => rfl) (by decide) rfl rfl rfl (by decide) rfl rfl rfl TyK.h) ?_;iterate 2 refine ya ?_
  exact Ex.imp yf hQ
 refine gq ?_;refine zn [23,24,25,26,27,28,29,30,31,32,33,34,35] [0,0,2,6,0,16,48,112,254,510,1022,1022,2047,6143,16383] mo ?_;iterate 2 refine yc ?_
 refine yc ?_ (hs := by exact yl rfl);refine yc ?_ (hs := by exact zN (n := 2) rfl rfl hx1 rfl rfl (by decide) rfl TyK.h);refine yc ?_;refine yc ?_ (hs := by exact yl rfl);iterate 2 refine yc ?_
 refine yT (zbe x.Before u) ?_;iterate 3 refine yc ?_
 refine yc ?_ (hs := by exact yl rfl);refine zd7 11 ⟨[(6, iv (subE x.Dur u)), (7, iv (addE x.Before u))], [(1000001, .hold vs [.ptr 2000003 0 0 0, .ptr 2000000 0 0 0, .own 2000001, .mp 2000002]), (2000003, .box [.ptr 2000000 0 0 0] 235), (2000000, .box [.own 2000001, iv k, iv u.N, iv u.D, .mp 2000002] 243), (2000001, .row itE ((l.set i { x with Dur := subV x.Dur u }).set i (zb2 u x)) 120 12), (2000002, .mpb (fun i : Int => .int .i64 i) AV.bool (L))]⟩ (fun Q hQ => ?_) (fun Q hQ => ?_) ?_
 ·refine Ex.mo (hs := zr (n := 2) { x with Dur := subV x.Dur u } (zb2 u x) rfl rfl hx1 (fun _ => rfl) (by decide) rfl rfl rfl (by decide) rfl rfl rfl TyK.h) ?_;refine ya ?_;exact Ex.imp yf hQ
 ·refine Ex.mo (hs := zr (n := 2) { x with Dur := subV x.Dur u } (zb2 u x) rfl rfl hx1 (fun _ => rfl) (by decide) rfl rfl rfl (by decide) rfl rfl rfl TyK.h) ?_;iterate 2 refine ya ?_
  exact Ex.imp yf hQ
 apply yK;iterate 2 refine ya ?_
 refine ya (hs := by exact zl0 rfl rfl) ?_;refine yx ?_;refine X.ret ?_;refine zfP (st' := ⟨[(5, iv (max (subE x.Dur u) (addE x.Before u)))], [(1000001, .hold vs [.ptr 2000003 0 0 0, .ptr 2000000 0 0 0, .own 2000001, .mp 2000002]), (2000003, .box [.ptr 2000000 0 0 0] 235), (2000000, .box [.own 2000001, iv k, iv u.N, iv u.D, .mp 2000002] 243), (2000001, .row itE (l.set i (zb2 u x)) 120 12), (2000002, .mpb (fun i : Int => .int .i64 i) AV.bool (L))]⟩) (by first | exact yd | exact yf) ?_;refine zit.mk [(5, iv (max (subE x.Dur u) (addE x.Before u)))] [] (.inr rfl) (.one (.tmp rfl (LeV.eq ?_)));all_goals (rfl)
end Go.Rse
