/-
  Walks.
-/
import Derived.Test.YtkpbljifckjeoaaGreatDoorYJWri1
import Derived.Test.YtkpbljifckjeoaaGreatDoorYJRul6
import Derived.Lib.AppendZeros
set_option linter.unusedSimpArgs false
set_option linter.unusedVariables false
namespace Go.Rse
open Go Go.Proofs
def hbN (n : Int) : Hb := ⟨!decide (andI n 4 = 0), !decide (andI n 2 = 0), !decide (andI n 1 = 0)⟩
structure Wg where
 n : Int
 c : Int
 r : List Sg
instance : Inhabited Wg := ⟨⟨0, 0, []⟩⟩
def wgE : Wg -> List AV := fun x => [iv x.n, iv x.c, sgsA x.r]
abbrev wgA (x : Wg) : AV := .agg (wgE x)
def coN (l : List Sg) : Nat := (l.filter (·.Color)).length
theorem zvi (l : List Sg) : (0 : Int) = ((coN (l.take 0) : Nat) : Int) := by unfold coN; rfl
theorem zvj {l : List Sg} {k : Nat} {s : Sg} (h : l[k]? = some s) (hc : s.Color = true) : ((coN (l.take k) : Nat) : Int) + 1 = ((coN (l.take (k + 1)) : Nat) : Int) := by
 unfold coN; rw [List.take_add_one, h]; simp [hc]
theorem zvk {l : List Sg} {k : Nat} {s : Sg} (h : l[k]? = some s) (hc : ¬ s.Color = true) : coN (l.take k) = coN (l.take (k + 1)) := by
 unfold coN; rw [List.take_add_one, h]; simp [hc]
theorem zsX (l : List Sg) (k : Nat) : coN (l.take k) <= l.length := by
 unfold coN; have := List.length_filter_le (·.Color) (l.take k); rw [List.length_take] at this; omega
def wgV (r : List Sg) : Wg := ⟨(r.length : Int), ((coN r : Nat) : Int), r⟩
def zbV (D : List Tm) (R : List Bool) : List Bt := List.zipWith Bt.mk D R
theorem zvl (D : List Tm) : [] = zbV D [] := by unfold zbV; simp
theorem zrz : ∀ {R : List Bool} {D : List Tm} {t : Tm} {r : Bool}, D[R.length]? = some t -> zbV D R ++ [⟨t, r⟩] = zbV D (R ++ [r])
 | [], D, t, r, h => by
  cases D with
  | nil => simp at h
  | cons x D => simp at h; subst h; simp [zbV]
 | y :: R, D, t, r, h => by
  cases D with
  | nil => simp at h
  | cons x D =>
   have := zrz (R := R) (D := D) (t := t) (r := r) (by simpa using h);unfold zbV at *
   simp only [List.zipWith_cons_cons, List.cons_append, this]
theorem zp7 (D : List Tm) (R : List Bool) (h : R.length <= D.length) : (zbV D R).length = R.length := by unfold zbV; rw [List.length_zipWith]; omega
theorem zsY (l : List Sg) (k : Nat) : (rsL (l.take k)).length <= (rsL l).length := by
 have : l.take k ++ l.drop k = l := List.take_append_drop k l;rw [← this];unfold rsL; simp [List.take_append_drop];have h2 : (l.filter fun s => !decide (s.Kind = 3)) = ((l.take k).filter fun s => !decide (s.Kind = 3)) ++ ((l.drop k).filter fun s => !decide (s.Kind = 3)) := by rw [← List.filter_append, List.take_append_drop]
 rw [h2, List.length_append]; omega
theorem zoq {m : Mn} : ∀ (L : List Int) (l : List Ite) (C : List Int), (lvF m L l C).2.2 = 0 -> (lvF m L l C).2.1.length = l.length
 | [], l, C, _ => rfl
 | k :: r, l, C, h0 => by
  unfold lvF at h0 ⊢;split at h0
  ·rename_i h;rw [if_pos h];have := zoq (m := m) r (apV m k l (cuV m k l)) (C ++ cuV m k l) h0;rw [ziU (zlC h)] at this; exact this
  ·rename_i h; exact absurd h0 h
theorem zsZ {m : Mn} {l : List Ite} (h : leE m l = 0) : (leI m l).length = l.length := by
 unfold leI;rw [if_pos h];unfold leE at h;split at h
 ·split at h
  ·exact zoq _ _ _ h
  ·rename_i h2; exact absurd h h2
 ·rename_i h2; exact absurd h h2
theorem zjn (l : List Sg) : ∀ k, ntN l k = (rsL (l.take k)).length
 | 0 => by unfold rsL; rfl
 | k + 1 => by
  unfold ntN;cases h : l[k]? with
  | none =>
   have h1 := List.getElem?_eq_none_iff.1 h;rw [List.take_of_length_le (by omega : l.length <= k + 1), zjn l k, List.take_of_length_le h1]
  | some s =>
   by_cases h3 : s.Kind = 3
   ·show (if s.Kind = 3 then ntN l k else ntN l k + 1) = _;rw [if_pos h3, zjn l k, zjk h h3]
   ·show (if s.Kind = 3 then ntN l k else ntN l k + 1) = _;rw [if_neg h3, zjn l k, ← zkS h h3, List.length_append]; rfl
theorem zs0 {m : Mn} {l : List Sg} (h : rdE m l = 0) : (rdV m l).Durs.length = (rsL l).length := by
 have hc : ckD m l = 0 := by
  apply Classical.byContradiction; intro hn; unfold rdE at h; rw [if_neg hn] at h; exact hn h
 have he : leE m (rdI m l) = 0 := by unfold rdE at h; rw [if_pos hc] at h; exact h
 unfold rdV;rw [if_pos h];show ((leI m (rdI m l)).map _).length = _;rw [List.length_map, zsZ he];unfold rdI;rw [znh (zrb hc), ziO, zjn, List.take_length]
def bsV (m : Mn) (l : List Sg) : List Bt := if rdE m l = 0 then zbV (rdV m l).Durs (rsL l) else []
attribute [local irreducible] Pur yr yw Ex X Fn Imp LeV LeB FnO It yx FnW FnOW FnP FnD
attribute [local irreducible] wcE btF ckT ckM ckD frV wcnE wcnV cnP chV durB rdE rdV rsL wisE wisB coN zbV andI
theorem zag (n : Int) : Fn Tryz.prog 48 [iv n] (hbA (hbN n)) := by
 refine Fn.go Tryz.func48 Tryz.ntmps48 (fun g w d => ?_);apply yg;refine zB ?_;apply yI;refine ya ?_;refine ya (hs := zhK rfl rfl) ?_;iterate 2 refine ya ?_
 refine ya (hs := zhK rfl rfl) ?_;iterate 2 refine ya ?_
 refine ya (hs := zhK rfl rfl) ?_;refine gq ?_;refine RetQ.ret (.one (.cellA rfl rfl rfl rfl ty35 (LeV.eq ?_)));all_goals (first | rfl | (simp_all; done))
theorem zgf (l : List Bt) (hl : l.length <= 4000000000) : Fn Tryz.prog 65 [btsA l] (tmsA (durB l)) := by
 have hz0 : [] = durB (l.take 0) := by unfold durB; rfl
 refine Fn.go Tryz.func65 Tryz.ntmps65 (fun g w d => ?_);apply yg;refine ya ?_;apply yI;refine yu ?_;iterate 2 apply yl
 refine X.imp (yL tmE 25 2 3 30 rfl rfl) ?_;refine gq ?_
 refine yS (ι := Nat) (fun (k : Nat) => [(6, btsA l), (7, iv (l.length : Int)), (8, iv (k : Int)), (3, .own 30)]) (fun (k : Nat) => [(30, .row tmE (durB (l.take k)) 25 2)]) (fun (k : Nat) => k <= l.length) (fun (k : Nat) => l.length - k) 0 (fun k hk => ?_) (h0 := by
  exact yd)
 refine gd ?_ ?_<;>intro hc1
 ·obtain ⟨b, hb⟩ : ∃ b, l[k]? = some b := ⟨_, lgg (by omega)⟩;have hb2 : l[(k : Int).toNat]? = some b := by simpa using hb
  have hst := zn7 hb;have hlt : (durB (l.take k)).length <= l.length := by rw [zhh, List.length_take]; omega
  refine gq ?_;refine yJ tmE [b.Dur] ?_;refine gq ?_;refine yz (k + 1) (hI := yd)
 ·obtain rfl : k = l.length := by omega
  have hV : durB (l.take l.length) = durB l := by rw [List.take_length]
  apply X.exit;apply yg;refine zm ?_;refine X.ret ?_;refine RetQ.imp (Imp.freeze (k := 30) rfl) ?_;refine gq ?_;all_goals (exact congrArg (fun z => tmsA z) hV)
set_option maxHeartbeats 1000000 in
theorem zfH (l : List Sg) (hl : l.length <= 4000000000) : Fn Tryz.prog 37 [sgsA l] (wgA (wgV l)) := by
 have hz0 : [iv (l.length : Int), iv 0, sgsA l] = [iv (l.length : Int), iv ((coN (l.take 0) : Nat) : Int), sgsA l] := by rw [← zvi l]
 refine Fn.go Tryz.func37 Tryz.ntmps37 (fun g w d => ?_);apply yg;refine zB ?_;apply yI;iterate 4 refine ya ?_
 refine zB ?_;refine Ex.mo ?_;apply Ex.nil;apply yl;apply yg;refine zh ?_;apply X.block;refine X.imp (st' := ⟨[(2, .ptr 2 0 0 0), (3, .ptr 3 0 0 0), (10, sgsA l), (11, iv (l.length : Int)), (12, iv 0)], [(2, .box [iv 0, iv 0, .nils] 80), (3, .box [iv (l.length : Int), iv 0, sgsA l] 80)]⟩) yd ?_
 refine yS (ι := Nat) (fun (k : Nat) => [(2, .ptr 2 0 0 0), (3, .ptr 3 0 0 0), (10, sgsA l), (11, iv (l.length : Int)), (12, iv (k : Int))]) (fun (k : Nat) => [(2, .box [iv 0, iv 0, .nils] 80), (3, .box [iv (l.length : Int), iv ((coN (l.take k) : Nat) : Int), sgsA l] 80)]) (fun (k : Nat) => k <= l.length) (fun (k : Nat) => l.length - k) 0 (fun k hk => ?_) (h0 := by
  exact yd)
 refine gd ?_ ?_<;>intro hc1
 ·obtain ⟨s, hs⟩ : ∃ s, l[k]? = some s := ⟨_, lgg (by omega)⟩;have hs2 : l[(k : Int).toNat]? = some s := by simpa using hs
  have hle := zsX l k;refine gd ?_ ?_<;>intro hc2
  ·have hst : [iv (l.length : Int), iv (((coN (l.take k) : Nat) : Int) + 1), sgsA l] = [iv (l.length : Int), iv ((coN (l.take (k + 1)) : Nat) : Int), sgsA l] := by rw [← zvj hs hc2]
   refine gq ?_;refine yz (k + 1) (hI := yd)
  ·have hst : [iv (l.length : Int), iv ((coN (l.take k) : Nat) : Int), sgsA l] = [iv (l.length : Int), iv ((coN (l.take (k + 1)) : Nat) : Int), sgsA l] := by rw [zvk hs (by simpa using hc2)]
   refine gq ?_;refine yz (k + 1) (hI := yd)
 ·obtain rfl : k = l.length := by omega
  have hV : coN (l.take l.length) = coN l := by rw [List.take_length]
  refine gq ?_;refine RetQ.ret (.one (.cellA rfl rfl rfl rfl ty80 (LeV.eq ?_)));all_goals (first | (unfold wgV; rw [← hV]; rfl) | rfl)
theorem za2 (a b : List Bt) (hl : a.length <= 4000000000) : Fn Tryz.prog 44 [btsA a, btsA b] (.bool (decide (a = b))) := by
 refine Fn.go Tryz.func44 Tryz.ntmps44 (fun g w d => ?_);refine gd ?_ ?_<;>intro hc1
 ·have hD : decide (a = b) = false := by rw [decide_eq_false_iff_not]; intro h; subst h; exact hc1 rfl
  refine gq ?_;all_goals (rw [hD])
 have hlen : a.length = b.length := by omega
 refine gq ?_
 refine yS (ι := Nat) (fun (k : Nat) => [(0, btsA a), (1, btsA b), (12, iv a.length), (13, iv (k : Int))]) (fun (k : Nat) => []) (fun (k : Nat) => k <= a.length /\ a.take k = b.take k) (fun (k : Nat) => a.length - k) 0 (fun k hk => ?_) (hJ := by
  exact ⟨by omega, by simp⟩)
 obtain ⟨hk1, hk2⟩ := hk;refine gd ?_ ?_<;>intro hc2
 ·obtain ⟨x, hx⟩ : ∃ x, a[k]? = some x := ⟨_, lgg (by omega)⟩;have hx2 : a[(k : Int).toNat]? = some x := by simpa using hx
  obtain ⟨y, hy⟩ : ∃ y, b[k]? = some y := ⟨_, lgg (by omega)⟩;have hy2 : b[(k : Int).toNat]? = some y := by simpa using hy
  refine gq ?_;refine zf [16,17,18,19,20,21,22,23,24] [0,0,3,7,0,0,48,112,255] mo ?_;iterate 8 refine yc ?_
  refine yc ?_ (hs := by exact zca (zlM _ _) inferInstance TyK.h rfl rfl rfl rfl rfl);refine yE ?_;refine gd ?_ ?_<;>intro hc3
  ·have hD : decide (a = b) = false := by rw [decide_eq_false_iff_not]; intro h; subst h; rw [hx] at hy; injection hy with hy; exact hc3 hy
   refine gq ?_;all_goals (rw [hD])
  refine gq ?_
  refine yz (k + 1) (hJ := by
   exact ⟨by omega, by rw [← zbM hx, ← zbM hy, hk2, hc3]⟩)
 ·have hD : decide (a = b) = true := by
   have h1 : k = a.length := by omega
   rw [decide_eq_true_iff]; subst h1; rw [List.take_length, hlen, List.take_length] at hk2; exact hk2
  refine gq ?_;all_goals (rw [hD])
set_option maxHeartbeats 1000000 in
theorem zau (m : Mn) (l : List Sg) (hl : l.length <= 1000) : Fn Tryz.prog 19 [mnA m, sgsA l] (.tup [btsA (bsV m l), iv (rdE m l)]) := by
 have hz0 : [] = zbV (rdV m l).Durs (rsL (l.take 0)) := by unfold rsL; exact zvl _
 refine Fn.go Tryz.func19 Tryz.ntmps19 (fun g w d => ?_);refine gq ?_;refine yb (zdv m l hl) ?_;refine gd ?_ ?_<;>intro hc1
 ·have hV : bsV m l = [] := by unfold bsV; rw [if_neg hc1]
  apply yg;refine zh ?_;refine X.ret ?_;refine RetQ.imp (ye (ts := [(4, btsA []), (5, iv (rdE m l))]) (hs := [])) ?_;refine yi ?_ ?_;all_goals (first | (rw [hV]; done) | exact congrArg (fun z => btsA z) hV | exact congrArg (AV.int .i64) h0.symm | rfl)
 have h0 : rdE m l = 0 := by omega
 have hV0 : bsV m l = zbV (rdV m l).Durs (rsL l) := by unfold bsV; rw [if_pos h0]
 have hdl := zs0 h0;apply yp;apply yg;refine yu ?_;iterate 2 apply yl
 refine X.imp (yL btE 76 3 8 30 rfl rfl) ?_;refine gq ?_
 refine yS (ι := Nat) (fun (k : Nat) => [(2, .ptr 2 0 0 0), (6, tmsA (rdV m l).Durs), (8, .own 30), (20, sgsA l), (21, iv (l.length : Int)), (22, iv (k : Int))]) (fun (k : Nat) => [(2, .box (mnE m) 32), (30, .row btE (zbV (rdV m l).Durs (rsL (l.take k))) 76 3)]) (fun (k : Nat) => k <= l.length) (fun (k : Nat) => l.length - k) 0 (fun k hk => ?_) (hJ := by
  exact Nat.zero_le _) (h0 := by
  exact yd)
 refine gd ?_ ?_<;>intro hc2
 ·obtain ⟨s, hs⟩ : ∃ s, l[k]? = some s := ⟨_, lgg (by omega)⟩;have hs2 : l[(k : Int).toNat]? = some s := by simpa using hs
  refine gd ?_ ?_<;>intro hc3
  ·have hst := zkS hs (by simpa using hc3);have htk := zsY l (k + 1);rw [← hst, List.length_append] at htk;have hzl := zp7 (rdV m l).Durs (rsL (l.take k)) (by simp at htk; omega);obtain ⟨t, ht⟩ : ∃ t, (rdV m l).Durs[(rsL (l.take k)).length]? = some t := ⟨_, lgg (by simp at htk; omega)⟩;have hzs := zrz (r := decide (s.Kind = 2)) ht;rw [hst] at hzs;have ht2 : (rdV m l).Durs[(((zbV (rdV m l).Durs (rsL (l.take k))).length : Nat) : Int).toNat]? = some t := by rw [hzl]; simpa using ht
   have hzb : (rsL (l.take k)).length <= 1000 := Nat.le_trans (zjl _) (by rw [List.length_take]; omega);refine zf [29,30,31,32,33,34,35,36,37,38,39] [0,0,0,4,14,30,0,64,192,510,1022,2047,4095] mo ?_;(iterate 10 refine yc ?_);refine ChM.step rfl rfl rfl (yF (k := 39) (enc := btE) (l := [⟨t, decide (s.Kind = 2)⟩]) sl22 ty76 ze76 (by decide) rfl rfl rfl rfl (by decide) (by decide) (fun _ => rfl) rfl) rfl ?_;refine yE ?_;refine gq ?_;refine yz (k + 1) (hI := yd)
  ·have hst := congrArg (zbV (rdV m l).Durs) (zjk hs (by omega));refine gq ?_;refine yz (k + 1) (hI := yd)
 ·obtain rfl : k = l.length := by omega
  have hV : zbV (rdV m l).Durs (rsL (l.take l.length)) = bsV m l := by rw [List.take_length, hV0]
  apply X.exit;apply yg;refine zh ?_;refine X.ret ?_;refine RetQ.imp (Imp.freeze (k := 30) rfl) ?_;refine yi ?_ ?_;all_goals (first | (rw [hV]; done) | exact congrArg (fun z => btsA z) hV | exact congrArg (AV.int .i64) h0.symm | rfl)
end Go.Rse
namespace Go.Rse
open Go Go.RowKit
section
section
variable {P : Program} {C : Ctx} {st : St} {ty : TypeId} {Q : Exit -> St -> Prop}
theorem zj8 {α : Type} {enc : α -> List AV} {l : List α} {g : Gh} {a : Act} {w : World} {v : Value} {s : Nat} {ρ : Nat -> Value} (hr : Rel C st g a w) (hv : RV g.I ρ (.sl enc l) v) (hs : 0 < s) (he : ∀ z, (enc z).length = s) :
 ∃ A c news, v = .slice A l.length c /\ l.length <= c /\ news.length = l.length * s /\ RVL g.I noNames (l.flatMap enc) news /\ (l ≠ [] -> ∃ b o, A = some ⟨b, o, none⟩ /\ ∀ j u, news[j]? = some u -> w.cell? ⟨b, o + j, none⟩ = some u) := by
 obtain ⟨A, b, o, s', c, vs, e, hA, hnc, _, h1, h2, h3⟩ := zb3 hv
 have hs2 : l ≠ [] -> s' = s := fun hne => by
  cases l with
  | nil => exact absurd rfl hne
  | cons p r => exact (h1 0 p (by simp)).symm.trans (he p)
 have hsl : ∀ (i : Nat) x, l[i]? = some x -> (enc x).length = s := fun i x _ => he x
 have hget : ∀ j u, ((List.range (l.length * s)).map fun q => vs (q / s) (q % s))[j]? = some u -> j < l.length * s /\ u = vs (j / s) (j % s) := fun j u hu => by
  have hj : j < l.length * s := by
   have := (List.getElem?_eq_some_iff.1 hu).1; simpa using this
  simp [List.getElem?_range hj] at hu;exact ⟨hj, hu.symm⟩
 refine ⟨A, c, (List.range (l.length * s)).map fun q => vs (q / s) (q % s), e, hnc, by simp, ⟨by simp [zy l hsl], fun j c v hc hv => ?_⟩, fun hne => ⟨b, o, hA hne, fun j u hu => ?_⟩⟩
 ·obtain ⟨hj, rfl⟩ := hget j v hv;have hq : j / s < l.length := Nat.div_lt_of_lt_mul (by rw [Nat.mul_comm]; exact hj);have hdm : j / s * s + j % s = j := by rw [Nat.mul_comm]; exact Nat.div_add_mod j s
  have hr' : j % s < s := Nat.mod_lt _ hs;have hp := lgg hq;refine h3 (j / s) _ (j % s) c hp ?_;rw [← zcK l hsl (j / s) _ (j % s) hp hr', hdm]; exact hc
 ·obtain ⟨hj, rfl⟩ := hget j u hu;have hq : j / s < l.length := Nat.div_lt_of_lt_mul (by rw [Nat.mul_comm]; exact hj);have hdm : j / s * s + j % s = j := by rw [Nat.mul_comm]; exact Nat.div_add_mod j s
  have e2 := hs2 hne;subst e2;have := h2 (j / s') _ (j % s') (lgg hq) (Nat.mod_lt _ hs);have h4 := (hr.sat.im _ _ _ this).1;rw [Nat.add_assoc, hdm] at h4;exact h4
theorem zvm {c : Code} {α : Type} {enc : α -> List AV} {l : List α} (t kh : Nat) (h : ∀ A n, l.length <= n -> X P C c ⟨(t, .val (.slice A l.length n)) :: st.t, (kh, .hold [.slice A l.length n] [.sl enc l]) :: st.h⟩ Q)
 (hx : lk st.t t = some (.sl enc l) := by exact rfl) : X P C c st Q := fun g a w hr => by
 have hv := hr.tmps t _ hx;obtain ⟨A, b, o, s, n, vs, e, hA, hc, -⟩ := zb3 hv
 have h1 := hr.withBlk (k := kh) (B := .hold [.slice A l.length n] [.sl enc l]) ⟨rfl, fun j c' v hc' hv' => by
  cases j with
  | zero => simp at hc' hv'; subst hc'; subst hv'; exact e ▸ hv
  | succ j => simp at hc'⟩
 refine h A n hc g a w ⟨h1.size, h1.defers, fun t' x hx' => ?_, h1.sat, h1.ext⟩;simp only [yj] at hx';cases hb : t.beq t' <;> simp [hb] at hx'
 ·exact h1.tmps t' x hx'
 ·have : t = t' := by simpa using hb
  subst this; subst hx'; rw [e]; exact .val _
theorem zio {A : Option Addr} {n c : Nat} {x : Operand} {t E : TypeId} (hx : ev st x = some (.val (.slice A n c))) (h : slOk P t E = true) :
 Pur P C (.call { callee := .builtin .len, args := #[x], argTypes := #[t] }) ty st (.int .i64 n) := fun g a w dst pos af gd hr =>
 ⟨_, zd5 h (za5 (yn hr hx)), .int _ _⟩
theorem zmY (a : Addr) : a.add 0 = a := by cases a; simp [Addr.add]
theorem zs1 {A : Option Addr} {n c s : Nat} {x y z : Operand} {t E : TypeId} {ag : Bool} (hx : ev st x = some (.val (.slice A n c))) (hy : ev st y = some (.int .i64 n)) (hz : ev st z = some (.int .i64 n)) (ht : slOk P t E = true) (hE : tyOk P E ag s = true) (hnc : n <= c) :
 Pur P C (.slice t x none (some y) (some z)) ty st (.val (.slice A n n)) := fun g a w dst pos af gd hr => by
 have ex := za5 (yn hr hx);have ey := za (yn hr hy);have ez := za (yn hr hz)
 have hb : (Instr.sliceBounds true n c none (some (.int .i64 (n : Int))) (some (.int .i64 (n : Int)))).run P w = .ok (0, n, n) w := by
  simp [Instr.sliceBounds, Instr.sliceBound, asIntOf, hnc]
 refine ⟨_, ?_, .val _⟩
 have hm : (if n = 0 then A else Option.map (fun x => x.add 0) A) = A := by
  split
  ·rfl
  ·cases A with
   | none => rfl
   | some b => simp [zmY]
 simp [execOp, Instr.sliceAt, Instr.slice, run_underlying (y7 ht), ex, ey, ez, hb, yX hE, hm]
theorem zh1 {α : Type} {enc : α -> List AV} {l l2 : List α} {A : Option Addr} {c k kh : Nat} {t E : TypeId} {z : Value} {s bytes : Nat} {x y : Operand}
 (hx : ev st x = some (.val (.slice A l.length l.length))) (hh : lk st.h kh = some (.hold [.slice A l.length c] [.sl enc l])) (hy : ev st y = some (.sl enc l2)) (ht : slOk P t E = true) (hi : zL P E z s bytes) (hs : 0 < s) (hby : bytes <= 1024) (he : ∀ z, (enc z).length = s)
 (h2 : 0 < l2.length) (hlen : l.length + l2.length <= 4000000000) : yr P C (.call { callee := .builtin .append, args := #[x, y], argTypes := #[t, t] }) ty st (.own k) (some (k, .row enc (l ++ l2) E s)) :=
 zG fun g a w dst pos af gd hr => by
  obtain ⟨i, hi1, hi2, hi3, hi4, hi5⟩ := hi;have hu := y7 ht;have ex := za5 (yn hr hx);obtain ⟨A2, c2, news, ey, hnc2, hln, hR2, hsrc⟩ := zj8 (s := s) hr (yn hr hy) hs he;obtain ⟨_, hq⟩ := hr.sat.blk kh _ hh;obtain ⟨A1, c1, olds, e1, hnc1, hlo, hR1, hold⟩ := zj8 (s := s) hr (hq 0 _ _ rfl rfl) hs he;injection e1 with e1 _ _;subst e1;obtain ⟨b2, o2, hA2, hc2⟩ := hsrc (List.length_pos_iff.1 h2);subst hA2
  have hbb : (l.length + l2.length) * bytes <= 140737488355328 := by
   have : (l.length + l2.length) * bytes <= 4000000000 * 1024 := Nat.mul_le_mul hlen hby;omega
  have hsl : ∀ (i : Nat) x, (l ++ l2)[i]? = some x -> (enc x).length = s := fun i x _ => he x
  have hRR : RVL g.I noNames ((l ++ l2).flatMap enc) (olds ++ news) := by rw [List.flatMap_append]; exact hR1.append hR2
  have hfl : (olds ++ news).length = (l.length + l2.length) * s := by rw [List.length_append, hlo, hln, Nat.add_mul]
  have main : ∃ cap, (Builtin.append_ #[t, t] ty #[.slice A l.length l.length, .slice (some ⟨b2, o2, none⟩) l2.length c2]).run P w = .ok (.slice (some ⟨w.heap.size, 0, none⟩) (l.length + l2.length) cap) (w.drew.alloc (.cells (olds.toArray ++ news.toArray ++ Builtin.zeroCells z.cells (cap - (l.length + l2.length))) E)) /\ l.length + l2.length <= cap /\ cap <= maxLen := by
   have hmx : l.length + l2.length <= maxLen := by simp only [maxLen]; omega
   have hge := grownCap_ge w (l.length + l2.length) l.length E;have hcm := grownCap_le_maxLen w (l.length + l2.length) l.length E hmx;have hcell : ∀ j u, news[j]? = some u -> w.cell? ((⟨b2, o2, none⟩ : Addr).add j) = some u := fun j u hu => by rw [zv]; exact hc2 j u hu
   cases hA : A with
   | none =>
    have hl0 : l = [] := by
     cases l with
     | nil => rfl
     | cons p r => obtain ⟨b, o, h, _⟩ := hold (by simp); rw [hA] at h; cases h
    subst hl0;have ho : olds = [] := List.eq_nil_of_length_eq_zero (by simpa using hlo);subst ho;have hr0 := run_append_nil (P := P) w t ty E i z hu hi1 hi2 ⟨b2, o2, none⟩ l2.length c2 news (by rw [hi3]; exact hln) hcell h2 (by omega) (by rw [hi4]; simp only [List.length_nil, Nat.zero_add] at hbb; omega);refine ⟨_, by simpa using hr0, ?_, ?_⟩
    ·simpa using hge
    ·simpa using hcm
   | some ad =>
    have hob : ∀ j u, olds[j]? = some u -> w.cell? (ad.add j) = some u := fun j u hu => by
     have hne : l ≠ [] := fun e => by
      subst e;have : olds = [] := List.eq_nil_of_length_eq_zero (by simpa using hlo);rw [this] at hu; simp at hu
     obtain ⟨b, o, h, hc⟩ := hold hne;rw [hA] at h; injection h with h; subst h;rw [zv]; exact hc j u hu
    have hr0 := run_append_grow (P := P) w t ty E i z hu hi1 hi2 ad l.length l.length olds (by rw [hi3]; exact hlo) hob ⟨b2, o2, none⟩ l2.length c2 news (by rw [hi3]; exact hln) hcell (by omega) (by omega) (growslice_fits (by omega) (by rw [hi4]; exact hbb));exact ⟨_, hr0, hge, hcm⟩
  obtain ⟨cap, hrun, hcg, hcm⟩ := main;have hg : Grow w (w.drew.alloc (.cells (olds.toArray ++ news.toArray ++ Builtin.zeroCells z.cells (cap - (l.length + l2.length))) E)) := (Grow.drew w).trans (Grow.alloc _ _);refine ⟨.slice (some ⟨w.heap.size, 0, none⟩) (l.length + l2.length) cap, _, g.nw C.d w.heap.size k (.slice (some ⟨w.heap.size, 0, none⟩) (l.length + l2.length) cap), ?_, Add.nw hg C.d k _, .own k _ _ _ (by simp [Gh.nw]), ImOB.nw ⟨hr.sat.im, hr.sat.ob⟩ hg (by simp) C.d k _, fun k' B hB => ?_⟩
  ·simp only [execOp, resolve, invoke, builtin, Sem.run_bind, Sem.run_pure, Result.andThen_ok, List.map_toArray, List.map_cons, List.map_nil, ex, ey, hrun]
  ·injection hB with hB; injection hB with e1 e2; subst e1; subst e2;refine ⟨olds ++ news, ?_, hsl, zaP hsl hRR, fun b hb => ?_⟩
   ·simp only [Gh.nw, if_true, List.length_append];refine ⟨hfl, .inr ⟨w.heap.size, cap, _, rfl, Nat.zero_le _, heap_alloc_new w.drew _, hcg, hcm, ?_, ?_⟩⟩
    ·simp only [Array.size_append, List.size_toArray, size_zeroCells, hi5, hlo, hln, ← Nat.add_mul];congr 1;omega
    ·simp only [Array.toList_append, List.append_assoc];rw [← List.append_assoc, ← hfl];exact List.take_left
   ·simp only [Gh.nw, if_true, yT] at hb;injection hb with hb; subst hb;exact ⟨by simp [Gh.nw], .inl hr.ext.size⟩
end
end
section
def nlA {α : Type} (enc : α -> List AV) : Option (List α) -> AV
 | none => .nils
 | some l => .sl enc l
section
variable {P : Program} {C : Ctx} {st : St} {ty : TypeId} {Q : Exit -> St -> Prop}
theorem zjo {T E : TypeId} {w : World} (hu : P.underlying T = some (.slice E)) (A : Option Addr) (n c : Nat) : (Op.equal T (.slice A n c) (.slice none 0 0)).run P w = .ok A.isNone w := by
 unfold Op.equal;rw [show Op.maxDepth = 9999 + 1 from rfl];unfold Op.equalIn;cases A <;> simp [run_underlying hu]
theorem zor {α : Type} {enc : α -> List AV} {o : Option (List α)} {I : Im} {ρ : Nat -> Value} {v : Value} (h : RV I ρ (nlA enc o) v) (hne : ∀ l, o = some l -> l ≠ []) : ∃ A n c, v = .slice A n c /\ A.isNone = !o.isSome := by
 cases o with
 | none => exact ⟨none, 0, 0, za4 h, rfl⟩
 | some l =>
  obtain ⟨A, b, o, s, c, vs, e, hA, -⟩ := zb3 h;exact ⟨A, _, c, e, by rw [hA (hne l rfl)]; rfl⟩
theorem zs2 {α : Type} {enc : α -> List AV} {o : Option (List α)} {T E : TypeId} {x : Operand} {yt : TypeId} (hu : P.underlying T = some (.slice E)) (hx : ev st x = some (nlA enc o)) (hne : ∀ l, o = some l -> l ≠ []) : Pur P C (.binOp .neq T x (.const (.slice none 0 0)) yt) ty st (.bool o.isSome) := fun g a w dst pos af gd hr => by
 obtain ⟨A, n, c, e, h⟩ := zor (yn hr hx) hne;have e0 : a.eval (.const (.slice none 0 0)) = .slice none 0 0 := rfl;refine ⟨.bool o.isSome, ?_, .bool _⟩;have hg : (eqGuard .neq T x (.const (.slice none 0 0)) (.slice A n c) (.slice none 0 0)).run P w = .ok () w := by unfold eqGuard; simp
 have h1 := zjo (P := P) (w := w) hu A n c;simp only [execOp, e, e0, Sem.run_bind, hg, Result.andThen_ok, binOp, h1, Sem.run_pure, h, Bool.not_not]
theorem zvn {α : Type} {enc : α -> List AV} {o : Option (List α)} {T E : TypeId} {x : Operand} {yt : TypeId} (hu : P.underlying T = some (.slice E)) (hx : ev st x = some (nlA enc o)) (hne : ∀ l, o = some l -> l ≠ []) : Pur P C (.binOp .eql T x (.const (.slice none 0 0)) yt) ty st (.bool (!o.isSome)) := fun g a w dst pos af gd hr => by
 obtain ⟨A, n, c, e, h⟩ := zor (yn hr hx) hne;have e0 : a.eval (.const (.slice none 0 0)) = .slice none 0 0 := rfl;refine ⟨.bool (!o.isSome), ?_, .bool _⟩;have hg : (eqGuard .eql T x (.const (.slice none 0 0)) (.slice A n c) (.slice none 0 0)).run P w = .ok () w := by unfold eqGuard; simp
 have h1 := zjo (P := P) (w := w) hu A n c;simp only [execOp, e, e0, Sem.run_bind, hg, Result.andThen_ok, binOp, h1, Sem.run_pure, h]
theorem zs3 {ops : Array Oper} {rest : List Oper} {d : Nat} {pos : String} {af : Array Edge} {α : Type} {enc : α -> List AV} {l : List α} {T E : TypeId} {x : Operand} {yt : TypeId} (h : ∀ b : Bool, (l ≠ [] -> b = false) -> Ex P C ops rest ⟨(d, .bool b) :: st.t, st.h⟩ Q)
 (hu : P.underlying T = some (.slice E)) (hx : ev st x = some (.sl enc l) := by exact rfl) (hd : dOk C.n (some d) = true := by exact rfl) :
 Ex P C ops ({ dst := some d, op := .binOp .eql T x (.const (.slice none 0 0)) yt, type := ty, pos := pos, after := af, guard := none } :: rest) st Q := fun g a w hr => by
 obtain ⟨A, b, o, s, c, vs, e, hA, -⟩ := zb3 (yn hr hx);have e0 : a.eval (.const (.slice none 0 0)) = .slice none 0 0 := rfl;have hg : (eqGuard .eql T x (.const (.slice none 0 0)) (.slice A l.length c) (.slice none 0 0)).run P w = .ok () w := by unfold eqGuard; simp
 have h1 := zjo (P := P) (w := w) hu A l.length c;refine wpListIn_plain rfl fun K' hK => zK ?_
 simp only [wp1, execOp, e, e0, Sem.run_bind, hg, Result.andThen_ok, binOp, h1, Sem.run_pure, zbz];refine hK _ _ ?_;exact h A.isNone (fun hne => by rw [hA hne]; rfl) _ _ _ (hr.addSt (nb := none) (d := some d) (x := .bool A.isNone) (v := .bool A.isNone) (Add.refl _ g w) hd rfl (.bool _) hr.sat.im hr.sat.ob (fun _ _ h => by cases h))
end
end
section
section
variable {P : Program} {C : Ctx} {st : St} {ty : TypeId} {Q : Exit -> St -> Prop}
theorem zhl {x : Operand} {t E : TypeId} (hx : ev st x = some .nils) (h : slOk P t E = true) :
 Pur P C (.call { callee := .builtin .cap, args := #[x], argTypes := #[t] }) ty st (.int .i64 0) := fun g a w dst pos af gd hr =>
 ⟨.int .i64 0, by
  have e := za4 (yn hr hx);simp [execOp, resolve, invoke, builtin, Builtin.cap_, e, run_underlying (y7 h)]; rfl, .int _ _⟩
theorem zj9 {x y : Operand} {t E : TypeId} {s : Nat} {ag : Bool} (hx : ev st x = some .nils) (hy : ev st y = some (.int .i64 0)) (h : slOk P t E = true) (hE : tyOk P E ag s = true) :
 Pur P C (.slice t x none (some y) none) ty st .nils := fun g a w dst pos af gd hr => by
 have ex := za4 (yn hr hx);have ey := za (yn hr hy);refine ⟨.slice none 0 0, ?_, .nils⟩
 have : (Instr.sliceBounds true 0 0 none (some (.int .i64 0)) none).run P w = .ok (0, 0, 0) w := by
  simp [Instr.sliceBounds, Instr.sliceBound, asIntOf]
 simp [execOp, Instr.sliceAt, Instr.slice, run_underlying (y7 h), ex, ey, this, yX hE]
def anyE (s : Nat) : Unit -> List AV := fun _ => List.replicate s .any
theorem zp8 {t tn E : TypeId} {z : Value} {s bytes n k : Nat} {kn : IntKind} {x y : Operand} {p : Int} (ht : slOk P t E = true) (htn : P.underlying tn = some (.int kn)) (hi : zL P E z s bytes) (hs : 0 < s) (hby : bytes <= 1024)
 (hx : ev st x = some .nils) (hy : ev st y = some (.int .i64 p)) (hp : p = (n : Int)) (h0 : 0 < n) (hn : n <= 4000000000) : yr P C (.call { callee := .builtin .append, args := #[x, y], argTypes := #[t, tn] }) ty st (.own k) (some (k, .row (anyE s) (List.replicate n ()) E s)) :=
 zG fun g a w dst pos af gd hr => by
  obtain ⟨i, hi1, hi2, hi3, hi4, hi5⟩ := hi;subst hp;have hu := y7 ht;have ex := za4 (yn hr hx);have ey := za (yn hr hy)
  have hbb : n * bytes <= 140737488355328 := by
   have : n * bytes <= 4000000000 * 1024 := Nat.mul_le_mul hn hby;omega
  have hmx : n <= maxLen := by simp only [maxLen]; omega
  have hge := grownCap_ge w n 0 E;have hcm := grownCap_le_maxLen w n 0 E hmx;have hr0 := Go.Lib.run_append_nil_zeros (P := P) w t tn ty E i z .i64 kn hu htn hi1 hi2 n h0 (by omega) (by omega) (by rw [hi4]; omega);have hg : Grow w (w.drew.alloc (.cells (Builtin.zeroCells z.cells n ++ Builtin.zeroCells z.cells (grownCap w n 0 E - n)) E)) := (Grow.drew w).trans (Grow.alloc _ _);have hsl : ∀ (i : Nat) x, (List.replicate n ())[i]? = some x -> (anyE s x).length = s := fun i x _ => by simp [anyE]
  refine ⟨.slice (some ⟨w.heap.size, 0, none⟩) n (grownCap w n 0 E), _, g.nw C.d w.heap.size k (.slice (some ⟨w.heap.size, 0, none⟩) n (grownCap w n 0 E)), ?_, Add.nw hg C.d k _, .own k _ _ _ (by simp [Gh.nw]), ImOB.nw ⟨hr.sat.im, hr.sat.ob⟩ hg (by simp) C.d k _, fun k' B hB => ?_⟩
  ·simp only [execOp, resolve, invoke, builtin, Sem.run_bind, Sem.run_pure, Result.andThen_ok, List.map_toArray, List.map_cons, List.map_nil, ex, ey, hr0]
  ·injection hB with hB; injection hB with e1 e2; subst e1; subst e2;refine ⟨(Builtin.zeroCells z.cells n).toList, ?_, hsl, fun j x q c v hx hc hv => ?_, fun b hb => ?_⟩
   ·simp only [Gh.nw, if_true, List.length_replicate];refine ⟨by rw [Array.length_toList, size_zeroCells, hi5], .inr ⟨w.heap.size, grownCap w n 0 E, _, rfl, Nat.zero_le _, heap_alloc_new w.drew _, hge, hcm, ?_, ?_⟩⟩
    ·simp only [Array.size_append, size_zeroCells, hi5, ← Nat.add_mul];congr 1;omega
    ·rw [Array.toList_append];have : n * s = (Builtin.zeroCells z.cells n).toList.length := by rw [Array.length_toList, size_zeroCells, hi5]
     rw [this];exact List.take_left
   ·have : c = .any := by
     unfold anyE at hc;rw [List.getElem?_replicate] at hc;split at hc
     ·injection hc with hc; exact hc.symm
     ·simp at hc
    subst this; exact .any _
   ·simp only [Gh.nw, if_true, yT] at hb;injection hb with hb; subst hb;exact ⟨by simp [Gh.nw], .inl hr.ext.size⟩
end
theorem zos {C : Ctx} {st : St} {α β : Type} (enc' : β -> List AV) (k E s : Nat) {enc : α -> List AV} {l : List α} (h : lk st.h k = some (.row enc l E s)) (hl : l = []) : Imp C st { t := st.t, h := (k, .row enc' [] E s) :: st.h } := fun g a w hr => by
 subst hl;obtain ⟨xs, h1, h2, h3, h4⟩ := hr.sat.blk k _ h;exact ⟨_, hr.withBlk (k := k) (B := .row enc' [] E s) ⟨xs, h1, fun i x h => by simp at h, fun i x j c v h => by simp at h, h4⟩⟩
end
end Go.Rse
