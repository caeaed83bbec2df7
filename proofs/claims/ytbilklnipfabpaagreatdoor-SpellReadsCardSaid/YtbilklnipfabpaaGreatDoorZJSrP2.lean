/-
  Plain: every duration of a reading is one of a spelling of its sign.
-/
import Derived.Test.YtbilklnipfabpaaGreatDoorZJSrP1
import Derived.Test.YtbilklnipfabpaaGreatDoorZJIte0
import Derived.Test.YtbilklnipfabpaaGreatDoorZJKit1
import Derived.Test.YtbilklnipfabpaaGreatDoorZJCho2
set_option linter.unusedSimpArgs false
set_option linter.unusedVariables false
namespace Go.Rse
open Go Go.Proofs
theorem zng {m : Mn} {t : Tm} {v : Int} {w : Nat} (hw : w ≠ 0) (h : t ∈ wdL m v w) : ∀ n, w < n -> spOf v (w : Int) ∈ alI m t v n
 | 0, hn => absurd hn (by omega)
 | n + 1, hn => by
  unfold alI;by_cases e : w = n
  ·subst e; rw [if_pos ⟨hw, h⟩]; simp
  ·have := zng hw h n (by omega);split
   ·exact List.mem_append_left _ this
   ·exact this
theorem znh {m : Mn} {t : Tm} {v : Int} {w : Nat} (hw : w ≠ 0) (h9 : w < 9) (h1 : 1 <= v) (h : t ∈ wdL m v w) : ∀ k : Nat, v <= (k : Int) -> spOf v (w : Int) ∈ alO m t k
 | 0, hk => absurd hk (by omega)
 | k + 1, hk => by
  unfold alO;by_cases e : v = 1 + (k : Int)
  ·subst e; exact List.mem_append_right _ (zng hw h 9 h9)
  ·exact List.mem_append_left _ (znh hw h9 h1 h k (by omega))
def adQ (ch : List Int) (l : List Sg) (k : Nat) : Bool := (zx ch l l.length k).2
theorem zpe {m : Mn} {l : List Sg} {ch : List Int} (h : mkE m l ch = 0) {k : Nat} {s : Sg} (hs : l[k]? = some s) (h3 : ¬ s.Kind = 3) (ha : adQ ch l k = true) : ¬ s.Kind = 2 /\ (s.Color = true \/ ¬ m.p s.Value = 3) := by
 obtain ⟨hM, v1, v8⟩ := zO (zbR h) hs h3;unfold adQ zx at ha;cases hz : l[k + 1]? with
 | none => rw [hz] at ha; cases ha
 | some z =>
  rw [hz] at ha;simp only at ha;split at ha
  ·rename_i hd;have hat := zge hz hd.2 l.length hd.1;obtain ⟨e1, e2⟩ := zjR h
   have hmn : (mnsD m l)[(yK l (k + 1)).length]? = some (mngs m s) := by
    unfold mnsD;rw [List.getElem?_map, hat];show some (mnAt m l ((k + 1 : Nat) : Int)) = _;unfold mnAt zfa;rw [show (((k + 1 : Nat) : Int) - 1).toNat = k by omega, hs]
   have hlt := (List.getElem?_eq_some_iff.1 hmn).1;obtain ⟨v, hv⟩ : ∃ v, ch[(yK l (k + 1)).length]? = some v := ⟨_, lgg (by omega)⟩;have hmem := zbZ.1 e2 _ _ _ hmn hv;have ha : decide (ch.getD (yK l (k + 1)).length 0 = 0) = true := ha;rw [zZ hv, decide_eq_true_iff] at ha;subst ha
   have hz : ¬ (s.Kind = 2 /\ m.aV s.Value = 0) := fun hz => by
    have := (zb0 hM v1 v8).2 hz;rw [List.length_eq_zero_iff.1 this] at hmem; simp at hmem
   rw [zhR hM v1 v8 hz] at hmem;unfold mngR at hmem;split at hmem
   ·rename_i hk; simp at hmem; exact absurd ⟨hk, hmem.symm⟩ hz
   ·rename_i hk;refine ⟨hk, ?_⟩;split at hmem
    ·rename_i hc; exact .inl hc
    ·split at hmem
     ·rename_i hp; exact .inr (by omega)
     ·split at hmem
      ·rename_i hp; exact .inr (by omega)
      ·exfalso;split at hmem
       ·simp at hmem; omega
       ·simp at hmem; omega
  ·cases ha
theorem zuF (m : Mn) (v : Int) : fullT m v ∈ wdL m v 8 := by unfold wdL; simp
theorem zuG {m : Mn} {v : Int} (h : ¬ m.p v = 3) : mulV (fullT m v) ⟨3, 2⟩ ∈ wdL m v 2 := by unfold wdL; simp [h]
theorem zuH (m : Mn) (v : Int) : durT m v ∈ wdL m v 5 := by unfold wdL; simp
theorem zuI (m : Mn) (v : Int) : mulV (durT m v) ⟨3, 2⟩ ∈ wdL m v 6 := by unfold wdL; simp
theorem ztj {m : Mn} (h : m.Pro = 2) : (⟨3, 2⟩ : Tm) ∈ wdL m 4 7 := by unfold wdL; simp [h]
theorem ztk {m : Mn} (h : m.Pro = 2) : (⟨1, 2⟩ : Tm) ∈ wdL m 5 7 := by unfold wdL; simp [h]
theorem zkW {m : Mn} {l : List Sg} {mi : List Int} (h2 : duE m l mi = 0) {k : Nat} {s : Sg} (hs : l[k]? = some s) {x : Tm} (hx : mget (k : Int) (duM m l mi) = some x) : m.Pro = 2 /\ clr s = true /\ (∀ z, l[k + 1]? = some z -> ¬ z.Kind = 3) /\ ((s.Value = 4 /\ x = ⟨3, 2⟩) \/ (s.Value = 5 /\ x = ⟨1, 2⟩)) := by
 have hpro : ∀ j : Int, za m l j = true -> m.Pro = 2 := fun j h => by unfold za at h; simp at h; exact h.1
 by_cases h1 : za m l (k : Int) = true
 ·obtain ⟨y, hy⟩ : ∃ y, mi[(zh m l k).length]? = some y := ⟨_, lgg (pair_lt h2 h1)⟩;have hm := (zfX h2 h1 hy).1;rw [hx] at hm;obtain ⟨s', t, e1, e2, c1, c2, k1, k2, v1, v2, hz⟩ := zkz h1;rw [hs] at e1; injection e1 with e1; subst e1;split at hm
  ·injection hm with hm;refine ⟨hpro _ h1, c1, fun z hz' => ?_, .inl ⟨v1, hm⟩⟩;rw [e2] at hz'; injection hz' with hz'; subst hz'; omega
  ·cases hm
 ·have h1 : za m l (k : Int) = false := by simpa using h1
  by_cases h3 : ∃ j : Nat, j + 1 = k /\ za m l (j : Int) = true
  ·obtain ⟨j, rfl, hp⟩ := h3;obtain ⟨y, hy⟩ : ∃ y, mi[(zh m l j).length]? = some y := ⟨_, lgg (pair_lt h2 hp)⟩;have hm := (zfX h2 hp hy).2;rw [hx] at hm;obtain ⟨s', t, e1, e2, c1, c2, k1, k2, v1, v2, hz⟩ := zkz hp;rw [hs] at e2; injection e2 with e2; subst e2;split at hm
   ·injection hm with hm;exact ⟨hpro _ hp, c2, fun z hz' => hz z hz', .inr ⟨v2, hm⟩⟩
   ·cases hm
  ·have := zon (mi := mi) h1 (fun j hj => by
    cases hq : za m l (j : Int) with
    | false => rfl
    | true => exact absurd ⟨j, hj, hq⟩ h3)
   rw [hx] at this; cases this
theorem zpf {m : Mn} {l : List Sg} {ch mi : List Int} (h1 : mkE m l ch = 0) (h2 : duE m l mi = 0) {k : Nat} {s : Sg} (hs : l[k]? = some s) (h3 : ¬ s.Kind = 3) {d : Tm} (hf : (iTM m l ch mi k s).Fixed = true -> d = (iTM m l ch mi k s).Dur) (hd : d ∈ duF m s.Value (perfL m) [(iTM m l ch mi k s).Dur]) :
 ∃ w : Nat, w ≠ 0 /\ w < 9 /\ d ∈ wdL m s.Value w /\ spOf s.Value (w : Int) = ⟨s.Value, decide (s.Kind = 2), clr s, adQ ch l k, (w : Int)⟩ := by
 obtain ⟨hM, v1, v8⟩ := zO (zbR h1) hs h3;have hk := zou (zbR h1) hs h3;have haz := fun ha => zpe h1 hs h3 ha
 have hF : (iTM m l ch mi k s).Fixed = (adQ ch l k || decide (s.Kind = 2) || clr s || decide ((zx ch l l.length k).1 = s.Value)) := rfl;have hDu : (iTM m l ch mi k s).Dur = if adQ ch l k = true then mulV ((mget (k : Int) (duM m l mi)).getD (bsT m s)) ⟨3, 2⟩ else (mget (k : Int) (duM m l mi)).getD (bsT m s) := rfl
 rw [hF] at hf;rw [hDu] at hf hd;by_cases hc : clr s = true
 ·have h12 : ¬ s.Kind = 2 := by unfold clr at hc; simp at hc; omega
  rw [decide_eq_false h12, hc];have hf := hf (by rw [hc]; simp);cases hx : mget (k : Int) (duM m l mi) with
  | some x =>
   obtain ⟨hp, -, hz, hv⟩ := zkW h2 hs hx
   have ha : adQ ch l k = false := by
    unfold adQ zx;cases hz' : l[k + 1]? with
    | none => rfl
    | some z => simp only; rw [if_neg (fun e => hz z hz' e.2)]
   rw [ha] at hf ⊢;rw [hx, if_neg (by decide)] at hf;rcases hv with ⟨e1, e2⟩ | ⟨e1, e2⟩
   ·refine ⟨7, by decide, by decide, ?_, by unfold spOf; simp⟩;rw [hf, e1, show (some x).getD (bsT m s) = x from rfl, e2]; exact ztj hp
   ·refine ⟨7, by decide, by decide, ?_, by unfold spOf; simp⟩;rw [hf, e1, show (some x).getD (bsT m s) = x from rfl, e2]; exact ztk hp
  | none =>
   rw [hx] at hf;have hb : (none : Option Tm).getD (bsT m s) = durT m s.Value := by show bsT m s = _; unfold bsT; rw [if_pos hc]
   rw [hb] at hf;cases ha : adQ ch l k with
   | true =>
    rw [ha, if_pos rfl] at hf;exact ⟨6, by decide, by decide, by rw [hf]; exact zuI _ _, by unfold spOf; simp⟩
   | false =>
    rw [ha, if_neg (by decide)] at hf;exact ⟨5, by decide, by decide, by rw [hf]; exact zuH _ _, by unfold spOf; simp⟩
 ·have hc' : clr s = false := by simpa using hc
  have hx : mget (k : Int) (duM m l mi) = none := by
   cases hx : mget (k : Int) (duM m l mi) with
   | none => rfl
   | some x => exact absurd (zkW h2 hs hx).2.1 hc
  have hb : (none : Option Tm).getD (bsT m s) = fullT m s.Value := by show bsT m s = _; unfold bsT; rw [if_neg hc]
  rw [hx, hb] at hf hd;rw [hc'] at hf ⊢;rcases hk with hk | hk
  ·have n2 : ¬ s.Kind = 2 := by omega
   rw [decide_eq_false n2] at hf ⊢;cases ha : adQ ch l k with
   | true =>
    rw [ha, if_pos rfl] at hf;have hcol : ¬ s.Color = true := fun e => hc (by unfold clr; rw [e, decide_eq_true hk]; rfl)
    exact ⟨2, by decide, by decide, by rw [hf (by simp)]; exact zuG ((haz ha).2.resolve_left hcol), by unfold spOf; simp⟩
   | false =>
    rw [ha, if_neg (by decide)] at hd;have hq := zaU zo8 hM v1 v8;unfold duQ at hq;rw [List.all_eq_true] at hq;have := hq d hd;simp only [Bool.or_eq_true, decide_eq_true_eq] at this;rcases this with (h | h) | h
    ·exact ⟨1, by decide, by decide, h, by unfold spOf; simp⟩
    ·exact ⟨3, by decide, by decide, h, by unfold spOf; simp⟩
    ·exact ⟨4, by decide, by decide, h, by unfold spOf; simp⟩
  ·have ha : adQ ch l k = false := by
    cases ha : adQ ch l k with
    | false => rfl
    | true => exact absurd hk (haz ha).1
   rw [ha, if_neg (by decide)] at hf;rw [ha, decide_eq_true hk] at *
   exact ⟨8, by decide, by decide, by rw [hf (by simp)]; exact zuF _ _, by unfold spOf; simp⟩
theorem zpg {m : Mn} {l : List Sg} (hM : ckM m = 0) (hck : ckD m l = 0) (hD : zhX l) (h10 : l.length <= 10) (h : aqE m l = 0) {r : Rdg} (hr : r ∈ aqV m l) : r.Durs.length = ntN l l.length ∧
 ∀ (k : Nat) (s : Sg), l[k]? = some s -> ¬ s.Kind = 3 -> ∃ t, r.Durs[ntN l k]? = some t /\ bthE m t = 0 /\ ∃ q ∈ allE m t, q.Value = s.Value /\ q.Rest = decide (s.Kind = 2) /\ q.Color = clr s /\ q.Dot = adQ r.Dots l k := by
 obtain ⟨n, hn, C, J, hg, rfl⟩ := (zqz h).1 hr;have hi := (znZ hM hck (zkh h).1).2 ⟨n, hn, rfl, rfl⟩;obtain ⟨h1, h2⟩ := zmm hi;obtain ⟨j1, j2⟩ := znd _ _ _ _ hg;have hlen : (cmI m l n).length = ntN l l.length := itm_len h1 h2
 have gG : ∀ (L : List Int) (I : List Ite) (C : List Int) (J : List Ite), gLv m L I C J -> I.length <= 10 -> (∀ x ∈ I, ItG x) -> ∀ x ∈ J, ItG x := by
  intro L
  induction L with
  | nil => intro I C J h h1 h2; rw [h.2]; exact h2
  | cons k r ih =>
   intro I C J h h1 h2;obtain ⟨M, C', -, h3, h4⟩ := h;exact ih _ C' J h4 (Nat.le_trans zms h1) (ztg h3 h1 h2)
 have hG := gG _ _ _ _ hg (Nat.le_trans (ziZ _ _ _ _) h10) (zti h1 h2 hD);refine ⟨by rw [List.length_map, j1]; exact hlen, fun k s hs h3 => ?_⟩;have hx := zmk h1 h2 hD hs h3;have hlt : ntN l k < (cmI m l n).length := (List.getElem?_eq_some_iff.1 hx).1
 have hxg : itg (cmI m l n) (ntN l k : Int) = iTM m l (iofD m l n) (iofM m l n) k s := by
  show (cmI m l n).getD ((ntN l k : Int)).toNat default = _;rw [Int.toNat_natCast, List.getD_eq_getElem?_getD];have : (cmI m l n)[ntN l k]? = _ := hx;rw [this]; rfl
 obtain ⟨a1, a2, a3⟩ := j2 (ntN l k : Int) (by omega) (by omega);rw [hxg] at a2 a3
 have hJ : J[ntN l k]? = some (itg J (ntN l k : Int)) := by
  rw [show itg J (ntN l k : Int) = J.getD (ntN l k) default by show J.getD ((ntN l k : Int)).toNat default = _; rw [Int.toNat_natCast], List.getD_eq_getElem?_getD, lgg (by omega)]; rfl
 obtain ⟨w, w0, w9, w1, w2⟩ := zpf h1 h2 hs h3 a2 a3;have v1 := (zO (zbR h1) hs h3).2.1;have v8 := (zO (zbR h1) hs h3).2.2
 have hb : bthE m (itg J (ntN l k : Int)).Dur = 0 := by
  unfold bthE; rw [if_pos hM]; exact (hG _ (List.mem_of_getElem? hJ)).d.c
 refine ⟨(itg J (ntN l k : Int)).Dur, by rw [List.getElem?_map, hJ]; rfl, hb, spOf s.Value (w : Int), ?_, by rw [w2], by rw [w2], by rw [w2], by rw [w2]⟩;unfold allE; rw [if_pos hb];exact znh w0 w9 v1 w1 8 (by omega)
end Go.Rse
namespace Go.Rse
open Go Go.Proofs
def fnB (s : Sg) (a : Bool) (q : Sp) : Bool := decide (q.Value = s.Value) && decide (q.Rest = decide (s.Kind = 2)) && decide (q.Color = clr s) && decide (q.Dot = a)
def fnQ (L : List Sp) (s : Sg) (a : Bool) (k : Nat) : Bool := (L.take k).any (fnB s a)
theorem ztl (L : List Sp) (s : Sg) (a : Bool) : false = fnQ L s a 0 := rfl
theorem ztm {L : List Sp} {s : Sg} {a : Bool} {k : Nat} {q : Sp} (h : L[k]? = some q) : (fnQ L s a k || fnB s a q) = fnQ L s a (k + 1) := by
 unfold fnQ; rw [List.take_add_one, h]; simp
theorem zph {L : List Sp} {s : Sg} {a : Bool} {q : Sp} (h : q ∈ L) (h1 : q.Value = s.Value) (h2 : q.Rest = decide (s.Kind = 2)) (h3 : q.Color = clr s) (h4 : q.Dot = a) : fnQ L s a L.length = true := by
 unfold fnQ; rw [List.take_length, List.any_eq_true];exact ⟨q, h, by unfold fnB; simp [h1, h2, h3, h4]⟩
theorem zrA {ch : List Int} {l : List Sg} {i : Nat} {s : Sg} (hs : l[i]? = some s) (h3 : ¬ s.Kind = 3) : (decide ((i : Int) + 1 < (l.length : Int)) && decide ((l.getD ((i : Int) + 1).toNat default).Kind = 3) && decide (atV ch ((yK l i).length : Int) = 0)) = adQ ch l i := by
 have e : ((i : Int) + 1).toNat = i + 1 := by omega
 have hat : atV ch ((yK l i).length : Int) = ch.getD (yK l (i + 1)).length 0 := by
  rw [zhj hs h3];unfold atV;split
  ·rename_i hh;rw [List.getD_eq_getElem?_getD, List.getElem?_eq_none (by omega)]; rfl
  ·rw [List.getD_eq_getElem?_getD, List.getD_eq_getElem?_getD, Int.toNat_natCast]; rfl
 rw [e, hat];unfold adQ zx;cases hz : l[i + 1]? with
 | none =>
  have : ¬ (i : Int) + 1 < (l.length : Int) := fun h => by
   rw [lgg (by omega)] at hz; cases hz
  rw [decide_eq_false this]; rfl
 | some z =>
  have hlt := (List.getElem?_eq_some_iff.1 hz).1;rw [decide_eq_true (show (i : Int) + 1 < (l.length : Int) by omega), List.getD_eq_getElem?_getD, hz];simp only [Option.getD_some, Bool.true_and];by_cases hk : z.Kind = 3
  ·rw [if_pos ⟨hlt, hk⟩, decide_eq_true hk]; rfl
  ·rw [if_neg (fun h => hk h.2), decide_eq_false hk]; rfl
theorem zni (m : Mn) (t : Tm) : (allE m t).length <= 72 := by
 unfold allE;split
 ·exact zh6 m t 8
 ·simp
attribute [local irreducible] Pur yD yE Ex X Fn Imp LeV LeB FnO It yH FnW FnOW
attribute [local irreducible] aqV aqE rnL mMk allE bthE ntN yK adQ fnQ
set_option maxHeartbeats 8000000 in
set_option maxRecDepth 100000 in
theorem C_tactuslaw22_SpellReads (n : Int) (nums : List Int) (w0 : Int) (hn : -9223372036854775808 <= n /\ n <= 9223372036854775807) (hr : ∀ x, x ∈ nums -> -9223372036854775808 <= x /\ x <= 9223372036854775807) (hnl : nums.length <= maxLen) (hw : -9223372036854775808 <= w0 /\ w0 <= 9223372036854775807) : Fn Tryz.prog 3 [iv n, yh nums, iv w0] (.bool true) := by
 have hm := zeJ n hn;have hM := zrd n;generalize mMk n = m at hm hM;have hRun := zfl m nums 9 (by decide) (by decide) hr hnl;have hlen := zod m nums (most := 9) (by decide);have hG := zqP m nums 9;generalize rnL m nums 9 = l at hRun hlen hG;have h0 := zsm hM hG;have hD : zhX l := zof hG;have hln := zos m l;have hn0 : ntN l 0 = 0 := by unfold ntN; rfl
 have hd0 : (yK l 0).length = 0 := by unfold yK; rfl
 refine Fn.go Tryz.func3 Tryz.ntmps3 (fun g w d => ?_);apply yb;refine ya ?_;apply yk;refine ya ?_;refine yq hm ?_;refine yJ ?_;refine yj ?_;apply yk;iterate 2 refine ya ?_
 refine yq hRun ?_;refine ya ?_;apply yk;iterate 2 refine ya ?_
 refine yq (zgW m l (by omega)) ?_;refine zv ?_;apply ye;apply yb;iterate 2 refine ya ?_
 refine ExF.at 2 ?_;refine yF ?_;iterate 3 refine ExF.gi ?_
 refine yC ?_;refine yd ?_;refine ym rfl ?_ ?_<;>intro hc1
 ·have hno : (decide (aqE m l = 14) || decide (aqE m l = 15)) = true := by
   have hn9 : ¬ aqE m l = 0 := by
    rcases hc1 with h | h
    ·exact h
    ·intro he; exact (zkh he).2.2.2 (by omega)
   rcases zqA h0 with h | h | h
   ·exact absurd h hn9
   ·rw [h]; rfl
   ·rw [h]; rfl
  apply yb;iterate 2 refine ya ?_
  refine ExF.at 2 ?_;refine yF ?_;iterate 2 refine ExF.gi ?_
  iterate 2 refine yF ?_
  refine ExF.cg zbd ?_;refine yC ?_;refine yg ?_;refine X.ret ?_;refine yn ?_;all_goals (first | rfl | (simp; done) | (simp; simpa using hno) | (simp; omega))
 have ha0 : aqE m l = 0 := by omega
 have hne := (zkh ha0).2.2.2;have hmd0 := Int.emod_nonneg w0 (show ((aqV m l).length : Int) ≠ 0 by omega);have hmd1 := Int.emod_lt_of_pos w0 (show (0 : Int) < ((aqV m l).length : Int) by omega);obtain ⟨r, hr1⟩ : ∃ r, (aqV m l)[(w0 % ((aqV m l).length : Int)).toNat]? = some r := ⟨_, lgg (by omega)⟩;have hrm := List.mem_of_getElem? hr1;have hZ1 := zpg hM h0 hD (by omega) ha0 hrm;obtain ⟨hdl, hsp⟩ := hZ1;apply yf;apply yb;iterate 4 refine ya ?_
 refine yq (zbb w0 ((aqV m l).length : Int) hw (by omega)) ?_;iterate 2 refine ya ?_
 refine yJ ?_;refine yj ?_;apply yk;refine yg ?_;apply ye;apply yb;refine yd ?_;apply X.block
 refine zw (ι := Nat) (fun (i : Nat) => [(7, .ptr 7 0 0 0), (8, sgsA l), (11, .ptr 11 0 0 0), (12, iv (ntN l i : Int)), (13, iv ((yK l i).length : Int)), (14, iv (i : Int))]) (fun (i : Nat) => [(7, .box (mnE m) 24), (11, .box (rdgE r) 35)]) (fun (i : Nat) => i <= l.length) (fun (i : Nat) => l.length - i) 0 (fun i hk => ?_) (h0 := by
  exact yA)
 apply ye;apply yb;refine zaj ?_;refine ym rfl ?_ ?_<;>intro hc2
 ·obtain ⟨s, hs⟩ : ∃ s, l[i]? = some s := ⟨_, lgg (by omega)⟩;have hs2 : l[(i : Int).toNat]? = some s := by simpa using hs
  have hnl2 := zh0 l i;have hdl2 := zbm l i;apply yf;apply ye;apply X.block;apply ye;apply yb;iterate 5 refine ya ?_
  refine yd ?_;refine ym rfl ?_ ?_<;>intro hc3
  ·have hnd := zfA hs hc3;have hdd : (yK l (i + 1)).length = (yK l i).length + 1 := by rw [zml hs hc3]; simp
   apply yb;refine yr ?_;apply X.exit;apply yc;refine yr ?_;refine yY (i + 1) (hI := yA)
  have h3 : ¬ s.Kind = 3 := hc3;have hnn := zdN hs h3;have hdn : (yK l (i + 1)).length = (yK l i).length := by rw [zhj hs h3]
  have hZ2 := hsp i s hs h3;obtain ⟨t, ht, hbt, q, hq, q1, q2, q3, q4⟩ := hZ2;have ht2 : r.Durs[(ntN l i : Int).toNat]? = some t := by simpa using ht
  have hlt := (List.getElem?_eq_some_iff.1 ht).1;have hf0 := ztl (allE m t) s (adQ r.Dots l i);have hfe := zph hq q1 q2 q3 q4;have hadq := zrA (ch := r.Dots) hs h3;apply yf;apply yb;iterate 5 refine ya ?_
  refine ExF.at 5 ?_;refine yF ?_;iterate 7 refine ExF.gi ?_
  iterate 2 refine yF ?_
  iterate 3 refine ExF.gi ?_
  refine ExF.cg (zf1 r.Dots ((yK l i).length : Int)) ?_;refine ExF.gi ?_;refine yC ?_;refine yg ?_;apply ye;apply yb;refine zv ?_;refine ym rfl ?_ ?_<;>intro hc4
  ·omega
  apply yf;apply ye;refine zC [16,17,95,96,97,98,99,100,101,102,103,104] [0,0,2,0,14,30,63,127,255,255,511,2047] mo ?_;iterate 6 refine yl ?_
  refine zD (ze5 m t) ?_;iterate 5 refine yl ?_
  refine zb ?_;apply yk;iterate 3 refine ya ?_
  apply yk;refine yd ?_;apply ye;apply yb;refine yd ?_;apply X.block
  refine zw (ι := Nat) (fun (k : Nat) => [(7, .ptr 7 0 0 0), (8, sgsA l), (11, .ptr 11 0 0 0), (12, iv (ntN l (i + 1) : Int)), (13, iv ((yK l (i + 1)).length : Int)), (14, iv (i : Int)), (15, .bool (adQ r.Dots l i)), (16, spsA (allE m t)), (17, iv (bthE m t)), (18, .bool (fnQ (allE m t) s (adQ r.Dots l i) k)), (19, iv (k : Int))]) (fun (k : Nat) => [(7, .box (mnE m) 24), (11, .box (rdgE r) 35)]) (fun (k : Nat) => k <= (allE m t).length) (fun (k : Nat) => (allE m t).length - k) 0 (fun k hk => ?_) (h0 := by
   exact yA)
  apply ye;apply yb;refine zaj ?_;refine ym rfl ?_ ?_<;>intro hc5
  ·obtain ⟨p, hp⟩ : ∃ p, (allE m t)[k]? = some p := ⟨_, lgg (by omega)⟩;have hp2 : (allE m t)[(k : Int).toNat]? = some p := by simpa using hp
   have hfs := ztm (s := s) (a := adQ r.Dots l i) hp;have hal := zni m t;apply yf;apply ye;apply X.block;apply yb;(iterate 4 refine ya ?_);refine yJ ?_;refine yj ?_;apply Ex.nil;refine zC [117,118,119,120,121,122,123,124,125,126,127,128,129,130,131,132,133,134,135,136,137,138,139,140,141,142,143,144,145,146,147,148,149,150,151,152,153,154,155,156,157,158,159,160,161] [0,1,3,7,3,3,51,115,243,511,1023,2047,4095,2047,2047,26623,59391,124927,255999,524287,1048575,2097151,4194303,8388607,4194303,4194303,54525951,121634815,255852543,524287999,1061158911,2134900735,2134900735,8577351679,17167286271,34347155455,68706893823,137438953471,274877906943,549755813887,1099511627775,2199023255551,1099511627775,8796093022207,17592186044415,35184372088831,70368744177663] mo ?_;(iterate 2 refine yl ?_);(iterate 43 refine ChM.gi ?_);refine zb ?_;refine yg ?_;apply yc;refine yr ?_;refine yY (k + 1) (hI := yA)
  ·obtain rfl : k = (allE m t).length := by omega
   apply X.exit;apply yb;(iterate 2 refine ya ?_);refine ExF.at 2 ?_;refine yF ?_;(iterate 2 refine ExF.gi ?_);refine yC ?_;refine yd ?_;refine ym rfl ?_ ?_<;>intro hc6
   ·(rcases hc6 with h | h; exact absurd hbt h; (rw [hfe] at h; simp at h))
   apply yf;apply yc;refine yr ?_;refine yY (i + 1) (hI := yA)
 ·obtain rfl : i = l.length := by omega
  apply X.exit;apply yb;iterate 5 refine ya ?_
  refine ExF.at 5 ?_;refine yF ?_;refine ExF.cg zbd ?_;refine yC ?_;refine yg ?_;refine X.ret ?_;refine yn ?_;all_goals (first | rfl | (simp; done) | (simp; simpa using hno) | (simp; omega))
end Go.Rse
