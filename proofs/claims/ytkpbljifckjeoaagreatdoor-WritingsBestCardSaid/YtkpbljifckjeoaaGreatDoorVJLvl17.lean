/-
  Walks: Allowed, where the list that it answers is new.
-/
import Derived.Test.YtkpbljifckjeoaaGreatDoorVJWri1
set_option linter.unusedSimpArgs false
set_option linter.unusedVariables false
namespace Go.Rse
open Go Go.Proofs
attribute [local irreducible] Pur yw yy Ex X Fn Imp LeV LeB FnO It yz FnW FnOW
attribute [local irreducible] stK okJ alK alQ chN chL segV segE unT
set_option maxHeartbeats 2000000 in
theorem zeW (m : Mn) (k : Int) (l : List Ite) (M : List Int) (h0 : -9223372036854775808 <= k) (h1 : k <= 9223372036854775807) (hl : l.length <= 1000000) (hM : M.length <= 4000000) (hE : segE m k l = 0) (hX : (decide (((segV m k l).length : Int) <= (M.length : Int))) = false) (hok : okJ (unT m k) k (segV m k l) l M M.length = true) (hN : ∀ s ∈ segV m k l, 0 <= s.Count.N) (hMS : M.length <= (segV m k l).length) : FnO Tryz.prog 176 [mnA m, iv k, itsA l, ye M] [] [] (.tup [.own 42, iv 0]) [(42, .row intE (alK (unT m k) k (segV m k l) l M M.length) 3 1)] := by
 have hbl := zcy m k l;have hu := zlF (zk9 hE).1;have hSO := ziL hE;obtain ⟨s, hs⟩ : ∃ s, (segV m k l)[M.length]? = some s := ⟨_, lgg (by simp at hX; omega)⟩;have hs2 : (segV m k l)[(M.length : Int).toNat]? = some s := by simpa using hs
 have hso := hSO.all s (List.mem_of_getElem? hs);have hsb := ziM hso.b (zdY (unT m k) (segV m k l) l M M.length);have hsN := hN s (List.mem_of_getElem? hs);have hsl := zdY (unT m k) (segV m k l) l M M.length;have hae : alQ (unT m k) k (stK (unT m k) (segV m k l) l M M.length).1 (stK (unT m k) (segV m k l) l M M.length).2 s = alK (unT m k) k (segV m k l) l M M.length := by unfold alK; rw [show (segV m k l).getD M.length default = s by rw [List.getD_eq_getElem?_getD, hs]; rfl]
 refine FnO.introX (ts := [(0, mnA m), (1, iv k), (2, itsA l), (3, ye M)]) (rv := [.tmp 8, .tmp 9]) (n := 43) (cs := []) (by kernel_rfl) Tryz.func176 rfl Tryz.ntmps176 rfl rfl (by simp) rfl rfl rfl rfl (fun g w d vs => ?_);refine gq ?_;refine zaC [(36, 2000000), (30, 2000001), (34, 2000002)] (zap m k l h0 h1 hl hE) ?_;refine gd ?_ ?_<;>intro hc1
 ·exact absurd rfl hc1
 apply yr;iterate 2 apply yn
 have hg5 : ((decide (((segV m k l).length : Int) <= (M.length : Int))) == false) = true := by rw [hX]; rfl
 ·apply yo;iterate 6 refine ya ?_
  iterate 3 refine zJ ?_
  refine zeK rfl rfl hg5 ?_;refine zaC [(2000000, 2000000), (2000001, 2000001), (2000002, 2000002)] (zaW (unT m k) k (segV m k l) l M hSO hN hMS hl (by omega) (by omega) (by omega) hok) ?_;refine zJ ?_;refine gd ?_ ?_<;>intro hc2
  ·first | (exact absurd hc2.2 (by decide)) | (cases hc2; done) | (exact absurd hc2 (by simp [hX])) | (simp [hX] at hc2; done) | (rcases hc2 with h | h <;> first | (cases h; done) | (exact absurd h (by simpa using hX)) | (simp [hX] at h; done) | (exact absurd h (by decide)))
  refine gq ?_;refine Ex.stepA (zgF (ι := Nat) (stF := fun b => ⟨[(36, .ept (fun _ : Unit => [.sl itE (stK (unT m k) (segV m k l) l M M.length).1, iv k, iv (unT m k).N, iv (unT m k).D, .val (.map (some b))]) () 0), (41, smA s)], []⟩) 42 (fun g a w hr => zoC (k := 2000002) rfl (fun b => (Imp.freeze (k := 2000001) rfl).trans ((yS (k := 2000000) rfl rfl).trans yd)) (fun _ => rfl) (fun _ => rfl) hr) (fun b => zaz (stK (unT m k) (segV m k l) l M M.length).1 k (unT m k) b (stK (unT m k) (segV m k l) l M M.length).2 s hsb (by omega) (by omega) (by omega) hsN)) rfl rfl ?_;refine zq ?_;refine X.ret ?_;refine zfP (st' := ⟨[(8, .own 42), (9, iv 0)], [(1000001, .hold vs []), (42, .row intE (alK (unT m k) k (segV m k l) l M M.length) 3 1)]⟩) (by first | exact yd | exact yf) ?_;refine zit.mk [(8, .own 42), (9, iv 0)] [] (.inr rfl) (.many (by decide) (.cons (.tmp rfl (LeV.eq ?_)) (.cons (.tmp rfl (LeV.eq ?_)) .nil)));all_goals (rfl)
end Go.Rse
namespace Go.Rse
open Go Go.RowKit
section
variable {P : Program} {C : Ctx} {st : St} {ty : TypeId}
theorem zo4 {fop : Operand} {args : Array Operand} {ts : Array TypeId} {f : FuncId} {caps xs az fl : List AV} {α : Type} {enc : α -> List AV} {l : List α} {E s q : Nat} {stF : St} (k : Nat) (hi : Imp C st stF) (h : FnO P f az [] [] (.tup (.own q :: fl)) [(q, .row enc l E s)])
 (hfl : ∀ x, AV.flat.flatL (enc x) = true := by intro x; rfl) (hff : AV.flat.flatL fl = true := by rfl) (hf : ev stF fop = some (.fn f caps) := by rfl) (hx : evs stF args.toList = some xs := by rfl) (hle : LeL (xs ++ caps) az := by exact LeL.refl _) :
 yw P C (.call { callee := .value fop, args := args, argTypes := ts }) ty st (.tup (.own k :: fl)) (some (k, .row enc l E s)) := fun g a w dst pos af gd hr0 K hK => by
 obtain ⟨gF, hrF⟩ := hi g a w hr0;obtain ⟨us, e, hl1, hu⟩ := zb4 (yu hrF hf);have hargs := zdD hrF hx;have hall : RVL gF.I gF.ρ az (args.toList.map a.eval ++ us) := hle.rvl (hargs.append ⟨hl1, hu⟩);obtain ⟨dc, hdc, _⟩ := zb8 gF.O w.heap.size [] hrF.sat.ob.1;have h0 := h.2 dc gF.ρ gF.I gF.O w _ ⟨hrF.sat.im, hrF.sat.ob, fun k B hB => by simp [lk] at hB⟩ hall;have e1 : (args.toList.map a.eval ++ us).toArray = args.map a.eval ++ us.toArray := by simp [← Array.toList_map]
 rw [e1] at h0
 have e2 : (execOp a.eval { dst := dst, op := .call { callee := .value fop, args := args, argTypes := ts }, type := ty, pos := pos, after := af, guard := gd }).run P w = .ok (.enter f (args.map a.eval ++ us.toArray)) w := by
  simp only [execOp, resolve, e, Deferred.ofValue, Sem.run_bind, Sem.run_pure, Result.andThen_ok, invoke, zF h.1];simp
 unfold wp1;rw [e2];refine Calls.mono h0 ?_
 rintro e w' ⟨v, ρ', I', O', rfl, hs, hv, hx1, _⟩
 refine ⟨v, rfl, ?_⟩
 have hgr : Grow w w' := ⟨hx1.os, hx1.tape, hx1.output, hx1.drawn, hx1.size, fun b hb => (hx1.keep b hb (fun hk => by
  rcases hk with hk | ⟨n, hk⟩
  ·exact absurd hk (Nat.not_le.2 hb)
  ·exact hdc b n hk) (fun ⟨y, n, hy, _⟩ => by simp at hy)).1⟩
 cases hv with
 | tup _ vs hl hvv =>
 cases vs with
 | nil => simp at hl
 | cons v0 vr =>
 have hv0 : RV I' ρ' (.own q) v0 := hvv 0 _ _ (by rfl) (by rfl);let g3 : Gh := { ρ := fun n => if n = k then v0 else g.ρ n, I := g.I, O := fun b => if b < w.heap.size then g.O b else (match O' b with | some (y, n) => if y = dc /\ n = q then some (C.d, k) else none | none => none) };have hO3 : ∀ b, b < w.heap.size -> g3.O b = g.O b := fun b hb => by simp [g3, hb]
 have hvk : ρ' q = v0 := zT hv0;obtain ⟨xs', p1, p2, p3, p4⟩ := hs.blk q (.row enc l E s) (by simp [yi])
 have hnew : ∀ b, yV (ρ' q) = some b -> O' b = some (dc, q) /\ w.heap.size <= b := fun b hb => by
  obtain ⟨q1, q2⟩ := p4 b hb;refine ⟨q1, ?_⟩;rcases q2 with q2 | ⟨n, q2⟩
  ·exact q2
  ·exact absurd q2 (hdc b n)
 have him : ImOB g3 w' := by
  refine ⟨fun b o u hI => ?_, fun b p hO => ?_, hr0.sat.ob.2⟩
  ·obtain ⟨q1, q2⟩ := hr0.sat.im b o u hI;exact ⟨hgr.cell q1, by rw [hO3 b (zbk q1)]; exact q2⟩
  ·rcases Nat.lt_or_ge b w.heap.size with hb | hb
   ·exact Nat.lt_of_lt_of_le hb hgr.size
   ·simp only [g3, Nat.not_lt.2 hb, if_false] at hO;cases hO' : O' b with
    | none => simp [hO'] at hO
    | some q => exact hs.ob.1 b q hO'
 refine hK _ w' g3 ⟨Im.le_refl _, fun n hn => ?_, hO3, hgr⟩ ?_ him (fun k' B hB => ?_)
 ·have : n ≠ k := fun e => hn (by simp [e])
  simp [g3, this]
 ·refine .tup _ _ (by simpa using hl) (fun j c u hc hu' => ?_)
  match j with
  | 0 =>
   simp at hc hu'; subst hc; subst hu';rcases p1.2 with ⟨e, _⟩ | ⟨b, cap, cur, e, _⟩ <;>
   ·have e : ρ' q = _ := e;rw [hvk] at e;rw [e];exact .own k _ _ _ (by simp [g3, e])
  | j + 1 =>
   have hc1 : fl[j]? = some c := by simpa using hc
   exact (hvv (j + 1) c u (by simpa using hc1) hu').flat (zaw hff hc1)
 ·injection hB with hB; injection hB with e3 e4; subst e3; subst e4;have hk3 : g3.ρ k = v0 := by simp [g3]
  refine ⟨xs', by rw [hk3, ← hvk]; exact p1, p2, fun j x q c u hx hc hu => (p3 j x q c u hx hc hu).flat (zaw (hfl x) hc), fun b hb => ?_⟩;rw [hk3, ← hvk] at hb;obtain ⟨q1, q2⟩ := hnew b hb;refine ⟨by simp [g3, Nat.not_lt.2 q2, q1], .inl (Nat.le_trans hr0.ext.size q2)⟩
end
end Go.Rse
namespace Go.Rse
open Go Go.Proofs
attribute [local irreducible] Pur yw yy Ex X Fn Imp LeV LeB FnO It yz FnW FnOW
theorem zo5 {s : Sgm} {A : List Int} (h : (chF s A).isSome = true) : chF s A = some ((chF s A).getD 0) := by
 cases hc : chF s A with
 | none => rw [hc] at h; cases h
 | some c => rfl
attribute [local irreducible] stK okJ alK alQ segV segE unT muF muI chF wnL cuE cuV cuO mdJ
set_option maxHeartbeats 2000000 in
theorem zei (m : Mn) (k : Int) (l : List Ite) (h0 : -9223372036854775808 <= k) (h1 : k <= 9223372036854775807) (hl : l.length <= 1000000) : Fn Tryz.prog 133 [mnA m, iv k, itsA l] (.tup [ye (cuV m k l), iv (cuE m k l)]) := by
 have hbl := zcy m k l;refine Fn.go Tryz.func133 Tryz.ntmps133 (fun g w d => ?_);refine gq ?_;refine yb (zbc m k l h0 h1 hl) ?_;refine gd ?_ ?_<;>intro hc1
 ·have hZ1 := zwV hc1;obtain ⟨hE, hV⟩ := hZ1;apply yg;refine zk ?_;refine X.ret ?_;refine RetQ.imp (yd (ts := [(6, ye []), (7, iv (segE m k l))]) (hs := [])) ?_;refine yj ?_ ?_;all_goals (first | (rw [hE]; done) | (rw [hV]; done) | exact congrArg (fun z => ye z) hV | exact congrArg (fun z => AV.int .i64 z) hE.symm | (with_reducible rfl))
 have h00 : segE m k l = 0 := by omega
 have hz0 : [] = muF m k l 0 := zxq.symm;apply yr;apply yg;refine yx ?_;iterate 2 apply yn
 refine X.imp (yP intE 3 1 10 5 rfl rfl) ?_;refine gq ?_
 refine yZ (ι := Nat) (fun (n : Nat) => [(1, iv k), (2, itsA l), (3, .ptr 3 0 0 0), (10, .own 5), (27, smsA (segV m k l)), (28, iv (segV m k l).length), (29, iv (n : Int))]) (fun (n : Nat) => [(3, .box (mnE m) 32), (5, .row intE (muF m k l n) 3 1)]) (fun (n : Nat) => n <= (segV m k l).length /\ muI m k l n = true) (fun (n : Nat) => (segV m k l).length - n) 0 (fun n hk => ?_) (hJ := by
  exact ⟨by omega, ztA⟩) (h0 := by
  exact yf)
 obtain ⟨hk1, hk2⟩ := hk;refine gd ?_ ?_<;>intro hc2
 ·obtain ⟨s, hs⟩ : ∃ s, (segV m k l)[n]? = some s := ⟨_, lgg (by omega)⟩;have hs2 : (segV m k l)[(n : Int).toNat]? = some s := by simpa using hs
  have hsN := ziN m k l s (List.mem_of_getElem? hs);have hLn := ziH hk2;have hAl := zoS (unT m k) k (segV m k l) l (muF m k l n) (muF m k l n).length;refine gq ?_;refine Ex.stepA (zo4 (stF := ⟨[(34, mnA m), (35, iv k), (36, itsA l), (37, ye (muF m k l n))], []⟩) 38 ((Imp.freeze (k := 5) rfl).trans yd) (zeW m k l (muF m k l n) h0 h1 (by omega) (by omega) (hE := h00) (hX := by simp; omega) (hok := ztB hk2) (hN := ziN m k l) (hMS := by omega))) rfl rfl ?_;refine gd ?_ ?_<;>intro hc3
  ·exact absurd rfl hc3
  apply yr;apply yn;refine X.imp (Imp.freeze (k := 38) rfl) ?_;refine gq ?_;refine yb (zhS s (akF m k l n) hsN (by unfold akF; omega)) ?_;refine gd ?_ ?_<;>intro hc4
  ·have hC : chF s (akF m k l n) = none := by first | exact hc4 | simpa using hc4
   have hZ2 := zwW h00 hk2 hs hC;obtain ⟨hE, hV⟩ := hZ2;apply yg;refine zq ?_;refine X.ret ?_;refine RetQ.imp (yd (ts := [(6, ye []), (7, iv 14)]) (hs := [])) ?_;refine yj ?_ ?_;all_goals (first | (rw [hE]; done) | (rw [hV]; done) | exact congrArg (fun z => ye z) hV | exact congrArg (fun z => AV.int .i64 z) hE.symm | (with_reducible rfl))
  have hC := zo5 hc4;have hZ3 := zwU hk2 hs hC;obtain ⟨hI, hst⟩ := hZ3;refine gq ?_;refine yL intE [_] ?_;refine gq ?_
  refine yD (n + 1) (hJ := by
   exact ⟨by omega, hI⟩) (hI := yf)
 ·have hn : n = (segV m k l).length := by omega
  have hZ4 := zrI h00 hk2 hn;obtain ⟨hE, hV⟩ := hZ4;apply X.exit;apply yg;refine zk ?_;refine X.ret ?_;refine RetQ.imp (Imp.freeze (k := 5) rfl) ?_;refine yj ?_ ?_;all_goals (first | (rw [hE]; done) | (rw [hV]; done) | exact congrArg (fun z => ye z) hV | exact congrArg (fun z => AV.int .i64 z) hE.symm | (with_reducible rfl))
end Go.Rse
namespace Go.Rse
open Go Go.Proofs
attribute [local irreducible] Pur yw yy Ex X Fn Imp LeV LeB FnO It yz FnW FnOW
attribute [local irreducible] cuV cuE apV apE leE leC leI lvN lvF ckM perfL ckIE ckIX
end Go.Rse
namespace Go.Rse
open Go Go.RowKit
def zqU (C : Ctx) (pv : Value) (vs : List Value) (cs : List AV) (hs' : List (Nat × Blk)) (e : Exit) (st : St) : Prop :=
 e = pnc pv /\ ∃ ts ex, Imp C st ⟨ts, (kN, .hold vs cs) :: (hs' ++ ex)⟩
theorem zqU.mk {C : Ctx} {pv : Value} {vs : List Value} {cs : List AV} {hs' : List (Nat × Blk)} {st : St} (hi : Imp C st ⟨[], (kN, .hold vs cs) :: (hs' ++ [])⟩ := by exact yd) : zqU C pv vs cs hs' (pnc pv) st := ⟨rfl, [], [], hi⟩
theorem FnP.intro {P : Program} {f : FuncId} {fn : Func} {c : Code} {n : Nat} {az : List AV} {ts : List (Nat × AV)} {pv : Value} {hs hs' : List (Nat × Blk)} {kp : List Nat} {cs : List AV} (hc : zZ P f = true) (hf : P.funcs[f]? = some fn) (hb : fn.body = some c) (hn : fn.ntmps = n)
 (hts : zaP 0 az = ts) (hlen : az.length <= n) (hkn : (hs.all fun p => !(p.1.beq kN)) = true) (hkn' : (hs'.all fun p => !(p.1.beq kN)) = true) (hkp : kp.mapM (hdr hs) = some cs) (hkp' : kp.mapM (hdr hs') = some cs)
 (h : ∀ g w d vs, X P (C0 n d g w) c ⟨ts, (kN, .hold vs cs) :: hs⟩ (zqU (C0 n d g w) pv vs cs hs')) : FnP P f az hs kp pv hs' := by
 refine ⟨hc, fun d ρ I O w args hsat hargs => (callsIn_wide (n := 0)).1 (callsIn_of_wp_marks hf hb trivial ?_)⟩;subst hts;have hsz : args.length = az.length := hargs.1;let C := C0 n d ⟨ρ, I, O⟩ w
 have hrel : Rel C ⟨zaP 0 az, (kN, .hold (kp.map ρ) cs) :: hs⟩ ⟨ρ, I, O⟩ { tmps := args.toArray ++ Array.replicate (fn.ntmps - args.toArray.size) undef, defers := [] } w := by
  refine ⟨by simp [hn, C]; omega, Dfs.nil _ _ _, fun t x hx => ?_, ⟨hsat.im, hsat.ob, fun k B hB => ?_⟩, ⟨Im.le_refl _, rfl, rfl, rfl, Nat.le_refl _, Nat.le_refl _, fun _ _ _ _ => ⟨rfl, rfl⟩, fun b y n _ hy => ⟨n, hy⟩⟩⟩
  ·obtain ⟨_, hx'⟩ := zb7 (I := I) (ρ := ρ) az 0 t x hx;simp only [Nat.sub_zero] at hx';have ht : t < args.length := by rw [hsz]; exact (List.getElem?_eq_some_iff.1 hx').1
   have e : (args.toArray ++ Array.replicate (fn.ntmps - args.toArray.size) undef).getD t undef = args[t] := by
    simp [Array.getD_eq_getD_getElem?, Array.getElem?_append, ht]
   rw [e];exact hargs.2 t x _ hx' (lgg ht)
  ·simp only [yi] at hB;cases hbq : kN.beq k <;> simp [hbq] at hB
   ·exact (hsat.blk k B hB).ctx
   ·subst hB;exact zfs (g := ⟨ρ, I, O⟩) hsat hkp
 refine wpIn_mono (h _ w d _ _ _ w hrel) ?_
 rintro e a w' ⟨st, g1, hr1, rfl, ts', ex', himp⟩
 obtain ⟨g2, hr2⟩ := himp g1 a w' hr1;show LeavesInM Fence.wide 0 P fn a.tmps _ a.defers (.panicking [{ v := pv, recovered := false }]) w';obtain ⟨D, hD, hnd, hDr⟩ := hr2.defers;have hpl := hD.plain (C := C) rfl;have hpl : a.defers = D.map mkD ++ [] := by rw [hpl]; simp [C]
 rw [hpl];refine zd5 (C := C) (st := ⟨ts', (kN, .hold (kp.map ρ) cs) :: (hs' ++ ex')⟩) (tmps := a.tmps) (by simp) (tl := []) (fun g3 w3 hr3 => ?_) D (g := g2) (w := w') (by rw [← hpl]; exact hr2)
 have hs3 : Sat (C0 0 d ⟨ρ, I, O⟩ w) hs' g3 w3 := ⟨hr3.sat.im, hr3.sat.ob, fun k B hB => by
  refine (hr3.sat.blk k B ?_).ctx
  have : kN.beq k = false := by
   cases hb : kN.beq k
   ·rfl
   ·have : kN = k := by simpa using hb
    subst this; rw [zdI hkn'] at hB; simp at hB
  simp [yi, this, zbN, hB]⟩
 have hh := hr3.sat.blk kN (.hold (kp.map ρ) cs) (by simp [yi])
 have hend : ∃ v ρ' I' O', (Ending.panicked [{ v := pv, recovered := false }] = Ending.panicked [{ v := pv, recovered := false }]) /\ Sat (C0 0 d ⟨ρ, I, O⟩ w) hs' ⟨ρ', I', O'⟩ w3 /\ RV I' ρ' (.tup []) v /\ Ext (C0 0 d ⟨ρ, I, O⟩ w) ⟨ρ', I', O'⟩ w3 /\ ∀ n ∈ kp, ρ' n = ρ n :=
  ⟨.tuple #[], g3.ρ, g3.I, g3.O, rfl, hs3, .tup [] [] rfl (fun j c v hc => by simp at hc), ⟨hr3.ext.I, hr3.ext.os, hr3.ext.tape, hr3.ext.output, hr3.ext.drawn, hr3.ext.size, hr3.ext.keep, hr3.ext.own⟩, zdH (ρ := ρ) hs3 hkp' hh⟩
 exact hend
end Go.Rse
namespace Go.Rse
open Go Go.Proofs
attribute [local irreducible] Pur yw yy Ex X Fn Imp LeV LeB FnO It yz FnW FnOW FnP
attribute [local irreducible] cuV cuE apV apE leE leC leI lvN lvF ckM perfL ckIE ckIX
theorem zgL (m : Mn) (l : List Ite) (C : List Int) : FnO Tryz.prog 100 [.ptr 2000000 0 0 0] [(2000000, .box [iv m.Max, iv m.Mod, iv m.Tem, iv m.Pro, ye [], itsA l, .own 2000001] 158), (2000001, .row intE (C) 3 1)] [2000000, 2000001] (.nilf) [(2000000, .box [iv m.Max, iv m.Mod, iv m.Tem, iv m.Pro, ye [], itsA l, .own 2000001] 158), (2000001, .row intE (C) 3 1)] := by
 refine FnO.introX (ts := [(0, .ptr 2000000 0 0 0)]) (rv := [.tmp 2]) (n := 75) (cs := [.ptr 2000000 0 0 0, .own 2000001]) (by kernel_rfl) Tryz.func100 rfl Tryz.ntmps100 rfl rfl (by simp) rfl rfl rfl rfl (fun g w d vs => ?_);apply yg;refine yx ?_;apply yn;apply yg;refine ya ?_;refine ya ?_ (hs := by exact yl rfl);refine gd ?_ ?_<;>intro hc1
 ·apply yg;refine yx ?_;refine X.ret ?_;refine zit.mk [(2, .nilf)] [] (.inr rfl) (.one (.tmp rfl (LeV.eq ?_)));all_goals (rfl)
 exact absurd rfl hc1
theorem zga (m : Mn) (l : List Ite) (C : List Int) (k : Int) (r : List Int) (hk : 1 <= k /\ k <= 4) (hl : l.length <= 1000) (hC : C.length <= 1000000) (h0 : ¬ cuE m k l = 0) : FnP Tryz.prog 100 [.ptr 2000000 0 0 0] [(2000000, .box [iv m.Max, iv m.Mod, iv m.Tem, iv m.Pro, ye (k :: r), itsA l, .own 2000001] 158), (2000001, .row intE (C) 3 1)] [2000000, 2000001] (ifV 153 .i64 (cuE m k l)) [(2000000, .box [iv m.Max, iv m.Mod, iv m.Tem, iv m.Pro, ye r, itsA l, .own 2000001] 158), (2000001, .row intE (C) 3 1)] := by
 have hx0 : (k :: r)[(0 : Int).toNat]? = some k := rfl;have hap0 := hk.1;have hcl := ziI (m := m) (k := k) (l := l);refine FnP.intro (ts := [(0, .ptr 2000000 0 0 0)]) (n := 75) (cs := [.ptr 2000000 0 0 0, .own 2000001]) (by kernel_rfl) Tryz.func100 rfl Tryz.ntmps100 rfl (by simp) rfl rfl rfl rfl (fun g w d vs => ?_);apply yg;refine yx ?_;apply yn;apply yg;refine ya ?_;refine ya ?_ (hs := by exact yl rfl);refine gd ?_ ?_<;>intro hc1
 ·exact absurd hc1 (by simp; omega)
 apply yr;apply yg;refine ya ?_;refine ya ?_ (hs := by exact yl rfl);iterate 5 refine ya ?_
 apply yK;iterate 2 refine ya ?_
 refine ya ?_ (hs := by exact yl rfl);refine gq ?_
 first
  | refine zaH (zW rfl rfl rfl sl59 ty3 (by omega) (by omega)) rfl ?_
  | refine zaH (zan rfl rfl sl59 ty3 (fun _ => rfl) (by omega) (by omega)) rfl ?_
 refine ya ?_ (hs := by exact yl rfl);refine gq ?_;refine zn [4,5,26,27,28,29,30,31,32,33,34,35,36,37,38] [0,1,3,7,0,0,32,96,224,511,1023,2047,2047,4095,16383] mo ?_;refine yc ?_;refine yc ?_ (hs := by exact yl rfl);iterate 4 refine yc ?_
 refine yc ?_ (hs := by exact yl rfl);iterate 2 refine yc ?_
 refine yT (zei m k l (by omega) (by omega) (by omega)) ?_;iterate 5 refine yc ?_
 refine yM ?_;refine gd ?_ ?_<;>intro hc2
 ·(refine yo ?_; refine ya ?_; refine ya ?_; refine ya (hs := by exact zjo rfl ⟨_, Tryz.underlying153⟩) ?_; refine Ex.panic ?_; exact zqU.mk)
 exact absurd hc2 h0
set_option maxHeartbeats 2000000 in
theorem zhM (m : Mn) (l : List Ite) (C : List Int) (k : Int) (r : List Int) (hk : 1 <= k /\ k <= 4) (hl : l.length <= 1000) (hC : C.length <= 1000000) (h0 : cuE m k l = 0) : FnO Tryz.prog 100 [.ptr 2000000 0 0 0] [(2000000, .box [iv m.Max, iv m.Mod, iv m.Tem, iv m.Pro, ye (k :: r), itsA l, .own 2000001] 158), (2000001, .row intE (C) 3 1)] [2000000] (.fn 100 []) [(2000000, .box [iv m.Max, iv m.Mod, iv m.Tem, iv m.Pro, ye r, itsA (apV m k l (cuV m k l)), .own 2000012] 158), (2000012, .row intE (C ++ (cuV m k l)) 3 1)] := by
 have hx0 : (k :: r)[(0 : Int).toNat]? = some k := rfl;have hap0 := hk.1;have hcl := ziI (m := m) (k := k) (l := l);have hap := zle h0;refine FnO.introX (ts := [(0, .ptr 2000000 0 0 0)]) (rv := [.tmp 2]) (n := 75) (cs := [.ptr 2000000 0 0 0]) (by kernel_rfl) Tryz.func100 rfl Tryz.ntmps100 rfl rfl (by simp) rfl rfl rfl rfl (fun g w d vs => ?_);apply yg;refine yx ?_;apply yn;apply yg;refine ya ?_;refine ya ?_ (hs := by exact yl rfl);refine gd ?_ ?_<;>intro hc1
 ·exact absurd hc1 (by simp; omega)
 apply yr;apply yg;refine ya ?_;refine ya ?_ (hs := by exact yl rfl);iterate 5 refine ya ?_
 apply yK;iterate 2 refine ya ?_
 refine ya ?_ (hs := by exact yl rfl);refine gq ?_
 first
  | refine zaH (zW rfl rfl rfl sl59 ty3 (by omega) (by omega)) rfl ?_
  | refine zaH (zan rfl rfl sl59 ty3 (fun _ => rfl) (by omega) (by omega)) rfl ?_
 refine ya ?_ (hs := by exact yl rfl);refine gq ?_;refine zn [4,5,26,27,28,29,30,31,32,33,34,35,36,37,38] [0,1,3,7,0,0,32,96,224,511,1023,2047,2047,4095,16383] mo ?_;refine yc ?_;refine yc ?_ (hs := by exact yl rfl);iterate 4 refine yc ?_
 refine yc ?_ (hs := by exact yl rfl);iterate 2 refine yc ?_
 refine yT (zei m k l (by omega) (by omega) (by omega)) ?_;iterate 5 refine yc ?_
 refine yM ?_;refine gd ?_ ?_<;>intro hc2
 ·exact absurd h0 hc2
 refine gq ?_;refine X.drawQ [⟨0, 45, .ptr 2000000 0 0 0, []⟩, ⟨1, 46, .ptr 2000000 0 0 0, []⟩, ⟨2, 47, .ptr 2000000 0 0 0, [1]⟩, ⟨3, 48, .ptr 2000000 0 0 (0 + 0), [1, 2]⟩, ⟨4, 49, mnA m, [1, 2, 3]⟩, ⟨5, 50, iv k, []⟩, ⟨6, 51, .ptr 2000000 0 0 0, []⟩, ⟨7, 52, .ptr 2000000 0 0 0, [6]⟩, ⟨8, 53, .ptr 2000000 0 0 (0 + 5), [6, 7]⟩, ⟨9, 54, itsA l, [6, 7, 8]⟩, ⟨10, 55, ye (cuV m k l), []⟩, ⟨12, 44, .tup [itsA (apV m k l (cuV m k l)), iv (apE m k l (cuV m k l))], [6, 1, 7, 2, 8, 3, 10, 9, 5, 4, 11]⟩, ⟨13, 57, itsA (apV m k l (cuV m k l)), [6, 1, 7, 2, 8, 3, 10, 9, 5, 4, 11, 12]⟩, ⟨14, 58, iv (apE m k l (cuV m k l)), [6, 1, 7, 2, 8, 3, 10, 9, 5, 4, 11, 12]⟩, ⟨15, 59, .ptr 2000000 0 0 0, [13, 12, 11, 10, 9, 8, 7, 6, 5, 4, 3, 2, 1, 0]⟩, ⟨16, 60, .ptr 2000000 0 0 (0 + 5), [13, 12, 11, 10, 9, 8, 7, 6, 5, 4, 3, 2, 1, 0, 15]⟩] [(11, [6, 1, 7, 2, 8, 3, 10, 9, 5, 4]), (17, [15, 12, 10, 9, 8, 7, 6, 5, 4, 3, 2, 1, 0, 11, 13, 16]), (18, [16, 15, 13, 12, 11, 10, 9, 8, 7, 6, 5, 4, 3, 2, 1, 0, 17, 14])] (fun j => match j with | 0 => ⟨[(0, .ptr 2000000 0 0 0), (3, iv k), (4, ye (cuV m k l))], [(1000001, .hold vs [.ptr 2000000 0 0 0]), (2000000, .box [iv m.Max, iv m.Mod, iv m.Tem, iv m.Pro, ye r, itsA l, .own 2000001] 158), (2000001, .row intE (C) 3 1)]⟩ | 1 => ⟨[(0, .ptr 2000000 0 0 0), (3, iv k), (4, ye (cuV m k l)), (56, .tup [itsA (apV m k l (cuV m k l)), iv (apE m k l (cuV m k l))])], [(1000001, .hold vs [.ptr 2000000 0 0 0]), (2000000, .box [iv m.Max, iv m.Mod, iv m.Tem, iv m.Pro, ye r, itsA l, .own 2000001] 158), (2000001, .row intE (C) 3 1)]⟩ | 2 => ⟨[(0, .ptr 2000000 0 0 0), (3, iv k), (4, ye (cuV m k l)), (56, .tup [itsA (apV m k l (cuV m k l)), iv (apE m k l (cuV m k l))])], [(1000001, .hold vs [.ptr 2000000 0 0 0]), (2000000, .box [iv m.Max, iv m.Mod, iv m.Tem, iv m.Pro, ye r, itsA (apV m k l (cuV m k l)), .own 2000001] 158), (2000001, .row intE (C) 3 1)]⟩ | _ => ⟨[(0, .ptr 2000000 0 0 0), (3, iv k), (4, ye (cuV m k l)), (56, .tup [itsA (apV m k l (cuV m k l)), iv (apE m k l (cuV m k l))]), (5, iv (apE m k l (cuV m k l)))], [(1000001, .hold vs [.ptr 2000000 0 0 0]), (2000000, .box [iv m.Max, iv m.Mod, iv m.Tem, iv m.Pro, ye r, itsA (apV m k l (cuV m k l)), .own 2000001] 158), (2000001, .row intE (C) 3 1)]⟩) mo (by kernel_rfl) (za7 (yd)) (fun j hj => ?_) (fun j c hc β hβ => ?_) ?_
 ·rcases j with _ | _ | _ | _ | j
  ·exact zg
  ·exact zg
  ·exact zg
  ·exact zg
  ·exact absurd (show j + 4 <= 3 from hj) (by omega)
 ·rcases j with _ | _ | _ | j
  ·obtain rfl : (11, [6, 1, 7, 2, 8, 3, 10, 9, 5, 4]) = c := by injection hc
   refine yh rfl (yF (st0 := ⟨[(45, .ifb (β 0) (.ptr 2000000 0 0 0)), (46, .ptr 2000000 0 0 0), (47, .ptr 2000000 0 0 0), (48, .ptr 2000000 0 0 (0 + 0)), (49, mnA m), (50, iv k), (51, .ptr 2000000 0 0 0), (52, .ptr 2000000 0 0 0), (53, .ptr 2000000 0 0 (0 + 5)), (54, itsA l), (55, ye (cuV m k l)), (44, .ifb (β 12) (.tup [itsA (apV m k l (cuV m k l)), iv (apE m k l (cuV m k l))])), (57, .ifb (β 13) (itsA (apV m k l (cuV m k l)))), (58, .ifb (β 14) (iv (apE m k l (cuV m k l)))), (59, .ifb (β 15) (.ptr 2000000 0 0 0)), (60, .ifb (β 16) (.ptr 2000000 0 0 (0 + 5))), (0, .ptr 2000000 0 0 0), (3, iv k), (4, ye (cuV m k l))], [(1000001, .hold vs [.ptr 2000000 0 0 0]), (2000000, .box [iv m.Max, iv m.Mod, iv m.Tem, iv m.Pro, ye r, itsA l, .own 2000001] 158), (2000001, .row intE (C) 3 1)]⟩) (yA) ?_);refine yy.imp (yp (zcs rfl rfl rfl (LeL.refl _) (zhL m k l (cuV m k l) (by omega) (by omega) (by omega) (by omega))) rfl rfl) (yA)
  ·obtain rfl : (17, [15, 12, 10, 9, 8, 7, 6, 5, 4, 3, 2, 1, 0, 11, 13, 16]) = c := by injection hc
   refine yh rfl (yF (st0 := ⟨[(45, .ptr 2000000 0 0 0), (46, .ptr 2000000 0 0 0), (47, .ptr 2000000 0 0 0), (48, .ptr 2000000 0 0 (0 + 0)), (49, mnA m), (50, iv k), (51, .ptr 2000000 0 0 0), (52, .ptr 2000000 0 0 0), (53, .ptr 2000000 0 0 (0 + 5)), (54, itsA l), (55, ye (cuV m k l)), (44, .tup [itsA (apV m k l (cuV m k l)), iv (apE m k l (cuV m k l))]), (57, itsA (apV m k l (cuV m k l))), (58, .ifb (β 14) (iv (apE m k l (cuV m k l)))), (59, .ptr 2000000 0 0 0), (60, .ptr 2000000 0 0 (0 + 5)), (0, .ptr 2000000 0 0 0), (3, iv k), (4, ye (cuV m k l)), (56, .tup [itsA (apV m k l (cuV m k l)), iv (apE m k l (cuV m k l))])], [(1000001, .hold vs [.ptr 2000000 0 0 0]), (2000000, .box [iv m.Max, iv m.Mod, iv m.Tem, iv m.Pro, ye r, itsA l, .own 2000001] 158), (2000001, .row intE (C) 3 1)]⟩) (yA) ?_);refine yy.imp (zag rfl rfl rfl rfl TyK.h (by simp)) (yA)
  ·obtain rfl : (18, [16, 15, 13, 12, 11, 10, 9, 8, 7, 6, 5, 4, 3, 2, 1, 0, 17, 14]) = c := by injection hc
   refine yh rfl (yF (st0 := ⟨[(45, .ptr 2000000 0 0 0), (46, .ptr 2000000 0 0 0), (47, .ptr 2000000 0 0 0), (48, .ptr 2000000 0 0 (0 + 0)), (49, mnA m), (50, iv k), (51, .ptr 2000000 0 0 0), (52, .ptr 2000000 0 0 0), (53, .ptr 2000000 0 0 (0 + 5)), (54, itsA l), (55, ye (cuV m k l)), (44, .tup [itsA (apV m k l (cuV m k l)), iv (apE m k l (cuV m k l))]), (57, itsA (apV m k l (cuV m k l))), (58, iv (apE m k l (cuV m k l))), (59, .ptr 2000000 0 0 0), (60, .ptr 2000000 0 0 (0 + 5)), (0, .ptr 2000000 0 0 0), (3, iv k), (4, ye (cuV m k l)), (56, .tup [itsA (apV m k l (cuV m k l)), iv (apE m k l (cuV m k l))])], [(1000001, .hold vs [.ptr 2000000 0 0 0]), (2000000, .box [iv m.Max, iv m.Mod, iv m.Tem, iv m.Pro, ye r, itsA (apV m k l (cuV m k l)), .own 2000001] 158), (2000001, .row intE (C) 3 1)]⟩) (yA) ?_);refine yy.imp (yp (Pur.stepA y9) rfl rfl) (yA)
  ·exact absurd hc (by simp)
 refine gd ?_ ?_<;>intro hc3
 ·exact absurd hap hc3
 apply yr;apply yg;iterate 2 refine ya ?_
 refine ya ?_ (hs := by exact yl rfl);iterate 3 refine ya ?_
 refine Ex.mo ?_;refine ya ?_ (hs := by exact yl rfl);refine ya ?_;refine Ex.mo ?_;apply yK;refine yx ?_;refine X.ret ?_;refine zfP (Imp.mv 2000001 2000012 rfl rfl) ?_;refine zit.mk [(2, .fn 100 [])] [] (.inr rfl) (.one (.tmp rfl (LeV.eq ?_)));all_goals (rfl)
end Go.Rse
