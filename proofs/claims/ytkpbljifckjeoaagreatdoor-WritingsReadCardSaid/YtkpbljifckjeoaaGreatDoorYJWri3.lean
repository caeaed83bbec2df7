/-
  Walks.
-/
import Derived.Test.YtkpbljifckjeoaaGreatDoorYJWri0
import Derived.Test.YtkpbljifckjeoaaGreatDoorYJSortF
set_option linter.unusedSimpArgs false
set_option linter.unusedVariables false
namespace Go.Rse
open Go Go.Proofs Go.Sort Go.RowKit
theorem chkB {P : Program} {w : World} {kt : TypeId} {b : Bool} (hd : P.underlying kt = some .bool) (e : Bool) (n : Nat) : (Instr.checkKey e (n + 1) kt (.bool b)).run P w = .ok () w := by
 unfold Instr.checkKey;simp only [Sem.run_bind, run_underlying hd, Result.andThen];rfl
theorem chk3 {P : Program} {K : TypeId} (h : ∃ f1 f2 f3 : Field, P.underlying K = some (.struct #[f1, f2, f3]) /\ (f1.name ≠ "_" /\ f2.name ≠ "_" /\ f3.name ≠ "_") /\ (P.plainKey f1.type = true /\ P.plainKey f2.type = true /\ P.plainKey f3.type = true) /\ (f1.offset = 0 /\ f2.offset = 1 /\ f3.offset = 2) /\ P.underlying f1.type = some (.int .i64) /\ P.underlying f2.type = some .bool /\ P.underlying f3.type = some .bool) (em : Bool) (w : World) (a : Int) (b c : Bool) :
 (Instr.checkKey em 10000 K (.agg #[.int .i64 a, .bool b, .bool c])).run P w = .ok () w := by
 obtain ⟨f1, f2, f3, hK, ⟨h1, h2, h3⟩, ⟨p1, p2, p3⟩, ⟨o1, o2, o3⟩, u1, u2, u3⟩ := h;show (Instr.checkKey em (9998 + 1 + 1) K _).run P w = _;have k1 : (Instr.checkKey em (9998 + 1) f1.type (.int .i64 a)).run P w = .ok () w := MapKept.run_checkKey u1 (show MapKept.IsKey (.int .i64) (.int .i64 a) from rfl) em 9998;have k2 : (Instr.checkKey em (9998 + 1) f2.type (.bool b)).run P w = .ok () w := chkB u2 em 9998;have k3 : (Instr.checkKey em (9998 + 1) f3.type (.bool c)).run P w = .ok () w := chkB u3 em 9998;have q1 : (part f1.type #[.int .i64 a, .bool b, .bool c] f1.offset).run P w = .ok (.int .i64 a) w := run_part_plain w p1 (by rw [o1]; rfl);have q2 : (part f2.type #[.int .i64 a, .bool b, .bool c] f2.offset).run P w = .ok (.bool b) w := run_part_plain w p2 (by rw [o2]; rfl);have q3 : (part f3.type #[.int .i64 a, .bool b, .bool c] f3.offset).run P w = .ok (.bool c) w := run_part_plain w p3 (by rw [o3]; rfl);rw [Instr.checkKey];simp only [Sem.run_bind, run_underlying hK, Result.andThen_ok];rw [← Array.forIn_toList];simp only [List.forIn_cons, List.forIn_nil, Sem.run_bind, h1, h2, h3, ne_eq, not_false_eq_true, if_true, Result.andThen_ok, q1, q2, q3, k1, k2, k3, Sem.run_pure]
def zrw (f : Fo) : Value := .agg #[.int .i64 f.v, .bool f.c, .bool f.d]
theorem zhi (I : Im) (ρ : Nat -> Value) (x : Fo) : RVL I ρ (foE x) [.int .i64 x.v, .bool x.c, .bool x.d] := ⟨rfl, fun j c v hc hv => by
 rcases j with _ | _ | _ | j
 ·simp [foE] at hc hv; subst hc; subst hv; exact .int _ _
 ·simp [foE] at hc hv; subst hc; subst hv; exact .bool _
 ·simp [foE] at hc hv; subst hc; subst hv; exact .bool _
 ·simp [foE] at hc⟩
theorem zkT : KeyL Tryz.prog 133 (fun f : Fo => foA f) zrw where
 val := fun I ρ x v h => by
  obtain ⟨vs, rfl, hl, hv⟩ := za6 h
  match vs, hl with
  | [a, b, c], _ =>
   have h1 := za (hv 0 _ a rfl rfl);have h2 := zg (hv 1 _ b rfl rfl);have h3 := zg (hv 2 _ c rfl rfl);subst h1; subst h2; subst h3; rfl
 of := fun I ρ x => .agg _ [.int .i64 x.v, .bool x.c, .bool x.d] rfl (zhi I ρ x).2
 chk := fun em w x => chk3 ⟨_, _, _, Tryz.underlying133, by decide, ⟨by kernel_rfl, by kernel_rfl, by kernel_rfl⟩, by decide, by kernel_rfl, by kernel_rfl, by kernel_rfl⟩ em w x.v x.c x.d
 wide := by kernel_rfl
 eq := fun w x y => zbu (P := Tryz.prog) (t := 133) (d := 2) (w := w) (I := fun _ _ => none) (ρ := noNames) (xs := foE x) (ys := foE y) (vs := [.int .i64 x.v, .bool x.c, .bool x.d]) (us := [.int .i64 y.v, .bool y.c, .bool y.d]) (by kernel_rfl) (by decide)
  (zhi _ _ x) (zhi _ _ y) (by kernel_rfl) (by kernel_rfl) (by kernel_rfl) (b := decide (x = y)) (zpS x y)
 stay := fun w x => by simp [Instr.keyThatStays, Instr.sameBits, zrw]
def msF (l : List Fo) : List Fo := l.mergeSort (leOf foC)
theorem zkU (l : List Fo) (hl : l.length <= 4000000000) :
 FnO Tryz.prog 81 [.own 2000000, .fn 82 []] [(2000000, .row foE l 133 3)] [2000000] (.tup []) [(2000000, .row foE (msF l) 133 3)] :=
 zpM zhY (by kernel_rfl) foE 3 (by decide) _ l hl (fun _ => True) foC _ Tryz.isAgg133 Tryz.sizeOf133 (fun _ => rfl)
  (fun t c hc => by simp [foE] at hc; rcases hc with rfl | rfl | rfl <;> rfl) (fun x y _ _ => zeF x y) (fun _ _ => trivial)
  (fun x _ => (zW x x).2.2 rfl)
  (fun x y z _ _ _ h1 h2 => by have a := (zW x y).1.1 h1; have b := (zW y z).1.1 h2; exact (zW x z).1.2 (by omega))
  (fun x y z _ _ _ h1 h2 => by
   have a := zW x y; have b := zW y z; have c := zW x z;refine Int.not_lt.1 fun h => ?_
   have c1 := c.1.1 h;have a1 : ¬ foN x < foN y := fun h' => by have := a.1.2 h'; omega
   have b1 : ¬ foN y < foN z := fun h' => by have := b.1.2 h'; omega
   omega)
  (fun x y _ _ h1 h2 => zlO (by
   have a1 : ¬ foN x < foN y := fun h' => by have := (zW x y).1.2 h'; omega
   have b1 : ¬ foN y < foN x := fun h' => by have := (zW y x).1.2 h'; omega
   omega))
  (fun x y _ _ => by
   have a := zW x y; have b := zW y x;by_cases h : foN x < foN y
   ·exact .inr (Int.not_lt.1 fun h' => by have := b.1.1 h'; omega)
   ·exact .inl (Int.not_lt.1 fun h' => h (a.1.1 h')))
theorem zpX {m : Mn} {b : Bt} {h : Hb} {l : List Fo} (hn : l.Nodup) (hm : ∀ f, f ∈ l ↔ f ∈ fkL b h (allE m b.Dur)) : msF l = frL m b h := by
 refine zmX ?_ fun f => by unfold msF; rw [List.mem_mergeSort, hm]
 have hp : (msF l).Pairwise (fun x y => leOf foC x y = true) := by
  refine List.pairwise_mergeSort (fun a b c h1 h2 => ?_) (fun a b => ?_) l
  ·simp only [leOf, ltOf, Bool.not_eq_true', decide_eq_false_iff_not] at *
   have x1 := zW a b; have x2 := zW b c; have x3 := zW a c; have y1 := zW b a; have y2 := zW c b; have y3 := zW c a;omega
  ·have x1 := zW a b; have x2 := zW b a;simp only [leOf, ltOf, Bool.or_eq_true, Bool.not_eq_true', decide_eq_false_iff_not];omega
 have hnm : (msF l).Nodup := (List.mergeSort_perm _ _).nodup_iff.2 hn;refine List.Pairwise.imp_of_mem (fun {x y} _ _ hxy => ?_) (hp.and hnm);obtain ⟨h1, h2⟩ := hxy;have x1 := zW x y; have x2 := zW y x;have hne : ¬ foN x = foN y := fun e => h2 (zlO e)
 simp only [leOf, ltOf, Bool.not_eq_true', decide_eq_false_iff_not] at h1;unfold foL; omega
theorem zuT {b : Bt} {h : Hb} {L : List Sp} {k : Nat} {s : Sp} (hs : L[k]? = some s) : fkL b h (L.take (k + 1)) = fkL b h (L.take k) ++ fkS b h s := by
 unfold fkL; rw [List.take_add_one, hs]; simp
theorem zsF {b : Bt} {h : Hb} {s : Sp} (hn : ¬ s.Rest = b.Rest \/ usQ s h = false) : fkS b h s = [] := by
 unfold fkS slQ;rw [if_neg]
 rintro h2
 simp only [Bool.and_eq_true, decide_eq_true_eq] at h2;rcases hn with hn | hn
 ·exact hn h2.1
 ·rw [hn] at h2; exact absurd h2.2 (by decide)
theorem zpY {b : Bt} {h : Hb} {s : Sp} (h1 : s.Rest = b.Rest) (h2 : usQ s h = true) : fkS b h s = (if s.Dot then [] else [⟨s.Value, s.Color, false⟩]) ++ (if h.Dots then [⟨s.Value, s.Color, true⟩] else []) := by
 unfold fkS slQ;rw [if_pos (by simp [h1, h2])]
theorem zlY {b : Bt} {h : Hb} : ∀ L : List Sp, (fkL b h L).length <= 2 * L.length
 | [] => by simp [fkL]
 | s :: r => by
  have ih := zlY (b := b) (h := h) r
  have h1 : (fkS b h s).length <= 2 := by
   unfold fkS;split
   ·rw [List.length_append];cases s.Dot <;> cases h.Dots <;> simp
   ·simp
  unfold fkL at ih ⊢;rw [List.flatMap_cons, List.length_append, List.length_cons]; omega
theorem zlZ (m : Mn) (t : Tm) : (allE m t).length <= 72 := by
 unfold allE;split
 ·exact zgo m t 8
 ·simp
theorem zkV {v : Int} {c d : Bool} : (AV.agg [iv v, .bool c, .bool d]) = (fun f : Fo => foA f) ⟨v, c, d⟩ := rfl
theorem zuU {r : Bool} {L : List Fo} {k : Nat} {f : Fo} (h : L[k]? = some f) : (L.take k).map (foS r) ++ [foS r f] = (L.take (k + 1)).map (foS r) := by
 rw [List.take_add_one, h]; simp
attribute [local irreducible] Pur yr yw Ex X Fn Imp LeV LeB FnO It yx FnW FnOW FnP FnD
attribute [local irreducible] wcE btF ckT ckM allE bthE usQ fkL kyK ouK msF frL frV foS
set_option maxHeartbeats 8000000 in
theorem zcr (m : Mn) (b : Bt) (h : Hb) : Fn Tryz.prog 62 [mnA m, btA b, hbA h] (zF (frV m b h)) := by
 have hal := zlZ m b.Dur;have hz0 : [] = kyK (fkL b h ((allE m b.Dur).take 0)) := by unfold kyK fkL; rfl
 have hfl := zlY (b := b) (h := h) (allE m b.Dur);have hky := zpU (fkL b h (allE m b.Dur));have hrl := zlQ m b h;refine Fn.go Tryz.func62 Tryz.ntmps62 (fun g w d => ?_);refine gq ?_;refine yb (zjH m b.Dur) ?_;refine gq ?_;refine Ex.stepA (zfQ (k := 24) (fun f : Fo => foA f) AV.bool) rfl rfl ?_;refine gq ?_
 refine yS (ι := Nat) (fun (k : Nat) => [(4, .ptr 4 0 0 0), (5, .ptr 5 0 0 0), (9, .mp 24), (25, spsA (allE m b.Dur)), (26, iv ((allE m b.Dur).length : Int)), (27, iv (k : Int))]) (fun (k : Nat) => [(4, .box (btE b) 76), (5, .box (hbE h) 35), (24, .mpb (fun f : Fo => foA f) AV.bool (kyK (fkL b h ((allE m b.Dur).take k))))]) (fun (k : Nat) => k <= (allE m b.Dur).length) (fun (k : Nat) => (allE m b.Dur).length - k) 0 (fun k hk => ?_) (h0 := by
  exact yd)
 refine gd ?_ ?_<;>intro hc1
 ·obtain ⟨s, hs⟩ : ∃ s, (allE m b.Dur)[k]? = some s := ⟨_, lgg (by omega)⟩;have hs2 : (allE m b.Dur)[(k : Int).toNat]? = some s := by simpa using hs
  have hks := zuT (b := b) (h := h) hs;apply yp;apply yl;apply X.block;apply yg;iterate 2 refine ya ?_
  refine zB ?_;refine Ex.mo ?_;apply Ex.nil;apply yl;apply yg;iterate 5 refine ya ?_
  refine ExF.at 5 ?_;refine gq ?_;refine ExF.cg (zji s h) ?_;refine ExF.gi ?_;refine gf ?_ ?_<;>intro hc2
  ·have hst : kyK (fkL b h ((allE m b.Dur).take k)) = kyK (fkL b h ((allE m b.Dur).take (k + 1))) := by rw [hks, zsF (by simpa using hc2), List.append_nil]
   refine gq ?_;refine yz (k + 1) (hI := yd)
  have hy := zpY (b := b) (h := h) (s := s) (by simpa using hc2.1) (by simpa using hc2.2);rw [hy] at hks;refine gd ?_ ?_<;>intro hc3
  ·refine gq ?_;refine z8 (zc9 (q := (⟨s.Value, s.Color, false⟩ : Fo)) (venc := AV.bool) true zkT rfl rfl rfl zkV rfl rfl Tryz.underlying128 (fun _ _ => rfl)) ?_;refine gd ?_ ?_<;>intro hc4
   ·have hst : kput (⟨s.Value, s.Color, true⟩ : Fo) true (kput (⟨s.Value, s.Color, false⟩ : Fo) true (kyK (fkL b h ((allE m b.Dur).take k)))) = (kyK (fkL b h ((allE m b.Dur).take (k + 1)))) := by rw [zfj, zfj, hks]; simp [hc3, hc4]
    refine gq ?_;refine z8 (zc9 (q := (⟨s.Value, s.Color, true⟩ : Fo)) (venc := AV.bool) true zkT rfl rfl rfl zkV rfl rfl Tryz.underlying128 (fun _ _ => rfl)) ?_;refine gq ?_;refine yz (k + 1) (hI := yd)
   ·have hst : kput (⟨s.Value, s.Color, false⟩ : Fo) true (kyK (fkL b h ((allE m b.Dur).take k))) = (kyK (fkL b h ((allE m b.Dur).take (k + 1)))) := by rw [zfj, hks]; simp [hc3, hc4]
    refine gq ?_;refine yz (k + 1) (hI := yd)
  ·refine gd ?_ ?_<;>intro hc5
   ·have hst : kput (⟨s.Value, s.Color, true⟩ : Fo) true (kyK (fkL b h ((allE m b.Dur).take k))) = (kyK (fkL b h ((allE m b.Dur).take (k + 1)))) := by rw [zfj, hks]; simp [hc3, hc5]
    refine gq ?_;refine z8 (zc9 (q := (⟨s.Value, s.Color, true⟩ : Fo)) (venc := AV.bool) true zkT rfl rfl rfl zkV rfl rfl Tryz.underlying128 (fun _ _ => rfl)) ?_;refine gq ?_;refine yz (k + 1) (hI := yd)
   ·have hst : (kyK (fkL b h ((allE m b.Dur).take k))) = (kyK (fkL b h ((allE m b.Dur).take (k + 1)))) := by rw [hks]; simp [hc3, hc5]
    refine gq ?_;refine yz (k + 1) (hI := yd)
 ·obtain rfl : k = (allE m b.Dur).length := by omega
  have hkf : kyK (fkL b h ((allE m b.Dur).take (allE m b.Dur).length)) = kyK (fkL b h (allE m b.Dur)) := by rw [List.take_length]
  have hzo := zuM (kyK (fkL b h (allE m b.Dur)));apply X.exit;apply yl;refine X.imp (st' := ⟨[(4, .ptr 4 0 0 0), (9, .mp 24)], [(4, .box (btE b) 76), (24, .mpb (fun f : Fo => foA f) AV.bool (kyK (fkL b h (allE m b.Dur))))]⟩) yd ?_;apply ym;refine yu ?_;iterate 2 apply yl
  refine X.imp (yL foE 133 3 12 30 rfl rfl) ?_;apply ym;refine ya ?_;refine ztp (K := 133) (E := 4) 1000002 (fun kb bm => ?_) (ht := Tryz.underlying128);refine gq ?_
  refine yS (ι := Array Nat) (fun (s : Array Nat) => [(4, .ptr 4 0 0 0), (9, .mp 24), (12, .own 30), (61, .val (.pointer (some ⟨kb, 0, none⟩)))]) (fun (s : Array Nat) => [(1000002, .hold [.map (some bm)] [.mp 24]), (61, .obj kb (.mapIter (some bm) (kyK (fkL b h (allE m b.Dur))).length s (kyK (fkL b h (allE m b.Dur))).length)), (4, .box (btE b) 76), (24, .mpb (fun f : Fo => foA f) AV.bool (kyK (fkL b h (allE m b.Dur)))), (30, .row foE (ouK (kyK (fkL b h (allE m b.Dur))) s) 133 3)]) (fun (s : Array Nat) => RnJ (kyK (fkL b h (allE m b.Dur))).length s) (fun (s : Array Nat) => (kyK (fkL b h (allE m b.Dur))).length - s.size) #[] (fun s hk => ?_) (hJ := by
   exact zuL _) (h0 := by
   exact yd)
  have hJ := hk;apply yg;refine Ex.nxt (k := 24) (kb := 61) (kh := 1000002) (fun mo i hmo hmi => ?_);refine gd ?_ ?_<;>intro hc6
  ·subst hc6;have hZ1 := hmi rfl;obtain ⟨hi1, hi2⟩ := hZ1;obtain ⟨p, hp⟩ : ∃ p, (kyK (fkL b h (allE m b.Dur)))[i]? = some p := ⟨_, lgg hi1⟩;have hou := zuN (s := s) hp;have hol := zlS (kyK (fkL b h (allE m b.Dur))) s;have hjl := hJ.le;apply yp;apply X.block;apply yg;refine ya (x := .tup [foA p.1, .bool p.2]) (hs := zql (kb := 61) (kh := 1000002) p hp rfl rfl rfl rfl (fun _ _ => rfl) (fun _ _ => rfl)) ?_;refine gq ?_;refine yJ foE [p.1] ?_;refine gq ?_
   refine yz (s.push i) (hJ := by
    exact hJ.s hi1 hi2) (hm := by have h9 := (hJ.s hi1 hi2).le; rw [Array.size_push] at h9; simp only [Array.size_push]; omega) (hI := yd)
  ·subst hc6;have hZ2 := zpV hJ (hmo rfl);obtain ⟨hf1, hf2⟩ := hZ2;have hfin := zpX hf1 hf2;refine gq ?_;refine zaF [(2000000, 30)] (zkU (ouK (kyK (fkL b h (allE m b.Dur))) s) (by rw [zlS]; have := hJ.le; omega)) ?_;apply Ex.nil;apply yl;refine X.imp (st' := ⟨[(4, .ptr 4 0 0 0), (12, .own 30)], [(4, .box (btE b) 76), (30, .row foE (frL m b h) 133 3)]⟩) yd ?_;apply ym;refine yu ?_;(iterate 2 apply yl);refine X.imp (yL sgsE 27 1 14 31 rfl rfl) ?_;refine gq ?_
   refine yS (ι := Nat) (fun (q : Nat) => [(4, .ptr 4 0 0 0), (14, .own 31), (72, .own 30), (73, iv ((frL m b h).length : Int)), (74, iv (q : Int))]) (fun (q : Nat) => [(4, .box (btE b) 76), (30, .row foE (frL m b h) 133 3), (31, .row sgsE (((frL m b h).take q).map (foS b.Rest)) 27 1)]) (fun (q : Nat) => q <= (frL m b h).length) (fun (q : Nat) => (frL m b h).length - q) 0 (fun q hk => ?_) (h0 := by
    exact yd)
   refine gd ?_ ?_<;>intro hc7
   ·obtain ⟨f, hf⟩ : ∃ f, (frL m b h)[q]? = some f := ⟨_, lgg (by omega)⟩;have hfq : (frL m b h)[(q : Int).toNat]? = some f := by simpa using hf
    have hfs := zuU (r := b.Rest) hf;have hlt : (((frL m b h).take q).map (foS b.Rest)).length <= 32 := by rw [List.length_map, List.length_take]; omega
    apply yp;apply yl;apply X.block;apply yg;refine ya ?_;refine zao (zcd rfl rfl hfq rfl rfl zrN) rfl ?_;refine gq ?_;refine yb (zeG f b.Rest) ?_;refine yJ sgsE [foS b.Rest f] ?_;refine gq ?_;refine yz (q + 1) (hI := yd)
   ·obtain rfl : q = (frL m b h).length := by omega
    have hV : ((frL m b h).take (frL m b h).length).map (foS b.Rest) = frV m b h := by rw [List.take_length]; unfold frV; rfl
    apply X.exit;apply yg;refine zm ?_;refine X.ret ?_;refine RetQ.imp (Imp.freeze (k := 31) rfl) ?_;refine gq ?_;all_goals (exact congrArg (fun z => zF z) hV)
end Go.Rse
namespace Go.Rse
open Go Go.Proofs
section
attribute [local irreducible] Pur yr yw Ex X Fn Imp LeV LeB FnO It yx
attribute [local irreducible] gI
end
section
structure Sgm where
 From : Int
 To : Int
 Left : Int
 Right : Int
 Free : Bool
 Count : Tm
 deriving DecidableEq
instance : Inhabited Sgm := ⟨⟨0, 0, 0, 0, false, ⟨0, 0⟩⟩⟩
def smE : Sgm -> List AV := fun x => [.int .i64 x.From, .int .i64 x.To, .int .i64 x.Left, .int .i64 x.Right, .bool x.Free, .int .i64 x.Count.N, .int .i64 x.Count.D]
abbrev smA (x : Sgm) : AV := .agg (smE x)
abbrev smsA (l : List Sgm) : AV := .sl smE l
abbrev itT (x : Ite) : List Tm := [x.Dur, x.Before, x.After]
abbrev itKd (x : Ite) : Prop := (x.Rest = true /\ x.Color = true) \/ ((x.Rest = true \/ x.Color = true) /\ x.Fixed = false)
abbrev itRg (x : Ite) : Prop := x.Value < 1 \/ 8 < x.Value \/ x.Cut < 0 \/ 8 < x.Cut
def itF (x : Ite) : Int := if itRg x then 2 else if yP (itT x) = 0 then (if itKd x then 8 else 0) else yP (itT x)
def ckIE : List Ite -> Int
 | [] => 0
 | x :: r => if itF x = 0 then ckIE r else itF x
def ckIX : List Ite -> Int -> Int
 | [], _ => 0
 | x :: r, k => if itF x = 0 then ckIX r (k + 1) else k
theorem zdZ {l : List Ite} {k : Nat} {x : Ite} (h : l[k]? = some x) : ckIE (l.drop k) = if itF x = 0 then ckIE (l.drop (k + 1)) else itF x := by
 have h1 := List.getElem?_eq_some_iff.1 h;rw [List.drop_eq_getElem_cons h1.1, h1.2]; rfl
theorem zd0 {l : List Ite} {k : Nat} {x : Ite} (n : Int) (h : l[k]? = some x) : ckIX (l.drop k) n = if itF x = 0 then ckIX (l.drop (k + 1)) (n + 1) else n := by
 have h1 := List.getElem?_eq_some_iff.1 h;rw [List.drop_eq_getElem_cons h1.1, h1.2]; rfl
theorem zj4 : ∀ {l : List Ite}, ckIE l = 0 -> ∀ x ∈ l, itF x = 0
 | [], _, x, hx => by simp at hx
 | s :: r, h, x, hx => by
  simp only [ckIE] at h;by_cases hs : itF s = 0
  ·rw [if_pos hs] at h;rcases List.mem_cons.1 hx with rfl | hx
   ·exact hs
   ·exact zj4 h x hx
  ·rw [if_neg hs] at h; exact absurd h hs
theorem zsG {x : Ite} (h : itF x = 0) : (1 <= x.Value /\ x.Value <= 8 /\ 0 <= x.Cut /\ x.Cut <= 8) /\ ckT x.Dur = 0 /\ ckT x.Before = 0 /\ ckT x.After = 0 /\ ¬ itKd x := by
 unfold itF at h;split at h
 ·cases h
 ·rename_i h1;split at h
  ·rename_i h2;split at h
   ·cases h
   ·rename_i h3;have h4 := zii h2;exact ⟨by unfold itRg at h1; omega, h4 _ (by simp), h4 _ (by simp), h4 _ (by simp), h3⟩
  ·rename_i h2; exact absurd h h2
def unE (m : Mn) (k : Int) : Int := if ckM m = 0 then (if 1 <= k /\ k <= 4 /\ m.p k = 3 then 0 else 2) else ckM m
def unT (m : Mn) (k : Int) : Tm := if unE m k = 0 then yq m (k + 1) else tmZ
theorem zl0 {m : Mn} {k : Int} (h : unE m k = 0) : ckM m = 0 /\ 1 <= k /\ k <= 4 /\ m.p k = 3 := by
 unfold unE at h;split at h
 ·split at h
  ·exact ⟨by assumption, by assumption⟩
  ·cases h
 ·exact absurd h (by assumption)
structure Bd where
 item : Int
 next : Int
 fin : Bool
 deriving DecidableEq
instance : Inhabited Bd := ⟨⟨0, 0, false⟩⟩
def bdE : Bd -> List AV := fun x => [.int .i64 x.item, .int .i64 x.next, .bool x.fin]
abbrev bdA (x : Bd) : AV := .agg (bdE x)
abbrev isH (k : Int) (x : Ite) : Prop := x.Color = false /\ x.Value <= k
abbrev isC (k : Int) (x : Ite) : Prop := 0 < x.Cut /\ x.Cut <= k
def bdK (k : Int) (l : List Ite) : Nat -> List Bd
 | 0 => [⟨-1, 0, false⟩]
 | n + 1 => match l[n]? with
  | some x => (bdK k l n ++ if isH k x then [⟨n, n + 1, false⟩] else []) ++ if isC k x then [⟨-1, n + 1, false⟩] else []
  | none => bdK k l n
def bds (k : Int) (l : List Ite) : List Bd := bdK k l l.length ++ [⟨-1, l.length, true⟩]
theorem zcF {k : Int} {l : List Ite} {n : Nat} {x : Ite} (h : l[n]? = some x) : bdK k l (n + 1) = (bdK k l n ++ if isH k x then [⟨n, n + 1, false⟩] else []) ++ if isC k x then [⟨-1, n + 1, false⟩] else [] := by
 conv => lhs; unfold bdK
 rw [h]
theorem zd1 (k : Int) (l : List Ite) : ∀ n, 1 <= (bdK k l n).length /\ (bdK k l n).length <= 2 * n + 1
 | 0 => by simp [bdK]
 | n + 1 => by
  have h := zd1 k l n;cases hx : l[n]? with
  | none => unfold bdK; rw [hx]; simp only; omega
  | some x =>
   rw [zcF hx];simp only [List.length_append];have h1 : (if isH k x then [(⟨n, n + 1, false⟩ : Bd)] else []).length <= 1 := by split <;> simp
   have h2 : (if isC k x then [(⟨-1, n + 1, false⟩ : Bd)] else []).length <= 1 := by split <;> simp
   omega
def hdI (l : List Ite) (b : Bd) : Int := if b.item < 0 \/ (l.getD b.item.toNat default).Fixed = true then -1 else b.item
abbrev bdF (b : Bd) : Int := if 0 <= b.item then b.item else b.next
def sg0 (l : List Ite) (b c : Bd) : Sgm := ⟨b.next, bdF c, hdI l b, hdI l c, c.fin, ⟨0, 0⟩⟩
def sgs0 (l : List Ite) : List Bd -> List Sgm
 | b :: c :: r => sg0 l b c :: sgs0 l (c :: r)
 | _ => []
theorem zfk (l : List Ite) : ∀ B : List Bd, (sgs0 l B).length = B.length - 1
 | [] => rfl
 | [_] => rfl
 | b :: c :: r => by
  have := zfk l (c :: r);simp only [sgs0, List.length_cons] at this ⊢;omega
theorem zj5 (l : List Ite) : ∀ (B : List Bd) (i : Nat) (b c : Bd), B[i]? = some b -> B[i + 1]? = some c -> (sgs0 l B)[i]? = some (sg0 l b c)
 | [], i, b, c, h, _ => by simp at h
 | [_], i, b, c, _, h => by simp at h
 | x :: y :: r, 0, b, c, h, h2 => by
  simp at h h2; subst h h2; rfl
 | x :: y :: r, i + 1, b, c, h, h2 => by
  have := zj5 l (y :: r) i b c (by simpa using h) (by simpa using h2);simpa [sgs0] using this
theorem zin (l : List Ite) : ∀ (B : List Bd) (b c : Bd), sgs0 l ((B ++ [b]) ++ [c]) = sgs0 l (B ++ [b]) ++ [sg0 l b c]
 | [], b, c => rfl
 | [x], b, c => rfl
 | x :: y :: r, b, c => by
  have := zin l (y :: r) b c;simp only [List.cons_append, sgs0] at this ⊢;rw [this]
def itR (l : List Ite) (s : Sgm) : List Ite := (l.drop s.From.toNat).take (s.To.toNat - s.From.toNat)
def drL (l : List Ite) : List Tm := l.map (·.Dur)
def lsE (a b : Tm) : Int := if subE a b = 2 then 14 else subE a b
def cn1 (t : Tm) (h : Int) (d : Tm) : Tm × Int := if h < 0 then (t, 0) else if lsE t d = 0 then (subV t d, 0) else (tmZ, lsE t d)
def cnA (l : List Ite) (s : Sgm) : Tm × Int := sumF ⟨0, 1⟩ (drL (itR l s))
def cnB (l : List Ite) (s : Sgm) : Tm × Int := if (cnA l s).2 = 0 then cn1 (cnA l s).1 s.Left (l.getD s.Left.toNat default).After else (tmZ, (cnA l s).2)
def cnC (l : List Ite) (s : Sgm) : Tm × Int := if (cnB l s).2 = 0 then cn1 (cnB l s).1 s.Right (l.getD s.Right.toNat default).Before else (tmZ, (cnB l s).2)
def divE (a b : Tm) : Int := if yP [a, b] = 0 then (if b.N = 0 then 5 else tmsE a.N a.D b.D b.N) else yP [a, b]
def divV (a b : Tm) : Tm := if yP [a, b] = 0 then (if b.N = 0 then tmZ else tmsV a.N a.D b.D b.N) else tmZ
def cnE (u : Tm) (l : List Ite) (s : Sgm) : Int := if (cnC l s).2 = 0 then divE (cnC l s).1 u else (cnC l s).2
def cnV (u : Tm) (l : List Ite) (s : Sgm) : Tm := if (cnC l s).2 = 0 then divV (cnC l s).1 u else tmZ
def segW (u : Tm) (l : List Ite) (s : Sgm) : Sgm := { s with Count := cnV u l s }
def segR (u : Tm) (l : List Ite) (s : Sgm) : Int := if cnE u l s = 0 then (if s.Free = false /\ ¬ (cnV u l s).D = 1 then 14 else 0) else cnE u l s
def segX (u : Tm) (l : List Ite) : List Sgm -> Int
 | [] => 0
 | s :: r => if segR u l s = 0 then segX u l r else segR u l s
theorem zhj {u : Tm} {l : List Ite} {L : List Sgm} {k : Nat} {s : Sgm} (h : L[k]? = some s) : segX u l (L.drop k) = if segR u l s = 0 then segX u l (L.drop (k + 1)) else segR u l s := by
 have h1 := List.getElem?_eq_some_iff.1 h;rw [List.drop_eq_getElem_cons h1.1, h1.2]; rfl
def segE (m : Mn) (k : Int) (l : List Ite) : Int := if unE m k = 0 then (if ckIE l = 0 then segX (unT m k) l (sgs0 l (bds k l)) else ckIE l) else unE m k
def segV (m : Mn) (k : Int) (l : List Ite) : List Sgm := if segE m k l = 0 then (sgs0 l (bds k l)).map (segW (unT m k) l) else []
def smF : Tm -> List Tm -> List Tm
 | _, [] => []
 | t, d :: r => addV t d :: smF (addV t d) r
def fsL (l : List Ite) : List Tm := smF ⟨0, 1⟩ (drL l)
def lasL (l : List Ite) : List Tm := match (fsL l).getLast? with
 | none => []
 | some a => a :: (((fsL l).dropLast.filter fun t => decide (subE a t = 0)).map fun t => subV a t)
def rcQ (u : Tm) (sums : List Tm) (lost : Tm) : Bool := decide (addE lost u = 0) && decide (addV lost u ∈ sums)
def lgQ (u : Tm) (x : Ite) : Bool := decide (0 < cmpV x.Dur u)
abbrev itg (l : List Ite) (i : Int) : Ite := l.getD i.toNat default
def poQ (u : Tm) (k : Int) (l : List Ite) (L : List (Int × Bool)) (s : Sgm) : Bool :=
 !decide (s.Left < 0) && ((decide ((itg l s.Left).Value < k) || !(mget s.Left L).getD false) && lgQ u (itg l s.Left) && rcQ u (fsL (itR l s)) (itg l s.Left).After)
def blQ (k : Int) (l : List Ite) (h : Int) : Bool :=
 decide ((itg l h).Value = k) && decide (h + 1 < l.length) && !decide (0 < (itg l h).Cut) && (!(itg l (h + 1)).Color && decide ((itg l (h + 1)).Value = k))
def anQ (u : Tm) (k : Int) (l : List Ite) (s : Sgm) : Bool :=
 !decide (s.Right < 0) && (!blQ k l s.Right && (lgQ u (itg l s.Right) && rcQ u (lasL (itR l s)) (itg l s.Right).Before))
def ntQ (u : Tm) (k : Int) (x : Ite) : Bool := !x.Rest && !x.Color && !x.Fixed && decide (x.Value = k + 1) && decide (x.Dur = u)
def atQ (u : Tm) (k : Int) (l : List Ite) (s : Sgm) : Bool :=
 !(decide (s.From = s.To) || s.Free) && (ntQ u k (itg l (s.To - 1)) && (decide (s.Right < 0) || decide ((itg l s.Right).Before.N = 0)))
def alR (p a t : Bool) (s : Sgm) : List Int :=
 (if s.Count.N % 3 = 0 \/ s.Free = true then [0] else []) ++ (if s.Count.N % 3 = 1 /\ s.Count.D = 1 /\ p = true then [1] else []) ++ (if s.Count.N % 3 = 1 /\ s.Free = false /\ a = true then [2] else []) ++
 (if s.Count.N % 3 = 2 /\ s.Free = false /\ p = true /\ a = true then [3] else []) ++ (if s.Count.N % 3 = 2 /\ s.Free = false /\ t = true then [4] else [])
def alQ (u : Tm) (k : Int) (l : List Ite) (L : List (Int × Bool)) (s : Sgm) : List Int := alR (poQ u k l L s) (anQ u k l s) (atQ u k l s) s
def zbZ (u : Tm) (x : Ite) : Ite := { x with Dur := subV x.Dur u, After := addV x.After u }
def zb0 (u : Tm) (x : Ite) : Ite := { x with Dur := subV x.Dur u, Before := addV x.Before u }
def dblI (x : Ite) : Ite := { x with Dur := addV x.Dur x.Dur }
def upI (l : List Ite) (i : Int) (f : Ite -> Ite) : List Ite := l.set i.toNat (f (itg l i))
def chN (u : Tm) (s : Sgm) (c : Int) (l : List Ite) : List Ite :=
 let l1 := if c = 1 \/ c = 3 then upI l s.Left (zbZ u) else l
 let l2 := if c = 2 \/ c = 3 then upI l1 s.Right (zb0 u) else l1
 if c = 4 then upI l2 (s.To - 1) dblI else l2
def chL (s : Sgm) (c : Int) (L : List (Int × Bool)) : List (Int × Bool) := if c = 2 \/ c = 3 then mput s.Right true L else L
theorem zjm (l : List Ite) (i : Int) (f : Ite -> Ite) : (upI l i f).length = l.length := by unfold upI; simp
theorem zpZ (u : Tm) (s : Sgm) (c : Int) (l : List Ite) : (chN u s c l).length = l.length := by
 unfold chN; simp only; split <;> split <;> split <;> simp [zjm]
def stK (u : Tm) (S : List Sgm) (l : List Ite) (M : List Int) : Nat -> List Ite × List (Int × Bool)
 | 0 => (l, [])
 | n + 1 => (chN u (S.getD n default) (M.getD n 0) (stK u S l M n).1, chL (S.getD n default) (M.getD n 0) (stK u S l M n).2)
def alK (u : Tm) (k : Int) (S : List Sgm) (l : List Ite) (M : List Int) (n : Nat) : List Int := alQ u k (stK u S l M n).1 (stK u S l M n).2 (S.getD n default)
def okJ (u : Tm) (k : Int) (S : List Sgm) (l : List Ite) (M : List Int) : Nat -> Bool
 | 0 => true
 | n + 1 => okJ u k S l M n && decide (M.getD n 0 ∈ alK u k S l M n)
theorem zd2 (u : Tm) (S : List Sgm) (l : List Ite) (M : List Int) : ∀ n, (stK u S l M n).1.length = l.length
 | 0 => rfl
 | n + 1 => by show (chN _ _ _ _).length = _; rw [zpZ, zd2 u S l M n]
theorem zod (u : Tm) (S : List Sgm) (l : List Ite) (M : List Int) (n : Nat) : stK u S l M (n + 1) = (chN u (S.getD n default) (M.getD n 0) (stK u S l M n).1, chL (S.getD n default) (M.getD n 0) (stK u S l M n).2) := rfl
def apE (m : Mn) (k : Int) (l : List Ite) (M : List Int) : Int := if segE m k l = 0 then (if ¬ (segV m k l).length = M.length \/ okJ (unT m k) k (segV m k l) l M M.length = false then 2 else 0) else segE m k l
def apV (m : Mn) (k : Int) (l : List Ite) (M : List Int) : List Ite := if apE m k l M = 0 then (stK (unT m k) (segV m k l) l M M.length).1 else []
end
section
end
section
attribute [local irreducible] Pur yr yw Ex X Fn Imp LeV LeB FnO It yx
attribute [local irreducible] gI
theorem zkW (a b : Tm) : Fn Tryz.prog 228 [tmA a, tmA b] (.tup [tmA (divV a b), iv (divE a b)]) := by
 refine Fn.go Tryz.func228 Tryz.ntmps228 (fun g w d => ?_);refine gq ?_;refine yJ tmE [⟨_, _⟩, ⟨_, _⟩] ?_;refine Ex.imp (Imp.freeze (k := 9) rfl) ?_;refine yb (zar [a, b] (by simp)) ?_;refine gd ?_ ?_<;>intro hc1
 ·have hE : divE a b = yP [a, b] := by unfold divE; rw [if_neg hc1]
  have hV : divV a b = tmZ := by unfold divV; rw [if_neg hc1]
  refine gq ?_;refine yH ty25 ?_ ?_;all_goals (first | (rw [hE]; done) | (rw [hV]; rfl) | (rw [hE]; rfl) | (rw [hV]; done))
 have h12 := zeE hc1;have b1 := zbp h12.1;have b2 := zbp h12.2;refine gd ?_ ?_<;>intro hc2
 ·have hE : divE a b = 5 := by unfold divE; rw [if_pos hc1, if_pos hc2]
  have hV : divV a b = tmZ := by unfold divV; rw [if_pos hc1, if_pos hc2]
  refine gq ?_;refine yH ty25 ?_ ?_;all_goals (first | (rw [hE]; done) | (rw [hV]; rfl) | (rw [hE]; rfl) | (rw [hV]; done))
 have hE : divE a b = tmsE a.N a.D b.D b.N := by unfold divE; rw [if_pos hc1, if_neg hc2]
 have hV : divV a b = tmsV a.N a.D b.D b.N := by unfold divV; rw [if_pos hc1, if_neg hc2]
 refine gq ?_;refine yb (zfb a.N a.D b.D b.N b1.1 b1.2.1 b1.2.2.2.2.1 (by omega) (by omega) (by omega) (by omega) (by omega)) ?_;refine gq ?_;refine yH ty25 ?_ ?_;all_goals (first | (rw [hE]; done) | (rw [hV]; rfl) | (rw [hE]; rfl) | (rw [hV]; done))
end
end Go.Rse
