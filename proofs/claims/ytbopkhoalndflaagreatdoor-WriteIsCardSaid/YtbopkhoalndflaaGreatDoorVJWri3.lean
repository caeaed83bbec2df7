/-
  Walks.
-/
import Derived.Test.YtbopkhoalndflaaGreatDoorVJWri2
import Derived.Test.YtbopkhoalndflaaGreatDoorVJSortF
set_option linter.all false
namespace Go.Rse
open Go Go.Proofs Go.Sort Go.RowKit Go.Proofs.Tryz
def chkB {P : Program} {w : World} {kt : TypeId} {b : Bool} (Z : P.underlying kt = some .bool) (e : Bool) (n : Nat) : (Instr.checkKey e (n + 1) kt (.bool b)).run P w = .ok () w := by
 simp_all [Instr.checkKey, run_underlying]
def chk3 {P : Program} {K : TypeId} (h : ∃ f1 f2 f3 : Field, P.underlying K = some (.struct #[f1, f2, f3]) /\ (f1.name ≠ "_" /\ f2.name ≠ "_" /\ f3.name ≠ "_") /\ (P.plainKey f1.type = true /\ P.plainKey f2.type = true /\ P.plainKey f3.type = true) /\ (f1.offset = 0 /\ f2.offset = 1 /\ f3.offset = 2) /\ P.underlying f1.type = some (.int .i64) /\ P.underlying f2.type = some .bool /\ P.underlying f3.type = some .bool) (em : Bool) (w : World) (a : Int) (b c : Bool) :
 (Instr.checkKey em 10000 K (.agg #[.int .i64 a, .bool b, .bool c])).run P w = .ok () w := by
 obtain ⟨f1, f2, f3, Z, ⟨V, U, T⟩, ⟨p1, p2, p3⟩, ⟨o1, o2, o3⟩, u1, u2, u3⟩ := h;show (Instr.checkKey em (9998 + 1 + 1) K _).run P w = _;have k1 : (Instr.checkKey em (9998 + 1) f1.type (.int .i64 a)).run P w = .ok () w := MapKept.run_checkKey u1 (show MapKept.IsKey (.int .i64) (.int .i64 a) from rfl) em 9998;have k2 : (Instr.checkKey em (9998 + 1) f2.type (.bool b)).run P w = .ok () w := chkB u2 em 9998;have k3 : (Instr.checkKey em (9998 + 1) f3.type (.bool c)).run P w = .ok () w := chkB u3 em 9998;have q1 : (part f1.type #[.int .i64 a, .bool b, .bool c] f1.offset).run P w = .ok (.int .i64 a) w := run_part_plain w p1 (by rw [o1]; rfl);have q2 : (part f2.type #[.int .i64 a, .bool b, .bool c] f2.offset).run P w = .ok (.bool b) w := run_part_plain w p2 (by rw [o2]; rfl);have q3 : (part f3.type #[.int .i64 a, .bool b, .bool c] f3.offset).run P w = .ok (.bool c) w := run_part_plain w p3 (by rw [o3]; rfl);rw [Instr.checkKey];simp_all [run_underlying]
def zqi (f : Fo) : Value := .agg #[.int .i64 f.v, .bool f.c, .bool f.d]
def ziG (I : Im) (ρ : Nat -> Value) (x : Fo) : RVL I ρ (foE x) [.int .i64 x.v, .bool x.c, .bool x.d] := ⟨rfl, fun j c v Z hv => by
 rcases j with _ | _ | _ | j
 ·simp [foE] at Z hv; subst Z; subst hv; exact .int _ _
 ·simp [foE] at Z hv; subst Z; subst hv; exact .bool _
 ·simp [foE] at Z hv; subst Z; subst hv; exact .bool _
 ·simp [foE] at Z⟩
def zmG : KeyL prog 158 (fun f : Fo => foA f) zqi where
 val := fun I ρ x v h => by
  obtain ⟨vs, rfl, hl, hv⟩ := zbE h
  match vs, hl with
  | [a, b, c], _ =>
   have Z := y8 (hv 0 _ a rfl rfl);have V := zo (hv 1 _ b rfl rfl);have U := zo (hv 2 _ c rfl rfl)
   grind [zqi]
 of := fun I ρ x => .agg _ [.int .i64 x.v, .bool x.c, .bool x.d] rfl (ziG I ρ x).2
 chk := fun em w x => chk3 ⟨_, _, _, Tryz.underlying158, by decide, ⟨by kernel_rfl, by kernel_rfl, by kernel_rfl⟩, by decide, by kernel_rfl, by kernel_rfl, by kernel_rfl⟩ em w x.v x.c x.d
 wide := by kernel_rfl
 eq := fun w x y => zcd (P := prog) (t := 158) (d := 2) (w := w) (I := fun _ _ => none) (ρ := noNames) (xs := foE x) (ys := foE y) (vs := [.int .i64 x.v, .bool x.c, .bool x.d]) (us := [.int .i64 y.v, .bool y.c, .bool y.d]) (by kernel_rfl) (by decide)
  (ziG _ _ x) (ziG _ _ y) (by kernel_rfl) (by kernel_rfl) (by kernel_rfl) (b := decide (x = y)) (zr8 x y)
 stay := fun w x => by simp [Instr.keyThatStays, Instr.sameBits, zqi]
def msF (l : List Fo) : List Fo := l.mergeSort (leOf foC)
def zmH (l : List Fo) (hl : l.length <= 4000000000) :
 FnO prog 122 [.own 2000000, .fn 123 []] [(2000000, .row foE l 158 3)] [2000000] (.tup []) [(2000000, .row foE (msF l) 158 3)] :=
 zsc zjm (by kernel_rfl) foE 3 (by decide) _ l hl (fun _ => True) foC _ Tryz.isAgg158 Tryz.sizeOf158 (fun _ => rfl)
  (fun t c T => by grind [foE, znA]) (fun x y _ _ => zfP x y) (fun _ _ => trivial)
  (fun x _ => (zaM x x).2.2 rfl)
  (fun x y z _ _ _ V U => by simp_all [zaM]; omega)
  (fun x y z _ _ _ V U => by
   have a := zaM x y; have b := zaM y z; grind [zaM])
  (fun x y _ _ V U => znu (by
   have a1 : ¬ foN x < foN y := fun Z => by have := (zaM x y).1.2 Z; omega
   have b1 : ¬ foN y < foN x := fun Z => by have := (zaM y x).1.2 Z; omega
   omega))
  (fun x y _ _ => by
   grind [zaM])
def zso {m : Mn} {b : Bt} {h : Hb} {l : List Fo} (Z : l.Nodup) (hm : ∀ f, f ∈ l ↔ f ∈ fkL b h (allE m b.Dur)) : msF l = frL m b h := by
 refine zoI ?_ fun f => by unfold msF; rw [List.mem_mergeSort, hm]
 have V : (msF l).Pairwise (fun x y => leOf foC x y = true) := by
  refine List.pairwise_mergeSort (fun a b c T Q => ?_) (fun a b => ?_) l
  ·simp only [leOf, ltOf, wD, jT] at *
   have x1 := zaM a b; have x2 := zaM b c; have x3 := zaM a c; have y1 := zaM b a; have y2 := zaM c b; have y3 := zaM c a;omega
  ·have x1 := zaM a b; have x2 := zaM b a;simp only [leOf, ltOf, w8, wD, jT];omega
 have hnm : (msF l).Nodup := (List.mergeSort_perm _ _).nodup_iff.2 Z;refine List.Pairwise.imp_of_mem (fun {x y} _ _ U => ?_) (V.and hnm)
 grind [zaM, znu, ltOf, foL]
def zx6 {b : Bt} {h : Hb} {L : List Sp} {k : Nat} {s : Sp} (hs : L[k]? = some s) : fkL b h (L.take (k + 1)) = fkL b h (L.take k) ++ fkS b h s := by
 unfold fkL; rw [jE, hs]; simp
def zvJ {b : Bt} {h : Hb} {s : Sp} (Z : ¬ s.Rest = b.Rest \/ usQ s h = false) : fkS b h s = [] := by
 grind [fkS, slQ]
def zsp {b : Bt} {h : Hb} {s : Sp} (Z : s.Rest = b.Rest) (V : usQ s h = true) : fkS b h s = (if s.Dot then [] else [⟨s.Value, s.Color, false⟩]) ++ (if h.Dots then [⟨s.Value, s.Color, true⟩] else []) := by
 simp_all [fkS, slQ]
def znI {b : Bt} {h : Hb} : ∀ L : List Sp, (fkL b h L).length <= 2 * L.length
 | [] => by simp [fkL]
 | s :: r => by
  have ih := znI (b := b) (h := h) r
  grind [fkS, fkL]
def znJ (m : Mn) (t : Tm) : (allE m t).length <= 72 := by
 grind [allE, zhQ]
def zmI {v : Int} {c d : Bool} : (AV.agg [iv v, .bool c, .bool d]) = (fun f : Fo => foA f) ⟨v, c, d⟩ := rfl
def zx7 {r : Bool} {L : List Fo} {k : Nat} {f : Fo} (h : L[k]? = some f) : (L.take k).map (foS r) ++ [foS r f] = (L.take (k + 1)).map (foS r) := by
 rw [jE, h]; simp
attribute [local irreducible] Pur yu yq Ex X Fn Imp LeV LeB FnO It yD FnW FnOW FnP FnD
attribute [local irreducible] wcE btF ckT ckM allE bthE usQ fkL kyK ouK msF frL frV foS
set_option maxHeartbeats 8000000 in
def zdm (m : Mn) (b : Bt) (h : Hb) : Fn prog 73 [mnA m, btA b, hbA h] (zb7 (frV m b h)) := by
 have x0 := znJ m b.Dur;have w2 : [] = kyK (fkL b h ((allE m b.Dur).take 0)) := by unfold kyK fkL; rfl
 have v9 := znI (b := b) (h := h) (allE m b.Dur);have v8 := zsm (fkL b h (allE m b.Dur));have v5 := znx m b h;refine xV func73 ntmps73 (fun g w d => ?_);refine gc (zlN m b.Dur) ?_;refine kF (zhc (k := 24) (fun f : Fo => foA f) AV.bool) rfl rfl ?_;refine yh ?_;apply yg;apply ye;refine yy ?_;apply xS;refine zq (fun k => [(4, .ptr 4 0 0 0), (5, .ptr 5 0 0 0), (9, .mp 24), (25, spsA (allE m b.Dur)), (26, iv ((allE m b.Dur).length : Int)), (27, iv (k : Int))]) (fun k => [(4, .box (btE b) 100), (5, .box (hbE h) 32), (24, .mpb (fun f : Fo => foA f) AV.bool (kyK (fkL b h ((allE m b.Dur).take k))))]) ((allE m b.Dur).length) (fun k N => ?_);refine gd ?_ ?_<;>intro v4
 ·obtain ⟨s, hs⟩ : ∃ s, (allE m b.Dur)[k]? = some s := ⟨_, lgg (by omega)⟩;have v3 : (allE m b.Dur)[(k : Int).toNat]? = some s := by simpa using hs
  have J := zx6 (b := b) (h := h) hs;apply yl;apply yg;apply xS;apply ye;iterate 2 refine ya ?_
  refine zh ?_;refine xY ?_;apply k9;apply yg;apply ye;iterate 5 refine ya ?_
  refine xX 5 ?_;refine gq ?_;refine kK (zkS s h) ?_;refine xW ?_;refine gf ?_ ?_<;>intro U
  ·have Z : kyK (fkL b h ((allE m b.Dur).take k)) = kyK (fkL b h ((allE m b.Dur).take (k + 1))) := by simp_all [zvJ]
   refine gq ?_;refine yw (k + 1) (hI := yk)
  have hy := zsp (b := b) (h := h) (s := s) (by simpa using U.1) (by simpa using U.2);rw [hy] at J;refine gd ?_ ?_<;>intro v1
  ·refine gq ?_;refine zaO (zdY (q := (⟨s.Value, s.Color, false⟩ : Fo)) (venc := AV.bool) true zmG rfl rfl rfl zmI rfl rfl Tryz.underlying153 (fun _ _ => rfl)) ?_;refine gd ?_ ?_<;>intro v0
   ·have Z : kput (⟨s.Value, s.Color, true⟩ : Fo) true (kput (⟨s.Value, s.Color, false⟩ : Fo) true (kyK (fkL b h ((allE m b.Dur).take k)))) = (kyK (fkL b h ((allE m b.Dur).take (k + 1)))) := by simp_all [ziF]
    refine gq ?_;refine zaO (zdY (q := (⟨s.Value, s.Color, true⟩ : Fo)) (venc := AV.bool) true zmG rfl rfl rfl zmI rfl rfl Tryz.underlying153 (fun _ _ => rfl)) ?_;refine gq ?_;refine yw (k + 1) (hI := yk)
   ·have Z : kput (⟨s.Value, s.Color, false⟩ : Fo) true (kyK (fkL b h ((allE m b.Dur).take k))) = (kyK (fkL b h ((allE m b.Dur).take (k + 1)))) := by simp_all [ziF]
    refine gq ?_;refine yw (k + 1) (hI := yk)
  ·refine gd ?_ ?_<;>intro u3
   ·have Z : kput (⟨s.Value, s.Color, true⟩ : Fo) true (kyK (fkL b h ((allE m b.Dur).take k))) = (kyK (fkL b h ((allE m b.Dur).take (k + 1)))) := by simp_all [ziF]
    refine gq ?_;refine zaO (zdY (q := (⟨s.Value, s.Color, true⟩ : Fo)) (venc := AV.bool) true zmG rfl rfl rfl zmI rfl rfl Tryz.underlying153 (fun _ _ => rfl)) ?_;refine gq ?_;refine yw (k + 1) (hI := yk)
   ·have Z : (kyK (fkL b h ((allE m b.Dur).take k))) = (kyK (fkL b h ((allE m b.Dur).take (k + 1)))) := by simp_all
    refine gq ?_;refine yw (k + 1) (hI := yk)
 ·obtain rfl : k = (allE m b.Dur).length := by omega
  have u2 : kyK (fkL b h ((allE m b.Dur).take (allE m b.Dur).length)) = kyK (fkL b h (allE m b.Dur)) := by simp
  have u1 := zx4 (kyK (fkL b h (allE m b.Dur)));apply k8;apply yg;refine xZ (st' := ⟨[(4, .ptr 4 0 0 0), (9, .mp 24)], [(4, .box (btE b) 100), (24, .mpb (fun f : Fo => foA f) AV.bool (kyK (fkL b h (allE m b.Dur))))]⟩) yk ?_;apply yi;refine yh ?_;iterate 2 apply yg
  refine xZ (yF foE 158 3 12 30 rfl rfl) ?_;apply yi;refine ya ?_;refine zwl (K := 158) (E := 4) 1000002 (fun kb bm => ?_) (ht := Tryz.underlying153);refine gq ?_;refine zdW (ι := Array Nat) (fun (s : Array Nat) => [(4, .ptr 4 0 0 0), (9, .mp 24), (12, .own 30), (61, .val (.pointer (some ⟨kb, 0, none⟩)))]) (fun (s : Array Nat) => [(1000002, .hold [.map (some bm)] [.mp 24]), (61, .obj kb (.mapIter (some bm) (kyK (fkL b h (allE m b.Dur))).length s (kyK (fkL b h (allE m b.Dur))).length)), (4, .box (btE b) 100), (24, .mpb (fun f : Fo => foA f) AV.bool (kyK (fkL b h (allE m b.Dur)))), (30, .row foE (ouK (kyK (fkL b h (allE m b.Dur))) s) 158 3)]) (fun (s : Array Nat) => RnJ (kyK (fkL b h (allE m b.Dur))).length s) (fun (s : Array Nat) => (kyK (fkL b h (allE m b.Dur))).length - s.size) #[] (fun s N => ?_) (hJ := by exact zx3 _) (h0 := by exact yk);have hJ := N;apply ye;refine Ex.nxt (k := 24) (kb := 61) (kh := 1000002) (fun mo i I H => ?_);refine gd ?_ ?_<;>intro T
  ·subst T;have G := H rfl;obtain ⟨V, Q⟩ := G;obtain ⟨p, hp⟩ : ∃ p, (kyK (fkL b h (allE m b.Dur)))[i]? = some p := ⟨_, lgg V⟩;have kZ := zx5 (s := s) hp;have kY := znH (kyK (fkL b h (allE m b.Dur))) s;have kX := hJ.le;apply yl;apply xS;apply ye;refine ya (x := .tup [foA p.1, .bool p.2]) (hs := zsK (kb := 61) (kh := 1000002) p hp rfl rfl rfl rfl (fun _ _ => rfl) (fun _ _ => rfl)) ?_;refine gq ?_;refine yz foE [p.1] ?_;refine gq ?_;refine yw (s.push i) (hJ := by exact hJ.s V Q) (hm := by have h9 := (hJ.s V Q).le; grind) (hI := yk)
  ·subst T;have xT := zsn hJ (I rfl);obtain ⟨x4, x3⟩ := xT;have x1 := zso x4 x3;refine gq ?_;refine zV [(2000000, 30)] (zmH (ouK (kyK (fkL b h (allE m b.Dur))) s) (by rw [znH]; have := hJ.le; omega)) ?_;apply k9;apply yg;refine xZ (st' := ⟨[(4, .ptr 4 0 0 0), (12, .own 30)], [(4, .box (btE b) 100), (30, .row foE (frL m b h) 158 3)]⟩) yk ?_;apply yi;refine yh ?_;(iterate 2 apply yg);refine xZ (yF sgsE 33 1 14 31 rfl rfl) ?_;apply yi;refine yy ?_;apply xS;refine zq (fun q => [(4, .ptr 4 0 0 0), (14, .own 31), (72, .own 30), (73, iv ((frL m b h).length : Int)), (74, iv (q : Int))]) (fun q => [(4, .box (btE b) 100), (30, .row foE (frL m b h) 158 3), (31, .row sgsE (((frL m b h).take q).map (foS b.Rest)) 33 1)]) ((frL m b h).length) (fun q N => ?_);refine gd ?_ ?_<;>intro kW
   ·obtain ⟨f, hf⟩ : ∃ f, (frL m b h)[q]? = some f := ⟨_, lgg (by omega)⟩;have x2 : (frL m b h)[(q : Int).toNat]? = some f := by simpa using hf
    have kV := zx7 (r := b.Rest) hf;have kU : (((frL m b h).take q).map (foS b.Rest)).length <= 32 := by grind
    apply yl;apply yg;apply xS;apply ye;refine ya ?_;refine zY (zeN rfl rfl x2 rfl rfl zuD) rfl ?_;refine gq ?_;refine yM (zfQ f b.Rest) ?_;refine yz sgsE [foS b.Rest f] ?_;refine gq ?_;refine yw (q + 1) (hI := yk)
   ·obtain rfl : q = (frL m b h).length := by omega
    have hV : ((frL m b h).take (frL m b h).length).map (foS b.Rest) = frV m b h := by simp [frV]
    apply k8;apply ye;refine yL ?_;refine xU ?_;refine xQ (xP (k := 31) rfl) ?_;refine gq ?_;all_goals (exact j5 (fun z => zb7 z) hV)
end Go.Rse
namespace Go.Rse
open Go Go.Proofs Go.Proofs.Tryz
section
attribute [local irreducible] Pur yu yq Ex X Fn Imp LeV LeB FnO It yD
def rtsE (n q m c : Int) : Int := if (0 < n / gI n c /\ 1099511627776 / (n / gI n c) < m / gI m q) \/ 1048576 < q / gI m q * (c / gI n c) then 4 else 0
def rtsV (n q m c : Int) : Tm := if rtsE n q m c = 0 then ⟨n / gI n c * (m / gI m q), q / gI m q * (c / gI n c)⟩ else tmZ
def rmE (a b : Tm) : Int := if yI [a, b] = 0 then rtsE a.N a.D b.N b.D else yI [a, b]
def rmV (a b : Tm) : Tm := if yI [a, b] = 0 then rtsV a.N a.D b.N b.D else tmZ
attribute [local irreducible] gI
def zg (a b : Tm) : Fn prog 106 [tmA a, tmA b] (.tup [tmA (addV a b), iv (addE a b)]) := by
 refine xV func106 ntmps106 (fun g w d => ?_);refine gc (zQ a b) ?_;refine gd ?_ ?_<;>intro Z
 ·have hE : addE a b = yI [a, b] := by unfold addE; rw [j3 Z]
  have U : addV a b = tmZ := by unfold addV; rw [j3 Z]
  refine gq ?_;refine yx ty83 ?_ ?_;all_goals (first | exact zE hE | exact zE U)
 have V := zbX Z;have b1 := zaj V.1;have b2 := zaj V.2;have m1 := mulB b1.1 b1.2.1 b2.2.2.1 b2.2.2.2.1;have m2 := mulB b2.1 b2.2.1 b1.2.2.1 b1.2.2.2.1;have m3 := mulB b1.2.2.1 b1.2.2.2.1 b2.2.2.1 b2.2.2.2.1;have m4 := mulP b1.2.2.2.2.1 b2.2.2.2.2.1;have hE : addE a b = tmkE (a.N * b.D + b.N * a.D) (a.D * b.D) := by unfold addE; rw [j4 Z]
 have U : addV a b = tmkT (a.N * b.D + b.N * a.D) (a.D * b.D) := by unfold addV; rw [j4 Z]
 refine gc (zbW (a.N * b.D + b.N * a.D) (a.D * b.D) (by omega) (by omega) (by omega) (by omega)) ?_;refine yx ty83 ?_ ?_;all_goals (first | exact zE hE | exact zE U)
def zcj (n q m c : Int) (n0 : 0 <= n) (n1 : n <= 1099511627776) (q0 : 1 <= q) (q1 : q <= 1048576) (m0 : 0 <= m) (m1 : m <= 1099511627776) (c0 : 1 <= c) (c1 : c <= 1099511627776) : Fn prog 286 [iv n, iv q, iv m, iv c] (.tup [tmA (rtsV n q m c), iv (rtsE n q m c)]) := by
 have U := zcM (n := n) (d := c) (by omega);have T := zcM (n := m) (d := q) (by omega);have n2 := wQ n0 (u6 U);have n3 := uC (gI n c) n0;have c2 := wQ (show 0 <= c by omega) (u6 U);have c3 := uC (gI n c) (show 0 <= c by omega);have m2 := wQ m0 (u6 T);have m3 := uC (gI m q) m0;have q2 := wQ (show 0 <= q by omega) (u6 T);have q3 := uC (gI m q) (show 0 <= q by omega);have mB := mulB q2 (show q / gI m q <= 1048576 by omega) c2 (show c / gI n c <= 1099511627776 by omega);refine xV func286 ntmps286 (fun g w d => ?_);refine gc (zaC n c (by omega) (by omega) (by omega) (by omega)) ?_;refine yM (zaC m q (by omega) (by omega) (by omega) (by omega)) ?_;iterate 2 refine ya ?_
 apply yE;iterate 4 refine ya ?_
 apply yE;iterate 4 refine ya ?_
 apply yE;iterate 4 refine ya ?_
 apply yE;refine ya ?_;refine yy ?_;apply yg;apply ye;iterate 2 refine ya ?_
 refine xX 2 ?_;refine ym ?_;iterate 4 refine xW ?_
 iterate 2 refine ym ?_
 iterate 4 refine xW ?_
 refine gf ?_ ?_<;>intro Z
 ·have hE : rtsE n q m c = 4 := by unfold rtsE; rw [j4 Z]
  have V : rtsV n q m c = tmZ := by unfold rtsV; rw [j3 (by omega)]
  refine gq ?_;refine yx ty83 ?_ ?_;all_goals (first | exact zE hE | exact zE V)
 have hE : rtsE n q m c = 0 := by unfold rtsE; rw [j3 (fun h => by omega)]
 have V : rtsV n q m c = ⟨n / gI n c * (m / gI m q), q / gI m q * (c / gI n c)⟩ := by unfold rtsV; rw [j4 hE]
 have hnm : 0 <= n / gI n c * (m / gI m q) /\ n / gI n c * (m / gI m q) <= 1099511627776 := by
  refine ⟨v6 n2 m2, ?_⟩;by_cases Q : 0 < n / gI n c
  ·exact zeY Q (by decide) (by omega)
  ·rw [show n / gI n c = 0 by omega, Int.zero_mul]; decide
 refine gq ?_;refine yx ty83 ?_ ?_;all_goals (first | exact zE hE | exact zE V)
def zgz (a b : Tm) : Fn prog 241 [tmA a, tmA b] (.tup [tmA (rmV a b), iv (rmE a b)]) := by
 refine xV func241 ntmps241 (fun g w d => ?_);refine gc (zQ a b) ?_;refine gd ?_ ?_<;>intro Z
 ·have hE : rmE a b = yI [a, b] := by unfold rmE; rw [j3 Z]
  have U : rmV a b = tmZ := by unfold rmV; rw [j3 Z]
  refine gq ?_;refine yx ty83 ?_ ?_;all_goals (first | exact zE hE | exact zE U)
 have V := zbX Z;have b1 := zaj V.1;have b2 := zaj V.2;have hE : rmE a b = rtsE a.N a.D b.N b.D := by unfold rmE; rw [j4 Z]
 have U : rmV a b = rtsV a.N a.D b.N b.D := by unfold rmV; rw [j4 Z]
 refine gc (zcj a.N a.D b.N b.D (by omega) (by omega) (by omega) (by omega) (by omega) (by omega) (by omega) (by omega)) ?_;refine yx ty83 ?_ ?_;all_goals (first | exact zE hE | exact zE U)
end
section
structure Sgm where
 From : Int
 To : Int
 Left : Int
 Right : Int
 Free : Bool
 Count : Tm
 deriving DecidableEq
instance : Inhabited Sgm := ⟨⟨0, 0, 0, 0, false, ⟨0, 0⟩⟩⟩
def smE : Sgm -> List AV := fun x => [.int .i64 x.From, .int .i64 x.To, .int .i64 x.Left, .int .i64 x.Right, .bool x.Free, .int .i64 x.Count.N, .int .i64 x.Count.D]
abbrev smA (x : Sgm) : AV := .agg (smE x)
abbrev smsA (l : List Sgm) : AV := .sl smE l
abbrev itT (x : Ite) : List Tm := [x.Dur, x.Before, x.After]
abbrev itKd (x : Ite) : Prop := (x.Rest = true /\ x.Color = true) \/ ((x.Rest = true \/ x.Color = true) /\ x.Fixed = false)
abbrev itRg (x : Ite) : Prop := x.Value < 1 \/ 8 < x.Value \/ x.Cut < 0 \/ 8 < x.Cut
def itF (x : Ite) : Int := if itRg x then 2 else if yI (itT x) = 0 then (if itKd x then 8 else 0) else yI (itT x)
def ckIE : List Ite -> Int
 | [] => 0
 | x :: r => if itF x = 0 then ckIE r else itF x
def ckIX : List Ite -> Int -> Int
 | [], _ => 0
 | x :: r, k => if itF x = 0 then ckIX r (k + 1) else k
def zbn {l : List Ite} {k : Nat} {x : Ite} (h : l[k]? = some x) : ckIE (l.drop k) = if itF x = 0 then ckIE (l.drop (k + 1)) else itF x := by
 grind [List.drop_eq_getElem_cons, ckIE]
def zbo {l : List Ite} {k : Nat} {x : Ite} (n : Int) (h : l[k]? = some x) : ckIX (l.drop k) n = if itF x = 0 then ckIX (l.drop (k + 1)) (n + 1) else n := by
 grind [List.drop_eq_getElem_cons, ckIX]
def zcO : ∀ {l : List Ite}, ckIE l = 0 -> ∀ x ∈ l, itF x = 0
 | [], _, x, hx => by simp at hx
 | s :: r, h, x, hx => by
  simp only [ckIE] at h;by_cases hs : itF s = 0
  ·rw [j4 hs] at h;rcases jX.1 hx with rfl | hx
   ·exact hs
   ·exact zcO h x hx
  omega
def zg3 {x : Ite} (h : itF x = 0) : (1 <= x.Value /\ x.Value <= 8 /\ 0 <= x.Cut /\ x.Cut <= 8) /\ ckT x.Dur = 0 /\ ckT x.Before = 0 /\ ckT x.After = 0 /\ ¬ itKd x := by
 unfold itF at h;split at h;all_goals grind [zjP]
def unE (m : Mn) (k : Int) : Int := if ckM m = 0 then (if 1 <= k /\ k <= 4 /\ m.p k = 3 then 0 else 2) else ckM m
def unT (m : Mn) (k : Int) : Tm := if unE m k = 0 then yp m (k + 1) else tmZ
def zhi {m : Mn} {k : Int} (h : unE m k = 0) : ckM m = 0 /\ 1 <= k /\ k <= 4 /\ m.p k = 3 := by
 grind [unE]
structure Bd where
 item : Int
 next : Int
 fin : Bool
 deriving DecidableEq
instance : Inhabited Bd := ⟨⟨0, 0, false⟩⟩
def bdE : Bd -> List AV := fun x => [.int .i64 x.item, .int .i64 x.next, .bool x.fin]
abbrev bdA (x : Bd) : AV := .agg (bdE x)
abbrev isH (k : Int) (x : Ite) : Prop := x.Color = false /\ x.Value <= k
abbrev isC (k : Int) (x : Ite) : Prop := 0 < x.Cut /\ x.Cut <= k
def bdK (k : Int) (l : List Ite) : Nat -> List Bd
 | 0 => [⟨-1, 0, false⟩]
 | n + 1 => match l[n]? with
  | some x => (bdK k l n ++ if isH k x then [⟨n, n + 1, false⟩] else []) ++ if isC k x then [⟨-1, n + 1, false⟩] else []
  | none => bdK k l n
def bds (k : Int) (l : List Ite) : List Bd := bdK k l l.length ++ [⟨-1, l.length, true⟩]
theorem zdx {k : Int} {l : List Ite} {n : Nat} {x : Ite} (h : l[n]? = some x) : bdK k l (n + 1) = (bdK k l n ++ if isH k x then [⟨n, n + 1, false⟩] else []) ++ if isC k x then [⟨-1, n + 1, false⟩] else [] := by
 simp_all [bdK]
def zeZ (k : Int) (l : List Ite) : ∀ n, 1 <= (bdK k l n).length /\ (bdK k l n).length <= 2 * n + 1
 | 0 => by simp [bdK]
 | n + 1 => by
  have h := zeZ k l n
  grind [bdK]
def hdI (l : List Ite) (b : Bd) : Int := if b.item < 0 \/ (l.getD b.item.toNat default).Fixed = true then -1 else b.item
abbrev bdF (b : Bd) : Int := if 0 <= b.item then b.item else b.next
def sg0 (l : List Ite) (b c : Bd) : Sgm := ⟨b.next, bdF c, hdI l b, hdI l c, c.fin, ⟨0, 0⟩⟩
def sgs0 (l : List Ite) : List Bd -> List Sgm
 | b :: c :: r => sg0 l b c :: sgs0 l (c :: r)
 | _ => []
def zev (l : List Ite) : ∀ B : List Bd, (sgs0 l B).length = B.length - 1
 | [] => rfl
 | [_] => rfl
 | b :: c :: r => by
  have := zev l (c :: r);simp_all [sgs0]
theorem ziH (l : List Ite) : ∀ (B : List Bd) (i : Nat) (b c : Bd), B[i]? = some b -> B[i + 1]? = some c -> (sgs0 l B)[i]? = some (sg0 l b c)
 | [], i, b, c, h, _ => by simp at h
 | [_], i, b, c, _, h => by simp at h
 | x :: y :: r, 0, b, c, h, Z => by
  grind [sgs0]
 | x :: y :: r, i + 1, b, c, h, Z => by
  have := ziH l (y :: r) i b c (by simpa using h) (by simpa using Z);simpa [sgs0] using this
def zjT (l : List Ite) : ∀ (B : List Bd) (b c : Bd), sgs0 l ((B ++ [b]) ++ [c]) = sgs0 l (B ++ [b]) ++ [sg0 l b c]
 | [], b, c => rfl
 | [x], b, c => rfl
 | x :: y :: r, b, c => by
  have := zjT l (y :: r) b c;simp_all [sgs0]
def itR (l : List Ite) (s : Sgm) : List Ite := (l.drop s.From.toNat).take (s.To.toNat - s.From.toNat)
def drL (l : List Ite) : List Tm := l.map (·.Dur)
def lsE (a b : Tm) : Int := if subE a b = 2 then 14 else subE a b
def cn1 (t : Tm) (h : Int) (d : Tm) : Tm × Int := if h < 0 then (t, 0) else if lsE t d = 0 then (subV t d, 0) else (tmZ, lsE t d)
def cnA (l : List Ite) (s : Sgm) : Tm × Int := sumF ⟨0, 1⟩ (drL (itR l s))
def cnB (l : List Ite) (s : Sgm) : Tm × Int := if (cnA l s).2 = 0 then cn1 (cnA l s).1 s.Left (l.getD s.Left.toNat default).After else (tmZ, (cnA l s).2)
def cnC (l : List Ite) (s : Sgm) : Tm × Int := if (cnB l s).2 = 0 then cn1 (cnB l s).1 s.Right (l.getD s.Right.toNat default).Before else (tmZ, (cnB l s).2)
def divE (a b : Tm) : Int := if yI [a, b] = 0 then (if b.N = 0 then 5 else tmsE a.N a.D b.D b.N) else yI [a, b]
def divV (a b : Tm) : Tm := if yI [a, b] = 0 then (if b.N = 0 then tmZ else tmsV a.N a.D b.D b.N) else tmZ
def cnE (u : Tm) (l : List Ite) (s : Sgm) : Int := if (cnC l s).2 = 0 then divE (cnC l s).1 u else (cnC l s).2
def cnV (u : Tm) (l : List Ite) (s : Sgm) : Tm := if (cnC l s).2 = 0 then divV (cnC l s).1 u else tmZ
def segW (u : Tm) (l : List Ite) (s : Sgm) : Sgm := { s with Count := cnV u l s }
def segR (u : Tm) (l : List Ite) (s : Sgm) : Int := if cnE u l s = 0 then (if s.Free = false /\ ¬ (cnV u l s).D = 1 then 14 else 0) else cnE u l s
def segX (u : Tm) (l : List Ite) : List Sgm -> Int
 | [] => 0
 | s :: r => if segR u l s = 0 then segX u l r else segR u l s
theorem zdy {u : Tm} {l : List Ite} {L : List Sgm} {k : Nat} {s : Sgm} (h : L[k]? = some s) : segX u l (L.drop k) = if segR u l s = 0 then segX u l (L.drop (k + 1)) else segR u l s := by
 grind [List.drop_eq_getElem_cons, segX]
def znK {u : Tm} {l : List Ite} : ∀ {L : List Sgm}, segX u l L = 0 -> ∀ s ∈ L, segR u l s = 0
 | [], _, x, hx => by simp at hx
 | s :: r, h, x, hx => by
  simp only [segX] at h;by_cases hs : segR u l s = 0
  ·rw [j4 hs] at h;rcases jX.1 hx with rfl | hx
   ·exact hs
   ·exact znK h x hx
  omega
def segE (m : Mn) (k : Int) (l : List Ite) : Int := if unE m k = 0 then (if ckIE l = 0 then segX (unT m k) l (sgs0 l (bds k l)) else ckIE l) else unE m k
def segV (m : Mn) (k : Int) (l : List Ite) : List Sgm := if segE m k l = 0 then (sgs0 l (bds k l)).map (segW (unT m k) l) else []
def smF : Tm -> List Tm -> List Tm
 | _, [] => []
 | t, d :: r => addV t d :: smF (addV t d) r
def fsL (l : List Ite) : List Tm := smF ⟨0, 1⟩ (drL l)
def lasL (l : List Ite) : List Tm := match (fsL l).getLast? with
 | none => []
 | some a => a :: (((fsL l).dropLast.filter fun t => decide (subE a t = 0)).map fun t => subV a t)
def rcQ (u : Tm) (sums : List Tm) (lost : Tm) : Bool := decide (addE lost u = 0) && decide (addV lost u ∈ sums)
def lgQ (u : Tm) (x : Ite) : Bool := decide (0 < cmpV x.Dur u)
abbrev itg (l : List Ite) (i : Int) : Ite := l.getD i.toNat default
def poQ (u : Tm) (k : Int) (l : List Ite) (L : List (Int × Bool)) (s : Sgm) : Bool :=
 !decide (s.Left < 0) && ((decide ((itg l s.Left).Value < k) || !(mget s.Left L).getD false) && lgQ u (itg l s.Left) && rcQ u (fsL (itR l s)) (itg l s.Left).After)
def blQ (k : Int) (l : List Ite) (h : Int) : Bool :=
 decide ((itg l h).Value = k) && decide (h + 1 < l.length) && !decide (0 < (itg l h).Cut) && (!(itg l (h + 1)).Color && decide ((itg l (h + 1)).Value = k))
def anQ (u : Tm) (k : Int) (l : List Ite) (s : Sgm) : Bool :=
 !decide (s.Right < 0) && (!blQ k l s.Right && (lgQ u (itg l s.Right) && rcQ u (lasL (itR l s)) (itg l s.Right).Before))
def ntQ (u : Tm) (k : Int) (x : Ite) : Bool := !x.Rest && !x.Color && !x.Fixed && decide (x.Value = k + 1) && decide (x.Dur = u)
def atQ (u : Tm) (k : Int) (l : List Ite) (s : Sgm) : Bool :=
 !(decide (s.From = s.To) || s.Free) && (ntQ u k (itg l (s.To - 1)) && (decide (s.Right < 0) || decide ((itg l s.Right).Before.N = 0)))
def alR (p a t : Bool) (s : Sgm) : List Int :=
 (if s.Count.N % 3 = 0 \/ s.Free = true then [0] else []) ++ (if s.Count.N % 3 = 1 /\ s.Count.D = 1 /\ p = true then [1] else []) ++ (if s.Count.N % 3 = 1 /\ s.Free = false /\ a = true then [2] else []) ++
 (if s.Count.N % 3 = 2 /\ s.Free = false /\ p = true /\ a = true then [3] else []) ++ (if s.Count.N % 3 = 2 /\ s.Free = false /\ t = true then [4] else [])
def alQ (u : Tm) (k : Int) (l : List Ite) (L : List (Int × Bool)) (s : Sgm) : List Int := alR (poQ u k l L s) (anQ u k l s) (atQ u k l s) s
def zaN (u : Tm) (x : Ite) : Ite := { x with Dur := subV x.Dur u, After := addV x.After u }
def zaY (u : Tm) (x : Ite) : Ite := { x with Dur := subV x.Dur u, Before := addV x.Before u }
def dblI (x : Ite) : Ite := { x with Dur := addV x.Dur x.Dur }
def upI (l : List Ite) (i : Int) (f : Ite -> Ite) : List Ite := l.set i.toNat (f (itg l i))
def chN (u : Tm) (s : Sgm) (c : Int) (l : List Ite) : List Ite :=
 let l1 := if c = 1 \/ c = 3 then upI l s.Left (zaN u) else l
 let l2 := if c = 2 \/ c = 3 then upI l1 s.Right (zaY u) else l1
 if c = 4 then upI l2 (s.To - 1) dblI else l2
def chL (s : Sgm) (c : Int) (L : List (Int × Bool)) : List (Int × Bool) := if c = 2 \/ c = 3 then mput s.Right true L else L
theorem zgA (l : List Ite) (i : Int) (f : Ite -> Ite) : (upI l i f).length = l.length := by unfold upI; simp
def znL (u : Tm) (s : Sgm) (c : Int) (l : List Ite) : (chN u s c l).length = l.length := by
 grind [chN, zgA]
def stK (u : Tm) (S : List Sgm) (l : List Ite) (M : List Int) : Nat -> List Ite × List (Int × Bool)
 | 0 => (l, [])
 | n + 1 => (chN u (S.getD n default) (M.getD n 0) (stK u S l M n).1, chL (S.getD n default) (M.getD n 0) (stK u S l M n).2)
def alK (u : Tm) (k : Int) (S : List Sgm) (l : List Ite) (M : List Int) (n : Nat) : List Int := alQ u k (stK u S l M n).1 (stK u S l M n).2 (S.getD n default)
def okJ (u : Tm) (k : Int) (S : List Sgm) (l : List Ite) (M : List Int) : Nat -> Bool
 | 0 => true
 | n + 1 => okJ u k S l M n && decide (M.getD n 0 ∈ alK u k S l M n)
def zb2 (u : Tm) (S : List Sgm) (l : List Ite) (M : List Int) : ∀ n, (stK u S l M n).1.length = l.length
 | 0 => rfl
 | n + 1 => by show (chN _ _ _ _).length = _; rw [znL, zb2 u S l M n]
def znM (u : Tm) (S : List Sgm) (l : List Ite) (M : List Int) (n : Nat) : stK u S l M (n + 1) = (chN u (S.getD n default) (M.getD n 0) (stK u S l M n).1, chL (S.getD n default) (M.getD n 0) (stK u S l M n).2) := rfl
def apE (m : Mn) (k : Int) (l : List Ite) (M : List Int) : Int := if segE m k l = 0 then (if ¬ (segV m k l).length = M.length \/ okJ (unT m k) k (segV m k l) l M M.length = false then 2 else 0) else segE m k l
def apV (m : Mn) (k : Int) (l : List Ite) (M : List Int) : List Ite := if apE m k l M = 0 then (stK (unT m k) (segV m k l) l M M.length).1 else []
end
end Go.Rse
