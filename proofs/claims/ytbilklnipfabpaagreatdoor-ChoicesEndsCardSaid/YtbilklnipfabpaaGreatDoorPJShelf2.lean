/-
  DERIVED: THE SHELF's CONTRACTS AT THIS DUMP, IN PLAIN WORDS (tools/lay-plain.mjs out of 'TryzSrtLay.lean', which tools/lay-shelf.mjs wrote): THE SAME DECLARATIONS UNDER THE SAME NAMES: 'import', 'namespace', 'open', 'def', 'theorem' AND NOTHING ELSE: no command of the shelf's: FOR A HAND-IN. Each laying: the table of numbers ('.._ren') and one theorem, a field a fact of the dump's own or the kernel's comparison; each contract: ONE APPLICATION.
-/
import Derived.Shelf.SlSortCmp.WholeK
import Derived.Ground.SlsfProg
import Derived.Test.YtbilklnipfabpaaGreatDoorProg
import Derived.Test.YtbilklnipfabpaaGreatDoorPJCho12
import Derived.Test.YtbilklnipfabpaaGreatDoorPJLaw18a
set_option linter.unusedSimpArgs false
set_option linter.unusedVariables false
namespace Go.Proofs
open Go.Shelf
def zel : Go.Shelf.Ren := ⟨fun | 6 => 56 | 15 => 104 | 14 => 103 | 28 => 155 | 29 => 156 | 20 => 147 | 21 => 148 | 22 => 149 | 23 => 150 | 24 => 151 | 25 => 152 | 26 => 153 | 27 => 154 | 46 => 184 | 47 => 185 | 48 => 186 | 49 => 187 | 50 => 188 | 57 => 199 | n => n, fun | 22 => 33 | 24 => 46 | 25 => 115 | 3 => 3 | 39 => 172 | 0 => 0 | 53 => 232 | 55 => 234 | 4 => 4 | 46 => 225 | 45 => 224 | 50 => 229 | 5 => 5 | 9 => 9 | 66 => 259 | 70 => 263 | 76 => 273 | 77 => 186 | n => n, fun | n => n⟩
theorem zgS : Go.Proofs.SlLaysF0.n6 Tryz.prog zel := {
 mixed := by kernel_rfl
 f6 := ⟨Tryz.f56.name, by decide, Tryz.func56.trans (congrArg some (by kernel_rfl))⟩
 f14 := ⟨Tryz.f103.name, by decide, Tryz.func103.trans (congrArg some (by kernel_rfl))⟩
 f15 := Tryz.func104.trans (congrArg some (by kernel_rfl))
 f20 := ⟨Tryz.f147.name, by decide, Tryz.func147.trans (congrArg some (by kernel_rfl))⟩
 f21 := ⟨Tryz.f148.name, by decide, Tryz.func148.trans (congrArg some (by kernel_rfl))⟩
 f22 := ⟨Tryz.f149.name, by decide, Tryz.func149.trans (congrArg some (by kernel_rfl))⟩
 f23 := ⟨Tryz.f150.name, by decide, Tryz.func150.trans (congrArg some (by kernel_rfl))⟩
 f24 := ⟨Tryz.f151.name, by decide, Tryz.func151.trans (congrArg some (by kernel_rfl))⟩
 f25 := ⟨Tryz.f152.name, by decide, Tryz.func152.trans (congrArg some (by kernel_rfl))⟩
 f26 := ⟨Tryz.f153.name, by decide, Tryz.func153.trans (congrArg some (by kernel_rfl))⟩
 f27 := ⟨Tryz.f154.name, by decide, Tryz.func154.trans (congrArg some (by kernel_rfl))⟩
 f28 := Tryz.func155.trans (congrArg some (by kernel_rfl))
 f29 := Tryz.func156.trans (congrArg some (by kernel_rfl))
 f46 := ⟨Tryz.f184.name, by decide, Tryz.func184.trans (congrArg some (by kernel_rfl))⟩
 f47 := Tryz.func185.trans (congrArg some (by kernel_rfl))
 f48 := Tryz.func186.trans (congrArg some (by kernel_rfl))
 f49 := ⟨Tryz.f187.name, by decide, Tryz.func187.trans (congrArg some (by kernel_rfl))⟩
 f50 := ⟨Tryz.f188.name, by decide, Tryz.func188.trans (congrArg some (by kernel_rfl))⟩
 f57 := ⟨Tryz.f199.name, by decide, Tryz.func199.trans (congrArg some (by kernel_rfl))⟩
 t0 := Tryz.underlying0
 a0 := Tryz.isAgg0
 z0 := Tryz.sizeOf0
 v0 := Tryz.zeroValue0
 t3 := Tryz.underlying3
 a3 := Tryz.isAgg3
 z3 := Tryz.sizeOf3
 v3 := Tryz.zeroValue3
 t4 := Tryz.underlying4
 a4 := Tryz.isAgg4
 z4 := Tryz.sizeOf4
 v4 := Tryz.zeroValue4
 t5 := Tryz.underlying5
 a5 := Tryz.isAgg5
 z5 := Tryz.sizeOf5
 v5 := Tryz.zeroValue5
 t9 := Tryz.underlying9
 a9 := Tryz.isAgg9
 z9 := Tryz.sizeOf9
 v9 := Tryz.zeroValue9
 t22 := Tryz.underlying33
 a22 := Tryz.isAgg33
 z22 := Tryz.sizeOf33
 v22 := Tryz.zeroValue33
 t25 := Tryz.underlying115
 a25 := Tryz.isAgg115
 z25 := Tryz.sizeOf115
 v25 := Tryz.zeroValue115
 t39 := Tryz.underlying172
 a39 := Tryz.isAgg172
 z39 := Tryz.sizeOf172
 v39 := Tryz.zeroValue172
 t45 := Tryz.underlying224
 a45 := Tryz.isAgg224
 z45 := Tryz.sizeOf224
 v45 := Tryz.zeroValue224
 t46 := Tryz.underlying225
 a46 := Tryz.isAgg225
 z46 := Tryz.sizeOf225
 v46 := Tryz.zeroValue225
 t50 := Tryz.underlying229
 a50 := Tryz.isAgg229
 z50 := Tryz.sizeOf229
 v50 := Tryz.zeroValue229
 t53 := Tryz.underlying232
 a53 := Tryz.isAgg232
 z53 := Tryz.sizeOf232
 v53 := Tryz.zeroValue232
 t55 := Tryz.underlying234
 a55 := Tryz.isAgg234
 z55 := Tryz.sizeOf234
 v55 := Tryz.zeroValue234
 t66 := Tryz.underlying259
 a66 := Tryz.isAgg259
 z66 := Tryz.sizeOf259
 v66 := Tryz.zeroValue259
 t70 := Tryz.underlying263
 a70 := Tryz.isAgg263
 z70 := Tryz.sizeOf263
 v70 := Tryz.zeroValue263
 t76 := Tryz.underlying273
 a76 := Tryz.isAgg273
 z76 := Tryz.sizeOf273
 v76 := Tryz.zeroValue273
 t77 := Tryz.underlying186
 a77 := Tryz.isAgg186
 z77 := Tryz.sizeOf186
 v77 := Tryz.zeroValue186 }
end Go.Proofs
namespace Go.Rse
open Go Go.Proofs Go.Sort
theorem ziY (l : List Tm) (hl : l.length <= 4000000000) (hok : ∀ t ∈ l, ckT t = 0) :
 FnO Tryz.prog 56 [.own 2000000, .fn 57 []] [(2000000, .row tmE l 46 2)] [2000000] (.tup []) [(2000000, .row tmE (msT l) 46 2)] :=
 zoW zgS (by kernel_rfl) tmE 2 (by decide) _ l hl (fun t => ckT t = 0) cmpV _ Tryz.isAgg46 Tryz.sizeOf46 (fun _ => rfl)
  (fun t c hc => by simp [tmE] at hc; rcases hc with rfl | rfl <;> rfl) (fun x y _ _ => zez x y) hok
  (fun x hx => by rw [zkO hx hx, if_neg (zfz x), if_neg (zfz x)])
  (fun x y z hx hy hz h1 h2 => (zfy hx hz).2 (zrk hx hy hz ((zfy hx hy).1 h1) ((zfy hy hz).1 h2)))
  (fun x y z hx hy hz h1 h2 => (zbE hx hz).2 (znb hx hy hz ((zbE hx hy).1 h1) ((zbE hy hz).1 h2)))
  (fun x y hx hy h1 h2 => zi0 hx hy ((zbE hx hy).1 h1) ((zbE hy hx).1 h2))
  (fun x y hx hy => by
   rw [zbE hx hy, zbE hy hx];by_cases h3 : ltT x y
   ·exact .inr (zgj h3)
   ·exact .inl h3)
theorem zs4 {P : Program} {K : TypeId} (h : ∃ f1 f2 : Field, P.underlying K = some (.struct #[f1, f2]) /\ f1.name ≠ "_" /\ f2.name ≠ "_" /\ P.plainKey f1.type = true /\ P.plainKey f2.type = true /\ f1.offset = 0 /\ f2.offset = 1 /\ P.underlying f1.type = some (.int .i64) /\ P.underlying f2.type = some (.int .i64)) (em : Bool) (w : World) (a b : Int) :
 (Instr.checkKey em 10000 K (.agg #[.int .i64 a, .int .i64 b])).run P w = .ok () w := by
 obtain ⟨f1, f2, h1, h2, h3, h4, h5, h6, h7, h8, h9⟩ := h;exact chk2 em w h1 h2 h3 h4 h5 h6 h7 h8 h9
def zpX (t : Tm) : Value := .agg #[.int .i64 t.N, .int .i64 t.D]
theorem zrh : KeyL Tryz.prog 46 (fun t : Tm => tmA t) zpX where
 val := fun I ρ x v h => by
  obtain ⟨vs, rfl, hl, hv⟩ := zaV h
  match vs, hl with
  | [a, b], _ =>
   have h1 := yY (hv 0 _ a rfl rfl);have h2 := yY (hv 1 _ b rfl rfl);subst h1; subst h2; rfl
 of := fun I ρ x => .agg _ [.int .i64 x.N, .int .i64 x.D] rfl fun j c v hc hv => by
  rcases j with _ | _ | j
  ·simp [tmE] at hc hv; subst hc; subst hv; exact .int _ _
  ·simp [tmE] at hc hv; subst hc; subst hv; exact .int _ _
  ·simp [tmE] at hc
 chk := fun em w x => zs4 ⟨_, _, Tryz.underlying46, by decide, by decide, by kernel_rfl, by kernel_rfl, rfl, rfl, by kernel_rfl, by kernel_rfl⟩ em w x.N x.D
 wide := by kernel_rfl
 eq := fun w x y => by
  have h := za6 (P := Tryz.prog) (t := 46) (d := 2) (w := w) (I := fun _ _ => none) (ρ := noNames) (xs := tmE x) (ys := tmE y) (vs := [.int .i64 x.N, .int .i64 x.D]) (us := [.int .i64 y.N, .int .i64 y.D]) (by kernel_rfl) (by decide)
   ⟨rfl, fun j c v hc hv => by
    rcases j with _ | _ | j
    ·simp [tmE] at hc hv; subst hc; subst hv; exact .int _ _
    ·simp [tmE] at hc hv; subst hc; subst hv; exact .int _ _
    ·simp [tmE] at hc⟩
   ⟨rfl, fun j c v hc hv => by
    rcases j with _ | _ | j
    ·simp [tmE] at hc hv; subst hc; subst hv; exact .int _ _
    ·simp [tmE] at hc hv; subst hc; subst hv; exact .int _ _
    ·simp [tmE] at hc⟩ (by kernel_rfl) (by kernel_rfl) (by kernel_rfl) (b := decide (x = y)) (zim x y)
  exact h
 stay := fun w x => by simp [Instr.keyThatStays, Instr.sameBits, zpX]
theorem zs5 {r : Rdg} : tmA (sumV r.Durs) = (fun t : Tm => tmA t) (toT r) := rfl
theorem zri (m : Mn) (l : List Sg) : srtD (enL m l) = enV m l := rfl
theorem zoU {m : Mn} {l : List Sg} (h : ¬ aqE m l = 0) : enV m l = [] := by
 have : aqV m l = [] := by unfold aqV; rw [if_neg h]
 unfold enV enL srtD; rw [this]; simp [kyF, msT]
theorem zkM (m : Mn) (l : List Sg) : (enL m l).length = (aqV m l).length := by unfold enL; rw [List.length_map]
theorem zm8 {κ α : Type} [DecidableEq κ] (q : κ) (x : α) (l : List (κ × α)) : (kput q x l).length <= l.length + 1 := by unfold kput; split <;> simp
theorem zkN (L : List Tm) : (kyF L).length <= L.length := by
 have key : ∀ (L : List Tm) (a : List (Tm × Bool)), (L.foldl (fun a t => kput t true a) a).length <= a.length + L.length := by
  intro L
  induction L with
  | nil => intro a; simp
  | cons t r ih =>
   intro a;have h1 := ih (kput t true a);have h2 := zm8 t true a;simp only [List.foldl_cons, List.length_cons]; omega
 have := key L [];unfold kyF; simpa using this
attribute [local irreducible] Pur yx yz Ex X Fn Imp LeV LeB FnO It yC FnW FnOW
attribute [local irreducible] aqV aqE sumV sumE kyF enL enV msT ouL toT
set_option maxHeartbeats 4000000 in
theorem zgg (m : Mn) (l : List Sg) (hl : l.length <= 1000) (hS : ∀ r ∈ aqV m l, ckT (toT r) = 0) (hB : ∀ r ∈ aqV m l, r.Durs.length <= 1000000) : Fn Tryz.prog 20 [mnA m, sgsA l] (.tup [tmsA (enV m l), iv (aqE m l)]) := by
 have hln := zfx m l;have hel := zkM m l;have hky := zkN (enL m l)
 have hL : ∀ t ∈ enL m l, ckT t = 0 := fun t ht => by
  unfold enL at ht;have hZ1 := List.mem_map.1 ht;obtain ⟨r, hr, rfl⟩ := hZ1;exact hS r hr
 have hz0 : [] = kyF ((enL m l).take 0) := by unfold kyF; rfl
 refine Fn.go Tryz.func20 Tryz.ntmps20 (fun g w d => ?_);apply yb;refine yF ?_;iterate 2 refine ya ?_
 apply yj;iterate 2 refine ya ?_
 refine yq (zbO m l hl) ?_;refine ze ?_;apply yd;apply yb;refine yh ?_;refine yk rfl ?_ ?_<;>intro hc1
 ·have hV := zoU hc1;apply yb;refine yn ?_;refine X.ret ?_;refine RetQ.imp (yi (ts := [(4, tmsA []), (5, iv (aqE m l))]) (hs := [])) ?_;refine yu ?_ ?_;all_goals (first | (rw [hV]; done) | (rw [h0]; done) | rfl | exact congrArg (fun z => tmsA z) hfin | exact congrArg (AV.int .i64) h0.symm)
 have h0 : aqE m l = 0 := by omega
 apply yf;apply yb;refine Ex.stepA (zeS (k := 22) (fun t : Tm => tmA t) AV.bool) rfl rfl ?_;refine ye ?_;apply yd;apply yb;refine yn ?_;apply X.block
 refine zh (ι := Nat) (fun (k : Nat) => [(6, zI (aqV m l)), (8, .mp 22), (23, zI (aqV m l)), (24, iv ((aqV m l).length : Int)), (25, iv (k : Int))]) (fun (k : Nat) => [(22, .mpb (fun t : Tm => tmA t) AV.bool (kyF ((enL m l).take k)))]) (fun (k : Nat) => k <= (aqV m l).length) (fun (k : Nat) => (aqV m l).length - k) 0 (fun k hk => ?_) (h0 := by
  exact yw)
 apply yb;refine ye ?_;apply yd;refine yk rfl ?_ ?_<;>intro hc2
 ·obtain ⟨r, hr⟩ : ∃ r, (aqV m l)[k]? = some r := ⟨_, lgg (by omega)⟩;have hr2 : (aqV m l)[(k : Int).toNat]? = some r := by simpa using hr
  have hke : (enL m l)[k]? = some (toT r) := by unfold enL; rw [List.getElem?_map, hr]; rfl
  have hks := zrV hke;apply yf;apply yd;apply X.block;apply yb;iterate 2 refine ya ?_
  refine yH ?_;refine Ex.mo ?_;apply Ex.nil;apply yc;iterate 3 refine ya ?_
  refine yq (zcp r.Durs (by have := hB r (List.mem_of_getElem? hr); omega)) ?_;refine zac (zis (q := toT r) (venc := AV.bool) true zrh rfl rfl rfl zs5 rfl rfl Tryz.underlying111 (fun _ _ => rfl)) ?_;apply Ex.nil;apply yc;refine yh ?_;refine yP (k + 1) (hI := yw)
 ·obtain rfl : k = (aqV m l).length := by omega
  have hkf : kyF ((enL m l).take (aqV m l).length) = kyF (enL m l) := by rw [← hel, List.take_length]
  have hzo := zrX (kyF (enL m l));apply X.exit;apply yd;refine X.imp (st' := ⟨[(8, .mp 22)], [(22, .mpb (fun t : Tm => tmA t) AV.bool (kyF (enL m l)))]⟩) yw ?_;apply yc;refine ye ?_;iterate 2 apply yd
  refine X.imp (y5 tmE 46 2 11 30 rfl rfl) ?_;apply yc;refine ya ?_;refine zry (K := 46) (E := 4) 1000002 (fun b bm => ?_) (ht := Tryz.underlying111);apply Ex.nil;apply X.block
  refine zh (ι := Array Nat) (fun (s : Array Nat) => [(8, .mp 22), (11, .own 30), (35, .val (.pointer (some ⟨b, 0, none⟩)))]) (fun (s : Array Nat) => [(1000002, .hold [.map (some bm)] [.mp 22]), (35, .obj b (.mapIter (some bm) (kyF (enL m l)).length s (kyF (enL m l)).length)), (22, .mpb (fun t : Tm => tmA t) AV.bool (kyF (enL m l))), (30, .row tmE (ouL (kyF (enL m l)) s) 46 2)]) (fun (s : Array Nat) => RgJ (kyF (enL m l)).length s) (fun (s : Array Nat) => (kyF (enL m l)).length - s.size) #[] (fun s hk => ?_) (hJ := by
   exact zrW _) (h0 := by
   exact yw)
  have hJ := hk;apply yb;refine Ex.nxt (k := 22) (kb := 35) (kh := 1000002) (fun mo i hmo hmi => ?_);apply Ex.nil;apply yd;refine yk rfl ?_ ?_<;>intro hc3
  ·subst hc3;have hZ2 := hmi rfl;obtain ⟨hi1, hi2⟩ := hZ2;obtain ⟨p, hp⟩ : ∃ p, (kyF (enL m l))[i]? = some p := ⟨_, lgg hi1⟩;have hou := zrY (s := s) hp;have hol := zj2 (kyF (enL m l)) s;have hjl := hJ.le;apply yf;apply X.block;apply yb;refine ya (x := .tup [tmA p.1, .bool p.2]) (hs := zpb (kb := 35) (kh := 1000002) p hp rfl rfl rfl rfl (fun _ _ => rfl) (fun _ _ => rfl)) ?_;refine ya ?_;refine yH ?_;refine Ex.mo ?_;apply Ex.nil;apply yc;(iterate 2 refine ya ?_);refine y2 tmE [p.1] ?_;refine Ex.mo ?_;refine ye ?_
   refine yP (s.push i) (hJ := by
    exact hJ.s hi1 hi2) (hm := by have h9 := (hJ.s hi1 hi2).le; rw [Array.size_push] at h9; simp only [Array.size_push]; omega) (hI := yw)
  ·subst hc3;have hfin : msT (ouL (kyF (enL m l)) s) = enV m l := (zqc hL hJ (hmo rfl)).trans (zri m l);have hok : ∀ t ∈ ouL (kyF (enL m l)) s, ckT t = 0 := fun t ht => hL t (((zhw _).2 t).1 (zhx hJ ht))
   apply X.exit;apply yb;refine ya ?_;refine z6 [(2000000, 30)] (ziY (ouL (kyF (enL m l)) s) (by rw [zj2]; have := hJ.le; omega) hok) ?_;apply yj;refine yn ?_;refine X.ret ?_;refine RetQ.imp (Imp.freeze (k := 30) rfl) ?_;refine yu ?_ ?_;all_goals (first | (rw [hV]; done) | (rw [h0]; done) | rfl | exact congrArg (fun z => tmsA z) hfin | exact congrArg (AV.int .i64) h0.symm)
end Go.Rse
namespace Go.Rse
open Go Go.Proofs
attribute [local irreducible] Pur yx yz Ex X Fn Imp LeV LeB FnO It yC FnW FnOW
theorem zrj (m : Mn) (l : List Sg) : (enV m l).length <= (aqV m l).length := by
 have h1 := zkN (enL m l);rw [zkM] at h1;unfold enV srtD msT;rw [List.length_mergeSort, List.length_map]; exact h1
attribute [local irreducible] aqV aqE rnL mMk enV whV mnN sumV sumE
set_option maxHeartbeats 4000000 in
theorem C_tactuslaw18_ChoicesEnds (n : Int) (nums : List Int) (hn : -9223372036854775808 <= n /\ n <= 9223372036854775807) (hr : ∀ x, x ∈ nums -> -9223372036854775808 <= x /\ x <= 9223372036854775807) (hnl : nums.length <= maxLen) : Fn Tryz.prog 5 [iv n, yg nums] (.bool true) := by
 have hm := zeB n hn;have hM := zqo n;generalize mMk n = m at hm hM;have hRun := zfh m nums 10 (by decide) (by decide) hr hnl;have hlen := zn0 m nums (most := 10) (by decide);have hG := zqs m nums 10;generalize rnL m nums 10 = l at hRun hlen hG;have h0 := zr6 hM hG;have hD : zeG l := zn2 hG;have hB := zpG (m := m) (l := l) (by omega);have hBd : ∀ r ∈ aqV m l, r.Durs.length <= 1000000 := fun r hr => Nat.le_trans (hB r hr).u (by decide)
 have hS := znM hM h0 hD (by omega);have hkT : ∀ r ∈ aqV m l, ckT (toT r) = 0 := fun r hr => (hS r hr).2
 have hln := zfx m l;have hen := zrj m l;have hm0 : mnN m l 0 = 0 := by unfold mnN; rfl
 refine Fn.go Tryz.func5 Tryz.ntmps5 (fun g w d => ?_);apply yb;refine ya ?_;apply yj;refine ya ?_;refine yq hm ?_;refine yH ?_;refine Ex.mo ?_;apply yj;iterate 2 refine ya ?_
 refine yq hRun ?_;refine ya ?_;apply yj;iterate 2 refine ya ?_
 refine yq (zbO m l (by omega)) ?_;iterate 5 refine ya ?_
 apply yj;iterate 2 refine ya ?_
 refine yq (zgg m l (by omega) hkT hBd) ?_;refine ze ?_;apply yd;apply yb;refine yn ?_;refine yk rfl ?_ ?_<;>intro hc1
 ·exact absurd rfl hc1
 apply yf;apply yd;apply yb;refine yh ?_;refine yk rfl ?_ ?_<;>intro hc2
 ·apply yb;refine yq za9 ?_;refine ye ?_;refine X.ret ?_;refine ym ?_;all_goals (first | rfl | (simp; done) | (simp; omega))
 have ha0 : aqE m l = 0 := by omega
 apply yf;apply yb;refine ye ?_;apply yd;apply yb;refine ye ?_;apply X.block
 refine zh (ι := Nat) (fun (i : Nat) => [(5, .ptr 5 0 0 0), (6, sgsA l), (7, zI (aqV m l)), (9, tmsA (enV m l)), (11, iv (mnN m l i : Int)), (12, iv (i : Int))]) (fun (i : Nat) => [(5, .box (mnE m) 24)]) (fun (i : Nat) => i <= (enV m l).length) (fun (i : Nat) => (enV m l).length - i) 0 (fun i hk => ?_) (h0 := by
  exact yw)
 apply yd;apply yb;refine zT ?_;refine yk rfl ?_ ?_<;>intro hc3
 ·obtain ⟨x, hx⟩ : ∃ x, (enV m l)[i]? = some x := ⟨_, lgg (by omega)⟩;have hx2 : (enV m l)[(i : Int).toNat]? = some x := by simpa using hx
  have hx0 := zrZ hkT hx;have hpos := zqe hkT hx;have hmn := zr0 hx;have hml := zqd hkT (i + 1);apply yf;apply yd;apply X.block;apply yd;refine zy [13,14,47,48,49,50,51,52,53,54,55,56] [0,0,0,0,12,28,63,127,255,255,511,2047] mo ?_;iterate 6 refine yl ?_
  refine zz (zfS m l x (by omega) h0 hx0 ha0 hBd) ?_;iterate 5 refine yl ?_
  refine y7 ?_;apply Ex.nil;apply yd;apply yb;iterate 2 refine ya ?_
  refine ExF.at 2 ?_;refine yI ?_;iterate 3 refine ExF.gi ?_
  refine yA ?_;refine ye ?_;refine yk rfl ?_ ?_<;>intro hc4
  ·(rcases hc4 with h | h; exact absurd rfl h; omega)
  apply yf;apply yb;iterate 5 refine ya ?_
  apply yj;refine ye ?_;apply X.block
  refine zh (ι := Nat) (fun (q : Nat) => [(5, .ptr 5 0 0 0), (6, sgsA l), (7, zI (aqV m l)), (9, tmsA (enV m l)), (11, iv (mnN m l (i + 1) : Int)), (12, iv (i : Int)), (13, zI (whV m l x)), (15, iv (q : Int))]) (fun (q : Nat) => [(5, .box (mnE m) 24)]) (fun (q : Nat) => q <= (whV m l x).length) (fun (q : Nat) => (whV m l x).length - q) 0 (fun q hk => ?_) (h0 := by
   exact yw)
  apply yd;apply yb;refine zT ?_;refine yk rfl ?_ ?_<;>intro hc5
  ·obtain ⟨r, hr1⟩ : ∃ r, (whV m l x)[q]? = some r := ⟨_, lgg (by omega)⟩;have hr2 : (whV m l x)[(q : Int).toNat]? = some r := by simpa using hr1
   have hrw := zr1 (List.mem_of_getElem? hr1);have hsm : sumE r.Durs = 0 := (hS r hrw.1).1;have hsv : sumV r.Durs = x := hrw.2;apply yf;apply yd;apply X.block;apply yb;(iterate 5 refine ya ?_);refine yq (zdJ r.Durs (by have := hBd r hrw.1; omega)) ?_;(iterate 3 refine ya ?_);refine yH ?_;refine Ex.mo ?_;refine ye ?_;apply yd;refine zy [83,84,85,86,87,88,89,90,91,92] [0,1,3,7,7,7,55,119,255,511] mo ?_;(iterate 3 refine yl ?_);(iterate 6 refine ChM.gi ?_);refine yl ?_;refine y7 ?_;apply Ex.nil;refine yk rfl ?_ ?_<;>intro hc6
   ·(rcases hc6 with h | h; exact absurd hsm h; exact absurd hsv h)
   apply yf;apply yc;refine yn ?_;refine yP (q + 1) (hI := yw)
  ·apply X.exit;apply yc;refine yn ?_;refine yP (i + 1) (hI := yw)
 ·have hend := zj5 hkT (i := i) (by omega);apply X.exit;apply yb;iterate 4 refine ya ?_
  refine ExF.at 4 ?_;refine yI ?_;refine ExF.cg za9 ?_;refine yA ?_;refine yh ?_;refine X.ret ?_;refine ym ?_;all_goals (first | rfl | (simp; done) | (simp; omega))
end Go.Rse
