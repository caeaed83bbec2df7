/-
  Walks: a sum of durations; readings that go; all readings, where the list that it answers is new; the readings of one sum.
-/
import Derived.Test.YtbilklnipfabpaaGreatDoorKJCho8
import Derived.Test.YtbilklnipfabpaaGreatDoorKJSortF
import Derived.Shelf.SlSortCmp.WholeK
import Derived.Ground.SlsfProg
import Derived.Test.YtbilklnipfabpaaGreatDoorProg
set_option linter.unusedSimpArgs false
set_option linter.unusedVariables false
namespace Go.Rse
open Go Go.Proofs
theorem rdz : ∀ (I : Im) (ρ : Nat -> Value) (j : Nat) c v, (rdgE ⟨[], [], [], []⟩)[j]? = some c -> (Value.agg #[.slice none 0 0, .slice none 0 0, .slice none 0 0, .slice none 0 0]).cells.toList[j]? = some v -> RV I ρ c v := by
 intro I ρ j c v hc hv;rcases j with _ | _ | _ | _ | j
 ·have hc : some (yg []) = some c := hc;have hv : some (Value.slice none 0 0) = some v := hv;cases hc; cases hv; exact LeV.nils _ I ρ _ .nils
 ·have hc : some (yg []) = some c := hc;have hv : some (Value.slice none 0 0) = some v := hv;cases hc; cases hv; exact LeV.nils _ I ρ _ .nils
 ·have hc : some (yg []) = some c := hc;have hv : some (Value.slice none 0 0) = some v := hv;cases hc; cases hv; exact LeV.nils _ I ρ _ .nils
 ·have hc : some (tmsA []) = some c := hc;have hv : some (Value.slice none 0 0) = some v := hv;cases hc; cases hv; exact LeV.nils _ I ρ _ .nils
 ·exact absurd (show (none : Option AV) = some c from hc) (by simp)
theorem rdz1 : ∀ u ∈ (Value.agg #[.slice none 0 0, .slice none 0 0, .slice none 0 0, .slice none 0 0]).cells.toList, u.oneCell' = true := by
 intro u hu; simp [Value.cells] at hu; subst hu; rfl
attribute [local irreducible] Pur yA yC Ex X Fn Imp LeV LeB FnO It yF FnW FnOW
theorem zpY (m : Mn) (l : List Sg) (x : Tm) : dlG (fun r => !decide (toT r = x)) (aqV m l) = whV m l x := by
 unfold dlG whV;refine List.filter_congr fun r _ => ?_
 simp
attribute [local irreducible] cmV cmE iofD iofM perfL ictE ictV aqN aqX aqE aqV sumV sumE
theorem zcl (l : List Tm) (hl : l.length <= 4000000000) : Fn Tryz.prog 55 [tmsA l] (tmA (sumV l)) := by
 refine Fn.go Tryz.func55 Tryz.ntmps55 (fun g w d => ?_);apply yb;refine yJ ?_;apply yj;refine ya ?_;refine ym (zfL l hl) ?_;iterate 3 refine ya ?_
 refine yJ ?_;refine Ex.mo ?_;refine ya ?_;apply yj;refine ya ?_;refine Ex.mo ?_;apply Ex.nil;refine X.ret ?_;refine RetQ.ret (.one (.cellA rfl rfl rfl rfl ty46 (LeV.eq ?_)));all_goals (first | rfl | (simp_all; done))
theorem zeg (a b : Tm) : Fn Tryz.prog 57 [tmA a, tmA b] (iv (cmpV a b)) := by
 refine Fn.go Tryz.func57 Tryz.ntmps57 (fun g w d => ?_);apply yb;iterate 2 refine yI ?_
 refine ya ?_;apply yj;iterate 2 refine ya ?_
 refine ym (zcF a b) ?_;iterate 5 refine ya ?_
 apply yj;refine yh ?_;refine X.ret ?_;refine yp ?_;all_goals (first | rfl | (simp_all; done))
theorem zeh (x : Tm) (r : Rdg) (hl : r.Durs.length <= 4000000000) : Fn Tryz.prog 61 [rdgA r, .ept (fun _ : Unit => tmE x) () 0] (.bool (!decide (toT r = x))) := by
 refine Fn.go Tryz.func61 Tryz.ntmps61 (fun g w d => ?_);apply yb;refine yI ?_;refine ye ?_;apply yd;refine zI [3,4,5,6,7,8] [0,1,3,0,15,31] mo ?_;iterate 2 refine yk ?_
 refine zJ (zcl r.Durs hl) ?_;iterate 3 refine yk ?_
 refine zf ?_;apply Ex.nil;refine X.ret ?_;refine yp ?_;all_goals (rfl)
theorem zN (l : List Rdg) (hl : l.length <= 4000000000) (fp : FuncId) (caps : List AV) (p : Rdg -> Bool) (hn : AV.nm.nmL caps = true) (hp : ∀ v, v ∈ l -> Fn Tryz.prog fp ([rdgA v] ++ caps) (.bool (p v))) : FnO Tryz.prog 106 [.own 2000000, .fn fp caps] [(2000000, .row rdgE l 35 4)] [2000000] (iv (fixG p l)) [(2000000, .row rdgE l 35 4)] := by
 refine FnO.intro (ts := [(0, .own 2000000), (1, .fn fp caps)]) (rv := [.tmp 4]) (n := 19) (cs := [.own 2000000]) (by kernel_rfl) Tryz.func106 rfl Tryz.ntmps106 rfl rfl (by simp) rfl rfl rfl rfl (fun g w d vs => ?_);apply yb;refine ye ?_;apply yd;apply yb;refine yu ?_;apply X.block
 refine zp (ι := Nat) (fun (k : Nat) => [(0, .own 2000000), (1, .fn fp caps), (7, iv l.length), (8, iv k)]) (fun (k : Nat) => [(1000001, .hold vs [.own 2000000]), (2000000, .row rdgE l 35 4)]) (fun (k : Nat) => k <= l.length /\ ∀ i u, i < k -> l[i]? = some u -> p u = false) (fun (k : Nat) => l.length - k) 0 (fun k hk => ?_) (hJ := by
  exact ⟨by omega, fun i u h => absurd h (Nat.not_lt_zero i)⟩)
 obtain ⟨hk1, hk2⟩ := hk;apply yb;refine ye ?_;apply yd;refine yl rfl ?_ ?_<;>intro hc1
 ·obtain ⟨v, hv⟩ : ∃ v, l[k]? = some v := ⟨_, lgg (by omega)⟩;have hv2 : l[(k : Int).toNat]? = some v := by simpa using hv
  apply yf;apply yd;apply X.block;apply yb;iterate 2 refine ya ?_
  apply yj;iterate 4 refine ya ?_
  refine zT (zaO rfl rfl hv2 rfl rfl ty35) rfl ?_;refine Ex.call rfl rfl (by simpa [AV.nm.nmL, AV.nm, rdgE] using hn) (hp v (List.mem_of_getElem? hv)) rfl ?_;apply Ex.nil;refine yl rfl ?_ ?_<;>intro hc2
  ·have he := zlN hv hc2 hk2;apply yb;refine yh ?_;refine X.ret ?_;rw [he];refine zjL.mk (ts := [(4, iv k)]) (.inr rfl) (yi) (.one (.tmp rfl (LeV.eq rfl)))
  apply yf;apply yc;refine yh ?_
  refine y2 (k + 1) (hJ := by
   refine ⟨by omega, fun i u hi hu => ?_⟩;rcases Nat.lt_succ_iff_lt_or_eq.1 hi with h | h
   ·exact hk2 i u h hu
   ·subst h; rw [hv] at hu; injection hu with hu; subst hu; exact hc2)
 ·have he := zkh (p := p) (l := l) fun i u hi => hk2 i u (by omega)
  apply X.exit;apply yb;refine ye ?_;refine X.ret ?_;rw [he];refine zjL.mk (ts := [(4, iv (-1))]) (.inr rfl) (yi) (.one (.tmp rfl (LeV.eq rfl)))
theorem zM (l : List Rdg) (hl : l.length <= 4000000000) (fp : FuncId) (x : Tm) (p : Rdg -> Bool) (hp : ∀ v, v ∈ l -> Fn Tryz.prog fp ([rdgA v] ++ [.ept (fun _ : Unit => tmE x) () 0]) (.bool (p v))) : FnO Tryz.prog 60 [.own 2000000, .fn fp [.ept (fun _ : Unit => tmE x) () 0]] [(2000000, .row rdgE l 35 4)] [] (.own 2000000) [(2000000, .row rdgE (dlG p l) 35 4)] := by
 have hcs := ziT p l;refine FnO.intro (ts := [(0, .own 2000000), (1, .fn fp [.ept (fun _ : Unit => tmE x) () 0])]) (rv := [.tmp 4]) (n := 42) (cs := []) (by kernel_rfl) Tryz.func60 rfl Tryz.ntmps60 rfl rfl (by simp) rfl rfl rfl rfl (fun g w d vs => ?_);apply yb;refine ya ?_;apply yj;iterate 2 refine ya ?_
 refine zah [(2000000, 2000000)] (zN l hl fp [.ept (fun _ : Unit => tmE x) () 0] p rfl hp) rfl rfl rfl (LeL.refl _) rfl rfl ⟨⟨_, _, rfl, rfl, LeB.refl _, rfl⟩, trivial⟩ rfl rfl rfl rfl ?_;refine ye ?_;apply yd;apply yb;refine yh ?_;refine yl rfl ?_ ?_<;>intro hc1
 ·apply yb;refine yh ?_;refine X.ret ?_;have he := (hcs.resolve_right (fun ⟨k, _, h, _⟩ => by omega)).2;have hrow1 : l = dlG p l := he.symm;refine zjL.mk (ts := [(4, .own 2000000)]) (.inr rfl) (yi) (.one (.tmp rfl (LeV.eq rfl)))
 have hZ1 := hcs.resolve_left (fun h => by omega);obtain ⟨k0, v0, hk0, hv0, hp0, hd0⟩ := hZ1;have hlt0 : k0 < l.length := (List.getElem?_eq_some_iff.1 hv0).1;have hd1 : dlG p (l.take (k0 + 1)) = l.take k0 := by rw [zfJ hv0, if_pos hp0, hd0, List.append_nil]
 have hl1 : (dlG p (l.take (k0 + 1))).length = k0 := by rw [hd1, List.length_take]; omega
 have hrow0 : l = dlG p (l.take (k0 + 1)) ++ l.drop (dlG p (l.take (k0 + 1))).length := by rw [hl1, hd1, List.take_append_drop]
 apply yf;apply yd;apply yb;refine yu ?_;apply X.block
 refine zp (ι := Nat) (fun (k : Nat) => [(0, .own 2000000), (1, .fn fp [.ept (fun _ : Unit => tmE x) () 0]), (5, iv ((dlG p (l.take k)).length : Int)), (6, iv (k : Int))]) (fun (k : Nat) => [(1000001, .hold vs []), (2000000, .row rdgE (dlG p (l.take k) ++ l.drop (dlG p (l.take k)).length) 35 4)]) (fun (k : Nat) => k <= l.length /\ (dlG p (l.take k)).length < k) (fun (k : Nat) => l.length - k) (k0 + 1) (fun k hk => ?_) (hJ := by
  exact ⟨by omega, by omega⟩) (h0 := by
  refine Imp.of ⟨⟨_, rfl, LeV.refl _⟩, ⟨_, rfl, LeV.refl _⟩, ⟨_, rfl, LeV.eq (congrArg (AV.int .i64) (by omega))⟩, ⟨_, rfl, LeV.eq (congrArg (AV.int .i64) (by omega))⟩, trivial⟩ ⟨⟨_, rfl, LeB.refl _⟩, ⟨_, rfl, LeB.row hrow0⟩, trivial⟩)
 obtain ⟨hk1, hk2⟩ := hk;have hrl : (dlG p (l.take k) ++ l.drop (dlG p (l.take k)).length).length = l.length := by simp; omega
 apply yd;apply yb;refine zad ?_;refine yl rfl ?_ ?_<;>intro hc2
 ·obtain ⟨v, hv⟩ : ∃ v, l[k]? = some v := ⟨_, lgg (by omega)⟩
  have hv2 : (dlG p (l.take k) ++ l.drop (dlG p (l.take k)).length)[(k : Int).toNat]? = some v := by
   rw [Int.toNat_natCast, List.getElem?_append_right (by omega), List.getElem?_drop, show (dlG p (l.take k)).length + (k - (dlG p (l.take k)).length) = k by omega]; exact hv
  apply yf;apply yd;apply X.block;apply yb;iterate 3 refine ya ?_
  refine zT (zaO rfl rfl hv2 rfl rfl ty35) rfl ?_;refine yJ ?_;refine Ex.mo ?_;apply yj;iterate 2 refine ya ?_
  refine ym (hp v (List.mem_of_getElem? hv)) ?_;refine ye ?_;refine yl rfl ?_ ?_<;>intro hc3
  ·have hdk : dlG p (l.take (k + 1)) = dlG p (l.take k) ++ [v] := by rw [zfJ hv, if_neg (by simp [hc3])]
   have hdl : (dlG p (l.take (k + 1))).length = (dlG p (l.take k)).length + 1 := by rw [hdk]; simp
   have hrow2 : (dlG p (l.take k) ++ l.drop (dlG p (l.take k)).length).set (((dlG p (l.take k)).length : Nat) : Int).toNat v = dlG p (l.take (k + 1)) ++ l.drop (dlG p (l.take (k + 1))).length := by
    rw [hdl, hdk, Int.toNat_natCast, List.set_append_right _ _ (Nat.le_refl _), Nat.sub_self];have h9 : (l.drop (dlG p (l.take k)).length).set 0 v = v :: l.drop ((dlG p (l.take k)).length + 1) := by rw [List.drop_eq_getElem_cons (show (dlG p (l.take k)).length < l.length by omega)]; rfl
    rw [h9]; simp
   apply yb;(iterate 4 refine ya ?_);refine Ex.mo ?_;apply Ex.nil;apply yc;refine yu ?_;apply yc;refine yu ?_
   refine y2 (k + 1) (hJ := by
    refine ⟨by omega, ?_⟩;rw [hdl];omega)
  ·have hdk : dlG p (l.take (k + 1)) = dlG p (l.take k) := by rw [zfJ hv, if_pos (by simpa using hc3), List.append_nil]
   have hdl : (dlG p (l.take (k + 1))).length = (dlG p (l.take k)).length := by rw [hdk]
   have hrow2 : dlG p (l.take k) ++ l.drop (dlG p (l.take k)).length = dlG p (l.take (k + 1)) ++ l.drop (dlG p (l.take (k + 1))).length := by rw [hdk]
   apply yf;apply yc;refine yu ?_
   refine y2 (k + 1) (hJ := by
    refine ⟨by omega, ?_⟩;rw [hdl];omega)
 ·have hkl : k = l.length := by omega
  subst hkl;have him : (((dlG p (l.take l.length)).length : Nat) : Int).toNat + ((dlG p (l.take l.length) ++ l.drop (dlG p (l.take l.length)).length).length - (((dlG p (l.take l.length)).length : Nat) : Int).toNat) = (dlG p (l.take l.length) ++ l.drop (dlG p (l.take l.length)).length).length := by rw [Int.toNat_natCast]; omega
  apply X.exit;apply yb;iterate 2 refine ya ?_
  refine zT (zbb rfl rfl rfl sl28 ty35 (by omega) (by omega)) rfl ?_;refine zab (zmk (⟨[], [], [], []⟩ : Rdg) rfl rfl (fun _ => rfl) (by decide) sl28 ti35 rdz rdz1 him) ?_;apply yj;iterate 2 refine ya ?_
  refine zab (zl9 rfl rfl rfl sl28 ty35 (by omega) (by simp; omega) rfl) ?_;refine ye ?_;refine X.ret ?_
  have hfin : List.take (((dlG p (l.take l.length)).length : Nat) : Int).toNat (List.take (((dlG p (l.take l.length)).length : Nat) : Int).toNat (dlG p (l.take l.length) ++ l.drop (dlG p (l.take l.length)).length) ++ List.replicate ((dlG p (l.take l.length) ++ l.drop (dlG p (l.take l.length)).length).length - (((dlG p (l.take l.length)).length : Nat) : Int).toNat) (⟨[], [], [], []⟩ : Rdg)) = dlG p l := by
   rw [Int.toNat_natCast, List.take_append_of_le_length (by simp), List.take_take, Nat.min_self, List.take_append_of_le_length (Nat.le_refl _), List.take_of_length_le (Nat.le_refl _), List.take_of_length_le (Nat.le_refl _)]
  refine zjL.mk (ts := [(4, .own 2000000)]) (.inr rfl) (yi) (.one (.tmp rfl (LeV.eq rfl)))
set_option maxHeartbeats 4000000 in
theorem zeN (m : Mn) (l : List Sg) (hl : l.length <= 1000) (hE : aqE m l = 0) : FnO Tryz.prog 9 [mnA m, sgsA l] [] [] (.tup [.own 30, iv 0]) [(30, .row rdgE (aqV m l) 35 4)] := by
 have hz0 : [] = aqN m l 0 := by unfold aqN; rfl
 refine FnO.introX (ts := [(0, mnA m), (1, sgsA l)]) (rv := [.tmp 4, .tmp 5]) (n := 46) (cs := []) (by kernel_rfl) Tryz.func9 rfl Tryz.ntmps9 rfl rfl (by simp) rfl rfl rfl rfl (fun g w d vs => ?_);apply yb;refine yI ?_;iterate 2 refine ya ?_
 apply yj;iterate 2 refine ya ?_
 refine ym (zbR m l hl) ?_;refine zh ?_;apply yd;apply yb;refine yh ?_;refine yl rfl ?_ ?_<;>intro hc1
 ·exact absurd hE (by rw [(zqH hc1).1]; exact hc1)
 have h0 : ictE m l = 0 := by omega
 have hZ1 := zkA h0;obtain ⟨hM, hck⟩ := hZ1;have hrg := zjo hM h0;apply yf;apply yb;refine ye ?_;iterate 2 apply yd
 refine X.imp (zb rdgE 35 4 8 30 rfl rfl) ?_;apply yc;refine yh ?_;apply X.block
 refine zp (ι := Nat) (fun (k : Nat) => [(1, sgsA l), (2, .ptr 2 0 0 0), (8, .own 30), (21, iv (ictV m l)), (22, iv (k : Int))]) (fun (k : Nat) => [(1000001, .hold vs []), (2, .box (mnE m) 24), (30, .row rdgE (aqN m l k) 35 4)]) (fun (k : Nat) => k <= (ictV m l).toNat /\ aqX m l k = true) (fun (k : Nat) => (ictV m l).toNat - k) 0 (fun k hk => ?_) (hJ := by
  exact ⟨Nat.zero_le _, by unfold aqX; rfl⟩) (h0 := by
  exact yD)
 obtain ⟨hk1, hX⟩ := hk;apply yb;refine ye ?_;apply yd;refine yl rfl ?_ ?_<;>intro hc2
 ·have hkn : (k : Int) < ictV m l := by omega
  have hie := zlq h0 hkn;have hit := zlr hM hck hie;have hsn := znS m l k;have hln := zhk hX;have hcl := zky m hl (k : Int);apply yf;apply yd;apply X.block;apply yb;iterate 2 refine ya ?_
  apply yj;iterate 3 refine ya ?_
  refine ym (zcm m l (k : Int) hl hM hie hit) ?_;refine zh ?_;apply yd;apply yb;refine yh ?_;refine yl rfl ?_ ?_<;>intro hc3
  ·exact absurd ((znc h0 hkn (.inl hc3)).1.symm.trans hE) (by decide)
  have hc0 : cmE m l (k : Int) = 0 := by omega
  apply yf;apply yb;iterate 2 refine ya ?_
  refine Ex.mo ?_;refine ya ?_;apply yj;refine yu ?_;refine yl rfl ?_ ?_<;>intro hc4
  ·exact absurd ((znc h0 hkn (.inr (by rw [← hsn]; omega))).1.symm.trans hE) (by decide)
  have hl4 : (aqN m l (k + 1)).length <= 4096 := by rw [← hsn]; omega
  apply yf;apply yc;refine yh ?_
  refine y2 (k + 1) (hJ := by
   exact ⟨by omega, zqI hX hc0 hl4⟩) (hI := yD)
 ·obtain rfl : k = (ictV m l).toNat := by omega
  apply X.exit;apply yd;apply yb;refine yu ?_;refine yl rfl ?_ ?_<;>intro hc5
  ·exact absurd ((zqJ h0 rfl hX (by omega)).1.symm.trans hE) (by decide)
  have hZ2 := zqK h0 rfl hX (by omega);obtain ⟨hE2, hV⟩ := hZ2;apply yf;apply yb;refine yu ?_;refine X.ret ?_;refine zgb (st' := ⟨[(4, .own 30), (5, iv 0)], [(1000001, .hold vs []), (30, .row rdgE (aqV m l) 35 4)]⟩) (by first | exact yi | exact yD) ?_;refine zjY.mk [(4, .own 30), (5, iv 0)] [] (.inr rfl) (.many (by decide) (.cons (.tmp rfl (LeV.eq ?_)) (.cons (.tmp rfl (LeV.eq ?_)) .nil)));all_goals (rfl)
set_option maxHeartbeats 4000000 in
theorem zfp (m : Mn) (l : List Sg) (x : Tm) (hl : l.length <= 1000) (hck : ckD m l = 0) (hx : ckT x = 0) (hE : aqE m l = 0) (hB : ∀ r ∈ aqV m l, r.Durs.length <= 1000000) : Fn Tryz.prog 21 [mnA m, sgsA l, tmA x] (.tup [zL (whV m l x), iv 0]) := by
 have hW : dlG (fun r => !decide (toT r = x)) (aqV m l) = whV m l x := zpY m l x;refine Fn.go Tryz.func21 Tryz.ntmps21 (fun g w d => ?_);apply yb;iterate 2 refine yI ?_
 refine yh ?_;apply yd;apply yb;iterate 2 refine ya ?_
 refine ym (za1 m l hl) ?_;refine ya ?_;apply yj;refine yh ?_;refine yl rfl ?_ ?_<;>intro hc1
 ·exact absurd hck hc1
 apply yf;apply yd;apply yb;refine ya ?_;refine ym (zcd x) ?_;refine ya ?_;apply yj;refine yh ?_;refine yl rfl ?_ ?_<;>intro hc2
 ·exact absurd hx hc2
 apply yf;apply yb;iterate 2 refine ya ?_
 refine zY [(30, 26)] (zeN m l hl hE) ?_;refine zh ?_;apply yd;apply yb;refine yh ?_;refine yl rfl ?_ ?_<;>intro hc3
 ·simp at hc3
 apply yf;apply yb;refine ya ?_;refine Ex.imp (yX (k := 5) rfl rfl) ?_;refine zT (zdx rfl) rfl ?_;refine zY [(2000000, 26), (2000002, 34)] (zdB 2000002 (zM (aqV m l) (by have := ze6 m l; omega) 61 x (fun r => !decide (toT r = x)) (fun r hr => zeh x r (by have := hB r hr; omega))) rfl) ?_;refine yh ?_;refine X.ret ?_;refine RetQ.imp (Imp.freeze (k := 34) rfl) ?_;refine yx ?_ ?_;all_goals (first | rfl | exact congrArg (fun z => zL z) hW)
end Go.Rse
namespace Go.Proofs
open Go.Shelf
def zdH : Go.Shelf.Ren := ⟨fun | 6 => 56 | 15 => 104 | 14 => 103 | 28 => 155 | 29 => 156 | 20 => 147 | 21 => 148 | 22 => 149 | 23 => 150 | 24 => 151 | 25 => 152 | 26 => 153 | 27 => 154 | 46 => 184 | 47 => 185 | 48 => 186 | 49 => 187 | 50 => 188 | 57 => 199 | n => n, fun | 22 => 33 | 24 => 46 | 25 => 115 | 3 => 3 | 39 => 172 | 0 => 0 | 53 => 232 | 55 => 234 | 4 => 4 | 46 => 225 | 45 => 224 | 50 => 229 | 5 => 5 | 9 => 9 | 66 => 259 | 70 => 263 | 76 => 273 | 77 => 186 | n => n, fun | n => n⟩
theorem zge : Go.Proofs.SlLaysF0.n6 Tryz.prog zdH := {
 mixed := by kernel_rfl
 f6 := ⟨Tryz.f56.name, by decide, Tryz.func56.trans (congrArg some (by kernel_rfl))⟩
 f14 := ⟨Tryz.f103.name, by decide, Tryz.func103.trans (congrArg some (by kernel_rfl))⟩
 f15 := Tryz.func104.trans (congrArg some (by kernel_rfl))
 f20 := ⟨Tryz.f147.name, by decide, Tryz.func147.trans (congrArg some (by kernel_rfl))⟩
 f21 := ⟨Tryz.f148.name, by decide, Tryz.func148.trans (congrArg some (by kernel_rfl))⟩
 f22 := ⟨Tryz.f149.name, by decide, Tryz.func149.trans (congrArg some (by kernel_rfl))⟩
 f23 := ⟨Tryz.f150.name, by decide, Tryz.func150.trans (congrArg some (by kernel_rfl))⟩
 f24 := ⟨Tryz.f151.name, by decide, Tryz.func151.trans (congrArg some (by kernel_rfl))⟩
 f25 := ⟨Tryz.f152.name, by decide, Tryz.func152.trans (congrArg some (by kernel_rfl))⟩
 f26 := ⟨Tryz.f153.name, by decide, Tryz.func153.trans (congrArg some (by kernel_rfl))⟩
 f27 := ⟨Tryz.f154.name, by decide, Tryz.func154.trans (congrArg some (by kernel_rfl))⟩
 f28 := Tryz.func155.trans (congrArg some (by kernel_rfl))
 f29 := Tryz.func156.trans (congrArg some (by kernel_rfl))
 f46 := ⟨Tryz.f184.name, by decide, Tryz.func184.trans (congrArg some (by kernel_rfl))⟩
 f47 := Tryz.func185.trans (congrArg some (by kernel_rfl))
 f48 := Tryz.func186.trans (congrArg some (by kernel_rfl))
 f49 := ⟨Tryz.f187.name, by decide, Tryz.func187.trans (congrArg some (by kernel_rfl))⟩
 f50 := ⟨Tryz.f188.name, by decide, Tryz.func188.trans (congrArg some (by kernel_rfl))⟩
 f57 := ⟨Tryz.f199.name, by decide, Tryz.func199.trans (congrArg some (by kernel_rfl))⟩
 t0 := Tryz.underlying0
 a0 := Tryz.isAgg0
 z0 := Tryz.sizeOf0
 v0 := Tryz.zeroValue0
 t3 := Tryz.underlying3
 a3 := Tryz.isAgg3
 z3 := Tryz.sizeOf3
 v3 := Tryz.zeroValue3
 t4 := Tryz.underlying4
 a4 := Tryz.isAgg4
 z4 := Tryz.sizeOf4
 v4 := Tryz.zeroValue4
 t5 := Tryz.underlying5
 a5 := Tryz.isAgg5
 z5 := Tryz.sizeOf5
 v5 := Tryz.zeroValue5
 t9 := Tryz.underlying9
 a9 := Tryz.isAgg9
 z9 := Tryz.sizeOf9
 v9 := Tryz.zeroValue9
 t22 := Tryz.underlying33
 a22 := Tryz.isAgg33
 z22 := Tryz.sizeOf33
 v22 := Tryz.zeroValue33
 t25 := Tryz.underlying115
 a25 := Tryz.isAgg115
 z25 := Tryz.sizeOf115
 v25 := Tryz.zeroValue115
 t39 := Tryz.underlying172
 a39 := Tryz.isAgg172
 z39 := Tryz.sizeOf172
 v39 := Tryz.zeroValue172
 t45 := Tryz.underlying224
 a45 := Tryz.isAgg224
 z45 := Tryz.sizeOf224
 v45 := Tryz.zeroValue224
 t46 := Tryz.underlying225
 a46 := Tryz.isAgg225
 z46 := Tryz.sizeOf225
 v46 := Tryz.zeroValue225
 t50 := Tryz.underlying229
 a50 := Tryz.isAgg229
 z50 := Tryz.sizeOf229
 v50 := Tryz.zeroValue229
 t53 := Tryz.underlying232
 a53 := Tryz.isAgg232
 z53 := Tryz.sizeOf232
 v53 := Tryz.zeroValue232
 t55 := Tryz.underlying234
 a55 := Tryz.isAgg234
 z55 := Tryz.sizeOf234
 v55 := Tryz.zeroValue234
 t66 := Tryz.underlying259
 a66 := Tryz.isAgg259
 z66 := Tryz.sizeOf259
 v66 := Tryz.zeroValue259
 t70 := Tryz.underlying263
 a70 := Tryz.isAgg263
 z70 := Tryz.sizeOf263
 v70 := Tryz.zeroValue263
 t76 := Tryz.underlying273
 a76 := Tryz.isAgg273
 z76 := Tryz.sizeOf273
 v76 := Tryz.zeroValue273
 t77 := Tryz.underlying186
 a77 := Tryz.isAgg186
 z77 := Tryz.sizeOf186
 v77 := Tryz.zeroValue186 }
end Go.Proofs
namespace Go.Rse
open Go Go.Proofs Go.Sort
theorem zhL (l : List Tm) (hl : l.length <= 4000000000) (hok : ∀ t ∈ l, ckT t = 0) :
 FnO Tryz.prog 56 [.own 2000000, .fn 57 []] [(2000000, .row tmE l 46 2)] [2000000] (.tup []) [(2000000, .row tmE (msT l) 46 2)] :=
 zng zge (by kernel_rfl) tmE 2 (by decide) _ l hl (fun t => ckT t = 0) cmpV _ Tryz.isAgg46 Tryz.sizeOf46 (fun _ => rfl)
  (fun t c hc => by simp [tmE] at hc; rcases hc with rfl | rfl <;> rfl) (fun x y _ _ => zeg x y) hok
  (fun x hx => by rw [zjC hx hx, if_neg (zho x), if_neg (zho x)])
  (fun x y z hx hy hz h1 h2 => (ze7 hx hz).2 (zpk hx hy hz ((ze7 hx hy).1 h1) ((ze7 hy hz).1 h2)))
  (fun x y z hx hy hz h1 h2 => (zbB hx hz).2 (zlK hx hy hz ((zbB hx hy).1 h1) ((zbB hy hz).1 h2)))
  (fun x y hx hy h1 h2 => zh8 hx hy ((zbB hx hy).1 h1) ((zbB hy hx).1 h2))
  (fun x y hx hy => by
   rw [zbB hx hy, zbB hy hx];by_cases h3 : ltT x y
   ·exact .inr (zfI h3)
   ·exact .inl h3)
theorem zpZ {P : Program} {K : TypeId} (h : ∃ f1 f2 : Field, P.underlying K = some (.struct #[f1, f2]) /\ f1.name ≠ "_" /\ f2.name ≠ "_" /\ P.plainKey f1.type = true /\ P.plainKey f2.type = true /\ f1.offset = 0 /\ f2.offset = 1 /\ P.underlying f1.type = some (.int .i64) /\ P.underlying f2.type = some (.int .i64)) (em : Bool) (w : World) (a b : Int) :
 (Instr.checkKey em 10000 K (.agg #[.int .i64 a, .int .i64 b])).run P w = .ok () w := by
 obtain ⟨f1, f2, h1, h2, h3, h4, h5, h6, h7, h8, h9⟩ := h;exact chk2 em w h1 h2 h3 h4 h5 h6 h7 h8 h9
def znR (t : Tm) : Value := .agg #[.int .i64 t.N, .int .i64 t.D]
theorem zoq : KeyL Tryz.prog 46 (fun t : Tm => tmA t) znR where
 val := fun I ρ x v h => by
  obtain ⟨vs, rfl, hl, hv⟩ := zaW h
  match vs, hl with
  | [a, b], _ =>
   have h1 := y5 (hv 0 _ a rfl rfl);have h2 := y5 (hv 1 _ b rfl rfl);subst h1; subst h2; rfl
 of := fun I ρ x => .agg _ [.int .i64 x.N, .int .i64 x.D] rfl fun j c v hc hv => by
  rcases j with _ | _ | j
  ·simp [tmE] at hc hv; subst hc; subst hv; exact .int _ _
  ·simp [tmE] at hc hv; subst hc; subst hv; exact .int _ _
  ·simp [tmE] at hc
 chk := fun em w x => zpZ ⟨_, _, Tryz.underlying46, by decide, by decide, by kernel_rfl, by kernel_rfl, rfl, rfl, by kernel_rfl, by kernel_rfl⟩ em w x.N x.D
 wide := by kernel_rfl
 eq := fun w x y => by
  have h := za6 (P := Tryz.prog) (t := 46) (d := 2) (w := w) (I := fun _ _ => none) (ρ := yy) (xs := tmE x) (ys := tmE y) (vs := [.int .i64 x.N, .int .i64 x.D]) (us := [.int .i64 y.N, .int .i64 y.D]) (by kernel_rfl) (by decide)
   ⟨rfl, fun j c v hc hv => by
    rcases j with _ | _ | j
    ·simp [tmE] at hc hv; subst hc; subst hv; exact .int _ _
    ·simp [tmE] at hc hv; subst hc; subst hv; exact .int _ _
    ·simp [tmE] at hc⟩
   ⟨rfl, fun j c v hc hv => by
    rcases j with _ | _ | j
    ·simp [tmE] at hc hv; subst hc; subst hv; exact .int _ _
    ·simp [tmE] at hc hv; subst hc; subst hv; exact .int _ _
    ·simp [tmE] at hc⟩ (by kernel_rfl) (by kernel_rfl) (by kernel_rfl) (b := decide (x = y)) (zhD x y)
  exact h
 stay := fun w x => by simp [Instr.keyThatStays, Instr.sameBits, znR]
theorem zp0 {r : Rdg} : tmA (sumV r.Durs) = (fun t : Tm => tmA t) (toT r) := rfl
theorem zor (m : Mn) (l : List Sg) : srtD (enL m l) = enV m l := rfl
theorem zmr {m : Mn} {l : List Sg} (h : ¬ aqE m l = 0) : enV m l = [] := by
 have : aqV m l = [] := by unfold aqV; rw [if_neg h]
 unfold enV enL srtD; rw [this]; simp [kyF, msT]
theorem zms (m : Mn) (l : List Sg) : (enL m l).length = (aqV m l).length := by unfold enL; rw [List.length_map]
theorem zkw {κ α : Type} [DecidableEq κ] (q : κ) (x : α) (l : List (κ × α)) : (kput q x l).length <= l.length + 1 := by unfold kput; split <;> simp
theorem zmt (L : List Tm) : (kyF L).length <= L.length := by
 have key : ∀ (L : List Tm) (a : List (Tm × Bool)), (L.foldl (fun a t => kput t true a) a).length <= a.length + L.length := by
  intro L
  induction L with
  | nil => intro a; simp
  | cons t r ih =>
   intro a;have h1 := ih (kput t true a);have h2 := zkw t true a;simp only [List.foldl_cons, List.length_cons]; omega
 have := key L [];unfold kyF; simpa using this
attribute [local irreducible] Pur yA yC Ex X Fn Imp LeV LeB FnO It yF FnW FnOW
attribute [local irreducible] aqV aqE sumV sumE kyF enL enV msT ouL toT
set_option maxHeartbeats 4000000 in
theorem zct (m : Mn) (l : List Sg) (hl : l.length <= 1000) (hS : ∀ r ∈ aqV m l, ckT (toT r) = 0) (hB : ∀ r ∈ aqV m l, r.Durs.length <= 1000000) : Fn Tryz.prog 20 [mnA m, sgsA l] (.tup [tmsA (enV m l), iv (aqE m l)]) := by
 have hln := ze6 m l;have hel := zms m l;have hky := zmt (enL m l)
 have hL : ∀ t ∈ enL m l, ckT t = 0 := fun t ht => by
  unfold enL at ht;have hZ1 := List.mem_map.1 ht;obtain ⟨r, hr, rfl⟩ := hZ1;exact hS r hr
 have hz0 : [] = kyF ((enL m l).take 0) := by unfold kyF; rfl
 refine Fn.go Tryz.func20 Tryz.ntmps20 (fun g w d => ?_);apply yb;refine yI ?_;iterate 2 refine ya ?_
 apply yj;iterate 2 refine ya ?_
 refine ym (zbL m l hl) ?_;refine zh ?_;apply yd;apply yb;refine yh ?_;refine yl rfl ?_ ?_<;>intro hc1
 ·have hV := zmr hc1;apply yb;refine yu ?_;refine X.ret ?_;refine RetQ.imp (yi (ts := [(4, tmsA []), (5, iv (aqE m l))]) (hs := [])) ?_;refine yx ?_ ?_;all_goals (first | (rw [hV]; done) | (rw [h0]; done) | rfl | exact congrArg (fun z => tmsA z) hfin | exact congrArg (AV.int .i64) h0.symm)
 have h0 : aqE m l = 0 := by omega
 apply yf;apply yb;refine Ex.stepA (zex (k := 22) (fun t : Tm => tmA t) AV.bool) rfl rfl ?_;refine ye ?_;apply yd;apply yb;refine yu ?_;apply X.block
 refine zp (ι := Nat) (fun (k : Nat) => [(6, zL (aqV m l)), (8, .mp 22), (23, zL (aqV m l)), (24, iv ((aqV m l).length : Int)), (25, iv (k : Int))]) (fun (k : Nat) => [(22, .mpb (fun t : Tm => tmA t) AV.bool (kyF ((enL m l).take k)))]) (fun (k : Nat) => k <= (aqV m l).length) (fun (k : Nat) => (aqV m l).length - k) 0 (fun k hk => ?_) (h0 := by
  exact yD)
 apply yb;refine ye ?_;apply yd;refine yl rfl ?_ ?_<;>intro hc2
 ·obtain ⟨r, hr⟩ : ∃ r, (aqV m l)[k]? = some r := ⟨_, lgg (by omega)⟩;have hr2 : (aqV m l)[(k : Int).toNat]? = some r := by simpa using hr
  have hke : (enL m l)[k]? = some (toT r) := by unfold enL; rw [List.getElem?_map, hr]; rfl
  have hks := zqM hke;apply yf;apply yd;apply X.block;apply yb;iterate 2 refine ya ?_
  refine yJ ?_;refine Ex.mo ?_;apply Ex.nil;apply yc;iterate 3 refine ya ?_
  refine ym (zcl r.Durs (by have := hB r (List.mem_of_getElem? hr); omega)) ?_;refine zab (zhI (q := toT r) (venc := AV.bool) true zoq rfl rfl rfl zp0 rfl rfl Tryz.underlying111 (fun _ _ => rfl)) ?_;apply Ex.nil;apply yc;refine yh ?_;refine y2 (k + 1) (hI := yD)
 ·obtain rfl : k = (aqV m l).length := by omega
  have hkf : kyF ((enL m l).take (aqV m l).length) = kyF (enL m l) := by rw [← hel, List.take_length]
  have hzo := zqO (kyF (enL m l));apply X.exit;apply yd;refine X.imp (st' := ⟨[(8, .mp 22)], [(22, .mpb (fun t : Tm => tmA t) AV.bool (kyF (enL m l)))]⟩) yD ?_;apply yc;refine ye ?_;iterate 2 apply yd
  refine X.imp (zb tmE 46 2 11 30 rfl rfl) ?_;apply yc;refine ya ?_;refine zpA (K := 46) (E := 4) 1000002 (fun b bm => ?_) (ht := Tryz.underlying111);apply Ex.nil;apply X.block
  refine zp (ι := Array Nat) (fun (s : Array Nat) => [(8, .mp 22), (11, .own 30), (35, .val (.pointer (some ⟨b, 0, none⟩)))]) (fun (s : Array Nat) => [(1000002, .hold [.map (some bm)] [.mp 22]), (35, .obj b (.mapIter (some bm) (kyF (enL m l)).length s (kyF (enL m l)).length)), (22, .mpb (fun t : Tm => tmA t) AV.bool (kyF (enL m l))), (30, .row tmE (ouL (kyF (enL m l)) s) 46 2)]) (fun (s : Array Nat) => RgJ (kyF (enL m l)).length s) (fun (s : Array Nat) => (kyF (enL m l)).length - s.size) #[] (fun s hk => ?_) (hJ := by
   exact zqN _) (h0 := by
   exact yD)
  have hJ := hk;apply yb;refine Ex.nxt (k := 22) (kb := 35) (kh := 1000002) (fun mo i hmo hmi => ?_);apply Ex.nil;apply yd;refine yl rfl ?_ ?_<;>intro hc3
  ·subst hc3;have hZ2 := hmi rfl;obtain ⟨hi1, hi2⟩ := hZ2;obtain ⟨p, hp⟩ : ∃ p, (kyF (enL m l))[i]? = some p := ⟨_, lgg hi1⟩;have hou := zqP (s := s) hp;have hol := zjD (kyF (enL m l)) s;have hjl := hJ.le;apply yf;apply X.block;apply yb;refine ya (x := .tup [tmA p.1, .bool p.2]) (hs := znx (kb := 35) (kh := 1000002) p hp rfl rfl rfl rfl (fun _ _ => rfl) (fun _ _ => rfl)) ?_;refine ya ?_;refine yJ ?_;refine Ex.mo ?_;apply Ex.nil;apply yc;(iterate 2 refine ya ?_);refine zi tmE [p.1] ?_;refine Ex.mo ?_;refine ye ?_
   refine y2 (s.push i) (hJ := by
    exact hJ.s hi1 hi2) (hm := by have h9 := (hJ.s hi1 hi2).le; rw [Array.size_push] at h9; simp only [Array.size_push]; omega) (hI := yD)
  ·subst hc3;have hfin : msT (ouL (kyF (enL m l)) s) = enV m l := (zpn hL hJ (hmo rfl)).trans (zor m l);have hok : ∀ t ∈ ouL (kyF (enL m l)) s, ckT t = 0 := fun t ht => hL t (((zhp _).2 t).1 (zhr hJ ht))
   apply X.exit;apply yb;refine ya ?_;refine zY [(2000000, 30)] (zhL (ouL (kyF (enL m l)) s) (by rw [zjD]; have := hJ.le; omega) hok) ?_;apply yj;refine yu ?_;refine X.ret ?_;refine RetQ.imp (Imp.freeze (k := 30) rfl) ?_;refine yx ?_ ?_;all_goals (first | (rw [hV]; done) | (rw [h0]; done) | rfl | exact congrArg (fun z => tmsA z) hfin | exact congrArg (AV.int .i64) h0.symm)
end Go.Rse
