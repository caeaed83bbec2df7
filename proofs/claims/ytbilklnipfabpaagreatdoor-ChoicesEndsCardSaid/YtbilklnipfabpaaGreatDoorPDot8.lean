/-
  Walks: the cuts and additions of chosen meanings.
-/
import Derived.Test.YtbilklnipfabpaaGreatDoorPJDot4
import Derived.Test.YtbilklnipfabpaaGreatDoorPLogC
import Derived.Test.YtbilklnipfabpaaGreatDoorPLogB
set_option linter.unusedSimpArgs false
set_option linter.unusedVariables false
namespace Go.Rse
open Go Go.Proofs
attribute [local irreducible] Pur yx yz Ex X Fn Imp LeV LeB FnO It yC
theorem zlC (x : Int) (l : List Int) : decide (0 <= fidx (fun u => decide (x = u)) l) = decide (x ∈ l) := by
 by_cases h : x ∈ l
 ·have : l.findIdx (fun u => decide (x = u)) < l.length := List.findIdx_lt_length_of_exists ⟨x, h, by simp⟩;simp only [fidx, if_pos this, h]; simp
 ·have h2 : l.findIdx (fun u => decide (x = u)) = l.length := List.findIdx_eq_length.2 fun u hu => decide_eq_false fun e => h (e ▸ hu)
  have : ¬ l.findIdx (fun u => decide (x = u)) < l.length := by omega
  simp only [fidx, if_neg this, h]; simp
theorem zca (l : List Int) (x : Int) (hl : l.length <= 4000000000) : Fn Tryz.prog 174 [yg l, iv x] (iv (fidx (fun u => decide (x = u)) l)) := by
 refine Fn.go Tryz.func174 Tryz.ntmps174 (fun g w d => ?_);apply yb;refine ye ?_;apply yd;apply yb;refine yn ?_;apply X.block
 refine zh (ι := Nat) (fun (k : Nat) => [(0, yg l), (1, iv x), (7, iv l.length), (8, iv (k : Int))]) (fun (k : Nat) => []) (fun (k : Nat) => k <= l.length /\ ∀ i u, i < k -> l[i]? = some u -> decide (x = u) = false) (fun (k : Nat) => l.length - k) 0 (fun k hk => ?_) (hJ := by
  exact ⟨by omega, fun i u h => absurd h (Nat.not_lt_zero i)⟩)
 obtain ⟨hk1, hk2⟩ := hk;apply yb;refine ye ?_;apply yd;refine yk rfl ?_ ?_<;>intro hc1
 ·obtain ⟨v, hv⟩ : ∃ v, l[k]? = some v := ⟨_, lgg (by omega)⟩;have hv2 : l[(k : Int).toNat]? = some v := by simpa using hv
  apply yf;apply yd;apply X.block;apply yb;iterate 2 refine ya ?_
  apply yj;iterate 5 refine ya ?_
  refine ye ?_;refine yk rfl ?_ ?_<;>intro hc2
  ·apply yb;refine yh ?_;refine X.ret ?_;refine ym ?_;all_goals (congr 1; exact (ziX hv (by simpa using hc2) hk2).symm)
  apply yf;apply yc;refine yh ?_
  refine yP (k + 1) (hJ := by
   refine ⟨by omega, fun i u hi hu => ?_⟩;rcases Nat.lt_succ_iff_lt_or_eq.1 hi with h | h
   ·exact hk2 i u h hu
   ·subst h; rw [hv] at hu; injection hu with hu; subst hu; simpa using hc2)
 ·apply X.exit;apply yb;refine ye ?_;refine X.ret ?_;refine ym ?_;all_goals (congr 1; exact (zhd (fun i u hi => hk2 i u (by omega))).symm)
theorem zk (l : List Int) (x : Int) (hl : l.length <= 4000000000) : Fn Tryz.prog 130 [yg l, iv x] (.bool (decide (x ∈ l))) := by
 refine Fn.go Tryz.func130 Tryz.ntmps130 (fun g w d => ?_);apply yb;refine ya ?_;apply yj;iterate 2 refine ya ?_
 refine yq (zca l x hl) ?_;refine yh ?_;refine X.ret ?_;refine ym ?_;all_goals (congr 1; exact zlC x l)
theorem zgL (v : Int) (a : List Int) (b : List Bool) (ha : 1 <= a.length) (hb : 1 <= b.length) (ha2 : a.length <= 1000) (hb2 : b.length <= 1000) : FnO Tryz.prog 131 [iv v, .ptr 2000000 0 0 0, .ptr 2000001 0 0 0] [(2000000, .box [.own 2000002] 22), (2000001, .box [.own 2000003] 138), (2000002, .row intE a 3 1), (2000003, .row yX b 4 1)] [2000000, 2000001, 2000002, 2000003] (.tup []) [(2000000, .box [.own 2000002] 22), (2000001, .box [.own 2000003] 138), (2000002, .row intE (a.set ((a.length : Int) - 1).toNat v) 3 1), (2000003, .row yX (b.set ((b.length : Int) - 1).toNat (decide (v = 0))) 4 1)] := by
 refine FnO.intro (ts := [(0, iv v), (1, .ptr 2000000 0 0 0), (2, .ptr 2000001 0 0 0)]) (rv := []) (n := 17) (cs := [.ptr 2000000 0 0 0, .ptr 2000001 0 0 0, .own 2000002, .own 2000003]) (by kernel_rfl) Tryz.func131 rfl Tryz.ntmps131 rfl rfl (by simp) rfl rfl rfl rfl (fun g w d vs => ?_);refine X.drawP [⟨0, 4, .own 2000002, []⟩, ⟨1, 5, .own 2000002, []⟩, ⟨2, 6, iv a.length, [1]⟩, ⟨3, 7, iv ((a.length : Int) - 1), [1, 2]⟩, ⟨4, 8, .own 2000003, []⟩, ⟨5, 9, .own 2000003, []⟩, ⟨6, 10, iv b.length, [5]⟩, ⟨7, 11, iv ((b.length : Int) - 1), [5, 6]⟩, ⟨8, 12, iv v, []⟩, ⟨9, 13, iv v, []⟩, ⟨10, 14, .bool (decide (v = 0)), [9]⟩, ⟨11, 15, .ptr 2000002 1 ((a.length : Int) - 1).toNat 0, [8, 2, 1, 3, 0]⟩, ⟨13, 16, .ptr 2000003 1 ((b.length : Int) - 1).toNat 0, [12, 11, 10, 9, 8, 6, 5, 3, 2, 1, 0, 7, 4]⟩] [(12, [3, 2, 1, 0, 8, 11]), (14, [11, 9, 8, 7, 6, 5, 4, 3, 2, 1, 0, 12, 10, 13])] (fun j => ⟨[(0, iv v), (1, .ptr 2000000 0 0 0), (2, .ptr 2000001 0 0 0)], match j with | 0 => [(1000001, .hold vs [.ptr 2000000 0 0 0, .ptr 2000001 0 0 0, .own 2000002, .own 2000003]), (2000000, .box [.own 2000002] 22), (2000001, .box [.own 2000003] 138), (2000002, .row intE (a) 3 1), (2000003, .row yX (b) 4 1)] | 1 => [(1000001, .hold vs [.ptr 2000000 0 0 0, .ptr 2000001 0 0 0, .own 2000002, .own 2000003]), (2000000, .box [.own 2000002] 22), (2000001, .box [.own 2000003] 138), (2000002, .row intE (a.set ((a.length : Int) - 1).toNat v) 3 1), (2000003, .row yX (b) 4 1)] | _ => [(1000001, .hold vs [.ptr 2000000 0 0 0, .ptr 2000001 0 0 0, .own 2000002, .own 2000003]), (2000000, .box [.own 2000002] 22), (2000001, .box [.own 2000003] 138), (2000002, .row intE (a.set ((a.length : Int) - 1).toNat v) 3 1), (2000003, .row yX (b.set ((b.length : Int) - 1).toNat (decide (v = 0))) 4 1)]⟩) mo (by kernel_rfl) (zbf (yi)) (fun j hj => ?_) (fun j c hc β hβ => ?_) ?_
 ·rcases j with _ | _ | _ | j
  ·first
    | refine ⟨.inr ⟨_, rfl, rfl, rfl, rfl, yJ rfl rfl rfl ty22⟩, ?_⟩
    | refine ⟨.inr ⟨_, rfl, rfl, rfl, rfl, zap rfl rfl rfl ty22⟩, ?_⟩
    | refine ⟨.inr ⟨_, rfl, rfl, rfl, rfl, zaq rfl rfl (by assumption) rfl rfl ty22⟩, ?_⟩
   first
    | refine ⟨.inr ⟨_, rfl, rfl, rfl, rfl, yJ rfl rfl rfl ty22⟩, ?_⟩
    | refine ⟨.inr ⟨_, rfl, rfl, rfl, rfl, zap rfl rfl rfl ty22⟩, ?_⟩
    | refine ⟨.inr ⟨_, rfl, rfl, rfl, rfl, zaq rfl rfl (by assumption) rfl rfl ty22⟩, ?_⟩
   first
    | refine ⟨.inr ⟨_, rfl, rfl, rfl, rfl, zeo rfl sl22⟩, ?_⟩
    | refine ⟨.inr ⟨_, rfl, rfl, rfl, rfl, zdj rfl rfl sl22⟩, ?_⟩
    | refine ⟨.inr ⟨_, rfl, rfl, rfl, rfl, zcj rfl sl22⟩, ?_⟩
   refine ⟨.inr ⟨_, rfl, rfl, rfl, rfl, zkQ rfl rfl (IntWalk.i64_in _ (by omega))⟩, ?_⟩
   first
    | refine ⟨.inr ⟨_, rfl, rfl, rfl, rfl, yJ rfl rfl rfl z7⟩, ?_⟩
    | refine ⟨.inr ⟨_, rfl, rfl, rfl, rfl, zap rfl rfl rfl z7⟩, ?_⟩
    | refine ⟨.inr ⟨_, rfl, rfl, rfl, rfl, zaq rfl rfl (by assumption) rfl rfl z7⟩, ?_⟩
   first
    | refine ⟨.inr ⟨_, rfl, rfl, rfl, rfl, yJ rfl rfl rfl z7⟩, ?_⟩
    | refine ⟨.inr ⟨_, rfl, rfl, rfl, rfl, zap rfl rfl rfl z7⟩, ?_⟩
    | refine ⟨.inr ⟨_, rfl, rfl, rfl, rfl, zaq rfl rfl (by assumption) rfl rfl z7⟩, ?_⟩
   first
    | refine ⟨.inr ⟨_, rfl, rfl, rfl, rfl, zeo rfl zaw⟩, ?_⟩
    | refine ⟨.inr ⟨_, rfl, rfl, rfl, rfl, zdj rfl rfl zaw⟩, ?_⟩
    | refine ⟨.inr ⟨_, rfl, rfl, rfl, rfl, zcj rfl zaw⟩, ?_⟩
   refine ⟨.inr ⟨_, rfl, rfl, rfl, rfl, zkQ rfl rfl (IntWalk.i64_in _ (by omega))⟩, ?_⟩;(iterate 2 refine ⟨.inr ⟨_, rfl, rfl, rfl, rfl, zjQ rfl⟩, ?_⟩);refine ⟨.inr ⟨_, rfl, rfl, rfl, rfl, znd rfl rfl⟩, ?_⟩
   first
    | refine ⟨.inr ⟨_, rfl, rfl, rfl, rfl, zaT rfl rfl sl22 ty3 (fun _ => rfl) (by omega) (by assumption)⟩, ?_⟩
    | refine ⟨.inr ⟨_, rfl, rfl, rfl, rfl, zcU rfl rfl rfl sl22 ty3 (by omega) (by omega)⟩, ?_⟩
   refine ⟨.inl rfl, ?_⟩;exact True.intro
  ·iterate 4 refine ⟨.inl rfl, ?_⟩
   first
    | refine ⟨.inr ⟨_, rfl, rfl, rfl, rfl, yJ rfl rfl rfl z7⟩, ?_⟩
    | refine ⟨.inr ⟨_, rfl, rfl, rfl, rfl, zap rfl rfl rfl z7⟩, ?_⟩
    | refine ⟨.inr ⟨_, rfl, rfl, rfl, rfl, zaq rfl rfl (by assumption) rfl rfl z7⟩, ?_⟩
   first
    | refine ⟨.inr ⟨_, rfl, rfl, rfl, rfl, yJ rfl rfl rfl z7⟩, ?_⟩
    | refine ⟨.inr ⟨_, rfl, rfl, rfl, rfl, zap rfl rfl rfl z7⟩, ?_⟩
    | refine ⟨.inr ⟨_, rfl, rfl, rfl, rfl, zaq rfl rfl (by assumption) rfl rfl z7⟩, ?_⟩
   first
    | refine ⟨.inr ⟨_, rfl, rfl, rfl, rfl, zeo rfl zaw⟩, ?_⟩
    | refine ⟨.inr ⟨_, rfl, rfl, rfl, rfl, zdj rfl rfl zaw⟩, ?_⟩
    | refine ⟨.inr ⟨_, rfl, rfl, rfl, rfl, zcj rfl zaw⟩, ?_⟩
   refine ⟨.inr ⟨_, rfl, rfl, rfl, rfl, zkQ rfl rfl (IntWalk.i64_in _ (by omega))⟩, ?_⟩;refine ⟨.inl rfl, ?_⟩;refine ⟨.inr ⟨_, rfl, rfl, rfl, rfl, zjQ rfl⟩, ?_⟩;refine ⟨.inr ⟨_, rfl, rfl, rfl, rfl, znd rfl rfl⟩, ?_⟩;refine ⟨.inl rfl, ?_⟩
   first
    | refine ⟨.inr ⟨_, rfl, rfl, rfl, rfl, zaT rfl rfl zaw ty4 (fun _ => rfl) (by omega) (by assumption)⟩, ?_⟩
    | refine ⟨.inr ⟨_, rfl, rfl, rfl, rfl, zcU rfl rfl rfl zaw ty4 (by omega) (by omega)⟩, ?_⟩
   exact True.intro
  ·(iterate 13 refine ⟨.inl rfl, ?_⟩);exact True.intro
  ·exact absurd (show j + 3 <= 2 from hj) (by omega)
 ·rcases j with _ | _ | j
  ·obtain rfl : (12, [3, 2, 1, 0, 8, 11]) = c := by injection hc
   refine yo rfl (yK (st0 := ⟨[(4, .own 2000002), (5, .own 2000002), (6, iv a.length), (7, iv ((a.length : Int) - 1)), (8, .ifb (β 4) (.own 2000003)), (9, .ifb (β 5) (.own 2000003)), (10, .ifb (β 6) (iv b.length)), (11, .ifb (β 7) (iv ((b.length : Int) - 1))), (12, iv v), (13, .ifb (β 9) (iv v)), (14, .ifb (β 10) (.bool (decide (v = 0)))), (15, .ptr 2000002 1 ((a.length : Int) - 1).toNat 0), (16, .ifb (β 13) (.ptr 2000003 1 ((b.length : Int) - 1).toNat 0)), (0, iv v), (1, .ptr 2000000 0 0 0), (2, .ptr 2000001 0 0 0)], [(1000001, .hold vs [.ptr 2000000 0 0 0, .ptr 2000001 0 0 0, .own 2000002, .own 2000003]), (2000000, .box [.own 2000002] 22), (2000001, .box [.own 2000003] 138), (2000002, .row intE (a) 3 1), (2000003, .row yX (b) 4 1)]⟩) (yG) ?_);refine yz.imp (zbL v rfl rfl (fun _ => rfl) (by decide) (by omega) rfl rfl rfl rfl rfl ty3) (yG)
  ·obtain rfl : (14, [11, 9, 8, 7, 6, 5, 4, 3, 2, 1, 0, 12, 10, 13]) = c := by injection hc
   refine yo rfl (yK (st0 := ⟨[(4, .own 2000002), (5, .own 2000002), (6, iv a.length), (7, iv ((a.length : Int) - 1)), (8, .own 2000003), (9, .own 2000003), (10, iv b.length), (11, iv ((b.length : Int) - 1)), (12, iv v), (13, iv v), (14, .bool (decide (v = 0))), (15, .ptr 2000002 1 ((a.length : Int) - 1).toNat 0), (16, .ptr 2000003 1 ((b.length : Int) - 1).toNat 0), (0, iv v), (1, .ptr 2000000 0 0 0), (2, .ptr 2000001 0 0 0)], [(1000001, .hold vs [.ptr 2000000 0 0 0, .ptr 2000001 0 0 0, .own 2000002, .own 2000003]), (2000000, .box [.own 2000002] 22), (2000001, .box [.own 2000003] 138), (2000002, .row intE (a.set ((a.length : Int) - 1).toNat v) 3 1), (2000003, .row yX (b) 4 1)]⟩) (yG) ?_);refine yz.imp (zbL (decide (v = 0)) rfl rfl (fun _ => rfl) (by decide) (by omega) rfl rfl rfl rfl rfl ty4) (yG)
  ·exact absurd hc (by simp)
 refine zkW.mk (ts := []) (.inl rfl) (yi) (.many (by decide) .nil)
end Go.Rse
