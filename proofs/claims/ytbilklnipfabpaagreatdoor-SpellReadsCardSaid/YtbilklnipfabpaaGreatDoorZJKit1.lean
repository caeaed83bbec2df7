/-
  Walks: what statements share: comparisons of lists, lists in new memory, numbers made small, mensurations and times made of numbers.
-/
import Derived.Test.YtbilklnipfabpaaGreatDoorZJTime
import Derived.Test.YtbilklnipfabpaaGreatDoorZLogB
import Derived.Test.YtbilklnipfabpaaGreatDoorZLogC
import Derived.Test.YtbilklnipfabpaaGreatDoorZJIte0
import Derived.Test.YtbilklnipfabpaaGreatDoorZJSpan1
set_option linter.unusedSimpArgs false
set_option linter.unusedVariables false
namespace Go.Rse
open Go Go.Proofs
attribute [local irreducible] Pur yD yE Ex X Fn Imp LeV LeB FnO It yH
theorem zhl {α : Type} {a b : List α} {k : Nat} {x : α} (ha : a[k]? = some x) (hb : b[k]? = some x) (h : a.take k = b.take k) : a.take (k + 1) = b.take (k + 1) := by
 rw [List.take_add_one, List.take_add_one, ha, hb, h]
theorem zkF {α : Type} {a b : List α} {k : Nat} (hl : a.length = b.length) (hk : a.length <= k) (h : a.take k = b.take k) : a = b := by
 rwa [List.take_of_length_le hk, List.take_of_length_le (by omega)] at h
theorem zp3 {α : Type} {a b : List α} {k : Nat} {x y : α} (ha : a[k]? = some x) (hb : b[k]? = some y) (h : x ≠ y) : a ≠ b := fun e => by
 subst e; rw [ha] at hb; injection hb with hb; exact h hb
def ze6 : Sg := ⟨3, 0, 0, 0, false, 0, false, false, ⟨0, 0, 0, 0⟩, false, 0, 0, 0, 0⟩
def zf0 : Mn := ⟨2, 2, 3, 2⟩
theorem zmH {a n : Int} (hn : 0 < n) : (a.tmod n < 0 -> a.tmod n + n = a % n) /\ (¬ a.tmod n < 0 -> a.tmod n = a % n) /\ -n < a.tmod n /\ a.tmod n < n := by
 rw [Int.tmod_eq_emod];have h0 := Int.emod_nonneg a (show n ≠ 0 by omega);have h1 := Int.emod_lt_of_pos a hn;split <;> omega
def mMk (n : Int) : Mn := ⟨2 + n % 16 / 8, 2 + n % 16 / 4 % 2, 2 + n % 16 / 2 % 2, 2 + n % 16 % 2⟩
theorem zrd (n : Int) : ckM (mMk n) = 0 := by
 unfold ckM;rw [if_pos];unfold Mn.Ok two3 mMk;exact ⟨by show 2 + n % 16 / 8 = 2 \/ 2 + n % 16 / 8 = 3; omega, by show 2 + n % 16 / 4 % 2 = 2 \/ 2 + n % 16 / 4 % 2 = 3; omega, by show 2 + n % 16 / 2 % 2 = 2 \/ 2 + n % 16 / 2 % 2 = 3; omega, by show 2 + n % 16 % 2 = 2 \/ 2 + n % 16 % 2 = 3; omega⟩
def atV (l : List Int) (i : Int) : Int := if i < 0 \/ (l.length : Int) <= i then 0 else l.getD i.toNat default
attribute [local irreducible] gI mMk
theorem zcQ (a b : List Int) (hl : a.length <= 4000000000) : Fn Tryz.prog 38 [yh a, yh b] (.bool (decide (a = b))) := by
 refine Fn.go Tryz.func38 Tryz.ntmps38 (fun g w d => ?_);apply yb;refine yd ?_;apply ye;apply yb;refine zv ?_;refine ym rfl ?_ ?_<;>intro hc1
 ·apply yb;refine yd ?_;refine X.ret ?_;refine yn ?_;all_goals (congr 1; exact (decide_eq_false fun e => by subst e; omega).symm)
 apply yf;apply ye;apply yb;refine yd ?_;apply X.block
 refine zw (ι := Nat) (fun (k : Nat) => [(0, yh a), (1, yh b), (5, iv (k : Int))]) (fun (k : Nat) => []) (fun (k : Nat) => k <= a.length /\ a.take k = b.take k) (fun (k : Nat) => a.length - k) 0 (fun k hk => ?_) (hJ := by
  exact ⟨by omega, rfl⟩)
 obtain ⟨hk1, hk2⟩ := hk;apply ye;apply yb;refine zaj ?_;refine ym rfl ?_ ?_<;>intro hc2
 ·obtain ⟨x, hx⟩ : ∃ x, a[k]? = some x := ⟨_, lgg (by omega)⟩;have hx2 : a[(k : Int).toNat]? = some x := by simpa using hx
  obtain ⟨y, hy⟩ : ∃ y, b[k]? = some y := ⟨_, lgg (by omega)⟩;have hy2 : b[(k : Int).toNat]? = some y := by simpa using hy
  apply yf;apply ye;apply X.block;apply ye;refine zC [17,18,19,20,21,22,23,24,25] [0,0,3,7,0,0,48,112,255] mo ?_;iterate 9 refine yl ?_
  refine zb ?_;apply Ex.nil;refine ym rfl ?_ ?_<;>intro hc3
  ·apply yb;refine yd ?_;refine X.ret ?_;refine yn ?_;all_goals (congr 1; exact (decide_eq_false (zp3 hx hy (by simpa using hc3))).symm)
  apply yf;apply yc;refine yr ?_
  refine yY (k + 1) (hJ := by
   exact ⟨by omega, zhl hx (by rw [hy]; congr 1; first | exact (by simpa using hc3 : x = y).symm | (simp at hc3; exact hc3.symm)) hk2⟩)
 ·apply X.exit;apply yb;refine yd ?_;refine X.ret ?_;refine yn ?_;all_goals (congr 1; exact (decide_eq_true (zkF (by omega) (by omega) hk2)).symm)
theorem zlx (a : List Int) (h : a.length <= 4000000000) : Fn Tryz.prog 38 [yh a, yh a] (.bool true) := by
 have := zcQ a a h; simpa using this
theorem zbb (a n : Int) (ha : -9223372036854775808 <= a /\ a <= 9223372036854775807) (hn : 1 <= n /\ n <= 4611686018427387904) : Fn Tryz.prog 11 [iv a, iv n] (iv (a % n)) := by
 obtain ⟨ht1, ht2, ht3, ht4⟩ := zmH (a := a) (n := n) (by omega);refine Fn.go Tryz.func11 Tryz.ntmps11 (fun g w d => ?_);apply yb;refine yd ?_;apply ye;apply yb;refine yg ?_;refine ym rfl ?_ ?_<;>intro hc1
 ·omega
 apply yf;apply yb;iterate 2 refine ya ?_
 refine zaq (zqk rfl rfl (by omega)) rfl ?_;refine yd ?_;apply ye;apply yb;refine yg ?_;refine ym rfl ?_ ?_<;>intro hc2
 ·apply yc;iterate 4 refine ya ?_
  apply yk;refine yg ?_;refine X.ret ?_;refine yn ?_;all_goals (congr 1; exact ht1 (by omega))
 ·apply yf;apply yb;refine yg ?_;refine X.ret ?_;refine yn ?_;all_goals (congr 1; exact ht2 (by omega))
theorem zeJ (n : Int) (hn : -9223372036854775808 <= n /\ n <= 9223372036854775807) : Fn Tryz.prog 7 [iv n] (mnA (mMk n)) := by
 unfold mMk;refine Fn.go Tryz.func7 Tryz.ntmps7 (fun g w d => ?_);apply yb;refine yJ ?_;apply yk;refine ya ?_;refine yq (zbb n 16 hn (by omega)) ?_;refine ya ?_;apply yk;iterate 15 refine ya ?_
 refine yj ?_;apply Ex.nil;refine X.ret ?_;refine RetQ.ret (.one (.cellA rfl rfl rfl rfl ty24 (LeV.eq ?_)));all_goals (first | rfl | (simp_all; done))
theorem zd8 (m : Mn) (v : Int) : Fn Tryz.prog 64 [mnA m, iv v] (iv (m.p v)) := by
 refine Fn.go Tryz.func64 Tryz.ntmps64 (fun g w d => ?_);apply yb;refine yG ?_;refine yd ?_;apply ye;apply yb;refine yd ?_;apply X.block;apply yb;refine yg ?_;refine ym rfl ?_ ?_<;>intro hc1
 ·apply yb;refine yr ?_;refine X.ret ?_;refine yn ?_;all_goals (congr 1; unfold Mn.p; simp [*])
 apply yb;refine yg ?_;refine ym rfl ?_ ?_<;>intro hc2
 ·apply yb;refine yr ?_;refine X.ret ?_;refine yn ?_;all_goals (congr 1; unfold Mn.p; simp [*])
 apply yb;refine yg ?_;refine ym rfl ?_ ?_<;>intro hc3
 ·apply yb;refine yr ?_;refine X.ret ?_;refine yn ?_;all_goals (congr 1; unfold Mn.p; simp [*])
 apply yb;refine yg ?_;refine ym rfl ?_ ?_<;>intro hc4
 ·apply yb;refine yr ?_;refine X.ret ?_;refine yn ?_;all_goals (congr 1; unfold Mn.p; simp [*])
 apply yf;apply yb;refine yd ?_;refine X.ret ?_;refine yn ?_;all_goals (congr 1; unfold Mn.p; simp [*])
theorem zf1 (l : List Int) (i : Int) : Fn Tryz.prog 12 [yh l, iv i] (iv (atV l i)) := by
 refine Fn.go Tryz.func12 Tryz.ntmps12 (fun g w d => ?_);apply yb;refine yd ?_;apply ye;apply yb;iterate 2 refine ya ?_
 refine ExF.at 2 ?_;refine yF ?_;iterate 4 refine ExF.gi ?_
 refine yC ?_;refine yd ?_;refine ym rfl ?_ ?_<;>intro hc1
 ·apply yb;refine yd ?_;refine X.ret ?_;refine yn ?_;all_goals (congr 1; unfold atV; rw [if_pos hc1])
 apply yf;apply yb;refine zv ?_;refine X.ret ?_;refine yn ?_;all_goals (congr 1; unfold atV; rw [if_neg (by omega)])
end Go.Rse
namespace Go.Rse
open Go Go.Proofs Go.RowKit
section
variable {P : Program} {C : Ctx} {st : St} {ty : TypeId}
end
attribute [local irreducible] Pur yD yE Ex X Fn Imp LeV LeB FnO It yH
theorem zmI : bthE zf0 ⟨4, 1⟩ = 0 /\ allE zf0 ⟨4, 1⟩ = [spOf 3 3, spOf 3 5, spOf 4 4] := by decide +kernel
theorem zmJ : rstE zf0 ⟨9, 1⟩ = 0 /\ rstV zf0 ⟨9, 1⟩ = [3, 4, 5] := by decide +kernel
theorem zbh (a b : List Sp) (hl : a.length <= 4000000000) : Fn Tryz.prog 36 [spsA a, spsA b] (.bool (decide (a = b))) := by
 refine Fn.go Tryz.func36 Tryz.ntmps36 (fun g w d => ?_);apply yb;refine yd ?_;apply ye;apply yb;refine zv ?_;refine ym rfl ?_ ?_<;>intro hc1
 ·apply yb;refine yd ?_;refine X.ret ?_;refine yn ?_;all_goals (congr 1; exact (decide_eq_false fun e => by subst e; omega).symm)
 apply yf;apply ye;apply yb;refine yd ?_;apply X.block
 refine zw (ι := Nat) (fun (k : Nat) => [(0, spsA a), (1, spsA b), (5, iv (k : Int))]) (fun (k : Nat) => []) (fun (k : Nat) => k <= a.length /\ a.take k = b.take k) (fun (k : Nat) => a.length - k) 0 (fun k hk => ?_) (hJ := by
  exact ⟨by omega, rfl⟩)
 obtain ⟨hk1, hk2⟩ := hk;apply ye;apply yb;refine zaj ?_;refine ym rfl ?_ ?_<;>intro hc2
 ·obtain ⟨x, hx⟩ : ∃ x, a[k]? = some x := ⟨_, lgg (by omega)⟩;have hx2 : a[(k : Int).toNat]? = some x := by simpa using hx
  obtain ⟨y, hy⟩ : ∃ y, b[k]? = some y := ⟨_, lgg (by omega)⟩;have hy2 : b[(k : Int).toNat]? = some y := by simpa using hy
  apply yf;apply ye;apply X.block;apply ye;refine zC [17,18,19,20,21,22,23,24,25] [0,0,3,7,0,0,48,112,255] mo ?_;iterate 8 refine yl ?_
  refine yl (hs := by exact zdd (zox _ _) inferInstance TyK.h rfl rfl rfl rfl rfl) ?_;refine zb ?_;apply Ex.nil;refine ym rfl ?_ ?_<;>intro hc3
  ·apply yb;refine yd ?_;refine X.ret ?_;refine yn ?_;all_goals (congr 1; exact (decide_eq_false (zp3 hx hy (by simpa using hc3))).symm)
  apply yf;apply yc;refine yr ?_
  refine yY (k + 1) (hJ := by
   exact ⟨by omega, zhl hx (by rw [hy]; congr 1; first | exact (by simpa using hc3 : x = y).symm | (simp at hc3; exact hc3.symm)) hk2⟩)
 ·apply X.exit;apply yb;refine yd ?_;refine X.ret ?_;refine yn ?_;all_goals (congr 1; exact (decide_eq_true (zkF (by omega) (by omega) hk2)).symm)
theorem zmK (a : List Sp) (h : a.length <= 4000000000) : Fn Tryz.prog 36 [spsA a, spsA a] (.bool true) := by
 have := zbh a a h; simpa using this
theorem zaW (v w : Int) : Fn Tryz.prog 37 [iv v, iv w] (spA (spOf v w)) := by
 refine Fn.go Tryz.func37 Tryz.ntmps37 (fun g w d => ?_);apply yb;refine yJ ?_;apply yk;iterate 5 refine ya ?_
 refine ExF.at 5 ?_;refine yF ?_;iterate 2 refine ExF.gi ?_
 iterate 2 refine yF ?_
 iterate 2 refine ExF.gi ?_
 iterate 4 refine yF ?_
 iterate 2 refine ExF.gi ?_
 refine yC ?_;iterate 3 refine ya ?_
 refine yj ?_;apply Ex.nil;refine X.ret ?_;refine RetQ.ret (.one (.cellA rfl rfl rfl rfl ty48 (LeV.eq ?_)));all_goals (rfl)
theorem za5  : Fn Tryz.prog 34 [] (mnA zf0) := by
 refine Fn.go Tryz.func34 Tryz.ntmps34 (fun g w d => ?_);apply yb;refine yJ ?_;apply yk;refine ya ?_;refine yj ?_;apply Ex.nil;refine X.ret ?_;refine RetQ.ret (.one (.cellA rfl rfl rfl rfl ty24 (LeV.eq ?_)));all_goals (first | rfl | (simp_all; done))
theorem zbd  : Fn Tryz.prog 10 [] (.bool true) := by
 have hA := ze5 zf0 ⟨4, 1⟩;rw [zmI.1, zmI.2] at hA;have hR := zg8 zf0 ⟨9, 1⟩;rw [zmJ.1, zmJ.2] at hR;refine Fn.go Tryz.func10 Tryz.ntmps10 (fun g w d => ?_);apply yb;refine ya ?_;apply yk;refine yq za5 ?_;refine ya ?_;refine yq hA ?_;iterate 5 refine ya ?_
 apply yk;refine yq za5 ?_;refine ya ?_;refine yq hR ?_;iterate 5 refine ya ?_
 apply yk;iterate 3 refine ya ?_
 refine zk rfl rfl rfl ?_;refine ya ?_;refine zk rfl rfl rfl ?_;iterate 3 refine ya ?_
 refine zk rfl rfl rfl ?_;refine ya ?_;refine zk rfl rfl rfl ?_;refine yq (zaW _ _) ?_;refine zk rfl rfl rfl ?_;refine yq (zaW _ _) ?_;refine zk rfl rfl rfl ?_;refine yq (zaW _ _) ?_;refine zk rfl rfl rfl ?_;refine yV spE [spOf 3 3, spOf 3 5, spOf 4 4] ?_;refine zk rfl rfl rfl ?_;refine zf (Imp.freeze (k := 28) rfl) ?_;refine yq (zmK [spOf 3 3, spOf 3 5, spOf 4 4] (by decide)) ?_;iterate 2 refine ya ?_
 refine zk rfl rfl rfl ?_;refine ya ?_;refine zk rfl rfl rfl ?_;refine yV intE [3, 4, 5] ?_;refine zk rfl rfl rfl ?_;refine zf (Imp.freeze (k := 33) rfl) ?_;refine yq (zlx [3, 4, 5] (by decide)) ?_;refine yg ?_;refine X.ret ?_;refine yn ?_;all_goals (rfl)
attribute [local irreducible] fullT rstV rstE sumE sumV mMk
end Go.Rse
namespace Go.Rse
open Go Go.Proofs
attribute [local irreducible] Pur yD yE Ex X Fn Imp LeV LeB FnO It yH
attribute [local irreducible] gI
end Go.Rse
namespace Go.Rse
open Go Go.Proofs
structure Sgm where
 From : Int
 To : Int
 Left : Int
 Right : Int
 Free : Bool
 Count : Tm
 deriving DecidableEq
instance : Inhabited Sgm := ⟨⟨0, 0, 0, 0, false, ⟨0, 0⟩⟩⟩
def smE : Sgm -> List AV := fun x => [.int .i64 x.From, .int .i64 x.To, .int .i64 x.Left, .int .i64 x.Right, .bool x.Free, .int .i64 x.Count.N, .int .i64 x.Count.D]
abbrev smA (x : Sgm) : AV := .agg (smE x)
abbrev smsA (l : List Sgm) : AV := .sl smE l
abbrev itT (x : Ite) : List Tm := [x.Dur, x.Before, x.After]
abbrev itKd (x : Ite) : Prop := (x.Rest = true /\ x.Color = true) \/ ((x.Rest = true \/ x.Color = true) /\ x.Fixed = false)
abbrev itRg (x : Ite) : Prop := x.Value < 1 \/ 8 < x.Value \/ x.Cut < 0 \/ 8 < x.Cut
def itF (x : Ite) : Int := if itRg x then 2 else if yP (itT x) = 0 then (if itKd x then 8 else 0) else yP (itT x)
def ckIE : List Ite -> Int
 | [] => 0
 | x :: r => if itF x = 0 then ckIE r else itF x
def ckIX : List Ite -> Int -> Int
 | [], _ => 0
 | x :: r, k => if itF x = 0 then ckIX r (k + 1) else k
theorem zdk {l : List Ite} {k : Nat} {x : Ite} (h : l[k]? = some x) : ckIE (l.drop k) = if itF x = 0 then ckIE (l.drop (k + 1)) else itF x := by
 have h1 := List.getElem?_eq_some_iff.1 h;rw [List.drop_eq_getElem_cons h1.1, h1.2]; rfl
theorem zdl {l : List Ite} {k : Nat} {x : Ite} (n : Int) (h : l[k]? = some x) : ckIX (l.drop k) n = if itF x = 0 then ckIX (l.drop (k + 1)) (n + 1) else n := by
 have h1 := List.getElem?_eq_some_iff.1 h;rw [List.drop_eq_getElem_cons h1.1, h1.2]; rfl
theorem zi1 : ∀ {l : List Ite}, ckIE l = 0 -> ∀ x ∈ l, itF x = 0
 | [], _, x, hx => by simp at hx
 | s :: r, h, x, hx => by
  simp only [ckIE] at h;by_cases hs : itF s = 0
  ·rw [if_pos hs] at h;rcases List.mem_cons.1 hx with rfl | hx
   ·exact hs
   ·exact zi1 h x hx
  ·rw [if_neg hs] at h; exact absurd h hs
theorem zdO {x : Ite} (h : itF x = 0) : (1 <= x.Value /\ x.Value <= 8 /\ 0 <= x.Cut /\ x.Cut <= 8) /\ ckT x.Dur = 0 /\ ckT x.Before = 0 /\ ckT x.After = 0 /\ ¬ itKd x := by
 unfold itF at h;split at h
 ·cases h
 ·rename_i h1;split at h
  ·rename_i h2;split at h
   ·cases h
   ·rename_i h3;have h4 := zhq h2;exact ⟨by unfold itRg at h1; omega, h4 _ (by simp), h4 _ (by simp), h4 _ (by simp), h3⟩
  ·rename_i h2; exact absurd h h2
theorem zjL {x : Ite} (h : (1 <= x.Value /\ x.Value <= 8 /\ 0 <= x.Cut /\ x.Cut <= 8) /\ ckT x.Dur = 0 /\ ckT x.Before = 0 /\ ckT x.After = 0 /\ ¬ itKd x) : itF x = 0 := by
 obtain ⟨h1, h2, h3, h4, h5⟩ := h;unfold itF;rw [if_neg (by unfold itRg; omega), if_pos (by simp [yP, h2, h3, h4]), if_neg h5]
def unE (m : Mn) (k : Int) : Int := if ckM m = 0 then (if 1 <= k /\ k <= 4 /\ m.p k = 3 then 0 else 2) else ckM m
def unT (m : Mn) (k : Int) : Tm := if unE m k = 0 then fullT m (k + 1) else tmZ
theorem ze7 {m : Mn} {k : Int} (h : unE m k = 0) : ckM m = 0 /\ 1 <= k /\ k <= 4 /\ m.p k = 3 := by
 unfold unE at h;split at h
 ·split at h
  ·exact ⟨by assumption, by assumption⟩
  ·cases h
 ·exact absurd h (by assumption)
structure Bd where
 item : Int
 next : Int
 fin : Bool
 deriving DecidableEq
instance : Inhabited Bd := ⟨⟨0, 0, false⟩⟩
def bdE : Bd -> List AV := fun x => [.int .i64 x.item, .int .i64 x.next, .bool x.fin]
abbrev bdA (x : Bd) : AV := .agg (bdE x)
abbrev isH (k : Int) (x : Ite) : Prop := x.Color = false /\ x.Value <= k
abbrev isC (k : Int) (x : Ite) : Prop := 0 < x.Cut /\ x.Cut <= k
def bdK (k : Int) (l : List Ite) : Nat -> List Bd
 | 0 => [⟨-1, 0, false⟩]
 | n + 1 => match l[n]? with
  | some x => (bdK k l n ++ if isH k x then [⟨n, n + 1, false⟩] else []) ++ if isC k x then [⟨-1, n + 1, false⟩] else []
  | none => bdK k l n
def bds (k : Int) (l : List Ite) : List Bd := bdK k l l.length ++ [⟨-1, l.length, true⟩]
theorem za6 {k : Int} {l : List Ite} {n : Nat} {x : Ite} (h : l[n]? = some x) : bdK k l (n + 1) = (bdK k l n ++ if isH k x then [⟨n, n + 1, false⟩] else []) ++ if isC k x then [⟨-1, n + 1, false⟩] else [] := by
 conv => lhs; unfold bdK
 rw [h]
theorem zdm (k : Int) (l : List Ite) : ∀ n, 1 <= (bdK k l n).length /\ (bdK k l n).length <= 2 * n + 1
 | 0 => by simp [bdK]
 | n + 1 => by
  have h := zdm k l n;cases hx : l[n]? with
  | none => unfold bdK; rw [hx]; simp only; omega
  | some x =>
   rw [za6 hx];simp only [List.length_append];have h1 : (if isH k x then [(⟨n, n + 1, false⟩ : Bd)] else []).length <= 1 := by split <;> simp
   have h2 : (if isC k x then [(⟨-1, n + 1, false⟩ : Bd)] else []).length <= 1 := by split <;> simp
   omega
def hdI (l : List Ite) (b : Bd) : Int := if b.item < 0 \/ (l.getD b.item.toNat default).Fixed = true then -1 else b.item
abbrev bdF (b : Bd) : Int := if 0 <= b.item then b.item else b.next
def sg0 (l : List Ite) (b c : Bd) : Sgm := ⟨b.next, bdF c, hdI l b, hdI l c, c.fin, ⟨0, 0⟩⟩
def sgs0 (l : List Ite) : List Bd -> List Sgm
 | b :: c :: r => sg0 l b c :: sgs0 l (c :: r)
 | _ => []
theorem zcR (l : List Ite) : ∀ B : List Bd, (sgs0 l B).length = B.length - 1
 | [] => rfl
 | [_] => rfl
 | b :: c :: r => by
  have := zcR l (c :: r);simp only [sgs0, List.length_cons] at this ⊢;omega
theorem zi2 (l : List Ite) : ∀ (B : List Bd) (i : Nat) (b c : Bd), B[i]? = some b -> B[i + 1]? = some c -> (sgs0 l B)[i]? = some (sg0 l b c)
 | [], i, b, c, h, _ => by simp at h
 | [_], i, b, c, _, h => by simp at h
 | x :: y :: r, 0, b, c, h, h2 => by
  simp at h h2; subst h h2; rfl
 | x :: y :: r, i + 1, b, c, h, h2 => by
  have := zi2 l (y :: r) i b c (by simpa using h) (by simpa using h2);simpa [sgs0] using this
theorem zhm (l : List Ite) : ∀ (B : List Bd) (b c : Bd), sgs0 l ((B ++ [b]) ++ [c]) = sgs0 l (B ++ [b]) ++ [sg0 l b c]
 | [], b, c => rfl
 | [x], b, c => rfl
 | x :: y :: r, b, c => by
  have := zhm l (y :: r) b c;simp only [List.cons_append, sgs0] at this ⊢;rw [this]
def itR (l : List Ite) (s : Sgm) : List Ite := (l.drop s.From.toNat).take (s.To.toNat - s.From.toNat)
def drL (l : List Ite) : List Tm := l.map (·.Dur)
def lsE (a b : Tm) : Int := if subE a b = 2 then 14 else subE a b
def cn1 (t : Tm) (h : Int) (d : Tm) : Tm × Int := if h < 0 then (t, 0) else if lsE t d = 0 then (subV t d, 0) else (tmZ, lsE t d)
def cnA (l : List Ite) (s : Sgm) : Tm × Int := sumF ⟨0, 1⟩ (drL (itR l s))
def cnB (l : List Ite) (s : Sgm) : Tm × Int := if (cnA l s).2 = 0 then cn1 (cnA l s).1 s.Left (l.getD s.Left.toNat default).After else (tmZ, (cnA l s).2)
def cnC (l : List Ite) (s : Sgm) : Tm × Int := if (cnB l s).2 = 0 then cn1 (cnB l s).1 s.Right (l.getD s.Right.toNat default).Before else (tmZ, (cnB l s).2)
def divE (a b : Tm) : Int := if yP [a, b] = 0 then (if b.N = 0 then 5 else tmsE a.N a.D b.D b.N) else yP [a, b]
def divV (a b : Tm) : Tm := if yP [a, b] = 0 then (if b.N = 0 then tmZ else tmsV a.N a.D b.D b.N) else tmZ
def cnE (u : Tm) (l : List Ite) (s : Sgm) : Int := if (cnC l s).2 = 0 then divE (cnC l s).1 u else (cnC l s).2
def cnV (u : Tm) (l : List Ite) (s : Sgm) : Tm := if (cnC l s).2 = 0 then divV (cnC l s).1 u else tmZ
def segW (u : Tm) (l : List Ite) (s : Sgm) : Sgm := { s with Count := cnV u l s }
def segR (u : Tm) (l : List Ite) (s : Sgm) : Int := if cnE u l s = 0 then (if s.Free = false /\ ¬ (cnV u l s).D = 1 then 14 else 0) else cnE u l s
def segX (u : Tm) (l : List Ite) : List Sgm -> Int
 | [] => 0
 | s :: r => if segR u l s = 0 then segX u l r else segR u l s
theorem zf2 {u : Tm} {l : List Ite} {L : List Sgm} {k : Nat} {s : Sgm} (h : L[k]? = some s) : segX u l (L.drop k) = if segR u l s = 0 then segX u l (L.drop (k + 1)) else segR u l s := by
 have h1 := List.getElem?_eq_some_iff.1 h;rw [List.drop_eq_getElem_cons h1.1, h1.2]; rfl
def segE (m : Mn) (k : Int) (l : List Ite) : Int := if unE m k = 0 then (if ckIE l = 0 then segX (unT m k) l (sgs0 l (bds k l)) else ckIE l) else unE m k
def segV (m : Mn) (k : Int) (l : List Ite) : List Sgm := if segE m k l = 0 then (sgs0 l (bds k l)).map (segW (unT m k) l) else []
def smF : Tm -> List Tm -> List Tm
 | _, [] => []
 | t, d :: r => addV t d :: smF (addV t d) r
def fsL (l : List Ite) : List Tm := smF ⟨0, 1⟩ (drL l)
def lasL (l : List Ite) : List Tm := match (fsL l).getLast? with
 | none => []
 | some a => a :: (((fsL l).dropLast.filter fun t => decide (subE a t = 0)).map fun t => subV a t)
def rcQ (u : Tm) (sums : List Tm) (lost : Tm) : Bool := decide (addE lost u = 0) && decide (addV lost u ∈ sums)
def lgQ (u : Tm) (x : Ite) : Bool := decide (0 < cmpV x.Dur u)
abbrev itg (l : List Ite) (i : Int) : Ite := l.getD i.toNat default
def poQ (u : Tm) (k : Int) (l : List Ite) (L : List (Int × Bool)) (s : Sgm) : Bool :=
 !decide (s.Left < 0) && ((decide ((itg l s.Left).Value < k) || !(mget s.Left L).getD false) && lgQ u (itg l s.Left) && rcQ u (fsL (itR l s)) (itg l s.Left).After)
def blQ (k : Int) (l : List Ite) (h : Int) : Bool :=
 decide ((itg l h).Value = k) && decide (h + 1 < l.length) && !decide (0 < (itg l h).Cut) && (!(itg l (h + 1)).Color && decide ((itg l (h + 1)).Value = k))
def anQ (u : Tm) (k : Int) (l : List Ite) (s : Sgm) : Bool :=
 !decide (s.Right < 0) && (!blQ k l s.Right && (lgQ u (itg l s.Right) && rcQ u (lasL (itR l s)) (itg l s.Right).Before))
def ntQ (u : Tm) (k : Int) (x : Ite) : Bool := !x.Rest && !x.Color && !x.Fixed && decide (x.Value = k + 1) && decide (x.Dur = u)
def atQ (u : Tm) (k : Int) (l : List Ite) (s : Sgm) : Bool :=
 !(decide (s.From = s.To) || s.Free) && (ntQ u k (itg l (s.To - 1)) && (decide (s.Right < 0) || decide ((itg l s.Right).Before.N = 0)))
def alR (p a t : Bool) (s : Sgm) : List Int :=
 (if s.Count.N % 3 = 0 \/ s.Free = true then [0] else []) ++ (if s.Count.N % 3 = 1 /\ s.Count.D = 1 /\ p = true then [1] else []) ++ (if s.Count.N % 3 = 1 /\ s.Free = false /\ a = true then [2] else []) ++
 (if s.Count.N % 3 = 2 /\ s.Free = false /\ p = true /\ a = true then [3] else []) ++ (if s.Count.N % 3 = 2 /\ s.Free = false /\ t = true then [4] else [])
def alQ (u : Tm) (k : Int) (l : List Ite) (L : List (Int × Bool)) (s : Sgm) : List Int := alR (poQ u k l L s) (anQ u k l s) (atQ u k l s) s
def zJ (u : Tm) (x : Ite) : Ite := { x with Dur := subV x.Dur u, After := addV x.After u }
def zad (u : Tm) (x : Ite) : Ite := { x with Dur := subV x.Dur u, Before := addV x.Before u }
def dblI (x : Ite) : Ite := { x with Dur := addV x.Dur x.Dur }
def upI (l : List Ite) (i : Int) (f : Ite -> Ite) : List Ite := l.set i.toNat (f (itg l i))
def chN (u : Tm) (s : Sgm) (c : Int) (l : List Ite) : List Ite :=
 let l1 := if c = 1 \/ c = 3 then upI l s.Left (zJ u) else l
 let l2 := if c = 2 \/ c = 3 then upI l1 s.Right (zad u) else l1
 if c = 4 then upI l2 (s.To - 1) dblI else l2
def chL (s : Sgm) (c : Int) (L : List (Int × Bool)) : List (Int × Bool) := if c = 2 \/ c = 3 then mput s.Right true L else L
theorem zck (l : List Ite) (i : Int) (f : Ite -> Ite) : (upI l i f).length = l.length := by unfold upI; simp
theorem zkG (u : Tm) (s : Sgm) (c : Int) (l : List Ite) : (chN u s c l).length = l.length := by
 unfold chN; simp only; split <;> split <;> split <;> simp [zck]
def stK (u : Tm) (S : List Sgm) (l : List Ite) (M : List Int) : Nat -> List Ite × List (Int × Bool)
 | 0 => (l, [])
 | n + 1 => (chN u (S.getD n default) (M.getD n 0) (stK u S l M n).1, chL (S.getD n default) (M.getD n 0) (stK u S l M n).2)
def alK (u : Tm) (k : Int) (S : List Sgm) (l : List Ite) (M : List Int) (n : Nat) : List Int := alQ u k (stK u S l M n).1 (stK u S l M n).2 (S.getD n default)
def okJ (u : Tm) (k : Int) (S : List Sgm) (l : List Ite) (M : List Int) : Nat -> Bool
 | 0 => true
 | n + 1 => okJ u k S l M n && decide (M.getD n 0 ∈ alK u k S l M n)
theorem zdn (u : Tm) (S : List Sgm) (l : List Ite) (M : List Int) : ∀ n, (stK u S l M n).1.length = l.length
 | 0 => rfl
 | n + 1 => by show (chN _ _ _ _).length = _; rw [zkG, zdn u S l M n]
theorem zhn (u : Tm) (S : List Sgm) (l : List Ite) (M : List Int) (n : Nat) : stK u S l M (n + 1) = (chN u (S.getD n default) (M.getD n 0) (stK u S l M n).1, chL (S.getD n default) (M.getD n 0) (stK u S l M n).2) := rfl
def alE (m : Mn) (k : Int) (l : List Ite) (M : List Int) : Int := if segE m k l = 0 then (if (segV m k l).length <= M.length \/ okJ (unT m k) k (segV m k l) l M M.length = false then 2 else 0) else segE m k l
def alV (m : Mn) (k : Int) (l : List Ite) (M : List Int) : List Int := if alE m k l M = 0 then alK (unT m k) k (segV m k l) l M M.length else []
def apE (m : Mn) (k : Int) (l : List Ite) (M : List Int) : Int := if segE m k l = 0 then (if ¬ (segV m k l).length = M.length \/ okJ (unT m k) k (segV m k l) l M M.length = false then 2 else 0) else segE m k l
def apV (m : Mn) (k : Int) (l : List Ite) (M : List Int) : List Ite := if apE m k l M = 0 then (stK (unT m k) (segV m k l) l M M.length).1 else []
end Go.Rse
namespace Go.Rse
open Go Go.Proofs
theorem zmL {t : Tm} (h : ckT t = 0) : Nat.gcd t.N.natAbs t.D.natAbs = 1 := by
 have := (zS h).2.2.2.2.2;unfold gI at this; omega
theorem zmM {a b : Int} (h : ∀ g : Nat, (g : Int) ∣ a -> (g : Int) ∣ b -> g = 1) : gI a b = 1 := by
 have h1 : (Nat.gcd a.natAbs b.natAbs : Int) ∣ a := Int.ofNat_dvd_left.2 (Nat.gcd_dvd_left _ _);have h2 : (Nat.gcd a.natAbs b.natAbs : Int) ∣ b := Int.ofNat_dvd_left.2 (Nat.gcd_dvd_right _ _);unfold gI; rw [h _ h1 h2]; rfl
theorem zoF {t : Tm} (h : ckT t = 0) {g : Nat} (h1 : (g : Int) ∣ t.N) (h2 : (g : Int) ∣ t.D) : g = 1 := by
 have c := zmL h;have h3 := Nat.dvd_gcd (Int.ofNat_dvd_left.1 h1) (Int.ofNat_dvd_left.1 h2);rw [show Nat.gcd t.N.natAbs t.D.natAbs = 1 from c] at h3;exact Nat.dvd_one.1 h3
theorem zoG {X Y : Int} (h : gI X Y = 1) (h0 : 0 <= X) (h1 : 1 <= Y) (hX : X <= 1099511627776) (hY : Y <= 1048576) : tmkE X Y = 0 /\ tmkT X Y = ⟨X, Y⟩ /\ ckT ⟨X, Y⟩ = 0 := by
 have e : tmkE X Y = 0 := by unfold tmkE; rw [if_neg (by omega), if_neg (by omega), h, Int.ediv_one, Int.ediv_one, if_neg (by omega)]
 refine ⟨e, ?_, ?_⟩
 ·unfold tmkT; rw [if_pos e, h, Int.ediv_one, Int.ediv_one]
 ·unfold ckT; rw [if_neg (by simp only; omega), if_neg (by simp only; omega)]
theorem zre {t : Tm} (h : ckT t = 0) {x : Int} (k : Int) (hx : x = t.N - k * t.D) : gI x t.D = 1 := by
 refine zmM fun g h1 h2 => zoF h ?_ h2
 have : t.N = x + k * t.D := by omega
 rw [this];exact Int.dvd_add h1 (Int.dvd_mul_of_dvd_right h2)
theorem zmN {X Y : Int} (h0 : 0 <= X) (h1 : 1 <= Y) (h : tmkE X Y = 0) : ckT (tmkT X Y) = 0 := by
 have hT : tmkT X Y = ⟨X / gI X Y, Y / gI X Y⟩ := by unfold tmkT; rw [if_pos h]
 have hg := zeM (n := X) (d := Y) (by omega);have gx : gI X Y ∣ X := Int.ofNat_dvd_left.2 (Nat.gcd_dvd_left _ _);have gy : gI X Y ∣ Y := Int.ofNat_dvd_left.2 (Nat.gcd_dvd_right _ _);have ex := Int.mul_ediv_cancel' gx;have ey := Int.mul_ediv_cancel' gy;have hx0 : 0 <= X / gI X Y := Int.ediv_nonneg h0 (by omega)
 have hy1 : 0 < Y / gI X Y := by
  apply Classical.byContradiction;intro hn;have := Int.mul_le_mul_of_nonneg_left (show Y / gI X Y <= 0 by omega) (Int.le_of_lt hg);omega
 have hone : gI (X / gI X Y) (Y / gI X Y) = 1 := zmM fun d h2 h3 => by
  obtain ⟨a, ha⟩ := h2;obtain ⟨b, hb⟩ := h3;have ea := ex; rw [ha] at ea;have eb := ey; rw [hb] at eb;have d1 : ((Nat.gcd X.natAbs Y.natAbs * d : Nat) : Int) ∣ X := ⟨a, ea.symm.trans (by rw [Int.natCast_mul, Int.mul_assoc]; rfl)⟩;have d2 : ((Nat.gcd X.natAbs Y.natAbs * d : Nat) : Int) ∣ Y := ⟨b, eb.symm.trans (by rw [Int.natCast_mul, Int.mul_assoc]; rfl)⟩;have d3 := Nat.dvd_gcd (Int.ofNat_dvd_left.1 d1) (Int.ofNat_dvd_left.1 d2);have hgn : 0 < Nat.gcd X.natAbs Y.natAbs := by unfold gI at hg; omega
  obtain ⟨q, hq⟩ := d3;have : d * q = 1 := Nat.eq_of_mul_eq_mul_left hgn (by rw [← Nat.mul_assoc, ← hq, Nat.mul_one]);exact Nat.eq_one_of_mul_eq_one_right this
 have hb : ¬ (1099511627776 < X / gI X Y \/ 1048576 < Y / gI X Y) := fun hbig => by
  unfold tmkE at h;rw [if_neg (by omega), if_neg (by omega), if_pos hbig] at h;exact absurd h (by decide)
 rw [hT];unfold ckT;rw [if_neg (by simp only; omega), if_neg (by simp only; omega)]
theorem zia {a b : Tm} (ha : ckT a = 0) (hb : ckT b = 0) : yP [a, b] = 0 := by simp [yP, ha, hb]
theorem zkH {a b : Tm} (h : addE a b = 0) : ckT a = 0 /\ ckT b = 0 /\ ckT (addV a b) = 0 := by
 unfold addE at h;split at h
 ·rename_i hf;obtain ⟨ha, hb⟩ := zcX hf;have b1 := zS ha;have b2 := zS hb;refine ⟨ha, hb, ?_⟩;unfold addV;rw [if_pos hf];have m1 := Int.mul_nonneg b1.1 b2.2.2.1;have m2 := Int.mul_nonneg b2.1 b1.2.2.1;exact zmN (by omega) (mulP b1.2.2.2.2.1 b2.2.2.2.2.1) h
 ·exact absurd h (by assumption)
theorem zf3 {t : Tm} {f : Int} (h : ckT t = 0) (hF : ckT ⟨f, 1⟩ = 0) (hc : 0 < cmpV t ⟨f, 1⟩) : subE t ⟨f, 1⟩ = 0 /\ ckT (subV t ⟨f, 1⟩) = 0 /\ 1 <= (subV t ⟨f, 1⟩).N /\ 1 <= (subV t ⟨f, 1⟩).D := by
 have b := zS h;have b2 := zS hF;have hp := zia h hF
 have hlt : f * t.D < t.N := by
  unfold cmpV at hc;rw [if_pos hp] at hc;simp only [Int.mul_one] at hc;split at hc
  ·omega
  ·split at hc
   ·assumption
   ·omega
 have hn := Int.mul_nonneg b2.1 b.2.2.1;simp only at hn;have hg : gI (t.N - f * t.D) t.D = 1 := zre h f rfl;obtain ⟨k1, k2, k3⟩ := zoG hg (by omega) (by omega) (by omega) (by omega);unfold subE subV;rw [if_pos hp, if_pos hp];simp only [Int.mul_one];rw [k2];exact ⟨k1, k3, by simp only; omega, by simp only; omega⟩
end Go.Rse
namespace Go.Rse
open Go Go.Proofs
attribute [local irreducible] Pur yD yE Ex X Fn Imp LeV LeB FnO It yH
attribute [local irreducible] gI
theorem zjM (a b : Tm) : Fn Tryz.prog 144 [tmA a, tmA b] (.tup [tmA (divV a b), iv (divE a b)]) := by
 refine Fn.go Tryz.func144 Tryz.ntmps144 (fun g w d => ?_);apply yb;iterate 2 refine yG ?_
 refine yJ ?_;refine yd ?_;apply ye;apply yb;iterate 2 refine ya ?_
 refine yV tmE [⟨_, _⟩, ⟨_, _⟩] ?_;refine zf (Imp.freeze (k := 9) rfl) ?_;refine yq (zP [a, b] (by simp)) ?_;refine ya ?_;apply yk;refine yg ?_;refine ym rfl ?_ ?_<;>intro hc1
 ·have hE : divE a b = yP [a, b] := by unfold divE; rw [if_neg hc1]
  have hV : divV a b = tmZ := by unfold divV; rw [if_neg hc1]
  apply yb;iterate 2 refine ya ?_
  refine yj ?_;refine yd ?_;refine X.ret ?_;refine y6 ty46 ?_ ?_;all_goals (first | (rw [hE]; done) | (rw [hV]; rfl) | (rw [hE]; rfl) | (rw [hV]; done))
 have h12 := zcX hc1;have b1 := zS h12.1;have b2 := zS h12.2;apply yf;apply ye;apply yb;refine yr ?_;refine ym rfl ?_ ?_<;>intro hc2
 ·have hE : divE a b = 5 := by unfold divE; rw [if_pos hc1, if_pos hc2]
  have hV : divV a b = tmZ := by unfold divV; rw [if_pos hc1, if_pos hc2]
  apply yb;refine ya ?_;refine yj ?_;refine yd ?_;refine X.ret ?_;refine y6 ty46 ?_ ?_;all_goals (first | (rw [hE]; done) | (rw [hV]; rfl) | (rw [hE]; rfl) | (rw [hV]; done))
 have hE : divE a b = tmsE a.N a.D b.D b.N := by unfold divE; rw [if_pos hc1, if_neg hc2]
 have hV : divV a b = tmsV a.N a.D b.D b.N := by unfold divV; rw [if_pos hc1, if_neg hc2]
 apply yf;apply yb;iterate 8 refine ya ?_
 refine yq (zek a.N a.D b.D b.N b1.1 b1.2.1 b1.2.2.2.2.1 (by omega) (by omega) (by omega) (by omega) (by omega)) ?_;iterate 2 refine ya ?_
 refine yj ?_;refine yd ?_;refine X.ret ?_;refine y6 ty46 ?_ ?_;all_goals (first | (rw [hE]; done) | (rw [hV]; rfl) | (rw [hE]; rfl) | (rw [hV]; done))
end Go.Rse
