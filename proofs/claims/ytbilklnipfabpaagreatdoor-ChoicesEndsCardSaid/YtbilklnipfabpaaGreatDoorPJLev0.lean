/-
  Plain: segments of a level, their counts, and the choices that are allowed.
-/
import Derived.Test.YtbilklnipfabpaaGreatDoorPJDurs2
import Derived.Test.YtbilklnipfabpaaGreatDoorPJTime
set_option linter.unusedSimpArgs false
set_option linter.unusedVariables false
namespace Go.Rse
open Go Go.Proofs
structure Sgm where
 From : Int
 To : Int
 Left : Int
 Right : Int
 Free : Bool
 Count : Tm
 deriving DecidableEq
instance : Inhabited Sgm := ⟨⟨0, 0, 0, 0, false, ⟨0, 0⟩⟩⟩
def smE : Sgm -> List AV := fun x => [.int .i64 x.From, .int .i64 x.To, .int .i64 x.Left, .int .i64 x.Right, .bool x.Free, .int .i64 x.Count.N, .int .i64 x.Count.D]
abbrev smA (x : Sgm) : AV := .agg (smE x)
abbrev smsA (l : List Sgm) : AV := .sl smE l
abbrev itT (x : Ite) : List Tm := [x.Dur, x.Before, x.After]
abbrev itKd (x : Ite) : Prop := (x.Rest = true /\ x.Color = true) \/ ((x.Rest = true \/ x.Color = true) /\ x.Fixed = false)
abbrev itRg (x : Ite) : Prop := x.Value < 1 \/ 8 < x.Value \/ x.Cut < 0 \/ 8 < x.Cut
def itF (x : Ite) : Int := if itRg x then 2 else if yL (itT x) = 0 then (if itKd x then 8 else 0) else yL (itT x)
def ckIE : List Ite -> Int
 | [] => 0
 | x :: r => if itF x = 0 then ckIE r else itF x
def ckIX : List Ite -> Int -> Int
 | [], _ => 0
 | x :: r, k => if itF x = 0 then ckIX r (k + 1) else k
theorem zdd {l : List Ite} {k : Nat} {x : Ite} (h : l[k]? = some x) : ckIE (l.drop k) = if itF x = 0 then ckIE (l.drop (k + 1)) else itF x := by
 have h1 := List.getElem?_eq_some_iff.1 h;rw [List.drop_eq_getElem_cons h1.1, h1.2]; rfl
theorem zde {l : List Ite} {k : Nat} {x : Ite} (n : Int) (h : l[k]? = some x) : ckIX (l.drop k) n = if itF x = 0 then ckIX (l.drop (k + 1)) (n + 1) else n := by
 have h1 := List.getElem?_eq_some_iff.1 h;rw [List.drop_eq_getElem_cons h1.1, h1.2]; rfl
theorem ziL : ∀ {l : List Ite}, ckIE l = 0 -> ∀ x ∈ l, itF x = 0
 | [], _, x, hx => by simp at hx
 | s :: r, h, x, hx => by
  simp only [ckIE] at h;by_cases hs : itF s = 0
  ·rw [if_pos hs] at h;rcases List.mem_cons.1 hx with rfl | hx
   ·exact hs
   ·exact ziL h x hx
  ·rw [if_neg hs] at h; exact absurd h hs
theorem zdD {x : Ite} (h : itF x = 0) : (1 <= x.Value /\ x.Value <= 8 /\ 0 <= x.Cut /\ x.Cut <= 8) /\ ckT x.Dur = 0 /\ ckT x.Before = 0 /\ ckT x.After = 0 /\ ¬ itKd x := by
 unfold itF at h;split at h
 ·cases h
 ·rename_i h1;split at h
  ·rename_i h2;split at h
   ·cases h
   ·rename_i h3;have h4 := zhe h2;exact ⟨by unfold itRg at h1; omega, h4 _ (by simp), h4 _ (by simp), h4 _ (by simp), h3⟩
  ·rename_i h2; exact absurd h h2
theorem zjE {x : Ite} (h : (1 <= x.Value /\ x.Value <= 8 /\ 0 <= x.Cut /\ x.Cut <= 8) /\ ckT x.Dur = 0 /\ ckT x.Before = 0 /\ ckT x.After = 0 /\ ¬ itKd x) : itF x = 0 := by
 obtain ⟨h1, h2, h3, h4, h5⟩ := h;unfold itF;rw [if_neg (by unfold itRg; omega), if_pos (by simp [yL, h2, h3, h4]), if_neg h5]
def unE (m : Mn) (k : Int) : Int := if ckM m = 0 then (if 1 <= k /\ k <= 4 /\ m.p k = 3 then 0 else 2) else ckM m
def unT (m : Mn) (k : Int) : Tm := if unE m k = 0 then fullT m (k + 1) else tmZ
theorem ze0 {m : Mn} {k : Int} (h : unE m k = 0) : ckM m = 0 /\ 1 <= k /\ k <= 4 /\ m.p k = 3 := by
 unfold unE at h;split at h
 ·split at h
  ·exact ⟨by assumption, by assumption⟩
  ·cases h
 ·exact absurd h (by assumption)
structure Bd where
 item : Int
 next : Int
 fin : Bool
 deriving DecidableEq
instance : Inhabited Bd := ⟨⟨0, 0, false⟩⟩
def bdE : Bd -> List AV := fun x => [.int .i64 x.item, .int .i64 x.next, .bool x.fin]
abbrev bdA (x : Bd) : AV := .agg (bdE x)
abbrev isH (k : Int) (x : Ite) : Prop := x.Color = false /\ x.Value <= k
abbrev isC (k : Int) (x : Ite) : Prop := 0 < x.Cut /\ x.Cut <= k
def bdK (k : Int) (l : List Ite) : Nat -> List Bd
 | 0 => [⟨-1, 0, false⟩]
 | n + 1 => match l[n]? with
  | some x => (bdK k l n ++ if isH k x then [⟨n, n + 1, false⟩] else []) ++ if isC k x then [⟨-1, n + 1, false⟩] else []
  | none => bdK k l n
def bds (k : Int) (l : List Ite) : List Bd := bdK k l l.length ++ [⟨-1, l.length, true⟩]
theorem za0 {k : Int} {l : List Ite} {n : Nat} {x : Ite} (h : l[n]? = some x) : bdK k l (n + 1) = (bdK k l n ++ if isH k x then [⟨n, n + 1, false⟩] else []) ++ if isC k x then [⟨-1, n + 1, false⟩] else [] := by
 conv => lhs; unfold bdK
 rw [h]
theorem zdf (k : Int) (l : List Ite) : ∀ n, 1 <= (bdK k l n).length /\ (bdK k l n).length <= 2 * n + 1
 | 0 => by simp [bdK]
 | n + 1 => by
  have h := zdf k l n;cases hx : l[n]? with
  | none => unfold bdK; rw [hx]; simp only; omega
  | some x =>
   rw [za0 hx];simp only [List.length_append];have h1 : (if isH k x then [(⟨n, n + 1, false⟩ : Bd)] else []).length <= 1 := by split <;> simp
   have h2 : (if isC k x then [(⟨-1, n + 1, false⟩ : Bd)] else []).length <= 1 := by split <;> simp
   omega
def hdI (l : List Ite) (b : Bd) : Int := if b.item < 0 \/ (l.getD b.item.toNat default).Fixed = true then -1 else b.item
abbrev bdF (b : Bd) : Int := if 0 <= b.item then b.item else b.next
def sg0 (l : List Ite) (b c : Bd) : Sgm := ⟨b.next, bdF c, hdI l b, hdI l c, c.fin, ⟨0, 0⟩⟩
def sgs0 (l : List Ite) : List Bd -> List Sgm
 | b :: c :: r => sg0 l b c :: sgs0 l (c :: r)
 | _ => []
theorem zcH (l : List Ite) : ∀ B : List Bd, (sgs0 l B).length = B.length - 1
 | [] => rfl
 | [_] => rfl
 | b :: c :: r => by
  have := zcH l (c :: r);simp only [sgs0, List.length_cons] at this ⊢;omega
theorem ziM (l : List Ite) : ∀ (B : List Bd) (i : Nat) (b c : Bd), B[i]? = some b -> B[i + 1]? = some c -> (sgs0 l B)[i]? = some (sg0 l b c)
 | [], i, b, c, h, _ => by simp at h
 | [_], i, b, c, _, h => by simp at h
 | x :: y :: r, 0, b, c, h, h2 => by
  simp at h h2; subst h h2; rfl
 | x :: y :: r, i + 1, b, c, h, h2 => by
  have := ziM l (y :: r) i b c (by simpa using h) (by simpa using h2);simpa [sgs0] using this
theorem zg8 (l : List Ite) : ∀ (B : List Bd) (b c : Bd), sgs0 l ((B ++ [b]) ++ [c]) = sgs0 l (B ++ [b]) ++ [sg0 l b c]
 | [], b, c => rfl
 | [x], b, c => rfl
 | x :: y :: r, b, c => by
  have := zg8 l (y :: r) b c;simp only [List.cons_append, sgs0] at this ⊢;rw [this]
def itR (l : List Ite) (s : Sgm) : List Ite := (l.drop s.From.toNat).take (s.To.toNat - s.From.toNat)
def drL (l : List Ite) : List Tm := l.map (·.Dur)
def lsE (a b : Tm) : Int := if subE a b = 2 then 14 else subE a b
def cn1 (t : Tm) (h : Int) (d : Tm) : Tm × Int := if h < 0 then (t, 0) else if lsE t d = 0 then (subV t d, 0) else (tmZ, lsE t d)
def cnA (l : List Ite) (s : Sgm) : Tm × Int := sumF ⟨0, 1⟩ (drL (itR l s))
def cnB (l : List Ite) (s : Sgm) : Tm × Int := if (cnA l s).2 = 0 then cn1 (cnA l s).1 s.Left (l.getD s.Left.toNat default).After else (tmZ, (cnA l s).2)
def cnC (l : List Ite) (s : Sgm) : Tm × Int := if (cnB l s).2 = 0 then cn1 (cnB l s).1 s.Right (l.getD s.Right.toNat default).Before else (tmZ, (cnB l s).2)
def divE (a b : Tm) : Int := if yL [a, b] = 0 then (if b.N = 0 then 5 else tmsE a.N a.D b.D b.N) else yL [a, b]
def divV (a b : Tm) : Tm := if yL [a, b] = 0 then (if b.N = 0 then tmZ else tmsV a.N a.D b.D b.N) else tmZ
def cnE (u : Tm) (l : List Ite) (s : Sgm) : Int := if (cnC l s).2 = 0 then divE (cnC l s).1 u else (cnC l s).2
def cnV (u : Tm) (l : List Ite) (s : Sgm) : Tm := if (cnC l s).2 = 0 then divV (cnC l s).1 u else tmZ
def segW (u : Tm) (l : List Ite) (s : Sgm) : Sgm := { s with Count := cnV u l s }
def segR (u : Tm) (l : List Ite) (s : Sgm) : Int := if cnE u l s = 0 then (if s.Free = false /\ ¬ (cnV u l s).D = 1 then 14 else 0) else cnE u l s
def segX (u : Tm) (l : List Ite) : List Sgm -> Int
 | [] => 0
 | s :: r => if segR u l s = 0 then segX u l r else segR u l s
theorem zf6 {u : Tm} {l : List Ite} {L : List Sgm} {k : Nat} {s : Sgm} (h : L[k]? = some s) : segX u l (L.drop k) = if segR u l s = 0 then segX u l (L.drop (k + 1)) else segR u l s := by
 have h1 := List.getElem?_eq_some_iff.1 h;rw [List.drop_eq_getElem_cons h1.1, h1.2]; rfl
def segE (m : Mn) (k : Int) (l : List Ite) : Int := if unE m k = 0 then (if ckIE l = 0 then segX (unT m k) l (sgs0 l (bds k l)) else ckIE l) else unE m k
def segV (m : Mn) (k : Int) (l : List Ite) : List Sgm := if segE m k l = 0 then (sgs0 l (bds k l)).map (segW (unT m k) l) else []
def smF : Tm -> List Tm -> List Tm
 | _, [] => []
 | t, d :: r => addV t d :: smF (addV t d) r
def fsL (l : List Ite) : List Tm := smF ⟨0, 1⟩ (drL l)
def lasL (l : List Ite) : List Tm := match (fsL l).getLast? with
 | none => []
 | some a => a :: (((fsL l).dropLast.filter fun t => decide (subE a t = 0)).map fun t => subV a t)
def rcQ (u : Tm) (sums : List Tm) (lost : Tm) : Bool := decide (addE lost u = 0) && decide (addV lost u ∈ sums)
def lgQ (u : Tm) (x : Ite) : Bool := decide (0 < cmpV x.Dur u)
abbrev itg (l : List Ite) (i : Int) : Ite := l.getD i.toNat default
def poQ (u : Tm) (k : Int) (l : List Ite) (L : List (Int × Bool)) (s : Sgm) : Bool :=
 !decide (s.Left < 0) && ((decide ((itg l s.Left).Value < k) || !(mget s.Left L).getD false) && lgQ u (itg l s.Left) && rcQ u (fsL (itR l s)) (itg l s.Left).After)
def blQ (k : Int) (l : List Ite) (h : Int) : Bool :=
 decide ((itg l h).Value = k) && decide (h + 1 < l.length) && !decide (0 < (itg l h).Cut) && (!(itg l (h + 1)).Color && decide ((itg l (h + 1)).Value = k))
def anQ (u : Tm) (k : Int) (l : List Ite) (s : Sgm) : Bool :=
 !decide (s.Right < 0) && (!blQ k l s.Right && (lgQ u (itg l s.Right) && rcQ u (lasL (itR l s)) (itg l s.Right).Before))
def ntQ (u : Tm) (k : Int) (x : Ite) : Bool := !x.Rest && !x.Color && !x.Fixed && decide (x.Value = k + 1) && decide (x.Dur = u)
def atQ (u : Tm) (k : Int) (l : List Ite) (s : Sgm) : Bool :=
 !(decide (s.From = s.To) || s.Free) && (ntQ u k (itg l (s.To - 1)) && (decide (s.Right < 0) || decide ((itg l s.Right).Before.N = 0)))
def alR (p a t : Bool) (s : Sgm) : List Int :=
 (if s.Count.N % 3 = 0 \/ s.Free = true then [0] else []) ++ (if s.Count.N % 3 = 1 /\ s.Count.D = 1 /\ p = true then [1] else []) ++ (if s.Count.N % 3 = 1 /\ s.Free = false /\ a = true then [2] else []) ++
 (if s.Count.N % 3 = 2 /\ s.Free = false /\ p = true /\ a = true then [3] else []) ++ (if s.Count.N % 3 = 2 /\ s.Free = false /\ t = true then [4] else [])
def alQ (u : Tm) (k : Int) (l : List Ite) (L : List (Int × Bool)) (s : Sgm) : List Int := alR (poQ u k l L s) (anQ u k l s) (atQ u k l s) s
def zG (u : Tm) (x : Ite) : Ite := { x with Dur := subV x.Dur u, After := addV x.After u }
def zaa (u : Tm) (x : Ite) : Ite := { x with Dur := subV x.Dur u, Before := addV x.Before u }
def dblI (x : Ite) : Ite := { x with Dur := addV x.Dur x.Dur }
def upI (l : List Ite) (i : Int) (f : Ite -> Ite) : List Ite := l.set i.toNat (f (itg l i))
def chN (u : Tm) (s : Sgm) (c : Int) (l : List Ite) : List Ite :=
 let l1 := if c = 1 \/ c = 3 then upI l s.Left (zG u) else l
 let l2 := if c = 2 \/ c = 3 then upI l1 s.Right (zaa u) else l1
 if c = 4 then upI l2 (s.To - 1) dblI else l2
def chL (s : Sgm) (c : Int) (L : List (Int × Bool)) : List (Int × Bool) := if c = 2 \/ c = 3 then mput s.Right true L else L
theorem zdg (l : List Ite) (i : Int) (f : Ite -> Ite) : (upI l i f).length = l.length := by unfold upI; simp
theorem zkq (u : Tm) (s : Sgm) (c : Int) (l : List Ite) : (chN u s c l).length = l.length := by
 unfold chN; simp only; split <;> split <;> split <;> simp [zdg]
def stK (u : Tm) (S : List Sgm) (l : List Ite) (M : List Int) : Nat -> List Ite × List (Int × Bool)
 | 0 => (l, [])
 | n + 1 => (chN u (S.getD n default) (M.getD n 0) (stK u S l M n).1, chL (S.getD n default) (M.getD n 0) (stK u S l M n).2)
def alK (u : Tm) (k : Int) (S : List Sgm) (l : List Ite) (M : List Int) (n : Nat) : List Int := alQ u k (stK u S l M n).1 (stK u S l M n).2 (S.getD n default)
def okJ (u : Tm) (k : Int) (S : List Sgm) (l : List Ite) (M : List Int) : Nat -> Bool
 | 0 => true
 | n + 1 => okJ u k S l M n && decide (M.getD n 0 ∈ alK u k S l M n)
theorem zdh (u : Tm) (S : List Sgm) (l : List Ite) (M : List Int) : ∀ n, (stK u S l M n).1.length = l.length
 | 0 => rfl
 | n + 1 => by show (chN _ _ _ _).length = _; rw [zkq, zdh u S l M n]
theorem ziN (u : Tm) (S : List Sgm) (l : List Ite) (M : List Int) (n : Nat) : stK u S l M (n + 1) = (chN u (S.getD n default) (M.getD n 0) (stK u S l M n).1, chL (S.getD n default) (M.getD n 0) (stK u S l M n).2) := rfl
def alE (m : Mn) (k : Int) (l : List Ite) (M : List Int) : Int := if segE m k l = 0 then (if (segV m k l).length <= M.length \/ okJ (unT m k) k (segV m k l) l M M.length = false then 2 else 0) else segE m k l
def alV (m : Mn) (k : Int) (l : List Ite) (M : List Int) : List Int := if alE m k l M = 0 then alK (unT m k) k (segV m k l) l M M.length else []
def apE (m : Mn) (k : Int) (l : List Ite) (M : List Int) : Int := if segE m k l = 0 then (if ¬ (segV m k l).length = M.length \/ okJ (unT m k) k (segV m k l) l M M.length = false then 2 else 0) else segE m k l
def apV (m : Mn) (k : Int) (l : List Ite) (M : List Int) : List Ite := if apE m k l M = 0 then (stK (unT m k) (segV m k l) l M M.length).1 else []
end Go.Rse
namespace Go.Rse
open Go Go.Proofs
theorem zhU {t : Tm} (h : ckT t = 0) : Nat.gcd t.N.natAbs t.D.natAbs = 1 := by
 have := (zB h).2.2.2.2.2;unfold gI at this; omega
theorem zmx {a b : Int} (h : ∀ g : Nat, (g : Int) ∣ a -> (g : Int) ∣ b -> g = 1) : gI a b = 1 := by
 have h1 : (Nat.gcd a.natAbs b.natAbs : Int) ∣ a := Int.ofNat_dvd_left.2 (Nat.gcd_dvd_left _ _);have h2 : (Nat.gcd a.natAbs b.natAbs : Int) ∣ b := Int.ofNat_dvd_left.2 (Nat.gcd_dvd_right _ _);unfold gI; rw [h _ h1 h2]; rfl
theorem zop {t : Tm} (h : ckT t = 0) {g : Nat} (h1 : (g : Int) ∣ t.N) (h2 : (g : Int) ∣ t.D) : g = 1 := by
 have c := zhU h;have h3 := Nat.dvd_gcd (Int.ofNat_dvd_left.1 h1) (Int.ofNat_dvd_left.1 h2);rw [show Nat.gcd t.N.natAbs t.D.natAbs = 1 from c] at h3;exact Nat.dvd_one.1 h3
theorem zoq {X Y : Int} (h : gI X Y = 1) (h0 : 0 <= X) (h1 : 1 <= Y) (hX : X <= 1099511627776) (hY : Y <= 1048576) : tmkE X Y = 0 /\ tmkT X Y = ⟨X, Y⟩ /\ ckT ⟨X, Y⟩ = 0 := by
 have e : tmkE X Y = 0 := by unfold tmkE; rw [if_neg (by omega), if_neg (by omega), h, Int.ediv_one, Int.ediv_one, if_neg (by omega)]
 refine ⟨e, ?_, ?_⟩
 ·unfold tmkT; rw [if_pos e, h, Int.ediv_one, Int.ediv_one]
 ·unfold ckT; rw [if_neg (by simp only; omega), if_neg (by simp only; omega)]
theorem zqV {t : Tm} (h : ckT t = 0) {x : Int} (k : Int) (hx : x = t.N - k * t.D) : gI x t.D = 1 := by
 refine zmx fun g h1 h2 => zop h ?_ h2
 have : t.N = x + k * t.D := by omega
 rw [this];exact Int.dvd_add h1 (Int.dvd_mul_of_dvd_right h2)
theorem zmy {X Y : Int} (h0 : 0 <= X) (h1 : 1 <= Y) (h : tmkE X Y = 0) : ckT (tmkT X Y) = 0 := by
 have hT : tmkT X Y = ⟨X / gI X Y, Y / gI X Y⟩ := by unfold tmkT; rw [if_pos h]
 have hg := zeJ (n := X) (d := Y) (by omega);have gx : gI X Y ∣ X := Int.ofNat_dvd_left.2 (Nat.gcd_dvd_left _ _);have gy : gI X Y ∣ Y := Int.ofNat_dvd_left.2 (Nat.gcd_dvd_right _ _);have ex := Int.mul_ediv_cancel' gx;have ey := Int.mul_ediv_cancel' gy;have hx0 : 0 <= X / gI X Y := Int.ediv_nonneg h0 (by omega)
 have hy1 : 0 < Y / gI X Y := by
  apply Classical.byContradiction;intro hn;have := Int.mul_le_mul_of_nonneg_left (show Y / gI X Y <= 0 by omega) (Int.le_of_lt hg);omega
 have hone : gI (X / gI X Y) (Y / gI X Y) = 1 := zmx fun d h2 h3 => by
  obtain ⟨a, ha⟩ := h2;obtain ⟨b, hb⟩ := h3;have ea := ex; rw [ha] at ea;have eb := ey; rw [hb] at eb;have d1 : ((Nat.gcd X.natAbs Y.natAbs * d : Nat) : Int) ∣ X := ⟨a, ea.symm.trans (by rw [Int.natCast_mul, Int.mul_assoc]; rfl)⟩;have d2 : ((Nat.gcd X.natAbs Y.natAbs * d : Nat) : Int) ∣ Y := ⟨b, eb.symm.trans (by rw [Int.natCast_mul, Int.mul_assoc]; rfl)⟩;have d3 := Nat.dvd_gcd (Int.ofNat_dvd_left.1 d1) (Int.ofNat_dvd_left.1 d2);have hgn : 0 < Nat.gcd X.natAbs Y.natAbs := by unfold gI at hg; omega
  obtain ⟨q, hq⟩ := d3;have : d * q = 1 := Nat.eq_of_mul_eq_mul_left hgn (by rw [← Nat.mul_assoc, ← hq, Nat.mul_one]);exact Nat.eq_one_of_mul_eq_one_right this
 have hb : ¬ (1099511627776 < X / gI X Y \/ 1048576 < Y / gI X Y) := fun hbig => by
  unfold tmkE at h;rw [if_neg (by omega), if_neg (by omega), if_pos hbig] at h;exact absurd h (by decide)
 rw [hT];unfold ckT;rw [if_neg (by simp only; omega), if_neg (by simp only; omega)]
theorem zhV {a b : Tm} (ha : ckT a = 0) (hb : ckT b = 0) : yL [a, b] = 0 := by simp [yL, ha, hb]
theorem zkr {a b : Tm} (h : addE a b = 0) : ckT a = 0 /\ ckT b = 0 /\ ckT (addV a b) = 0 := by
 unfold addE at h;split at h
 ·rename_i hf;obtain ⟨ha, hb⟩ := zeK hf;have b1 := zB ha;have b2 := zB hb;refine ⟨ha, hb, ?_⟩;unfold addV;rw [if_pos hf];have m1 := Int.mul_nonneg b1.1 b2.2.2.1;have m2 := Int.mul_nonneg b2.1 b1.2.2.1;exact zmy (by omega) (mulP b1.2.2.2.2.1 b2.2.2.2.2.1) h
 ·exact absurd h (by assumption)
theorem zf7 {t : Tm} {f : Int} (h : ckT t = 0) (hF : ckT ⟨f, 1⟩ = 0) (hc : 0 < cmpV t ⟨f, 1⟩) : subE t ⟨f, 1⟩ = 0 /\ ckT (subV t ⟨f, 1⟩) = 0 /\ 1 <= (subV t ⟨f, 1⟩).N /\ 1 <= (subV t ⟨f, 1⟩).D := by
 have b := zB h;have b2 := zB hF;have hp := zhV h hF
 have hlt : f * t.D < t.N := by
  unfold cmpV at hc;rw [if_pos hp] at hc;simp only [Int.mul_one] at hc;split at hc
  ·omega
  ·split at hc
   ·assumption
   ·omega
 have hn := Int.mul_nonneg b2.1 b.2.2.1;simp only at hn;have hg : gI (t.N - f * t.D) t.D = 1 := zqV h f rfl;obtain ⟨k1, k2, k3⟩ := zoq hg (by omega) (by omega) (by omega) (by omega);unfold subE subV;rw [if_pos hp, if_pos hp];simp only [Int.mul_one];rw [k2];exact ⟨k1, k3, by simp only; omega, by simp only; omega⟩
end Go.Rse
namespace Go.Rse
open Go Go.Proofs
attribute [local irreducible] Pur yx yz Ex X Fn Imp LeV LeB FnO It yC
attribute [local irreducible] gI
theorem zjF (a b : Tm) : Fn Tryz.prog 144 [tmA a, tmA b] (.tup [tmA (divV a b), iv (divE a b)]) := by
 refine Fn.go Tryz.func144 Tryz.ntmps144 (fun g w d => ?_);apply yb;iterate 2 refine yF ?_
 refine yH ?_;refine ye ?_;apply yd;apply yb;iterate 2 refine ya ?_
 refine y2 tmE [⟨_, _⟩, ⟨_, _⟩] ?_;refine Ex.imp (Imp.freeze (k := 9) rfl) ?_;refine yq (zaf [a, b] (by simp)) ?_;refine ya ?_;apply yj;refine yh ?_;refine yk rfl ?_ ?_<;>intro hc1
 ·have hE : divE a b = yL [a, b] := by unfold divE; rw [if_neg hc1]
  have hV : divV a b = tmZ := by unfold divV; rw [if_neg hc1]
  apply yb;iterate 2 refine ya ?_
  refine Ex.mo ?_;refine ye ?_;refine X.ret ?_;refine y6 ty46 ?_ ?_;all_goals (first | (rw [hE]; done) | (rw [hV]; rfl) | (rw [hE]; rfl) | (rw [hV]; done))
 have h12 := zeK hc1;have b1 := zB h12.1;have b2 := zB h12.2;apply yf;apply yd;apply yb;refine yn ?_;refine yk rfl ?_ ?_<;>intro hc2
 ·have hE : divE a b = 5 := by unfold divE; rw [if_pos hc1, if_pos hc2]
  have hV : divV a b = tmZ := by unfold divV; rw [if_pos hc1, if_pos hc2]
  apply yb;refine ya ?_;refine Ex.mo ?_;refine ye ?_;refine X.ret ?_;refine y6 ty46 ?_ ?_;all_goals (first | (rw [hE]; done) | (rw [hV]; rfl) | (rw [hE]; rfl) | (rw [hV]; done))
 have hE : divE a b = tmsE a.N a.D b.D b.N := by unfold divE; rw [if_pos hc1, if_neg hc2]
 have hV : divV a b = tmsV a.N a.D b.D b.N := by unfold divV; rw [if_pos hc1, if_neg hc2]
 apply yf;apply yb;iterate 8 refine ya ?_
 refine yq (zem a.N a.D b.D b.N b1.1 b1.2.1 b1.2.2.2.2.1 (by omega) (by omega) (by omega) (by omega) (by omega)) ?_;iterate 2 refine ya ?_
 refine Ex.mo ?_;refine ye ?_;refine X.ret ?_;refine y6 ty46 ?_ ?_;all_goals (first | (rw [hE]; done) | (rw [hV]; rfl) | (rw [hE]; rfl) | (rw [hV]; done))
end Go.Rse
namespace Go.Rse
open Go Go.Proofs
attribute [local irreducible] Pur yx yz Ex X Fn Imp LeV LeB FnO It yC
theorem zeH (m : Mn) (k : Int) : k ∈ perfL m ↔ (1 <= k /\ k <= 4 /\ m.p k = 3) := by
 unfold perfL;simp only [List.mem_filter, List.mem_cons, List.not_mem_nil, or_false, decide_eq_true_eq];constructor
 ·rintro ⟨h1, h2⟩; exact ⟨by omega, by omega, h2⟩
 ·rintro ⟨h1, h2, h3⟩; exact ⟨by omega, h3⟩
theorem zmz (x : Ite) {j : Nat} {t : Tm} (h : (itT x)[j]? = some t) : (([iv x.Dur.N, iv x.Dur.D, iv x.Before.N, iv x.Before.D, iv x.After.N, iv x.After.D] : List AV).drop ((j : Int).toNat * 2)).take 2 = tmE t := by
 have hj : j < 3 := (List.getElem?_eq_some_iff.1 h).1;have : j = 0 \/ j = 1 \/ j = 2 := by omega
 rcases this with rfl | rfl | rfl <;> (injection h with h; subst h; rfl)
attribute [local irreducible] ckT yL perfL
set_option maxHeartbeats 1000000 in
theorem zgR (l : List Ite) (hl : l.length <= 4000000) : Fn Tryz.prog 92 [itsA l] (.tup [iv (ckIE l), iv (ckIX l 0)]) := by
 refine Fn.go Tryz.func92 Tryz.ntmps92 (fun g w d => ?_);apply yb;refine yh ?_;apply yd;apply yb;refine yn ?_;apply X.block
 refine zh (ι := Nat) (fun (k : Nat) => [(9, itsA l), (10, iv l.length), (11, iv (k : Int))]) (fun (k : Nat) => []) (fun (k : Nat) => k <= l.length /\ ckIE l = ckIE (l.drop k) /\ ckIX l 0 = ckIX (l.drop k) (k : Int)) (fun (k : Nat) => l.length - k) 0 (fun k hk => ?_) (hJ := by
  exact ⟨by omega, rfl, rfl⟩)
 obtain ⟨hk1, hk2, hk3⟩ := hk;apply yb;refine ye ?_;apply yd;refine yk rfl ?_ ?_<;>intro hc1
 ·obtain ⟨x, hx⟩ : ∃ x, l[k]? = some x := ⟨_, lgg (by omega)⟩;have hx2 : l[(k : Int).toNat]? = some x := by simpa using hx
  apply yf;apply yd;apply X.block;apply yb;iterate 3 refine ya ?_
  refine yH ?_;refine ya ?_;refine Ex.mo ?_;apply Ex.nil;apply yd;apply yb;iterate 3 refine ya ?_
  refine ExF.at 3 ?_;refine yI ?_;iterate 3 refine ExF.gi ?_
  iterate 2 refine yI ?_
  iterate 3 refine ExF.gi ?_
  iterate 2 refine yI ?_
  iterate 3 refine ExF.gi ?_
  refine yA ?_;refine ye ?_;refine yk rfl ?_ ?_<;>intro hc2
  ·have hF : itF x = 2 := by unfold itF; rw [if_pos (by unfold itRg; omega)]
   have hE : ckIE l = 2 := by rw [hk2, zdd hx, hF, if_neg (by decide)]
   have hX : ckIX l 0 = (k : Int) := by rw [hk3, zde _ hx, hF, if_neg (by decide)]
   apply yb;refine yn ?_;refine X.ret ?_;refine yu ?_ ?_;all_goals (first | (rw [hE]; done) | (rw [hX]; done) | (rw [hE]; rfl) | (rw [hX]; rfl))
  have hR : ¬ itRg x := by unfold itRg; omega
  have hT : (itT x).length = 3 := rfl;apply yf;apply yd;apply yb;iterate 7 refine ya ?_
  refine ye ?_;apply X.block
  refine zh (ι := Nat) (fun (j : Nat) => [(9, itsA l), (10, iv l.length), (11, iv (k : Int)), (4, iv (k : Int)), (5, .ptr 5 0 0 0), (41, .agg [iv x.Dur.N, iv x.Dur.D, iv x.Before.N, iv x.Before.D, iv x.After.N, iv x.After.D]), (42, iv (j : Int))]) (fun (j : Nat) => [(5, .box (itE x) 95)]) (fun (j : Nat) => j <= 3 /\ yL (itT x) = yL ((itT x).drop j)) (fun (j : Nat) => 3 - j) 0 (fun j hk => ?_) (hJ := by
   exact ⟨by omega, rfl⟩)
  obtain ⟨hj1, hj2⟩ := hk;apply yb;refine ye ?_;apply yd;refine yk rfl ?_ ?_<;>intro hc3
  ·obtain ⟨t, ht⟩ : ∃ t, (itT x)[j]? = some t := ⟨_, lgg (show j < (itT x).length by simp; omega)⟩;have hpt := zmz x ht;have ht2 : (itT x)[(j : Int).toNat]? = some t := by simpa using ht
   apply yf;apply yd;apply X.block;apply yb;refine ya (hs := by exact zck ArK.h TyK.h rfl rfl (by omega) (by omega) hpt) ?_;refine yH ?_;refine Ex.mo ?_;apply yj;refine ya ?_;refine yq (zch t) ?_;refine ya ?_;apply yj;refine yh ?_;refine yk rfl ?_ ?_<;>intro hc4
   ·have hf : yL (itT x) = ckT t := by rw [hj2, zbF ht, if_neg hc4]
    have hF : itF x = ckT t := by unfold itF; rw [if_neg hR, hf, if_neg hc4]
    have hE : ckIE l = ckT t := by rw [hk2, zdd hx, hF, if_neg hc4]
    have hX : ckIX l 0 = (k : Int) := by rw [hk3, zde _ hx, hF, if_neg hc4]
    apply yb;refine zT ?_;refine X.ret ?_;refine yu ?_ ?_;all_goals (first | (rw [hE]; done) | (rw [hX]; done) | (rw [hE]; rfl) | (rw [hX]; rfl))
   apply yf;apply yc;refine yh ?_
   refine yP (j + 1) (hJ := by
    exact ⟨by omega, by rw [hj2, zbF ht, if_pos hc4]⟩)
  ·have hf : yL (itT x) = 0 := by rw [hj2, List.drop_of_length_le (by simp; omega)]; unfold yL; rfl
   apply X.exit;apply yb;(iterate 2 refine ya ?_);refine ExF.at 2 ?_;refine yI ?_;(iterate 2 refine ExF.gi ?_);(iterate 2 refine yI ?_);(iterate 11 refine ExF.gi ?_);refine yA ?_;refine ye ?_;refine yk rfl ?_ ?_<;>intro hc5
   ·have hF : itF x = 8 := by unfold itF; rw [if_neg hR, if_pos hf, if_pos (by unfold itKd; revert hc5; cases x.Rest <;> cases x.Color <;> cases x.Fixed <;> simp)]
    have hE : ckIE l = 8 := by rw [hk2, zdd hx, hF, if_neg (by decide)]
    have hX : ckIX l 0 = (k : Int) := by rw [hk3, zde _ hx, hF, if_neg (by decide)]
    apply yb;refine yn ?_;refine X.ret ?_;refine yu ?_ ?_;all_goals (first | (rw [hE]; done) | (rw [hX]; done) | (rw [hE]; rfl) | (rw [hX]; rfl))
   have hF : itF x = 0 := by unfold itF; rw [if_neg hR, if_pos hf, if_neg (by unfold itKd; revert hc5; cases x.Rest <;> cases x.Color <;> cases x.Fixed <;> simp)]
   apply yf;apply yc;refine yh ?_
   refine yP (k + 1) (hJ := by
    exact ⟨by omega, by rw [hk2, zdd hx, if_pos hF], by rw [hk3, zde _ hx, if_pos hF]; rfl⟩)
 ·have hkl : k = l.length := by omega
  have hE : ckIE l = 0 := by rw [hk2, hkl, List.drop_length]; rfl
  have hX : ckIX l 0 = 0 := by rw [hk3, hkl, List.drop_length]; rfl
  apply X.exit;apply yb;refine yh ?_;refine X.ret ?_;refine yu ?_ ?_;all_goals (first | (rw [hE]; done) | (rw [hX]; done) | (rw [hE]; rfl) | (rw [hX]; rfl))
theorem zd9 (m : Mn) (k : Int) (h0 : -9223372036854775808 <= k) (h1 : k <= 9223372036854775807) : Fn Tryz.prog 98 [mnA m, iv k] (.tup [tmA (unT m k), iv (unE m k)]) := by
 refine Fn.go Tryz.func98 Tryz.ntmps98 (fun g w d => ?_);apply yb;refine yF ?_;refine yH ?_;refine ya ?_;apply yj;refine ya ?_;refine yq (zbP m) ?_;refine ze ?_;apply yd;apply X.block;apply yb;refine yn ?_;refine yk rfl ?_ ?_<;>intro hc1
 ·have hU : unE m k = ckM m := by unfold unE; rw [if_neg hc1]
  have hV : unT m k = tmZ := by unfold unT; rw [if_neg (by rw [hU]; exact hc1)]
  apply yb;iterate 2 refine ya ?_
  refine Ex.mo ?_;refine ye ?_;refine X.ret ?_;refine y6 ty46 ?_ ?_;all_goals (first | (rw [hU]; done) | (rw [hV]; rfl) | (rw [hU]; rfl) | (rw [hV]; done))
 have hck : ckM m = 0 := hc1;apply yb;iterate 2 refine ya ?_
 refine yq (zk (if ckM m = 0 then perfL m else []) k (by have := zg6 m; split <;> simp <;> omega)) ?_;refine yh ?_;refine yk rfl ?_ ?_<;>intro hc2
 ·rw [if_pos hck] at hc2;have hU : unE m k = 2 := by unfold unE; rw [if_pos hck, if_neg (fun h => absurd ((zeH m k).2 h) (by simpa using hc2))]
  have hV : unT m k = tmZ := by unfold unT; rw [if_neg (by rw [hU]; decide)]
  apply yb;refine ya ?_;refine Ex.mo ?_;refine ye ?_;refine X.ret ?_;refine y6 ty46 ?_ ?_;all_goals (first | (rw [hU]; done) | (rw [hV]; rfl) | (rw [hU]; rfl) | (rw [hV]; done))
 rw [if_pos hck] at hc2;have hm := (zeH m k).1 (by simpa using hc2);have hU : unE m k = 0 := by unfold unE; rw [if_pos hck, if_pos hm]
 have hV : unT m k = fullT m (k + 1) := by unfold unT; rw [if_pos hU]
 apply yf;apply yb;iterate 3 refine ya ?_
 refine yq (zcb (v := k + 1) hck (by omega) (by omega)) ?_;iterate 2 refine ya ?_
 refine Ex.mo ?_;refine ye ?_;refine X.ret ?_;refine y6 ty46 ?_ ?_;all_goals (first | (rw [hU]; done) | (rw [hV]; rfl) | (rw [hU]; rfl) | (rw [hV]; done))
theorem zX (l : List Ite) (b : Bd) (hb : b.item < l.length) : Fn Tryz.prog 140 [.agg [itsA l], bdA b] (iv (hdI l b)) := by
 refine Fn.go Tryz.func140 Tryz.ntmps140 (fun g w d => ?_);apply yb;iterate 2 refine yF ?_
 refine ye ?_;apply yd;apply yb;iterate 3 refine ya ?_
 refine ExF.at 3 ?_;refine yI ?_;iterate 7 refine ExF.gi ?_
 refine yA ?_;refine ye ?_;refine yk rfl ?_ ?_<;>intro hc1
 ·have hH : hdI l b = -1 := by unfold hdI; rw [if_pos hc1]
  apply yb;refine ye ?_;refine X.ret ?_;refine ym ?_;all_goals (rw [hH])
 have hH : hdI l b = b.item := by unfold hdI; rw [if_neg (by rintro (h | h); omega; (rw [hc1.2] at h; cases h))]
 apply yf;apply yb;refine yn ?_;refine X.ret ?_;refine ym ?_;all_goals (rw [hH])
end Go.Rse
