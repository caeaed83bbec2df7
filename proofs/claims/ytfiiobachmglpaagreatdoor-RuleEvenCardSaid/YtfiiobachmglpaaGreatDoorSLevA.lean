/-
  Plain: sums and differences of times are valid times; a whole unit is taken off.
  Plain: segments of a level, their counts, and the choices that are allowed.
  Plain: how segments lie, and what choices leave unchanged.
  Plain: choices by definition are those that are allowed.
  Plain: the choices by the rule, at a level and at all levels; the reading of a run.
  Plain: allowed choices leave items valid, longer than 0, and the fixed ones as they were; which errors a reading can have.
  Plain: equal notes and rests: nothing is changed at any level.
-/
import Derived.Test.YtfiiobachmglpaaGreatDoorSTime
import Derived.Test.YtfiiobachmglpaaGreatDoorSIteA
set_option linter.unusedSimpArgs false
set_option linter.unusedVariables false
namespace Go.Rse
open Go Go.Proofs
theorem qk_cop {t : Tm} (h : ckT t = 0) : Nat.gcd t.N.natAbs t.D.natAbs = 1 := by
 have := (ckT_b h).2.2.2.2.2
 unfold gI at this; omega
theorem qI_one {a b : Int} (h : ∀ g : Nat, (g : Int) ∣ a -> (g : Int) ∣ b -> g = 1) : gI a b = 1 := by
 have h1 : (Nat.gcd a.natAbs b.natAbs : Int) ∣ a := Int.ofNat_dvd_left.2 (Nat.gcd_dvd_left _ _)
 have h2 : (Nat.gcd a.natAbs b.natAbs : Int) ∣ b := Int.ofNat_dvd_left.2 (Nat.gcd_dvd_right _ _)
 unfold gI; rw [h _ h1 h2]; rfl
theorem qop_dvd {t : Tm} (h : ckT t = 0) {g : Nat} (h1 : (g : Int) ∣ t.N) (h2 : (g : Int) ∣ t.D) : g = 1 := by
 have c := qk_cop h
 have h3 := Nat.dvd_gcd (Int.ofNat_dvd_left.1 h1) (Int.ofNat_dvd_left.1 h2)
 rw [show Nat.gcd t.N.natAbs t.D.natAbs = 1 from c] at h3
 exact Nat.dvd_one.1 h3
theorem qmk_one {X Y : Int} (h : gI X Y = 1) (h0 : 0 <= X) (h1 : 1 <= Y) (hX : X <= 1099511627776) (hY : Y <= 1048576) : tmkE X Y = 0 /\ tmkT X Y = ⟨X, Y⟩ /\ ckT ⟨X, Y⟩ = 0 := by
 have e : tmkE X Y = 0 := by unfold tmkE; rw [if_neg (by omega), if_neg (by omega), h, Int.ediv_one, Int.ediv_one, if_neg (by omega)]
 refine ⟨e, ?_, ?_⟩
 ·unfold tmkT; rw [if_pos e, h, Int.ediv_one, Int.ediv_one]
 ·unfold ckT; rw [if_neg (by simp only; omega), if_neg (by simp only; omega)]
theorem qI_mod {t : Tm} (h : ckT t = 0) {x : Int} (k : Int) (hx : x = t.N - k * t.D) : gI x t.D = 1 := by
 refine qI_one fun g h1 h2 => qop_dvd h ?_ h2
 have : t.N = x + k * t.D := by omega
 rw [this]
 exact Int.dvd_add h1 (Int.dvd_mul_of_dvd_right h2)
theorem qmk_ck {X Y : Int} (h0 : 0 <= X) (h1 : 1 <= Y) (h : tmkE X Y = 0) : ckT (tmkT X Y) = 0 := by
 have hT : tmkT X Y = ⟨X / gI X Y, Y / gI X Y⟩ := by unfold tmkT; rw [if_pos h]
 have hg := gI_pos (n := X) (d := Y) (by omega)
 have gx : gI X Y ∣ X := Int.ofNat_dvd_left.2 (Nat.gcd_dvd_left _ _)
 have gy : gI X Y ∣ Y := Int.ofNat_dvd_left.2 (Nat.gcd_dvd_right _ _)
 have ex := Int.mul_ediv_cancel' gx
 have ey := Int.mul_ediv_cancel' gy
 have hx0 : 0 <= X / gI X Y := Int.ediv_nonneg h0 (by omega)
 have hy1 : 0 < Y / gI X Y := by
  apply Classical.byContradiction
  intro hn
  have := Int.mul_le_mul_of_nonneg_left (show Y / gI X Y <= 0 by omega) (Int.le_of_lt hg)
  omega
 have hone : gI (X / gI X Y) (Y / gI X Y) = 1 := qI_one fun d h2 h3 => by
  obtain ⟨a, ha⟩ := h2
  obtain ⟨b, hb⟩ := h3
  have ea := ex; rw [ha] at ea
  have eb := ey; rw [hb] at eb
  have d1 : ((Nat.gcd X.natAbs Y.natAbs * d : Nat) : Int) ∣ X := ⟨a, ea.symm.trans (by rw [Int.natCast_mul, Int.mul_assoc]; rfl)⟩
  have d2 : ((Nat.gcd X.natAbs Y.natAbs * d : Nat) : Int) ∣ Y := ⟨b, eb.symm.trans (by rw [Int.natCast_mul, Int.mul_assoc]; rfl)⟩
  have d3 := Nat.dvd_gcd (Int.ofNat_dvd_left.1 d1) (Int.ofNat_dvd_left.1 d2)
  have hgn : 0 < Nat.gcd X.natAbs Y.natAbs := by unfold gI at hg; omega
  obtain ⟨q, hq⟩ := d3
  have : d * q = 1 := Nat.eq_of_mul_eq_mul_left hgn (by rw [← Nat.mul_assoc, ← hq, Nat.mul_one])
  exact Nat.eq_one_of_mul_eq_one_right this
 have hb : ¬ (1099511627776 < X / gI X Y \/ 1048576 < Y / gI X Y) := fun hbig => by
  unfold tmkE at h
  rw [if_neg (by omega), if_neg (by omega), if_pos hbig] at h
  exact absurd h (by decide)
 rw [hT]
 unfold ckT
 rw [if_neg (by simp only; omega), if_neg (by simp only; omega)]
theorem first2' {a b : Tm} (ha : ckT a = 0) (hb : ckT b = 0) : firstT [a, b] = 0 := by simp [firstT, ha, hb]
theorem addE_ck {a b : Tm} (h : addE a b = 0) : ckT a = 0 /\ ckT b = 0 /\ ckT (addV a b) = 0 := by
 unfold addE at h
 split at h
 ·rename_i hf
  obtain ⟨ha, hb⟩ := first2 hf
  have b1 := ckT_b ha
  have b2 := ckT_b hb
  refine ⟨ha, hb, ?_⟩
  unfold addV
  rw [if_pos hf]
  have m1 := Int.mul_nonneg b1.1 b2.2.2.1
  have m2 := Int.mul_nonneg b2.1 b1.2.2.1
  exact qmk_ck (by omega) (mulP b1.2.2.2.2.1 b2.2.2.2.2.1) h
 ·exact absurd h (by assumption)
theorem subE_ck {a b : Tm} (h : subE a b = 0) : ckT a = 0 /\ ckT b = 0 /\ ckT (subV a b) = 0 := by
 unfold subE at h
 split at h
 ·rename_i hf
  obtain ⟨ha, hb⟩ := first2 hf
  have b1 := ckT_b ha
  have b2 := ckT_b hb
  refine ⟨ha, hb, ?_⟩
  unfold subV
  rw [if_pos hf]
  have h0 : 0 <= a.N * b.D - b.N * a.D := by
   unfold tmkE at h
   split at h
   ·cases h
   ·omega
  exact qmk_ck h0 (mulP b1.2.2.2.2.1 b2.2.2.2.2.1) h
 ·exact absurd h (by assumption)
theorem sub_unit {t : Tm} {f : Int} (h : ckT t = 0) (hF : ckT ⟨f, 1⟩ = 0) (hc : 0 < cmpV t ⟨f, 1⟩) : subE t ⟨f, 1⟩ = 0 /\ ckT (subV t ⟨f, 1⟩) = 0 /\ 1 <= (subV t ⟨f, 1⟩).N /\ 1 <= (subV t ⟨f, 1⟩).D := by
 have b := ckT_b h
 have b2 := ckT_b hF
 have hp := first2' h hF
 have hlt : f * t.D < t.N := by
  unfold cmpV at hc
  rw [if_pos hp] at hc
  simp only [Int.mul_one] at hc
  split at hc
  ·omega
  ·split at hc
   ·assumption
   ·omega
 have hn := Int.mul_nonneg b2.1 b.2.2.1
 simp only at hn
 have hg : gI (t.N - f * t.D) t.D = 1 := qI_mod h f rfl
 obtain ⟨k1, k2, k3⟩ := qmk_one hg (by omega) (by omega) (by omega) (by omega)
 unfold subE subV
 rw [if_pos hp, if_pos hp]
 simp only [Int.mul_one]
 rw [k2]
 exact ⟨k1, k3, by simp only; omega, by simp only; omega⟩
end Go.Rse
namespace Go.Rse
open Go Go.Proofs
structure Sgm where
 From : Int
 To : Int
 Left : Int
 Right : Int
 Free : Bool
 Count : Tm
 deriving DecidableEq
instance : Inhabited Sgm := ⟨⟨0, 0, 0, 0, false, ⟨0, 0⟩⟩⟩
def smE : Sgm -> List AV := fun x => [.int .i64 x.From, .int .i64 x.To, .int .i64 x.Left, .int .i64 x.Right, .bool x.Free, .int .i64 x.Count.N, .int .i64 x.Count.D]
abbrev smA (x : Sgm) : AV := .agg (smE x)
abbrev smsA (l : List Sgm) : AV := .sl smE l
abbrev itT (x : Ite) : List Tm := [x.Dur, x.Before, x.After]
abbrev itKd (x : Ite) : Prop := (x.Rest = true /\ x.Color = true) \/ ((x.Rest = true \/ x.Color = true) /\ x.Fixed = false)
abbrev itRg (x : Ite) : Prop := x.Value < 1 \/ 8 < x.Value \/ x.Cut < 0 \/ 8 < x.Cut
def itF (x : Ite) : Int := if itRg x then 2 else if firstT (itT x) = 0 then (if itKd x then 8 else 0) else firstT (itT x)
def ckIE : List Ite -> Int
 | [] => 0
 | x :: r => if itF x = 0 then ckIE r else itF x
def ckIX : List Ite -> Int -> Int
 | [], _ => 0
 | x :: r, k => if itF x = 0 then ckIX r (k + 1) else k
theorem ckIE_step {l : List Ite} {k : Nat} {x : Ite} (h : l[k]? = some x) : ckIE (l.drop k) = if itF x = 0 then ckIE (l.drop (k + 1)) else itF x := by
 have h1 := List.getElem?_eq_some_iff.1 h
 rw [List.drop_eq_getElem_cons h1.1, h1.2]; rfl
theorem ckIX_step {l : List Ite} {k : Nat} {x : Ite} (n : Int) (h : l[k]? = some x) : ckIX (l.drop k) n = if itF x = 0 then ckIX (l.drop (k + 1)) (n + 1) else n := by
 have h1 := List.getElem?_eq_some_iff.1 h
 rw [List.drop_eq_getElem_cons h1.1, h1.2]; rfl
theorem ckIE_all : ∀ {l : List Ite}, ckIE l = 0 -> ∀ x ∈ l, itF x = 0
 | [], _, x, hx => by simp at hx
 | s :: r, h, x, hx => by
  simp only [ckIE] at h
  by_cases hs : itF s = 0
  ·rw [if_pos hs] at h
   rcases List.mem_cons.1 hx with rfl | hx
   ·exact hs
   ·exact ckIE_all h x hx
  ·rw [if_neg hs] at h; exact absurd h hs
theorem ckIE_of : ∀ {l : List Ite}, (∀ x ∈ l, itF x = 0) -> ckIE l = 0
 | [], _ => rfl
 | s :: r, h => by
  simp only [ckIE]
  rw [if_pos (h s (by simp))]
  exact ckIE_of fun x hx => h x (List.mem_cons_of_mem _ hx)
theorem itF_ok {x : Ite} (h : itF x = 0) : (1 <= x.Value /\ x.Value <= 8 /\ 0 <= x.Cut /\ x.Cut <= 8) /\ ckT x.Dur = 0 /\ ckT x.Before = 0 /\ ckT x.After = 0 /\ ¬ itKd x := by
 unfold itF at h
 split at h
 ·cases h
 ·rename_i h1
  split at h
  ·rename_i h2
   split at h
   ·cases h
   ·rename_i h3
    have h4 := first_all h2
    exact ⟨by unfold itRg at h1; omega, h4 _ (by simp), h4 _ (by simp), h4 _ (by simp), h3⟩
  ·rename_i h2; exact absurd h h2
theorem itF_of {x : Ite} (h : (1 <= x.Value /\ x.Value <= 8 /\ 0 <= x.Cut /\ x.Cut <= 8) /\ ckT x.Dur = 0 /\ ckT x.Before = 0 /\ ckT x.After = 0 /\ ¬ itKd x) : itF x = 0 := by
 obtain ⟨h1, h2, h3, h4, h5⟩ := h
 unfold itF
 rw [if_neg (by unfold itRg; omega), if_pos (by simp [firstT, h2, h3, h4]), if_neg h5]
def unE (m : Mn) (k : Int) : Int := if ckM m = 0 then (if 1 <= k /\ k <= 4 /\ m.p k = 3 then 0 else 2) else ckM m
def unT (m : Mn) (k : Int) : Tm := if unE m k = 0 then fullT m (k + 1) else tmZ
theorem unE_0 {m : Mn} {k : Int} (h : unE m k = 0) : ckM m = 0 /\ 1 <= k /\ k <= 4 /\ m.p k = 3 := by
 unfold unE at h
 split at h
 ·split at h
  ·exact ⟨by assumption, by assumption⟩
  ·cases h
 ·exact absurd h (by assumption)
structure Bd where
 item : Int
 next : Int
 fin : Bool
 deriving DecidableEq
instance : Inhabited Bd := ⟨⟨0, 0, false⟩⟩
def bdE : Bd -> List AV := fun x => [.int .i64 x.item, .int .i64 x.next, .bool x.fin]
abbrev bdA (x : Bd) : AV := .agg (bdE x)
abbrev isH (k : Int) (x : Ite) : Prop := x.Color = false /\ x.Value <= k
abbrev isC (k : Int) (x : Ite) : Prop := 0 < x.Cut /\ x.Cut <= k
def bdK (k : Int) (l : List Ite) : Nat -> List Bd
 | 0 => [⟨-1, 0, false⟩]
 | n + 1 => match l[n]? with
  | some x => (bdK k l n ++ if isH k x then [⟨n, n + 1, false⟩] else []) ++ if isC k x then [⟨-1, n + 1, false⟩] else []
  | none => bdK k l n
def bds (k : Int) (l : List Ite) : List Bd := bdK k l l.length ++ [⟨-1, l.length, true⟩]
theorem bdK_step {k : Int} {l : List Ite} {n : Nat} {x : Ite} (h : l[n]? = some x) : bdK k l (n + 1) = (bdK k l n ++ if isH k x then [⟨n, n + 1, false⟩] else []) ++ if isC k x then [⟨-1, n + 1, false⟩] else [] := by
 conv => lhs; unfold bdK
 rw [h]
theorem bdK_pos (k : Int) (l : List Ite) : ∀ n, 1 <= (bdK k l n).length /\ (bdK k l n).length <= 2 * n + 1
 | 0 => by simp [bdK]
 | n + 1 => by
  have h := bdK_pos k l n
  cases hx : l[n]? with
  | none => unfold bdK; rw [hx]; simp only; omega
  | some x =>
   rw [bdK_step hx]
   simp only [List.length_append]
   have h1 : (if isH k x then [(⟨n, n + 1, false⟩ : Bd)] else []).length <= 1 := by split <;> simp
   have h2 : (if isC k x then [(⟨-1, n + 1, false⟩ : Bd)] else []).length <= 1 := by split <;> simp
   omega
def hdI (l : List Ite) (b : Bd) : Int := if b.item < 0 \/ (l.getD b.item.toNat default).Fixed = true then -1 else b.item
abbrev bdF (b : Bd) : Int := if 0 <= b.item then b.item else b.next
def sg0 (l : List Ite) (b c : Bd) : Sgm := ⟨b.next, bdF c, hdI l b, hdI l c, c.fin, ⟨0, 0⟩⟩
def sgs0 (l : List Ite) : List Bd -> List Sgm
 | b :: c :: r => sg0 l b c :: sgs0 l (c :: r)
 | _ => []
theorem sgs0_len (l : List Ite) : ∀ B : List Bd, (sgs0 l B).length = B.length - 1
 | [] => rfl
 | [_] => rfl
 | b :: c :: r => by
  have := sgs0_len l (c :: r)
  simp only [sgs0, List.length_cons] at this ⊢
  omega
theorem sgs0_get (l : List Ite) : ∀ (B : List Bd) (i : Nat) (b c : Bd), B[i]? = some b -> B[i + 1]? = some c -> (sgs0 l B)[i]? = some (sg0 l b c)
 | [], i, b, c, h, _ => by simp at h
 | [_], i, b, c, _, h => by simp at h
 | x :: y :: r, 0, b, c, h, h2 => by
  simp at h h2; subst h h2; rfl
 | x :: y :: r, i + 1, b, c, h, h2 => by
  have := sgs0_get l (y :: r) i b c (by simpa using h) (by simpa using h2)
  simpa [sgs0] using this
theorem sgs0_snoc (l : List Ite) : ∀ (B : List Bd) (b c : Bd), sgs0 l ((B ++ [b]) ++ [c]) = sgs0 l (B ++ [b]) ++ [sg0 l b c]
 | [], b, c => rfl
 | [x], b, c => rfl
 | x :: y :: r, b, c => by
  have := sgs0_snoc l (y :: r) b c
  simp only [List.cons_append, sgs0] at this ⊢
  rw [this]
def itR (l : List Ite) (s : Sgm) : List Ite := (l.drop s.From.toNat).take (s.To.toNat - s.From.toNat)
def drL (l : List Ite) : List Tm := l.map (·.Dur)
def lsE (a b : Tm) : Int := if subE a b = 2 then 14 else subE a b
def cn1 (t : Tm) (h : Int) (d : Tm) : Tm × Int := if h < 0 then (t, 0) else if lsE t d = 0 then (subV t d, 0) else (tmZ, lsE t d)
def cnA (l : List Ite) (s : Sgm) : Tm × Int := sumF ⟨0, 1⟩ (drL (itR l s))
def cnB (l : List Ite) (s : Sgm) : Tm × Int := if (cnA l s).2 = 0 then cn1 (cnA l s).1 s.Left (l.getD s.Left.toNat default).After else (tmZ, (cnA l s).2)
def cnC (l : List Ite) (s : Sgm) : Tm × Int := if (cnB l s).2 = 0 then cn1 (cnB l s).1 s.Right (l.getD s.Right.toNat default).Before else (tmZ, (cnB l s).2)
def divE (a b : Tm) : Int := if firstT [a, b] = 0 then (if b.N = 0 then 5 else tmsE a.N a.D b.D b.N) else firstT [a, b]
def divV (a b : Tm) : Tm := if firstT [a, b] = 0 then (if b.N = 0 then tmZ else tmsV a.N a.D b.D b.N) else tmZ
def cnE (u : Tm) (l : List Ite) (s : Sgm) : Int := if (cnC l s).2 = 0 then divE (cnC l s).1 u else (cnC l s).2
def cnV (u : Tm) (l : List Ite) (s : Sgm) : Tm := if (cnC l s).2 = 0 then divV (cnC l s).1 u else tmZ
def segW (u : Tm) (l : List Ite) (s : Sgm) : Sgm := { s with Count := cnV u l s }
def segR (u : Tm) (l : List Ite) (s : Sgm) : Int := if cnE u l s = 0 then (if s.Free = false /\ ¬ (cnV u l s).D = 1 then 14 else 0) else cnE u l s
def segX (u : Tm) (l : List Ite) : List Sgm -> Int
 | [] => 0
 | s :: r => if segR u l s = 0 then segX u l r else segR u l s
theorem sgX_step {u : Tm} {l : List Ite} {L : List Sgm} {k : Nat} {s : Sgm} (h : L[k]? = some s) : segX u l (L.drop k) = if segR u l s = 0 then segX u l (L.drop (k + 1)) else segR u l s := by
 have h1 := List.getElem?_eq_some_iff.1 h
 rw [List.drop_eq_getElem_cons h1.1, h1.2]; rfl
def segE (m : Mn) (k : Int) (l : List Ite) : Int := if unE m k = 0 then (if ckIE l = 0 then segX (unT m k) l (sgs0 l (bds k l)) else ckIE l) else unE m k
def segV (m : Mn) (k : Int) (l : List Ite) : List Sgm := if segE m k l = 0 then (sgs0 l (bds k l)).map (segW (unT m k) l) else []
def smF : Tm -> List Tm -> List Tm
 | _, [] => []
 | t, d :: r => addV t d :: smF (addV t d) r
def fsL (l : List Ite) : List Tm := smF ⟨0, 1⟩ (drL l)
def lasL (l : List Ite) : List Tm := match (fsL l).getLast? with
 | none => []
 | some a => a :: (((fsL l).dropLast.filter fun t => decide (subE a t = 0)).map fun t => subV a t)
def rcQ (u : Tm) (sums : List Tm) (lost : Tm) : Bool := decide (addE lost u = 0) && decide (addV lost u ∈ sums)
def lgQ (u : Tm) (x : Ite) : Bool := decide (0 < cmpV x.Dur u)
abbrev itg (l : List Ite) (i : Int) : Ite := l.getD i.toNat default
def poQ (u : Tm) (k : Int) (l : List Ite) (L : List (Int × Bool)) (s : Sgm) : Bool :=
 !decide (s.Left < 0) && ((decide ((itg l s.Left).Value < k) || !(mget s.Left L).getD false) && lgQ u (itg l s.Left) && rcQ u (fsL (itR l s)) (itg l s.Left).After)
def blQ (k : Int) (l : List Ite) (h : Int) : Bool :=
 decide ((itg l h).Value = k) && decide (h + 1 < l.length) && !decide (0 < (itg l h).Cut) && (!(itg l (h + 1)).Color && decide ((itg l (h + 1)).Value = k))
def anQ (u : Tm) (k : Int) (l : List Ite) (s : Sgm) : Bool :=
 !decide (s.Right < 0) && (!blQ k l s.Right && (lgQ u (itg l s.Right) && rcQ u (lasL (itR l s)) (itg l s.Right).Before))
def ntQ (u : Tm) (k : Int) (x : Ite) : Bool := !x.Rest && !x.Color && !x.Fixed && decide (x.Value = k + 1) && decide (x.Dur = u)
def atQ (u : Tm) (k : Int) (l : List Ite) (s : Sgm) : Bool :=
 !(decide (s.From = s.To) || s.Free) && (ntQ u k (itg l (s.To - 1)) && (decide (s.Right < 0) || decide ((itg l s.Right).Before.N = 0)))
def alR (p a t : Bool) (s : Sgm) : List Int :=
 (if s.Count.N % 3 = 0 \/ s.Free = true then [0] else []) ++ (if s.Count.N % 3 = 1 /\ s.Count.D = 1 /\ p = true then [1] else []) ++ (if s.Count.N % 3 = 1 /\ s.Free = false /\ a = true then [2] else []) ++
 (if s.Count.N % 3 = 2 /\ s.Free = false /\ p = true /\ a = true then [3] else []) ++ (if s.Count.N % 3 = 2 /\ s.Free = false /\ t = true then [4] else [])
def alQ (u : Tm) (k : Int) (l : List Ite) (L : List (Int × Bool)) (s : Sgm) : List Int := alR (poQ u k l L s) (anQ u k l s) (atQ u k l s) s
def loseA (u : Tm) (x : Ite) : Ite := { x with Dur := subV x.Dur u, After := addV x.After u }
def loseB (u : Tm) (x : Ite) : Ite := { x with Dur := subV x.Dur u, Before := addV x.Before u }
def dblI (x : Ite) : Ite := { x with Dur := addV x.Dur x.Dur }
def upI (l : List Ite) (i : Int) (f : Ite -> Ite) : List Ite := l.set i.toNat (f (itg l i))
def chN (u : Tm) (s : Sgm) (c : Int) (l : List Ite) : List Ite :=
 let l1 := if c = 1 \/ c = 3 then upI l s.Left (loseA u) else l
 let l2 := if c = 2 \/ c = 3 then upI l1 s.Right (loseB u) else l1
 if c = 4 then upI l2 (s.To - 1) dblI else l2
def chL (s : Sgm) (c : Int) (L : List (Int × Bool)) : List (Int × Bool) := if c = 2 \/ c = 3 then mput s.Right true L else L
theorem upI_len (l : List Ite) (i : Int) (f : Ite -> Ite) : (upI l i f).length = l.length := by unfold upI; simp
theorem chN_len (u : Tm) (s : Sgm) (c : Int) (l : List Ite) : (chN u s c l).length = l.length := by
 unfold chN; simp only; split <;> split <;> split <;> simp [upI_len]
def stK (u : Tm) (S : List Sgm) (l : List Ite) (M : List Int) : Nat -> List Ite × List (Int × Bool)
 | 0 => (l, [])
 | n + 1 => (chN u (S.getD n default) (M.getD n 0) (stK u S l M n).1, chL (S.getD n default) (M.getD n 0) (stK u S l M n).2)
def alK (u : Tm) (k : Int) (S : List Sgm) (l : List Ite) (M : List Int) (n : Nat) : List Int := alQ u k (stK u S l M n).1 (stK u S l M n).2 (S.getD n default)
def okJ (u : Tm) (k : Int) (S : List Sgm) (l : List Ite) (M : List Int) : Nat -> Bool
 | 0 => true
 | n + 1 => okJ u k S l M n && decide (M.getD n 0 ∈ alK u k S l M n)
theorem stK_len (u : Tm) (S : List Sgm) (l : List Ite) (M : List Int) : ∀ n, (stK u S l M n).1.length = l.length
 | 0 => rfl
 | n + 1 => by show (chN _ _ _ _).length = _; rw [chN_len, stK_len u S l M n]
theorem stK_s (u : Tm) (S : List Sgm) (l : List Ite) (M : List Int) (n : Nat) : stK u S l M (n + 1) = (chN u (S.getD n default) (M.getD n 0) (stK u S l M n).1, chL (S.getD n default) (M.getD n 0) (stK u S l M n).2) := rfl
def apE (m : Mn) (k : Int) (l : List Ite) (M : List Int) : Int := if segE m k l = 0 then (if ¬ (segV m k l).length = M.length \/ okJ (unT m k) k (segV m k l) l M M.length = false then 2 else 0) else segE m k l
def apV (m : Mn) (k : Int) (l : List Ite) (M : List Int) : List Ite := if apE m k l M = 0 then (stK (unT m k) (segV m k l) l M M.length).1 else []
end Go.Rse
namespace Go.Rse
open Go Go.Proofs
structure BdOk (k : Int) (l : List Ite) (n : Nat) (b : Bd) : Prop where
 it : b.item = -1 \/ (0 <= b.item /\ b.next = b.item + 1 /\ isH k (itg l b.item))
 lo : 0 <= b.next
 hi : b.next <= n
theorem BdOk.mono {k : Int} {l : List Ite} {n n' : Nat} {b : Bd} (h : BdOk k l n b) (hn : n <= n') : BdOk k l n' b := ⟨h.it, h.lo, by have := h.hi; omega⟩
theorem itg_of {l : List Ite} {n : Nat} {x : Ite} (h : l[n]? = some x) : itg l (n : Int) = x := by
 unfold itg; rw [show (n : Int).toNat = n by omega, List.getD_eq_getElem?_getD, h]; rfl
theorem bdK_ok (k : Int) (l : List Ite) : ∀ n, n <= l.length -> (∀ b ∈ bdK k l n, BdOk k l n b /\ b.fin = false) /\ (bdK k l n).Pairwise (fun b c => b.next <= bdF c)
 | 0, _ => by
  constructor
  ·intro b hb
   simp [bdK] at hb; subst hb
   exact ⟨⟨.inl rfl, by simp, by simp⟩, rfl⟩
  ·simp [bdK]
 | n + 1, hn => by
  obtain ⟨h1, h2⟩ := bdK_ok k l n (by omega)
  have hx : l[n]? = some l[n] := List.getElem?_eq_getElem (by omega)
  rw [bdK_step hx]
  have hg := itg_of hx
  generalize l[n] = x at *
  have a1 : ∀ b ∈ bdK k l n ++ (if isH k x then [(⟨n, n + 1, false⟩ : Bd)] else []), BdOk k l (n + 1) b /\ b.fin = false := by
   intro b hb
   rcases List.mem_append.1 hb with hb | hb
   ·exact ⟨(h1 b hb).1.mono (by omega), (h1 b hb).2⟩
   ·split at hb
    ·rename_i hh
     simp at hb; subst hb
     refine ⟨⟨.inr ⟨by simp, rfl, ?_⟩, by show (0 : Int) <= n + 1; omega, by show (n : Int) + 1 <= ((n + 1 : Nat) : Int); omega⟩, rfl⟩
     show isH k (itg l (n : Int)); rw [hg]; exact hh
    ·simp at hb
  have a2 : (bdK k l n ++ (if isH k x then [(⟨n, n + 1, false⟩ : Bd)] else [])).Pairwise (fun b c => b.next <= bdF c) := by
   refine List.pairwise_append.2 ⟨h2, ?_, ?_⟩
   ·split <;> simp
   ·intro b hb c hc
    split at hc
    ·simp at hc; subst hc
     have := (h1 b hb).1.hi
     show b.next <= if (0 : Int) <= (n : Int) then (n : Int) else _
     rw [if_pos (by omega)]; exact this
    ·simp at hc
  constructor
  ·intro b hb
   rcases List.mem_append.1 hb with hb | hb
   ·exact a1 b hb
   ·split at hb
    ·simp at hb; subst hb
     exact ⟨⟨.inl rfl, by show (0 : Int) <= n + 1; omega, by show (n : Int) + 1 <= ((n + 1 : Nat) : Int); omega⟩, rfl⟩
    ·simp at hb
  ·refine List.pairwise_append.2 ⟨a2, ?_, ?_⟩
   ·split <;> simp
   ·intro b hb c hc
    split at hc
    ·simp at hc; subst hc
     have := (a1 b hb).1.hi
     show b.next <= if (0 : Int) <= -1 then (-1 : Int) else (n : Int) + 1
     rw [if_neg (by omega)]; omega
    ·simp at hc
theorem bds_ok (k : Int) (l : List Ite) : (∀ b ∈ bds k l, BdOk k l l.length b) /\ (bds k l).Pairwise (fun b c => b.next <= bdF c) := by
 obtain ⟨h1, h2⟩ := bdK_ok k l l.length (Nat.le_refl _)
 unfold bds
 constructor
 ·intro b hb
  rcases List.mem_append.1 hb with hb | hb
  ·exact (h1 b hb).1
  ·simp at hb; subst hb; exact ⟨.inl rfl, by simp, by simp⟩
 ·refine List.pairwise_append.2 ⟨h2, by simp, ?_⟩
  intro b hb c hc
  simp at hc; subst hc
  have := (h1 b hb).1.hi
  show b.next <= if (0 : Int) <= -1 then (-1 : Int) else (l.length : Int)
  rw [if_neg (by omega)]; exact this
theorem bdK_head (k : Int) (l : List Ite) : ∀ n, (bdK k l n)[0]? = some ⟨-1, 0, false⟩
 | 0 => rfl
 | n + 1 => by
  have h := bdK_head k l n
  have hp := (bdK_pos k l n).1
  cases hx : l[n]? with
  | none => unfold bdK; rw [hx]; exact h
  | some x => rw [bdK_step hx, List.append_assoc, List.getElem?_append_left (by omega)]; exact h
theorem bds_len (k : Int) (l : List Ite) : (bds k l).length = (bdK k l l.length).length + 1 := by unfold bds; simp
theorem bds_head (k : Int) (l : List Ite) : (bds k l)[0]? = some ⟨-1, 0, false⟩ := by
 unfold bds
 rw [List.getElem?_append_left (by have := (bdK_pos k l l.length).1; omega)]
 exact bdK_head k l _
theorem bds_fin {k : Int} {l : List Ite} {i : Nat} {b : Bd} (h : (bds k l)[i]? = some b) : b.fin = decide (i + 1 = (bds k l).length) := by
 have hl := bds_len k l
 unfold bds at h
 rcases Nat.lt_or_ge i (bdK k l l.length).length with hi | hi
 ·rw [List.getElem?_append_left hi] at h
  rw [((bdK_ok k l l.length (Nat.le_refl _)).1 b (List.mem_of_getElem? h)).2, eq_comm, decide_eq_false_iff_not]; omega
 ·rw [List.getElem?_append_right hi] at h
  have h0 : i - (bdK k l l.length).length = 0 := by
   rcases Nat.eq_zero_or_pos (i - (bdK k l l.length).length) with h0 | h0
   ·exact h0
   ·rw [List.getElem?_eq_none (by simp; omega)] at h; cases h
  rw [h0] at h
  simp at h; subst h
  show true = _
  rw [eq_comm, decide_eq_true_iff]; omega
structure SgOk (k : Int) (l : List Ite) (s : Sgm) : Prop where
 f0 : 0 <= s.From
 ft : s.From <= s.To
 tl : s.To <= l.length
 lf : s.Left = -1 \/ (0 <= s.Left /\ s.Left + 1 = s.From /\ (itg l s.Left).Value <= k /\ (itg l s.Left).Color = false /\ (itg l s.Left).Fixed = false)
 rt : s.Right = -1 \/ (s.Right = s.To /\ s.To < l.length /\ (itg l s.Right).Value <= k /\ (itg l s.Right).Color = false /\ (itg l s.Right).Fixed = false)
structure SgsOk (k : Int) (l : List Ite) (S : List Sgm) : Prop where
 all : ∀ s ∈ S, SgOk k l s
 nx : ∀ n s t, S[n]? = some s -> S[n + 1]? = some t -> t.Left = s.Right /\ s.To <= t.From /\ (0 <= s.Right -> t.From = s.To + 1)
 st : ∀ s, S[0]? = some s -> s.Left = -1
theorem hdI_or {k : Int} {l : List Ite} {n : Nat} {b : Bd} (h : BdOk k l n b) : hdI l b = -1 \/ (0 <= b.item /\ hdI l b = b.item /\ b.next = b.item + 1 /\ (itg l b.item).Value <= k /\ (itg l b.item).Color = false /\ (itg l b.item).Fixed = false) := by
 unfold hdI
 split
 ·exact .inl rfl
 ·rename_i hc
  have h1 : ¬ b.item < 0 := fun h => hc (.inl h)
  have h2 : (itg l b.item).Fixed = false := by
   cases hf : (itg l b.item).Fixed with
   | false => rfl
   | true => exact absurd (.inr hf) hc
  rcases h.it with h3 | ⟨h3, h4, h5⟩
  ·omega
  ·exact .inr ⟨h3, rfl, h4, h5.2, h5.1, h2⟩
theorem sg0_ok {k : Int} {l : List Ite} {b c : Bd} (hb : BdOk k l l.length b) (hc : BdOk k l l.length c) (h : b.next <= bdF c) : SgOk k l (sg0 l b c) := by
 have hcF : bdF c <= c.next := by
  unfold bdF
  rcases hc.it with h3 | ⟨h3, h4, h5⟩
  ·rw [if_neg (by omega)]; exact Int.le_refl _
  ·rw [if_pos h3]; omega
 refine ⟨hb.lo, h, by have := hc.hi; show bdF c <= l.length; omega, ?_, ?_⟩
 ·rcases hdI_or hb with h3 | ⟨h3, h4, h5, h6⟩
  ·exact .inl h3
  ·refine .inr ?_
   show 0 <= hdI l b /\ hdI l b + 1 = b.next /\ (itg l (hdI l b)).Value <= k /\ (itg l (hdI l b)).Color = false /\ (itg l (hdI l b)).Fixed = false
   rw [h4]; exact ⟨h3, h5.symm, h6⟩
 ·rcases hdI_or hc with h3 | ⟨h3, h4, h5, h6⟩
  ·exact .inl h3
  ·refine .inr ?_
   have hF : bdF c = c.item := by unfold bdF; rw [if_pos h3]
   show hdI l c = bdF c /\ bdF c < l.length /\ (itg l (hdI l c)).Value <= k /\ (itg l (hdI l c)).Color = false /\ (itg l (hdI l c)).Fixed = false
   rw [h4, hF]
   exact ⟨rfl, by have := hc.hi; omega, h6⟩
theorem sgs0_at {l : List Ite} {B : List Bd} {i : Nat} {s : Sgm} (h : (sgs0 l B)[i]? = some s) : ∃ b c, B[i]? = some b /\ B[i + 1]? = some c /\ s = sg0 l b c := by
 have hi := (List.getElem?_eq_some_iff.1 h).1
 rw [sgs0_len] at hi
 have hb : B[i]? = some B[i] := List.getElem?_eq_getElem (by omega)
 have hc : B[i + 1]? = some B[i + 1] := List.getElem?_eq_getElem (by omega)
 have := sgs0_get l B i _ _ hb hc
 rw [h] at this
 exact ⟨_, _, hb, hc, Option.some.inj this⟩
theorem pw_next {B : List Bd} (h : B.Pairwise (fun b c => b.next <= bdF c)) {i : Nat} {b c : Bd} (hb : B[i]? = some b) (hc : B[i + 1]? = some c) : b.next <= bdF c := by
 obtain ⟨h1, rfl⟩ := List.getElem?_eq_some_iff.1 hb
 obtain ⟨h2, rfl⟩ := List.getElem?_eq_some_iff.1 hc
 exact List.pairwise_iff_getElem.1 h i (i + 1) h1 h2 (by omega)
theorem sgs0_ok (k : Int) (l : List Ite) : SgsOk k l (sgs0 l (bds k l)) := by
 obtain ⟨h1, h2⟩ := bds_ok k l
 refine ⟨?_, ?_, ?_⟩
 ·intro s hs
  obtain ⟨i, hi⟩ := List.getElem?_of_mem hs
  obtain ⟨b, c, hb, hc, rfl⟩ := sgs0_at hi
  exact sg0_ok (h1 b (List.mem_of_getElem? hb)) (h1 c (List.mem_of_getElem? hc)) (pw_next h2 hb hc)
 ·intro n s t hs ht
  obtain ⟨b, c, hb, hc, rfl⟩ := sgs0_at hs
  obtain ⟨c', d, hc', hd, rfl⟩ := sgs0_at ht
  rw [hc] at hc'; cases hc'
  have ho := h1 c (List.mem_of_getElem? hc)
  refine ⟨rfl, ?_, ?_⟩
  ·show bdF c <= c.next
   unfold bdF
   rcases ho.it with h3 | ⟨h3, h4, h5⟩
   ·rw [if_neg (by omega)]; exact Int.le_refl _
   ·rw [if_pos h3]; omega
  ·intro h
   have h : 0 <= hdI l c := h
   show c.next = bdF c + 1
   rcases hdI_or ho with h3 | ⟨h3, h4, h5, h6⟩
   ·omega
   ·unfold bdF; rw [if_pos h3]; exact h5
 ·intro s hs
  obtain ⟨b, c, hb, hc, rfl⟩ := sgs0_at hs
  rw [bds_head] at hb; cases hb
  rfl
theorem SgOk.cnt {k : Int} {l : List Ite} {s : Sgm} (h : SgOk k l s) (t : Tm) : SgOk k l { s with Count := t } := ⟨h.f0, h.ft, h.tl, h.lf, h.rt⟩
theorem sgV_ok {m : Mn} {k : Int} {l : List Ite} (h : segE m k l = 0) : SgsOk k l (segV m k l) := by
 have h0 := sgs0_ok k l
 unfold segV
 rw [if_pos h]
 refine ⟨?_, ?_, ?_⟩
 ·intro s hs
  obtain ⟨t, ht, rfl⟩ := List.mem_map.1 hs
  exact (h0.all t ht).cnt _
 ·intro n s t hs ht
  rw [List.getElem?_map] at hs ht
  obtain ⟨s', hs', rfl⟩ := Option.map_eq_some_iff.1 hs
  obtain ⟨t', ht', rfl⟩ := Option.map_eq_some_iff.1 ht
  exact h0.nx n s' t' hs' ht'
 ·intro s hs
  rw [List.getElem?_map] at hs
  obtain ⟨s', hs', rfl⟩ := Option.map_eq_some_iff.1 hs
  exact h0.st s' hs'
theorem sgE_0 {m : Mn} {k : Int} {l : List Ite} (h : segE m k l = 0) : unE m k = 0 /\ ckIE l = 0 /\ segX (unT m k) l (sgs0 l (bds k l)) = 0 := by
 unfold segE at h
 split at h
 ·split at h
  ·exact ⟨by assumption, by assumption, h⟩
  ·exact absurd h (by assumption)
 ·exact absurd h (by assumption)
def sameI (x y : Ite) : Prop := x.Sign = y.Sign /\ x.Value = y.Value /\ x.Rest = y.Rest /\ x.Color = y.Color /\ x.Fixed = y.Fixed /\ x.Cut = y.Cut
theorem sameI.rfl' (x : Ite) : sameI x x := ⟨rfl, rfl, rfl, rfl, rfl, rfl⟩
theorem sameI.tr {x y z : Ite} (h : sameI x y) (g : sameI y z) : sameI x z := ⟨h.1.trans g.1, h.2.1.trans g.2.1, h.2.2.1.trans g.2.2.1, h.2.2.2.1.trans g.2.2.2.1, h.2.2.2.2.1.trans g.2.2.2.2.1, h.2.2.2.2.2.trans g.2.2.2.2.2⟩
theorem upI_get {l : List Ite} {i j : Int} {f : Ite -> Ite} (hi : 0 <= i) (hj : 0 <= j) (hl : i < l.length) : itg (upI l i f) j = if i = j then f (itg l i) else itg l j := by
 unfold itg upI
 rw [List.getD_eq_getElem?_getD, List.getElem?_set]
 by_cases h : i = j
 ·subst h
  rw [if_pos rfl, if_pos rfl, if_pos (by omega)]; rfl
 ·rw [if_neg (by omega), if_neg h, ← List.getD_eq_getElem?_getD]
theorem upI_same {l : List Ite} {i j : Int} {f : Ite -> Ite} (hf : ∀ x, sameI (f x) x) (hi : 0 <= i) (hj : 0 <= j) (hl : i < l.length) : sameI (itg (upI l i f) j) (itg l j) := by
 rw [upI_get hi hj hl]
 split
 ·rename_i h; subst h; exact hf _
 ·exact sameI.rfl' _
theorem loseA_same (u : Tm) (x : Ite) : sameI (loseA u x) x := sameI.rfl' _
theorem loseB_same (u : Tm) (x : Ite) : sameI (loseB u x) x := sameI.rfl' _
theorem dblI_same (x : Ite) : sameI (dblI x) x := sameI.rfl' _
structure ChOk (s : Sgm) (c : Int) : Prop where
 lf : c = 1 \/ c = 3 -> 0 <= s.Left
 rt : c = 2 \/ c = 3 -> 0 <= s.Right
 al : c = 4 -> s.From < s.To
theorem alR_mem {p a t : Bool} {s : Sgm} {c : Int} (h : c ∈ alR p a t s) : (c = 0 /\ (s.Count.N % 3 = 0 \/ s.Free = true)) \/ (c = 1 /\ p = true /\ s.Count.N % 3 = 1) \/ (c = 2 /\ a = true /\ s.Free = false /\ s.Count.N % 3 = 1) \/ (c = 3 /\ p = true /\ a = true /\ s.Free = false /\ s.Count.N % 3 = 2) \/ (c = 4 /\ t = true /\ s.Free = false /\ s.Count.N % 3 = 2) := by
 unfold alR at h
 simp only [List.mem_append] at h
 rcases h with (((h | h) | h) | h) | h
 ·split at h
  ·simp at h; exact .inl ⟨h, by assumption⟩
  ·simp at h
 ·split at h
  ·rename_i hh; simp at h; exact .inr (.inl ⟨h, hh.2.2, hh.1⟩)
  ·simp at h
 ·split at h
  ·rename_i hh; simp at h; exact .inr (.inr (.inl ⟨h, hh.2.2, hh.2.1, hh.1⟩))
  ·simp at h
 ·split at h
  ·rename_i hh; simp at h; exact .inr (.inr (.inr (.inl ⟨h, hh.2.2.1, hh.2.2.2, hh.2.1, hh.1⟩)))
  ·simp at h
 ·split at h
  ·rename_i hh; simp at h; exact .inr (.inr (.inr (.inr ⟨h, hh.2.2, hh.2.1, hh.1⟩)))
  ·simp at h
theorem poQ_0 {u : Tm} {k : Int} {l : List Ite} {L : List (Int × Bool)} {s : Sgm} (h : poQ u k l L s = true) : 0 <= s.Left /\ lgQ u (itg l s.Left) = true /\ rcQ u (fsL (itR l s)) (itg l s.Left).After = true := by
 unfold poQ at h
 simp only [Bool.and_eq_true, Bool.not_eq_true', decide_eq_false_iff_not] at h
 exact ⟨by omega, h.2.1.2, h.2.2⟩
theorem anQ_0 {u : Tm} {k : Int} {l : List Ite} {s : Sgm} (h : anQ u k l s = true) : 0 <= s.Right /\ lgQ u (itg l s.Right) = true /\ rcQ u (lasL (itR l s)) (itg l s.Right).Before = true := by
 unfold anQ at h
 simp only [Bool.and_eq_true, Bool.not_eq_true', decide_eq_false_iff_not] at h
 exact ⟨by omega, h.2.2.1, h.2.2.2⟩
theorem atQ_0 {u : Tm} {k : Int} {l : List Ite} {s : Sgm} (h : atQ u k l s = true) : ¬ s.From = s.To /\ ntQ u k (itg l (s.To - 1)) = true := by
 unfold atQ at h
 simp only [Bool.and_eq_true, Bool.not_eq_true', Bool.or_eq_false_iff, decide_eq_false_iff_not] at h
 exact ⟨h.1.1, h.2.1⟩
theorem alQ_ch {u : Tm} {k : Int} {l : List Ite} {L : List (Int × Bool)} {s : Sgm} {c : Int} (hs : s.From <= s.To) (h : c ∈ alQ u k l L s) : ChOk s c := by
 unfold alQ at h
 rcases alR_mem h with ⟨h1, _⟩ | ⟨h1, h2, _⟩ | ⟨h1, h2, _⟩ | ⟨h1, h2, h3, _⟩ | ⟨h1, h2, _⟩
 ·exact ⟨by omega, by omega, by omega⟩
 ·exact ⟨fun _ => (poQ_0 h2).1, by omega, by omega⟩
 ·exact ⟨by omega, fun _ => (anQ_0 h2).1, by omega⟩
 ·exact ⟨fun _ => (poQ_0 h2).1, fun _ => (anQ_0 h3).1, by omega⟩
 ·exact ⟨by omega, by omega, fun _ => by have := (atQ_0 h2).1; omega⟩
theorem chN_get {k : Int} {u : Tm} {s : Sgm} {c : Int} {l0 l : List Ite} (hs : SgOk k l0 s) (hl : l.length = l0.length) (hc : ChOk s c) {i : Int} (hi : 0 <= i) :
 sameI (itg (chN u s c l) i) (itg l i) /\ (¬ i = s.Left -> ¬ i = s.Right -> ¬ i = s.To - 1 -> itg (chN u s c l) i = itg l i) /\ (¬ i = s.Left -> (itg (chN u s c l) i).After = (itg l i).After) := by
 unfold chN
 simp only
 have A : (if c = 1 \/ c = 3 then upI l s.Left (loseA u) else l).length = l.length := by split <;> simp [upI_len]
 have B : (if c = 2 \/ c = 3 then upI (if c = 1 \/ c = 3 then upI l s.Left (loseA u) else l) s.Right (loseB u) else (if c = 1 \/ c = 3 then upI l s.Left (loseA u) else l)).length = l.length := by split <;> simp [upI_len, A]
 have h1 : sameI (itg (if c = 1 \/ c = 3 then upI l s.Left (loseA u) else l) i) (itg l i) /\ (¬ i = s.Left -> itg (if c = 1 \/ c = 3 then upI l s.Left (loseA u) else l) i = itg l i) := by
  split
  ·rename_i h
   have h0 := hc.lf h
   have hlt : s.Left < l.length := by have := hs.tl; have := hs.ft; rcases hs.lf with h2 | h2 <;> omega
   refine ⟨upI_same (loseA_same u) h0 hi hlt, fun hn => ?_⟩
   rw [upI_get h0 hi hlt, if_neg (by omega)]
  ·exact ⟨sameI.rfl' _, fun _ => rfl⟩
 generalize (if c = 1 \/ c = 3 then upI l s.Left (loseA u) else l) = l1 at *
 have h2 : sameI (itg (if c = 2 \/ c = 3 then upI l1 s.Right (loseB u) else l1) i) (itg l1 i) /\ (¬ i = s.Right -> itg (if c = 2 \/ c = 3 then upI l1 s.Right (loseB u) else l1) i = itg l1 i) /\ (itg (if c = 2 \/ c = 3 then upI l1 s.Right (loseB u) else l1) i).After = (itg l1 i).After := by
  split
  ·rename_i h
   have h0 := hc.rt h
   have hlt : s.Right < l1.length := by rw [A, hl]; rcases hs.rt with h2 | h2 <;> omega
   refine ⟨upI_same (loseB_same u) h0 hi hlt, fun hn => ?_, ?_⟩
   ·rw [upI_get h0 hi hlt, if_neg (by omega)]
   ·rw [upI_get h0 hi hlt]; split
    ·rename_i h; subst h; rfl
    ·rfl
  ·exact ⟨sameI.rfl' _, fun _ => rfl, rfl⟩
 generalize (if c = 2 \/ c = 3 then upI l1 s.Right (loseB u) else l1) = l2 at *
 have h3 : sameI (itg (if c = 4 then upI l2 (s.To - 1) dblI else l2) i) (itg l2 i) /\ (¬ i = s.To - 1 -> itg (if c = 4 then upI l2 (s.To - 1) dblI else l2) i = itg l2 i) /\ (itg (if c = 4 then upI l2 (s.To - 1) dblI else l2) i).After = (itg l2 i).After := by
  split
  ·rename_i h
   have h0 := hc.al h
   have hlt : s.To - 1 < l2.length := by rw [B, hl]; have := hs.tl; omega
   have h00 : 0 <= s.To - 1 := by have := hs.f0; omega
   refine ⟨upI_same dblI_same h00 hi hlt, fun hn => ?_, ?_⟩
   ·rw [upI_get h00 hi hlt, if_neg (by omega)]
   ·rw [upI_get h00 hi hlt]; split
    ·rename_i h; subst h; rfl
    ·rfl
  ·exact ⟨sameI.rfl' _, fun _ => rfl, rfl⟩
 refine ⟨h3.1.tr (h2.1.tr h1.1), fun a b d => ?_, fun a => ?_⟩
 ·rw [h3.2.1 d, h2.2.1 b, h1.2 a]
 ·rw [h3.2.2, h2.2.2, h1.2 a]
theorem mget_put (q r : Int) (x : Bool) (L : List (Int × Bool)) : mget q (mput r x L) = if r = q then some x else mget q L := by
 exact mget_mput q r x L
structure StaOk (l : List Ite) (S : List Sgm) (M : List Int) (n : Nat) (st : List Ite × List (Int × Bool)) : Prop where
 len : st.1.length = l.length
 same : ∀ i : Int, 0 <= i -> sameI (itg st.1 i) (itg l i)
 rest : ∀ s, S[n]? = some s -> ∀ i : Int, s.From <= i -> itg st.1 i = itg l i /\ mget i st.2 = none
 left : ∀ s, S[n]? = some s -> 0 <= s.Left -> (itg st.1 s.Left).After = (itg l s.Left).After /\ (mget s.Left st.2).getD false = (decide (0 < n) && (decide (M.getD (n - 1) 0 = 2) || decide (M.getD (n - 1) 0 = 3)))
theorem stK_ok {u : Tm} {k : Int} {S : List Sgm} {l : List Ite} {M : List Int} (hS : SgsOk k l S) : ∀ n, n <= S.length -> okJ u k S l M n = true -> StaOk l S M n (stK u S l M n)
 | 0, _, _ => by
  refine ⟨rfl, fun _ _ => sameI.rfl' _, fun s hs i hi => ⟨rfl, rfl⟩, fun s hs h0 => ?_⟩
  have := hS.st s hs; omega
 | n + 1, hn, hk => by
  have hk : (okJ u k S l M n && decide (M.getD n 0 ∈ alK u k S l M n)) = true := hk
  simp only [Bool.and_eq_true, decide_eq_true_eq] at hk
  have ih := stK_ok hS n (by omega) hk.1
  rw [stK_s]
  have hs : S[n]? = some S[n] := List.getElem?_eq_getElem (by omega)
  have hd : S.getD n default = S[n] := by rw [List.getD_eq_getElem?_getD, hs]; rfl
  have hso := hS.all _ (List.mem_of_getElem? hs)
  unfold alK at hk
  rw [hd] at hk ⊢
  generalize S[n] = s at *
  generalize stK u S l M n = st at *
  have hc := alQ_ch hso.ft hk.2
  generalize hM : M.getD n 0 = c at *
  have hg := fun (i : Int) (hi : 0 <= i) => chN_get (u := u) hso ih.len hc hi
  have hlt : s.Left < s.From := by have := hso.f0; rcases hso.lf with h | h <;> omega
  refine ⟨by rw [chN_len]; exact ih.len, fun i hi => (hg i hi).1.tr (ih.same i hi), fun t ht i hi => ?_, fun t ht h0 => ?_⟩
  ·obtain ⟨n1, n2, n3⟩ := hS.nx n s t hs ht
   have hi0 : 0 <= i := by have := (hS.all t (List.mem_of_getElem? ht)).f0; omega
   have hf := hso.ft
   have hr : ¬ i = s.Right := by rcases hso.rt with h | h <;> omega
   have := ih.rest s hs i (by omega)
   refine ⟨by rw [(hg i hi0).2.1 (by omega) hr (by omega)]; exact this.1, ?_⟩
   show mget i (chL s c st.2) = none
   unfold chL
   split
   ·rw [mget_put, if_neg (by omega)]; exact this.2
   ·exact this.2
  ·obtain ⟨n1, n2, n3⟩ := hS.nx n s t hs ht
   have hr : 0 <= s.Right := by omega
   have hrt : s.Right = s.To := by rcases hso.rt with h | h <;> omega
   have hf := hso.ft
   have hth := ih.rest s hs t.Left (by omega)
   refine ⟨by rw [(hg t.Left h0).2.2 (by omega), hth.1], ?_⟩
   show (mget t.Left (chL s c st.2)).getD false = _
   rw [show n + 1 - 1 = n from rfl, hM, decide_eq_true (show 0 < n + 1 by omega), Bool.true_and]
   unfold chL
   split
   ·rename_i h
    rw [mget_put, if_pos n1.symm]
    rcases h with h | h <;> simp [h]
   ·rename_i h
    rw [hth.2]
    have h1 : ¬ c = 2 := fun e => h (.inl e)
    have h2 : ¬ c = 3 := fun e => h (.inr e)
    simp [h1, h2]
end Go.Rse
namespace Go.Rse
open Go Go.Proofs
def sumA : Tm -> List Tm -> Tm
 | t, [] => t
 | t, d :: r => sumA (addV t d) r
end Go.Rse
namespace Go.Rse
open Go Go.Proofs
def wnL (s : Sgm) : List Int :=
 if s.Free = true then [1, 0] else if s.Count.N % 3 = 0 then [0] else if s.Count.N % 3 = 1 then [1, 2] else if s.Count.N = 2 then [4, 3] else [3, 4]
def chF (s : Sgm) (A : List Int) : Option Int := (wnL s).find? fun c => decide (c ∈ A)
theorem chF_mem {s : Sgm} {A : List Int} {c : Int} (h : chF s A = some c) : c ∈ A := by
 have := List.find?_some h; simpa using this
theorem wnL_mem (s : Sgm) : ∀ c ∈ wnL s, 0 <= c /\ c <= 4 := by
 intro c h
 unfold wnL at h
 split at h
 ·simp at h; omega
 ·split at h
  ·simp at h; omega
  ·split at h
   ·simp at h; omega
   ·split at h <;> simp at h <;> omega
theorem chF_nn {s : Sgm} {A : List Int} {c : Int} (h : chF s A = some c) : 0 <= c /\ c <= 4 := wnL_mem s c (List.mem_of_find?_eq_some h)
def mdJ (u : Tm) (k : Int) (S : List Sgm) (l : List Ite) : Nat -> Option (List Int)
 | 0 => some []
 | n + 1 => match mdJ u k S l n with
  | none => none
  | some M => match chF (S.getD n default) (alK u k S l M n) with
   | none => none
   | some c => some (M ++ [c])
section
variable {u : Tm} {k : Int} {S : List Sgm} {l : List Ite}
theorem mdK_s {n : Nat} {M : List Int} (h : mdJ u k S l n = some M) : mdJ u k S l (n + 1) = match chF (S.getD n default) (alK u k S l M n) with
 | none => none
 | some c => some (M ++ [c]) := by conv => lhs; unfold mdJ
                                   rw [h]
theorem mdK_none {n : Nat} (h : mdJ u k S l n = none) : ∀ j, mdJ u k S l (n + j) = none
 | 0 => h
 | j + 1 => by
  show mdJ u k S l (n + j + 1) = none
  unfold mdJ; rw [mdK_none h j]
theorem stK_app (M M2 : List Int) : ∀ n, n <= M.length -> stK u S l (M ++ M2) n = stK u S l M n
 | 0, _ => rfl
 | n + 1, h => by
  rw [stK_s, stK_s, stK_app M M2 n (by omega)]
  have : (M ++ M2).getD n 0 = M.getD n 0 := by
   rw [List.getD_eq_getElem?_getD, List.getD_eq_getElem?_getD, List.getElem?_append_left (by omega)]
  rw [this]
theorem alK_app (M M2 : List Int) {n : Nat} (h : n <= M.length) : alK u k S l (M ++ M2) n = alK u k S l M n := by
 unfold alK; rw [stK_app M M2 n h]
theorem okK_app (M M2 : List Int) : ∀ n, n <= M.length -> okJ u k S l (M ++ M2) n = okJ u k S l M n
 | 0, _ => rfl
 | n + 1, h => by
  show (okJ u k S l (M ++ M2) n && decide ((M ++ M2).getD n 0 ∈ alK u k S l (M ++ M2) n)) = (okJ u k S l M n && decide (M.getD n 0 ∈ alK u k S l M n))
  rw [okK_app M M2 n (by omega), alK_app M M2 (by omega)]
  have : (M ++ M2).getD n 0 = M.getD n 0 := by
   rw [List.getD_eq_getElem?_getD, List.getD_eq_getElem?_getD, List.getElem?_append_left (by omega)]
  rw [this]
theorem mdK_ok : ∀ {n : Nat} {M : List Int}, mdJ u k S l n = some M -> M.length = n /\ okJ u k S l M n = true /\ ∀ c ∈ M, 0 <= c /\ c <= 4
 | 0, M, h => by
  have : M = [] := by simpa [mdJ] using h.symm
  subst this; exact ⟨rfl, rfl, by simp⟩
 | n + 1, M, h => by
  cases hm : mdJ u k S l n with
  | none => unfold mdJ at h; rw [hm] at h; cases h
  | some M1 =>
   rw [mdK_s hm] at h
   obtain ⟨i1, i2, i3⟩ := mdK_ok hm
   cases hc : chF (S.getD n default) (alK u k S l M1 n) with
   | none => rw [hc] at h; cases h
   | some c =>
    rw [hc] at h
    have : M1 ++ [c] = M := by injection h
    subst this
    refine ⟨by simp [i1], ?_, ?_⟩
    ·show (okJ u k S l (M1 ++ [c]) n && decide ((M1 ++ [c]).getD n 0 ∈ alK u k S l (M1 ++ [c]) n)) = true
     rw [okK_app M1 [c] n (by omega), alK_app M1 [c] (by omega), i2]
     have : (M1 ++ [c]).getD n 0 = c := by
      rw [List.getD_eq_getElem?_getD, List.getElem?_append_right (by omega), show n - M1.length = 0 by omega]; rfl
     rw [this, Bool.true_and, decide_eq_true_iff]
     exact chF_mem hc
    ·intro x hx
     rcases List.mem_append.1 hx with hx | hx
     ·exact i3 x hx
     ·simp at hx; subst hx; exact chF_nn hc
end
def cuO (m : Mn) (k : Int) (l : List Ite) : Option (List Int) := mdJ (unT m k) k (segV m k l) l (segV m k l).length
def cuE (m : Mn) (k : Int) (l : List Ite) : Int := if segE m k l = 0 then (if (cuO m k l).isSome then 0 else 14) else segE m k l
def cuV (m : Mn) (k : Int) (l : List Ite) : List Int := if cuE m k l = 0 then (cuO m k l).getD [] else []
theorem cuE_0 {m : Mn} {k : Int} {l : List Ite} (h : cuE m k l = 0) : segE m k l = 0 /\ cuO m k l = some (cuV m k l) := by
 have h' := h
 unfold cuE at h
 split at h
 ·rename_i h0
  refine ⟨h0, ?_⟩
  unfold cuV; rw [if_pos h']
  cases ho : cuO m k l with
  | none => rw [ho] at h; simp at h
  | some M => rfl
 ·exact absurd h (by assumption)
theorem cu_ap {m : Mn} {k : Int} {l : List Ite} (h : cuE m k l = 0) : apE m k l (cuV m k l) = 0 := by
 obtain ⟨h0, h1⟩ := cuE_0 h
 unfold cuO at h1
 obtain ⟨i1, i2, i3⟩ := mdK_ok h1
 unfold apE
 rw [if_pos h0, if_neg]
 intro hc
 rcases hc with hc | hc
 ·exact hc i1.symm
 ·rw [i1, i2] at hc; cases hc
def lvF (m : Mn) : List Int -> List Ite -> List Int -> List Int × List Ite × Int
 | [], l, C => (C, l, 0)
 | k :: r, l, C => if cuE m k l = 0 then lvF m r (apV m k l (cuV m k l)) (C ++ cuV m k l) else ([], [], cuE m k l)
theorem lvF_step {m : Mn} {L : List Int} {n : Nat} {k : Int} (h : L[n]? = some k) (l : List Ite) (C : List Int) :
 lvF m (L.drop n) l C = if cuE m k l = 0 then lvF m (L.drop (n + 1)) (apV m k l (cuV m k l)) (C ++ cuV m k l) else ([], [], cuE m k l) := by
 have h1 := List.getElem?_eq_some_iff.1 h
 rw [List.drop_eq_getElem_cons h1.1, h1.2]; rfl
def leE (m : Mn) (l : List Ite) : Int := if ckM m = 0 then (if ckIE l = 0 then (lvF m (perfL m) l []).2.2 else ckIE l) else ckM m
def leC (m : Mn) (l : List Ite) : List Int := if leE m l = 0 then (lvF m (perfL m) l []).1 else []
def leI (m : Mn) (l : List Ite) : List Ite := if leE m l = 0 then (lvF m (perfL m) l []).2.1 else []
structure Rdg where
 Dots : List Int
 Minor : List Int
 Choices : List Int
 Durs : List Tm
 deriving DecidableEq
def rdgE (r : Rdg) : List AV := [intsA r.Dots, intsA r.Minor, intsA r.Choices, tmsA r.Durs]
abbrev rdgA (r : Rdg) : AV := .agg (rdgE r)
end Go.Rse
namespace Go.Rse
open Go Go.Proofs
def itP (x : Ite) : Prop := itF x = 0 /\ 1 <= x.Dur.N
def unB (m : Mn) (v : Int) : Bool := decide (5 < v) || (decide ((fullT m v).D = 1) && decide (ckT (fullT m v) = 0) && decide (1 <= (fullT m v).N) && decide (addE (fullT m v) (fullT m v) = 0) && decide (1 <= (addV (fullT m v) (fullT m v)).N))
theorem unB_all : ckAll unB = true := by kernel_rfl
theorem unT_b {m : Mn} {k : Int} (h : unE m k = 0) : (∃ f : Int, unT m k = ⟨f, 1⟩ /\ 1 <= f) /\ ckT (unT m k) = 0 /\ addE (unT m k) (unT m k) = 0 /\ 1 <= (addV (unT m k) (unT m k)).N := by
 obtain ⟨h1, h2, h3, h4⟩ := unE_0 h
 have hb := ckAll_use unB_all h1 (show 1 <= k + 1 by omega) (show k + 1 <= 8 by omega)
 unfold unT; rw [if_pos h]
 unfold unB at hb
 rw [decide_eq_false (show ¬ 5 < k + 1 by omega), Bool.false_or] at hb
 simp only [Bool.and_eq_true, decide_eq_true_eq] at hb
 obtain ⟨⟨⟨⟨a, b⟩, c⟩, d⟩, e⟩ := hb
 refine ⟨⟨(fullT m (k + 1)).N, ?_, c⟩, b, d, e⟩
 generalize fullT m (k + 1) = t at *
 obtain ⟨x, y⟩ := t
 simp only at a
 subst a; rfl
theorem itP_lose {u : Tm} {x y : Ite} {f : Int} (hu : u = ⟨f, 1⟩) (hc : ckT u = 0) (hx : itP x) (hl : lgQ u x = true) (hs : sameI y x) (hd : y.Dur = subV x.Dur u) (hB : ckT y.Before = 0) (hA : ckT y.After = 0) : itP y := by
 obtain ⟨h1, h2, h3, h4, h5⟩ := itF_ok hx.1
 unfold lgQ at hl
 rw [decide_eq_true_iff] at hl
 subst hu
 obtain ⟨e1, e2, e3, e4⟩ := sub_unit h2 hc hl
 obtain ⟨s1, s2, s3, s4, s5, s6⟩ := hs
 refine ⟨itF_of ⟨by rw [s2, s6]; exact h1, by rw [hd]; exact e2, hB, hA, ?_⟩, by rw [hd]; exact e3⟩
 unfold itKd at h5 ⊢; rw [s3, s4, s5]; exact h5
theorem rcQ_ck {u : Tm} {S : List Tm} {b : Tm} (h : rcQ u S b = true) : ckT (addV b u) = 0 := by
 unfold rcQ at h
 simp only [Bool.and_eq_true, decide_eq_true_eq] at h
 exact (addE_ck h.1).2.2
theorem itP_A {u : Tm} {x : Ite} {f : Int} {S : List Tm} (hu : u = ⟨f, 1⟩) (hc : ckT u = 0) (hx : itP x) (hl : lgQ u x = true) (hr : rcQ u S x.After = true) : itP (loseA u x) :=
 itP_lose hu hc hx hl (loseA_same u x) rfl (itF_ok hx.1).2.2.1 (rcQ_ck hr)
theorem itP_B {u : Tm} {x : Ite} {f : Int} {S : List Tm} (hu : u = ⟨f, 1⟩) (hc : ckT u = 0) (hx : itP x) (hl : lgQ u x = true) (hr : rcQ u S x.Before = true) : itP (loseB u x) :=
 itP_lose hu hc hx hl (loseB_same u x) rfl (rcQ_ck hr) (itF_ok hx.1).2.2.2.1
theorem itP_D {u : Tm} {x : Ite} (ha : addE u u = 0) (hn : 1 <= (addV u u).N) (hx : itP x) (hd : x.Dur = u) : itP (dblI x) := by
 obtain ⟨h1, h2, h3, h4, h5⟩ := itF_ok hx.1
 refine ⟨itF_of ⟨h1, ?_, h3, h4, h5⟩, ?_⟩
 ·show ckT (addV x.Dur x.Dur) = 0
  rw [hd]; exact (addE_ck ha).2.2
 ·show 1 <= (addV x.Dur x.Dur).N
  rw [hd]; exact hn
theorem itg_mem {l : List Ite} {i : Int} (h0 : 0 <= i) (h : i < l.length) : itg l i ∈ l := by
 unfold itg
 rw [List.getD_eq_getElem?_getD, List.getElem?_eq_getElem (by omega)]
 exact List.getElem_mem _
theorem upI_P {Q : Ite -> Prop} {l : List Ite} {i : Int} {f : Ite -> Ite} (hi : 0 <= i) (hl : i < l.length) (h : ∀ x ∈ l, Q x) (hf : Q (f (itg l i))) : ∀ x ∈ upI l i f, Q x := by
 intro x hx
 unfold upI at hx
 rcases List.mem_or_eq_of_mem_set hx with h1 | h1
 ·exact h x h1
 ·rw [h1]; exact hf
theorem chN_P {u : Tm} {k : Int} {l0 l : List Ite} {L : List (Int × Bool)} {s : Sgm} {c f : Int} (hu : u = ⟨f, 1⟩) (hcu : ckT u = 0) (ha : addE u u = 0) (hn : 1 <= (addV u u).N) (hs : SgOk k l0 s) (hl : l.length = l0.length)
 (h : c ∈ alQ u k l L s) (hP : ∀ x ∈ l, itP x) : ∀ x ∈ chN u s c l, itP x := by
 have hc := alQ_ch hs.ft h
 unfold alQ at h
 have hlf : (c = 1 \/ c = 3) -> s.Left < l.length /\ 0 <= s.Left /\ s.Left < s.From := fun h => by have := hs.tl; have := hs.ft; have := hc.lf h; rcases hs.lf with h2 | h2 <;> omega
 have hrt : (c = 2 \/ c = 3) -> s.Right < l.length /\ 0 <= s.Right /\ s.Right = s.To := fun h => by have := hc.rt h; rcases hs.rt with h2 | h2 <;> omega
 have hpo : (c = 1 \/ c = 3) -> poQ u k l L s = true := fun hh => by
  rcases alR_mem h with ⟨h1, _⟩ | ⟨h1, h2, _⟩ | ⟨h1, h2, _⟩ | ⟨h1, h2, h3, _⟩ | ⟨h1, h2, _⟩
  ·omega
  ·exact h2
  ·omega
  ·exact h2
  ·omega
 have han : (c = 2 \/ c = 3) -> anQ u k l s = true := fun hh => by
  rcases alR_mem h with ⟨h1, _⟩ | ⟨h1, h2, _⟩ | ⟨h1, h2, _⟩ | ⟨h1, h2, h3, _⟩ | ⟨h1, h2, _⟩
  ·omega
  ·omega
  ·exact h2
  ·exact h3
  ·omega
 have hat : c = 4 -> atQ u k l s = true := fun hh => by
  rcases alR_mem h with ⟨h1, _⟩ | ⟨h1, h2, _⟩ | ⟨h1, h2, _⟩ | ⟨h1, h2, h3, _⟩ | ⟨h1, h2, _⟩
  ·omega
  ·omega
  ·omega
  ·omega
  ·exact h2
 unfold chN
 simp only
 by_cases h4 : c = 4
 ·have n1 : ¬ (c = 1 \/ c = 3) := by omega
  have n2 : ¬ (c = 2 \/ c = 3) := by omega
  rw [if_neg n2, if_neg n1, if_pos h4]
  obtain ⟨a1, a2⟩ := atQ_0 (hat h4)
  have hd : (itg l (s.To - 1)).Dur = u := by
   unfold ntQ at a2
   simp only [Bool.and_eq_true, decide_eq_true_eq] at a2
   exact a2.2
  have := hs.ft; have := hs.tl; have := hs.f0
  exact upI_P (by omega) (by omega) hP (itP_D ha hn (hP _ (itg_mem (by omega) (by omega))) hd)
 ·rw [if_neg h4]
  have hA : (∀ x ∈ (if c = 1 \/ c = 3 then upI l s.Left (loseA u) else l), itP x) /\ (if c = 1 \/ c = 3 then upI l s.Left (loseA u) else l).length = l.length ∧
   ((c = 2 \/ c = 3) -> itg (if c = 1 \/ c = 3 then upI l s.Left (loseA u) else l) s.Right = itg l s.Right) := by
   split
   ·rename_i hh
    obtain ⟨b1, b2, b3⟩ := hlf hh
    obtain ⟨c1, c2, c3⟩ := poQ_0 (hpo hh)
    refine ⟨upI_P b2 b1 hP (itP_A hu hcu (hP _ (itg_mem b2 b1)) c2 c3), upI_len _ _ _, fun h2 => ?_⟩
    obtain ⟨d1, d2, d3⟩ := hrt h2
    have := hs.ft
    rw [upI_get b2 d2 b1, if_neg (by omega)]
   ·exact ⟨hP, rfl, fun _ => rfl⟩
  generalize (if c = 1 \/ c = 3 then upI l s.Left (loseA u) else l) = l1 at *
  obtain ⟨hA1, hA2, hA3⟩ := hA
  split
  ·rename_i hh
   obtain ⟨b1, b2, b3⟩ := hrt hh
   obtain ⟨c1, c2, c3⟩ := anQ_0 (han hh)
   rw [← hA3 hh] at c2 c3
   exact upI_P b2 (by omega) hA1 (itP_B hu hcu (hA1 _ (itg_mem b2 (by omega))) c2 c3)
  ·exact hA1
theorem chN_fix {u : Tm} {k : Int} {l0 l : List Ite} {L : List (Int × Bool)} {s : Sgm} {c : Int} (hs : SgOk k l0 s) (hl : l.length = l0.length) (hsm : ∀ i : Int, 0 <= i -> sameI (itg l i) (itg l0 i))
 (h : c ∈ alQ u k l L s) {i : Int} (hi : 0 <= i) (hf : (itg l i).Fixed = true) : itg (chN u s c l) i = itg l i := by
 have hc := alQ_ch hs.ft h
 have h1 : ¬ i = s.Left := fun e => by
  rcases hs.lf with h2 | h2
  ·omega
  ·have := (hsm i hi).2.2.2.2.1
   rw [hf, e, h2.2.2.2.2] at this; cases this
 have h2 : ¬ i = s.Right := fun e => by
  rcases hs.rt with h2 | h2
  ·omega
  ·have := (hsm i hi).2.2.2.2.1
   rw [hf, e, h2.2.2.2.2] at this; cases this
 by_cases h3 : i = s.To - 1
 ·have h4 : ¬ c = 4 := fun e => by
   unfold alQ at h
   rcases alR_mem h with ⟨g1, _⟩ | ⟨g1, g2, _⟩ | ⟨g1, g2, _⟩ | ⟨g1, g2, g3, _⟩ | ⟨g1, g2, _⟩
   ·omega
   ·omega
   ·omega
   ·omega
   ·have := (atQ_0 g2).2
    unfold ntQ at this
    simp only [Bool.and_eq_true, Bool.not_eq_true'] at this
    rw [← h3, hf] at this
    exact absurd this.1.1.2 (by simp)
  unfold chN
  simp only
  rw [if_neg h4]
  have A : itg (if c = 1 \/ c = 3 then upI l s.Left (loseA u) else l) i = itg l i := by
   split
   ·rename_i hh
    have h0 := hc.lf hh
    have hlt : s.Left < l.length := by have := hs.tl; have := hs.ft; rcases hs.lf with h2 | h2 <;> omega
    rw [upI_get h0 hi hlt, if_neg (fun e => h1 e.symm)]
   ·rfl
  have B : (if c = 1 \/ c = 3 then upI l s.Left (loseA u) else l).length = l.length := by split <;> simp [upI_len]
  generalize (if c = 1 \/ c = 3 then upI l s.Left (loseA u) else l) = l1 at *
  split
  ·rename_i hh
   have h0 := hc.rt hh
   have hlt : s.Right < l1.length := by rw [B, hl]; rcases hs.rt with h2 | h2 <;> omega
   rw [upI_get h0 hi hlt, if_neg (fun e => h2 e.symm)]; exact A
  ·exact A
 ·exact (chN_get (u := u) hs hl hc hi).2.1 h1 h2 h3
theorem stK_P {u : Tm} {k : Int} {S : List Sgm} {l : List Ite} {M : List Int} {f : Int} (hu : u = ⟨f, 1⟩) (hcu : ckT u = 0) (ha : addE u u = 0) (hn : 1 <= (addV u u).N) (hS : SgsOk k l S) (hP : ∀ x ∈ l, itP x) :
 ∀ n, n <= S.length -> okJ u k S l M n = true -> (∀ x ∈ (stK u S l M n).1, itP x) /\ ∀ i : Int, 0 <= i -> (itg l i).Fixed = true -> itg (stK u S l M n).1 i = itg l i
 | 0, _, _ => ⟨hP, fun _ _ _ => rfl⟩
 | n + 1, hnn, hk => by
  have hk : (okJ u k S l M n && decide (M.getD n 0 ∈ alK u k S l M n)) = true := hk
  simp only [Bool.and_eq_true, decide_eq_true_eq] at hk
  obtain ⟨i1, i2⟩ := stK_P hu hcu ha hn hS hP n (by omega) hk.1
  have hst := stK_ok hS n (by omega) hk.1
  rw [stK_s]
  have hs : S[n]? = some S[n] := List.getElem?_eq_getElem (by omega)
  have hd : S.getD n default = S[n] := by rw [List.getD_eq_getElem?_getD, hs]; rfl
  have hso := hS.all _ (List.mem_of_getElem? hs)
  unfold alK at hk
  rw [hd] at hk ⊢
  generalize S[n] = s at *
  refine ⟨chN_P hu hcu ha hn hso hst.len hk.2 i1, fun i hi hf => ?_⟩
  have hf2 : (itg (stK u S l M n).1 i).Fixed = true := by rw [(hst.same i hi).2.2.2.2.1]; exact hf
  rw [← i2 i hi hf]
  exact chN_fix hso hst.len hst.same hk.2 hi hf2
theorem apE_0 {m : Mn} {k : Int} {l : List Ite} {M : List Int} (h : apE m k l M = 0) : segE m k l = 0 /\ (segV m k l).length = M.length /\ okJ (unT m k) k (segV m k l) l M M.length = true := by
 unfold apE at h
 split at h
 ·split at h
  ·cases h
  ·rename_i h1 h2
   refine ⟨h1, Classical.byContradiction fun e => h2 (.inl e), ?_⟩
   cases hk : okJ (unT m k) k (segV m k l) l M M.length with
   | true => rfl
   | false => exact absurd (.inr hk) h2
 ·exact absurd h (by assumption)
theorem apV_P {m : Mn} {k : Int} {l : List Ite} {M : List Int} (h : apE m k l M = 0) (hP : ∀ x ∈ l, itP x) :
 (∀ x ∈ apV m k l M, itP x) /\ (apV m k l M).length = l.length /\ (∀ i : Int, 0 <= i -> sameI (itg (apV m k l M) i) (itg l i)) /\ ∀ i : Int, 0 <= i -> (itg l i).Fixed = true -> itg (apV m k l M) i = itg l i := by
 obtain ⟨h1, h2, h3⟩ := apE_0 h
 obtain ⟨⟨f, u1, u2⟩, u3, u4, u5⟩ := unT_b (sgE_0 h1).1
 have hS := sgV_ok h1
 obtain ⟨i1, i2⟩ := stK_P u1 u3 u4 u5 hS hP M.length (by omega) h3
 have hst := stK_ok hS M.length (by omega) h3
 unfold apV; rw [if_pos h]
 exact ⟨i1, hst.len, hst.same, i2⟩
abbrev eOk (e : Int) : Prop := e = 0 \/ e = 4 \/ e = 14
theorem tmkE_or {n d : Int} (h0 : 0 <= n) (h1 : 1 <= d) : tmkE n d = 0 \/ tmkE n d = 4 := by
 unfold tmkE
 rw [if_neg (by omega), if_neg (by omega)]
 split
 ·exact .inr rfl
 ·exact .inl rfl
theorem addE_or {a b : Tm} (ha : ckT a = 0) (hb : ckT b = 0) : addE a b = 0 \/ addE a b = 4 := by
 unfold addE; rw [if_pos (first2' ha hb)]
 have b1 := ckT_b ha
 have b2 := ckT_b hb
 have m1 := Int.mul_nonneg b1.1 b2.2.2.1
 have m2 := Int.mul_nonneg b2.1 b1.2.2.1
 exact tmkE_or (by omega) (mulP b1.2.2.2.2.1 b2.2.2.2.2.1)
theorem lsE_or {a b : Tm} (ha : ckT a = 0) (hb : ckT b = 0) : eOk (lsE a b) := by
 have b1 := ckT_b ha
 have b2 := ckT_b hb
 have hd := mulP b1.2.2.2.2.1 b2.2.2.2.2.1
 have hs : subE a b = tmkE (a.N * b.D - b.N * a.D) (a.D * b.D) := by unfold subE; rw [if_pos (first2' ha hb)]
 unfold lsE
 rw [hs]
 rcases Int.lt_or_le (a.N * b.D - b.N * a.D) 0 with h | h
 ·have : tmkE (a.N * b.D - b.N * a.D) (a.D * b.D) = 2 := by unfold tmkE; rw [if_pos (.inl h)]
  rw [this]; exact .inr (.inr rfl)
 ·rcases tmkE_or h hd with e | e <;> rw [e]
  ·exact .inl rfl
  ·exact .inr (.inl rfl)
theorem sumF_or : ∀ (l : List Tm) (s : Tm), ckT s = 0 -> (∀ t ∈ l, ckT t = 0) -> eOk (sumF s l).2 /\ ((sumF s l).2 = 0 -> ckT (sumF s l).1 = 0)
 | [], s, hs, _ => ⟨.inl rfl, fun _ => hs⟩
 | t :: r, s, hs, hl => by
  have ht := hl t (by simp)
  simp only [sumF]
  rcases addE_or hs ht with e | e
  ·rw [if_pos e]
   exact sumF_or r (addV s t) (addE_ck e).2.2 fun x hx => hl x (List.mem_cons_of_mem _ hx)
  ·rw [if_neg (by omega)]
   exact ⟨by rw [e]; exact .inr (.inl rfl), fun h => absurd h (by rw [e]; decide)⟩
theorem cn1_or {t d : Tm} {h : Int} (ht : ckT t = 0) (hd : 0 <= h -> ckT d = 0) : eOk (cn1 t h d).2 /\ ((cn1 t h d).2 = 0 -> ckT (cn1 t h d).1 = 0) := by
 unfold cn1
 split
 ·exact ⟨.inl rfl, fun _ => ht⟩
 ·rename_i h1
  split
  ·rename_i h2
   refine ⟨.inl rfl, fun _ => ?_⟩
   have : subE t d = 0 := by
    unfold lsE at h2
    split at h2
    ·cases h2
    ·exact h2
   exact (subE_ck this).2.2
  ·rename_i h2
   exact ⟨lsE_or ht (hd (by omega)), fun h => absurd h h2⟩
theorem tmsE_or {a b c d : Int} (h0 : 0 <= a) (h1 : 1 <= b) (h2 : 0 <= c) (h3 : 1 <= d) : tmsE a b c d = 0 \/ tmsE a b c d = 4 := by
 unfold tmsE
 split
 ·exact .inr rfl
 ·have g1 := gI_pos (n := a) (d := d) (by omega)
  have g2 := gI_pos (n := c) (d := b) (by omega)
  have p : ∀ x y : Int, 1 <= y -> 1 <= y / gI x y := fun x y hy => by
   have hg := gI_pos (n := x) (d := y) (by omega)
   have gy : gI x y ∣ y := Int.ofNat_dvd_left.2 (Nat.gcd_dvd_right _ _)
   have ey := Int.mul_ediv_cancel' gy
   apply Classical.byContradiction
   intro hn
   have := Int.mul_le_mul_of_nonneg_left (show y / gI x y <= 0 by omega) (Int.le_of_lt hg)
   omega
  refine tmkE_or (Int.mul_nonneg (Int.ediv_nonneg h0 (by omega)) (Int.ediv_nonneg h2 (by omega))) ?_
  exact mulP (p c b h1) (p a d h3)
theorem cn_all {k : Int} {l : List Ite} {s : Sgm} (hs : SgOk k l s) (hl : ∀ x ∈ l, itF x = 0) : eOk (cnC l s).2 /\ ((cnC l s).2 = 0 -> ckT (cnC l s).1 = 0) := by
 have hz : ckT ⟨0, 1⟩ = 0 := by decide +kernel
 have hA : eOk (cnA l s).2 /\ ((cnA l s).2 = 0 -> ckT (cnA l s).1 = 0) := by
  unfold cnA
  refine sumF_or _ _ hz fun t ht => ?_
  unfold drL itR at ht
  obtain ⟨x, hx, rfl⟩ := List.mem_map.1 ht
  exact (itF_ok (hl x (List.mem_of_mem_drop (List.mem_of_mem_take hx)))).2.1
 have hB : eOk (cnB l s).2 /\ ((cnB l s).2 = 0 -> ckT (cnB l s).1 = 0) := by
  unfold cnB
  split
  ·rename_i h
   refine cn1_or (hA.2 h) fun h0 => ?_
   have hlt : s.Left < l.length := by have := hs.tl; have := hs.ft; rcases hs.lf with h2 | h2 <;> omega
   exact (itF_ok (hl _ (itg_mem h0 hlt))).2.2.2.1
  ·rename_i h; exact ⟨hA.1, fun e => absurd e h⟩
 unfold cnC
 split
 ·rename_i h
  refine cn1_or (hB.2 h) fun h0 => ?_
  have hlt : s.Right < l.length := by rcases hs.rt with h2 | h2 <;> omega
  exact (itF_ok (hl _ (itg_mem h0 hlt))).2.2.1
 ·rename_i h; exact ⟨hB.1, fun e => absurd e h⟩
theorem cnE_or {u : Tm} {k : Int} {l : List Ite} {s : Sgm} (hu : ckT u = 0) (hn : 1 <= u.N) (hs : SgOk k l s) (hl : ∀ x ∈ l, itF x = 0) : eOk (cnE u l s) := by
 obtain ⟨h1, h2⟩ := cn_all hs hl
 unfold cnE
 split
 ·rename_i h
  have b1 := ckT_b (h2 h)
  have b2 := ckT_b hu
  unfold divE
  rw [if_pos (first2' (h2 h) hu), if_neg (by omega)]
  rcases tmsE_or b1.1 b1.2.2.2.2.1 b2.2.2.1 hn with e | e
  ·exact .inl e
  ·exact .inr (.inl e)
 ·exact h1
theorem sgX_or {u : Tm} {l : List Ite} : ∀ {L : List Sgm}, (∀ s ∈ L, eOk (cnE u l s)) -> eOk (segX u l L)
 | [], _ => .inl rfl
 | s :: r, h => by
  simp only [segX]
  split
  ·exact sgX_or fun t ht => h t (List.mem_cons_of_mem _ ht)
  ·unfold segR
   split
   ·split
    ·exact .inr (.inr rfl)
    ·exact .inl rfl
   ·exact h s (by simp)
theorem sgE_or {m : Mn} {k : Int} {l : List Ite} (hu : unE m k = 0) (hl : ∀ x ∈ l, itF x = 0) : eOk (segE m k l) := by
 obtain ⟨⟨f, u1, u2⟩, u3, u4, u5⟩ := unT_b hu
 unfold segE
 rw [if_pos hu, if_pos (ckIE_of hl)]
 refine sgX_or fun s hs => cnE_or u3 (by rw [u1]; exact u2) ((sgs0_ok k l).all s hs) hl
theorem lvF_P {m : Mn} (hm : ckM m = 0) : ∀ (L : List Int) (l : List Ite) (C : List Int), (∀ k ∈ L, unE m k = 0) -> (∀ x ∈ l, itP x) →
 eOk (lvF m L l C).2.2 /\ ((lvF m L l C).2.2 = 0 -> (∀ x ∈ (lvF m L l C).2.1, itP x) /\ (lvF m L l C).2.1.length = l.length /\ (∀ i : Int, 0 <= i -> sameI (itg (lvF m L l C).2.1 i) (itg l i)) /\ ∀ i : Int, 0 <= i -> (itg l i).Fixed = true -> itg (lvF m L l C).2.1 i = itg l i)
 | [], l, C, _, hP => ⟨.inl rfl, fun _ => ⟨hP, rfl, fun _ _ => sameI.rfl' _, fun _ _ _ => rfl⟩⟩
 | k :: r, l, C, hL, hP => by
  simp only [lvF]
  split
  ·rename_i h
   obtain ⟨a1, a2, a3, a4⟩ := apV_P (cu_ap h) hP
   obtain ⟨b1, b2⟩ := lvF_P hm r (apV m k l (cuV m k l)) (C ++ cuV m k l) (fun x hx => hL x (List.mem_cons_of_mem _ hx)) a1
   refine ⟨b1, fun h0 => ?_⟩
   obtain ⟨c1, c2, c3, c4⟩ := b2 h0
   refine ⟨c1, c2.trans a2, fun i hi => (c3 i hi).tr (a3 i hi), fun i hi hf => ?_⟩
   rw [c4 i hi (by rw [(a3 i hi).2.2.2.2.1]; exact hf), a4 i hi hf]
  ·rename_i h
   refine ⟨?_, fun e => absurd e h⟩
   have := sgE_or (hL k (by simp)) (fun x hx => (hP x hx).1)
   unfold cuE
   split
   ·split
    ·exact .inl rfl
    ·exact .inr (.inr rfl)
   ·exact this
end Go.Rse
namespace Go.Rse
open Go Go.Proofs
theorem rep_0 (n i : Nat) : (List.replicate n (0 : Int)).getD i 0 = 0 := by
 rw [List.getD_eq_getElem?_getD, List.getElem?_replicate]; split <;> rfl
theorem stK_0 (u : Tm) (S : List Sgm) (l : List Ite) (n : Nat) : ∀ j, stK u S l (List.replicate n 0) j = (l, [])
 | 0 => rfl
 | j + 1 => by rw [stK_s, stK_0 u S l n j, rep_0]; rfl
theorem mdK_0 {u : Tm} {k : Int} {S : List Sgm} {l : List Ite} (h : ∀ s ∈ S, chF s (alQ u k l [] s) = some 0) : ∀ n, n <= S.length -> mdJ u k S l n = some (List.replicate n 0)
 | 0, _ => rfl
 | n + 1, hn => by
  rw [mdK_s (mdK_0 h n (by omega))]
  have hs : S[n]? = some S[n] := List.getElem?_eq_getElem (by omega)
  have hd : S.getD n default = S[n] := by rw [List.getD_eq_getElem?_getD, hs]; rfl
  unfold alK
  rw [stK_0, hd, h _ (List.getElem_mem _)]
  simp only
  rw [← List.replicate_succ']
theorem lv_still {m : Mn} {k : Int} {l : List Ite} (h0 : segE m k l = 0) (h : ∀ s ∈ segV m k l, chF s (alQ (unT m k) k l [] s) = some 0) : cuE m k l = 0 /\ apV m k l (cuV m k l) = l := by
 have ho : cuO m k l = some (List.replicate (segV m k l).length 0) := mdK_0 h _ (Nat.le_refl _)
 have hE : cuE m k l = 0 := by unfold cuE; rw [if_pos h0, ho]; rfl
 refine ⟨hE, ?_⟩
 have hV : cuV m k l = List.replicate (segV m k l).length 0 := by unfold cuV; rw [if_pos hE, ho]; rfl
 unfold apV
 rw [if_pos (cu_ap hE), hV, stK_0]
structure EvI (m : Mn) (v : Int) (x : Ite) : Prop where
 w : x.Value = v
 c : x.Color = false
 k : x.Cut = 0
 d : x.Dur = fullT m v
 b : x.Before = ⟨0, 1⟩
 a : x.After = ⟨0, 1⟩
theorem bdK_up {m : Mn} {v k : Int} {l : List Ite} (h : ∀ x ∈ l, EvI m v x) (hv : v <= k) : ∀ n, n <= l.length -> bdK k l n = ⟨-1, 0, false⟩ :: (List.range n).map fun i => ⟨(i : Int), (i : Int) + 1, false⟩
 | 0, _ => rfl
 | n + 1, hn => by
  have hx : l[n]? = some l[n] := List.getElem?_eq_getElem (by omega)
  have hm := h _ (List.mem_of_getElem? hx)
  rw [bdK_step hx, bdK_up h hv n (by omega), if_pos ⟨hm.c, by rw [hm.w]; exact hv⟩, if_neg (fun hc => by have := hc.1; rw [hm.k] at this; omega), List.range_succ]
  simp
theorem bdK_dn {m : Mn} {v k : Int} {l : List Ite} (h : ∀ x ∈ l, EvI m v x) (hv : k < v) : ∀ n, n <= l.length -> bdK k l n = [⟨-1, 0, false⟩]
 | 0, _ => rfl
 | n + 1, hn => by
  have hx : l[n]? = some l[n] := List.getElem?_eq_getElem (by omega)
  have hm := h _ (List.mem_of_getElem? hx)
  rw [bdK_step hx, bdK_dn h hv n (by omega), if_neg (fun hc => by have := hc.2; rw [hm.w] at this; omega), if_neg (fun hc => by have := hc.1; rw [hm.k] at this; omega)]
  simp
def dvB (m : Mn) (v : Int) : Bool := decide (5 < v) || (decide (divE ⟨0, 1⟩ (fullT m v) = 0) && decide (divV ⟨0, 1⟩ (fullT m v) = ⟨0, 1⟩))
theorem dvB_all : ckAll dvB = true := by kernel_rfl
theorem dv_0 {m : Mn} {k : Int} (h : unE m k = 0) : divE ⟨0, 1⟩ (unT m k) = 0 /\ divV ⟨0, 1⟩ (unT m k) = ⟨0, 1⟩ := by
 obtain ⟨h1, h2, h3, h4⟩ := unE_0 h
 have hb := ckAll_use dvB_all h1 (show 1 <= k + 1 by omega) (show k + 1 <= 8 by omega)
 unfold unT; rw [if_pos h]
 unfold dvB at hb
 rw [decide_eq_false (show ¬ 5 < k + 1 by omega), Bool.false_or] at hb
 simpa using hb
theorem cn1_0 (h : Int) : cn1 ⟨0, 1⟩ h ⟨0, 1⟩ = (⟨0, 1⟩, 0) := by
 unfold cn1
 split
 ·rfl
 ·rw [if_pos (by decide +kernel)]
  exact congrArg (fun t => (t, (0 : Int))) (by decide +kernel)
theorem itg_all {P : Ite -> Prop} {l : List Ite} (h : ∀ x ∈ l, P x) {i : Int} (h0 : 0 <= i) (hi : i < l.length) : P (itg l i) := h _ (itg_mem h0 hi)
theorem cn_empty {m : Mn} {v k : Int} {l : List Ite} {s : Sgm} (hu : unE m k = 0) (h : ∀ x ∈ l, EvI m v x) (hs : SgOk k l s) (he : s.From = s.To) : cnE (unT m k) l s = 0 /\ cnV (unT m k) l s = ⟨0, 1⟩ := by
 obtain ⟨d1, d2⟩ := dv_0 hu
 have hA : cnA l s = (⟨0, 1⟩, 0) := by
  unfold cnA itR
  rw [he, Nat.sub_self, List.take_zero]; rfl
 have hB : cnB l s = (⟨0, 1⟩, 0) := by
  unfold cnB
  rw [hA, if_pos rfl]
  by_cases h0 : s.Left < 0
  ·unfold cn1; rw [if_pos h0]
  ·have hlt : s.Left < l.length := by have := hs.tl; have := hs.ft; rcases hs.lf with h2 | h2 <;> omega
   rw [(itg_all h (by omega) hlt).a]; exact cn1_0 _
 have hC : cnC l s = (⟨0, 1⟩, 0) := by
  unfold cnC
  rw [hB, if_pos rfl]
  by_cases h0 : s.Right < 0
  ·unfold cn1; rw [if_pos h0]
  ·have hlt : s.Right < l.length := by rcases hs.rt with h2 | h2 <;> omega
   rw [(itg_all h (by omega) hlt).b]; exact cn1_0 _
 unfold cnE cnV
 rw [hC, if_pos rfl, if_pos rfl]
 exact ⟨d1, d2⟩
theorem sgX_0 {u : Tm} {l : List Ite} : ∀ {L : List Sgm}, (∀ s ∈ L, segR u l s = 0) -> segX u l L = 0
 | [], _ => rfl
 | s :: r, h => by
  simp only [segX]
  rw [if_pos (h s (by simp))]
  exact sgX_0 fun t ht => h t (List.mem_cons_of_mem _ ht)
def fuL : List Tm := [⟨1, 8⟩, ⟨1, 4⟩, ⟨1, 2⟩, ⟨1, 1⟩, ⟨2, 1⟩, ⟨3, 1⟩, ⟨4, 1⟩, ⟨6, 1⟩, ⟨9, 1⟩, ⟨8, 1⟩, ⟨12, 1⟩, ⟨18, 1⟩, ⟨27, 1⟩, ⟨16, 1⟩, ⟨24, 1⟩, ⟨36, 1⟩, ⟨54, 1⟩, ⟨81, 1⟩]
def unL : List Tm := [⟨1, 1⟩, ⟨2, 1⟩, ⟨3, 1⟩, ⟨4, 1⟩, ⟨6, 1⟩, ⟨9, 1⟩, ⟨8, 1⟩, ⟨12, 1⟩, ⟨18, 1⟩, ⟨27, 1⟩]
def fuQ (m : Mn) (v : Int) : Bool := decide (fullT m v ∈ fuL) && (decide (v <= 1) || decide (5 < v) || decide (fullT m v ∈ unL))
theorem fuQ_all : ckAll fuQ = true := by kernel_rfl
def sumsB (t : Tm) : Nat -> Tm -> Bool
 | 0, s => unL.all fun u => decide (divE s u = 0)
 | n + 1, s => (unL.all fun u => decide (divE s u = 0)) && decide (addE s t = 0) && sumsB t n (addV s t)
theorem sumsB_all : (fuL.all fun t => sumsB t 30 ⟨0, 1⟩) = true := by kernel_rfl
theorem sumsB_use {t u : Tm} (hu : u ∈ unL) : ∀ (n : Nat) (s : Tm), sumsB t n s = true -> ∀ j, j <= n -> (sumF s (List.replicate j t)).2 = 0 /\ divE (sumF s (List.replicate j t)).1 u = 0
 | 0, s, h, j, hj => by
  have : j = 0 := by omega
  subst this
  have := List.all_eq_true.1 h u hu
  exact ⟨rfl, by simpa [sumF] using this⟩
 | n + 1, s, h, 0, hj => by
  simp only [sumsB, Bool.and_eq_true] at h
  have := List.all_eq_true.1 h.1.1 u hu
  exact ⟨rfl, by simpa [sumF] using this⟩
 | n + 1, s, h, j + 1, hj => by
  simp only [sumsB, Bool.and_eq_true, decide_eq_true_eq] at h
  have ih := sumsB_use hu n (addV s t) h.2 j (by omega)
  rw [List.replicate_succ]
  simp only [sumF]
  rw [if_pos h.1.2]
  exact ih
theorem even_level {m : Mn} {v k : Int} {l : List Ite} (hu : unE m k = 0) (hv1 : 1 <= v) (hv8 : v <= 8) (hl : l.length <= 30) (hP : ∀ x ∈ l, itF x = 0) (h : ∀ x ∈ l, EvI m v x) : cuE m k l = 0 /\ apV m k l (cuV m k l) = l := by
 have hck := ckIE_of hP
 have hm := (unE_0 hu).1
 have hS0 := sgs0_ok k l
 rcases Int.lt_or_le k v with hkv | hkv
 ·have hb : bds k l = [⟨-1, 0, false⟩, ⟨-1, l.length, true⟩] := by unfold bds; rw [bdK_dn h hkv _ (Nat.le_refl _)]; rfl
  have hs : sgs0 l (bds k l) = [⟨0, l.length, -1, -1, true, ⟨0, 0⟩⟩] := by
   rw [hb]
   show [sg0 l ⟨-1, 0, false⟩ ⟨-1, l.length, true⟩] = _
   unfold sg0 hdI bdF
   simp
  have hA : cnA l ⟨0, l.length, -1, -1, true, ⟨0, 0⟩⟩ = sumF ⟨0, 1⟩ (List.replicate l.length (fullT m v)) := by
   unfold cnA itR drL
   simp only [Int.toNat_natCast, Int.toNat_zero, List.drop_zero, Nat.sub_zero, List.take_length]
   congr 1
   apply List.ext_getElem?
   intro i
   rw [List.getElem?_map, List.getElem?_replicate]
   rcases Nat.lt_or_ge i l.length with hi | hi
   ·rw [if_pos hi, List.getElem?_eq_getElem hi]
    simp only [Option.map_some]
    rw [(h _ (List.getElem_mem hi)).d]
   ·rw [if_neg (by omega), List.getElem?_eq_none hi]; rfl
  have hq1 := ckAll_use fuQ_all hm hv1 hv8
  obtain ⟨-, k1, k4, -⟩ := unE_0 hu
  have hq2 := ckAll_use fuQ_all hm (show 1 <= k + 1 by omega) (show k + 1 <= 8 by omega)
  unfold fuQ at hq1 hq2
  simp only [Bool.and_eq_true, Bool.or_eq_true, decide_eq_true_eq] at hq1 hq2
  have hun : unT m k ∈ unL := by
   unfold unT; rw [if_pos hu]
   rcases hq2.2 with (h | h) | h
   ·omega
   ·omega
   ·exact h
  have hsum := sumsB_use hun 30 ⟨0, 1⟩ (List.all_eq_true.1 sumsB_all _ hq1.1) l.length hl
  have hcn : cnE (unT m k) l ⟨0, l.length, -1, -1, true, ⟨0, 0⟩⟩ = 0 := by
   unfold cnE cnC cnB
   rw [hA]
   rw [if_pos hsum.1]
   unfold cn1
   simp only [show ((-1 : Int) < 0) = True by simp, if_true]
   exact hsum.2
  have hE : segE m k l = 0 := by
   unfold segE
   rw [if_pos hu, if_pos hck, hs]
   refine sgX_0 fun s hs => ?_
   simp at hs; subst hs
   unfold segR; rw [if_pos hcn, if_neg (by simp)]
  refine lv_still hE fun s hs2 => ?_
  unfold segV at hs2
  rw [if_pos hE, hs] at hs2
  simp [segW] at hs2; subst hs2
  have hpo : poQ (unT m k) k l [] ⟨0, l.length, -1, -1, true, cnV (unT m k) l ⟨0, l.length, -1, -1, true, ⟨0, 0⟩⟩⟩ = false := by
   unfold poQ; simp
  unfold chF wnL alQ
  rw [hpo]
  unfold alR
  simp
 ·have hb : bds k l = (⟨-1, 0, false⟩ :: (List.range l.length).map fun i => ⟨(i : Int), (i : Int) + 1, false⟩) ++ [⟨-1, l.length, true⟩] := by unfold bds; rw [bdK_up h hkv _ (Nat.le_refl _)]
  have hg : ∀ i b c, (bds k l)[i]? = some b -> (bds k l)[i + 1]? = some c -> b.next = bdF c := by
   intro i b c hb1 hc1
   rw [hb] at hb1 hc1
   have e1 : b.next = i := by
    rcases Nat.eq_zero_or_pos i with h0 | h0
    ·subst h0; simp at hb1; subst hb1; rfl
    ·obtain ⟨j, rfl⟩ : ∃ j, i = j + 1 := ⟨i - 1, by omega⟩
     rw [List.cons_append, List.getElem?_cons_succ] at hb1 hc1
     rcases Nat.lt_or_ge j l.length with hj | hj
     ·rw [List.getElem?_append_left (by simpa using hj), List.getElem?_map, List.getElem?_range hj] at hb1
      simp at hb1; subst hb1; simp
     ·rw [List.getElem?_append_right (by simp; omega)] at hc1
      rw [List.getElem?_eq_none (by simp; omega)] at hc1; cases hc1
   have e2 : bdF c = i := by
    rw [List.cons_append, List.getElem?_cons_succ] at hc1
    rcases Nat.lt_or_ge i l.length with hj | hj
    ·rw [List.getElem?_append_left (by simpa using hj), List.getElem?_map, List.getElem?_range hj] at hc1
     simp at hc1; subst hc1; unfold bdF; simp
    ·rw [List.getElem?_append_right (by simp; omega)] at hc1
     have h0 : i - l.length = 0 := by
      rcases Nat.eq_zero_or_pos (i - l.length) with h0 | h0
      ·exact h0
      ·rw [List.getElem?_eq_none (by simp; omega)] at hc1; cases hc1
     simp [h0] at hc1; subst hc1; unfold bdF; simp; omega
   rw [e1, e2]
  have hcn : ∀ s ∈ sgs0 l (bds k l), cnE (unT m k) l s = 0 /\ cnV (unT m k) l s = ⟨0, 1⟩ := fun s hs => by
   obtain ⟨i, hi⟩ := List.getElem?_of_mem hs
   obtain ⟨b, c, hb1, hc1, rfl⟩ := sgs0_at hi
   exact cn_empty hu h (hS0.all _ hs) (hg i b c hb1 hc1)
  have hE : segE m k l = 0 := by
   unfold segE
   rw [if_pos hu, if_pos hck]
   refine sgX_0 fun s hs => ?_
   unfold segR; rw [if_pos (hcn s hs).1, (hcn s hs).2, if_neg (by simp)]
  refine lv_still hE fun s hs2 => ?_
  unfold segV at hs2
  rw [if_pos hE] at hs2
  obtain ⟨t, ht, rfl⟩ := List.mem_map.1 hs2
  have hc0 : (segW (unT m k) l t).Count = ⟨0, 1⟩ := (hcn t ht).2
  unfold chF alQ alR wnL
  rw [hc0]
  cases hf : (segW (unT m k) l t).Free <;> simp
theorem even_all {m : Mn} {v : Int} {l : List Ite} (hv1 : 1 <= v) (hv8 : v <= 8) (hl : l.length <= 30) (hP : ∀ x ∈ l, itF x = 0) (h : ∀ x ∈ l, EvI m v x) : ∀ (L C : List Int), (∀ k ∈ L, unE m k = 0) -> (lvF m L l C).2 = (l, 0)
 | [], C, _ => rfl
 | k :: r, C, hL => by
  obtain ⟨h1, h2⟩ := even_level (hL k (by simp)) hv1 hv8 hl hP h
  simp only [lvF]
  rw [if_pos h1, h2]
  exact even_all hv1 hv8 hl hP h r _ fun x hx => hL x (List.mem_cons_of_mem _ hx)
end Go.Rse
