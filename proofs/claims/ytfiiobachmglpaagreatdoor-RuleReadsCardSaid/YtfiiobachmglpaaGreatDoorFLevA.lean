/-
  Plain: sums and differences of times are valid times; a whole unit is taken off.
  Plain: segments of a level, their counts, and the choices that are allowed.
  Plain: how segments lie, and what choices leave unchanged.
  Plain: choices by definition are those that are allowed.
  Plain: the choices by the rule, at a level and at all levels; the reading of a run.
  Plain: allowed choices leave items valid, longer than 0, and the fixed ones as they were; which errors a reading can have.
  Plain: equal notes and rests: nothing is changed at any level.
-/
import Derived.Test.YtfiiobachmglpaaGreatDoorFJTime
import Derived.Test.YtfiiobachmglpaaGreatDoorFIteA
set_option linter.unusedSimpArgs false
set_option linter.unusedVariables false
namespace Go.Rse
open Go Go.Proofs
theorem zqu {a b : Int} (h : ∀ g : Nat, (g : Int) ∣ a -> (g : Int) ∣ b -> g = 1) : gI a b = 1 := by
 have h1 : (Nat.gcd a.natAbs b.natAbs : Int) ∣ a := Int.ofNat_dvd_left.2 (Nat.gcd_dvd_left _ _);have h2 : (Nat.gcd a.natAbs b.natAbs : Int) ∣ b := Int.ofNat_dvd_left.2 (Nat.gcd_dvd_right _ _);unfold gI; rw [h _ h1 h2]; rfl
theorem zk5 {X Y : Int} (h : gI X Y = 1) (h0 : 0 <= X) (h1 : 1 <= Y) (hX : X <= 1099511627776) (hY : Y <= 1048576) : tmkE X Y = 0 /\ tmkT X Y = ⟨X, Y⟩ /\ ckT ⟨X, Y⟩ = 0 := by
 have e : tmkE X Y = 0 := by unfold tmkE; rw [if_neg (by omega), if_neg (by omega), h, Int.ediv_one, Int.ediv_one, if_neg (by omega)]
 refine ⟨e, ?_, ?_⟩
 ·unfold tmkT; rw [if_pos e, h, Int.ediv_one, Int.ediv_one]
 ·unfold ckT; rw [if_neg (by simp only; omega), if_neg (by simp only; omega)]
theorem zmT {X Y : Int} (h0 : 0 <= X) (h1 : 1 <= Y) (h : tmkE X Y = 0) : ckT (tmkT X Y) = 0 := by
 have hT : tmkT X Y = ⟨X / gI X Y, Y / gI X Y⟩ := by unfold tmkT; rw [if_pos h]
 have hg := zb1 (n := X) (d := Y) (by omega);have gx : gI X Y ∣ X := Int.ofNat_dvd_left.2 (Nat.gcd_dvd_left _ _);have gy : gI X Y ∣ Y := Int.ofNat_dvd_left.2 (Nat.gcd_dvd_right _ _);have ex := Int.mul_ediv_cancel' gx;have ey := Int.mul_ediv_cancel' gy;have hx0 : 0 <= X / gI X Y := Int.ediv_nonneg h0 (by omega)
 have hy1 : 0 < Y / gI X Y := by
  apply Classical.byContradiction;intro hn;have := Int.mul_le_mul_of_nonneg_left (show Y / gI X Y <= 0 by omega) (Int.le_of_lt hg);omega
 have hone : gI (X / gI X Y) (Y / gI X Y) = 1 := zqu fun d h2 h3 => by
  obtain ⟨a, ha⟩ := h2;obtain ⟨b, hb⟩ := h3;have ea := ex; rw [ha] at ea;have eb := ey; rw [hb] at eb;have d1 : ((Nat.gcd X.natAbs Y.natAbs * d : Nat) : Int) ∣ X := ⟨a, ea.symm.trans (by rw [Int.natCast_mul, Int.mul_assoc]; rfl)⟩;have d2 : ((Nat.gcd X.natAbs Y.natAbs * d : Nat) : Int) ∣ Y := ⟨b, eb.symm.trans (by rw [Int.natCast_mul, Int.mul_assoc]; rfl)⟩;have d3 := Nat.dvd_gcd (Int.ofNat_dvd_left.1 d1) (Int.ofNat_dvd_left.1 d2);have hgn : 0 < Nat.gcd X.natAbs Y.natAbs := by unfold gI at hg; omega
  obtain ⟨q, hq⟩ := d3;have : d * q = 1 := Nat.eq_of_mul_eq_mul_left hgn (by rw [← Nat.mul_assoc, ← hq, Nat.mul_one]);exact Nat.eq_one_of_mul_eq_one_right this
 have hb : ¬ (1099511627776 < X / gI X Y \/ 1048576 < Y / gI X Y) := fun hbig => by
  unfold tmkE at h;rw [if_neg (by omega), if_neg (by omega), if_pos hbig] at h;exact absurd h (by decide)
 rw [hT];unfold ckT;rw [if_neg (by simp only; omega), if_neg (by simp only; omega)]
theorem zog {a b c d : Nat} (hb : 0 < b) (hd : 0 < d) (h1 : Nat.gcd a b = 1) (h2 : Nat.gcd c d = 1) : Nat.gcd (a / Nat.gcd a d * (c / Nat.gcd c b)) (b / Nat.gcd c b * (d / Nat.gcd a d)) = 1 := by
 have gad := Nat.gcd_pos_of_pos_right a hd;have gcb := Nat.gcd_pos_of_pos_right c hb;have da := Nat.div_dvd_of_dvd (Nat.gcd_dvd_left a d);have dd := Nat.div_dvd_of_dvd (Nat.gcd_dvd_right a d);have dc := Nat.div_dvd_of_dvd (Nat.gcd_dvd_left c b);have db := Nat.div_dvd_of_dvd (Nat.gcd_dvd_right c b);have x1 : Nat.Coprime (a / Nat.gcd a d) (b / Nat.gcd c b) := (Nat.Coprime.coprime_dvd_left da h1).coprime_dvd_right db;have x2 : Nat.Coprime (a / Nat.gcd a d) (d / Nat.gcd a d) := Nat.coprime_div_gcd_div_gcd gad;have x3 : Nat.Coprime (c / Nat.gcd c b) (b / Nat.gcd c b) := Nat.coprime_div_gcd_div_gcd gcb;have x4 : Nat.Coprime (c / Nat.gcd c b) (d / Nat.gcd a d) := (Nat.Coprime.coprime_dvd_left dc h2).coprime_dvd_right dd;exact Nat.Coprime.mul_left (Nat.Coprime.mul_right x1 x2) (Nat.Coprime.mul_right x3 x4)
theorem zkt (a b : Nat) : gI (a : Int) (b : Int) = (Nat.gcd a b : Nat) := rfl
theorem zoh {a b c d : Int} (h0 : 0 <= a) (h1 : 1 <= b) (h2 : 0 <= c) (h3 : 1 <= d) (g1 : gI a b = 1) (g2 : gI c d = 1) :
 gI (a / gI a d * (c / gI c b)) (b / gI c b * (d / gI a d)) = 1 := by
 obtain ⟨a, rfl⟩ := Int.eq_ofNat_of_zero_le h0;obtain ⟨b, rfl⟩ := Int.eq_ofNat_of_zero_le (show 0 <= b by omega);obtain ⟨c, rfl⟩ := Int.eq_ofNat_of_zero_le h2;obtain ⟨d, rfl⟩ := Int.eq_ofNat_of_zero_le (show 0 <= d by omega);rw [zkt] at g1 g2 ⊢;rw [zkt];simp only [← Int.natCast_ediv, ← Int.natCast_mul];rw [zkt, zog (by omega) (by omega) (by omega) (by omega)]; rfl
theorem zk6 {a b : Tm} (ha : ckT a = 0) (hb : ckT b = 0) : yP [a, b] = 0 := by simp [yP, ha, hb]
theorem zoi {a b : Tm} (h : addE a b = 0) : ckT a = 0 /\ ckT b = 0 /\ ckT (addV a b) = 0 := by
 unfold addE at h;split at h
 ·rename_i hf;obtain ⟨ha, hb⟩ := zbG hf;have b1 := z8 ha;have b2 := z8 hb;refine ⟨ha, hb, ?_⟩;unfold addV;rw [if_pos hf];have m1 := Int.mul_nonneg b1.1 b2.2.2.1;have m2 := Int.mul_nonneg b2.1 b1.2.2.1;exact zmT (by omega) (mulP b1.2.2.2.2.1 b2.2.2.2.2.1) h
 ·exact absurd h (by assumption)
theorem zoj {a b : Tm} (h : subE a b = 0) : ckT a = 0 /\ ckT b = 0 /\ ckT (subV a b) = 0 := by
 unfold subE at h;split at h
 ·rename_i hf;obtain ⟨ha, hb⟩ := zbG hf;have b1 := z8 ha;have b2 := z8 hb;refine ⟨ha, hb, ?_⟩;unfold subV;rw [if_pos hf]
  have h0 : 0 <= a.N * b.D - b.N * a.D := by
   unfold tmkE at h;split at h
   ·cases h
   ·omega
  exact zmT h0 (mulP b1.2.2.2.2.1 b2.2.2.2.2.1) h
 ·exact absurd h (by assumption)
theorem zr8 {a : Tm} (h : ckT a = 0) : subE a ⟨0, 1⟩ = 0 /\ subV a ⟨0, 1⟩ = a := by
 have b := z8 h;have hz : ckT ⟨0, 1⟩ = 0 := by decide +kernel
 obtain ⟨e1, e2, e3⟩ := zk5 b.2.2.2.2.2 b.1 b.2.2.2.2.1 b.2.1 b.2.2.2.1;unfold subE subV;rw [if_pos (zk6 h hz), if_pos (zk6 h hz)];simp only [Int.mul_one, Int.zero_mul, Int.sub_zero];exact ⟨e1, e2⟩
end Go.Rse
namespace Go.Rse
open Go Go.Proofs
structure Sgm where
 From : Int
 To : Int
 Left : Int
 Right : Int
 Free : Bool
 Count : Tm
 deriving DecidableEq
instance : Inhabited Sgm := ⟨⟨0, 0, 0, 0, false, ⟨0, 0⟩⟩⟩
def smE : Sgm -> List AV := fun x => [.int .i64 x.From, .int .i64 x.To, .int .i64 x.Left, .int .i64 x.Right, .bool x.Free, .int .i64 x.Count.N, .int .i64 x.Count.D]
abbrev smA (x : Sgm) : AV := .agg (smE x)
abbrev smsA (l : List Sgm) : AV := .sl smE l
abbrev itT (x : Ite) : List Tm := [x.Dur, x.Before, x.After]
abbrev itKd (x : Ite) : Prop := (x.Rest = true /\ x.Color = true) \/ ((x.Rest = true \/ x.Color = true) /\ x.Fixed = false)
abbrev itRg (x : Ite) : Prop := x.Value < 1 \/ 8 < x.Value \/ x.Cut < 0 \/ 8 < x.Cut
def itF (x : Ite) : Int := if itRg x then 2 else if yP (itT x) = 0 then (if itKd x then 8 else 0) else yP (itT x)
def ckIE : List Ite -> Int
 | [] => 0
 | x :: r => if itF x = 0 then ckIE r else itF x
def ckIX : List Ite -> Int -> Int
 | [], _ => 0
 | x :: r, k => if itF x = 0 then ckIX r (k + 1) else k
theorem za1 {l : List Ite} {k : Nat} {x : Ite} (h : l[k]? = some x) : ckIE (l.drop k) = if itF x = 0 then ckIE (l.drop (k + 1)) else itF x := by
 have h1 := List.getElem?_eq_some_iff.1 h;rw [List.drop_eq_getElem_cons h1.1, h1.2]; rfl
theorem za2 {l : List Ite} {k : Nat} {x : Ite} (n : Int) (h : l[k]? = some x) : ckIX (l.drop k) n = if itF x = 0 then ckIX (l.drop (k + 1)) (n + 1) else n := by
 have h1 := List.getElem?_eq_some_iff.1 h;rw [List.drop_eq_getElem_cons h1.1, h1.2]; rfl
theorem zb2 : ∀ {l : List Ite}, ckIE l = 0 -> ∀ x ∈ l, itF x = 0
 | [], _, x, hx => by simp at hx
 | s :: r, h, x, hx => by
  simp only [ckIE] at h;by_cases hs : itF s = 0
  ·rw [if_pos hs] at h;rcases List.mem_cons.1 hx with rfl | hx
   ·exact hs
   ·exact zb2 h x hx
  ·rw [if_neg hs] at h; exact absurd h hs
theorem zfW {x : Ite} (h : itF x = 0) : (1 <= x.Value /\ x.Value <= 8 /\ 0 <= x.Cut /\ x.Cut <= 8) /\ ckT x.Dur = 0 /\ ckT x.Before = 0 /\ ckT x.After = 0 /\ ¬ itKd x := by
 unfold itF at h;split at h
 ·cases h
 ·rename_i h1;split at h
  ·rename_i h2;split at h
   ·cases h
   ·rename_i h3;have h4 := zh9 h2;exact ⟨by unfold itRg at h1; omega, h4 _ (by simp), h4 _ (by simp), h4 _ (by simp), h3⟩
  ·rename_i h2; exact absurd h h2
def unE (m : Mn) (k : Int) : Int := if ckM m = 0 then (if 1 <= k /\ k <= 4 /\ m.p k = 3 then 0 else 2) else ckM m
def unT (m : Mn) (k : Int) : Tm := if unE m k = 0 then zo m (k + 1) else tmZ
theorem zgg {m : Mn} {k : Int} (h : unE m k = 0) : ckM m = 0 /\ 1 <= k /\ k <= 4 /\ m.p k = 3 := by
 unfold unE at h;split at h
 ·split at h
  ·exact ⟨by assumption, by assumption⟩
  ·cases h
 ·exact absurd h (by assumption)
structure Bd where
 item : Int
 next : Int
 fin : Bool
 deriving DecidableEq
instance : Inhabited Bd := ⟨⟨0, 0, false⟩⟩
def bdE : Bd -> List AV := fun x => [.int .i64 x.item, .int .i64 x.next, .bool x.fin]
abbrev bdA (x : Bd) : AV := .agg (bdE x)
abbrev isH (k : Int) (x : Ite) : Prop := x.Color = false /\ x.Value <= k
abbrev isC (k : Int) (x : Ite) : Prop := 0 < x.Cut /\ x.Cut <= k
def bdK (k : Int) (l : List Ite) : Nat -> List Bd
 | 0 => [⟨-1, 0, false⟩]
 | n + 1 => match l[n]? with
  | some x => (bdK k l n ++ if isH k x then [⟨n, n + 1, false⟩] else []) ++ if isC k x then [⟨-1, n + 1, false⟩] else []
  | none => bdK k l n
def bds (k : Int) (l : List Ite) : List Bd := bdK k l l.length ++ [⟨-1, l.length, true⟩]
theorem zbB {k : Int} {l : List Ite} {n : Nat} {x : Ite} (h : l[n]? = some x) : bdK k l (n + 1) = (bdK k l n ++ if isH k x then [⟨n, n + 1, false⟩] else []) ++ if isC k x then [⟨-1, n + 1, false⟩] else [] := by
 conv => lhs; unfold bdK
 rw [h]
theorem zco (k : Int) (l : List Ite) : ∀ n, 1 <= (bdK k l n).length /\ (bdK k l n).length <= 2 * n + 1
 | 0 => by simp [bdK]
 | n + 1 => by
  have h := zco k l n;cases hx : l[n]? with
  | none => unfold bdK; rw [hx]; simp only; omega
  | some x =>
   rw [zbB hx];simp only [List.length_append];have h1 : (if isH k x then [(⟨n, n + 1, false⟩ : Bd)] else []).length <= 1 := by split <;> simp
   have h2 : (if isC k x then [(⟨-1, n + 1, false⟩ : Bd)] else []).length <= 1 := by split <;> simp
   omega
def hdI (l : List Ite) (b : Bd) : Int := if b.item < 0 \/ (l.getD b.item.toNat default).Fixed = true then -1 else b.item
abbrev bdF (b : Bd) : Int := if 0 <= b.item then b.item else b.next
def sg0 (l : List Ite) (b c : Bd) : Sgm := ⟨b.next, bdF c, hdI l b, hdI l c, c.fin, ⟨0, 0⟩⟩
def sgs0 (l : List Ite) : List Bd -> List Sgm
 | b :: c :: r => sg0 l b c :: sgs0 l (c :: r)
 | _ => []
theorem zdJ (l : List Ite) : ∀ B : List Bd, (sgs0 l B).length = B.length - 1
 | [] => rfl
 | [_] => rfl
 | b :: c :: r => by
  have := zdJ l (c :: r);simp only [sgs0, List.length_cons] at this ⊢;omega
theorem zg1 (l : List Ite) : ∀ (B : List Bd) (i : Nat) (b c : Bd), B[i]? = some b -> B[i + 1]? = some c -> (sgs0 l B)[i]? = some (sg0 l b c)
 | [], i, b, c, h, _ => by simp at h
 | [_], i, b, c, _, h => by simp at h
 | x :: y :: r, 0, b, c, h, h2 => by
  simp at h h2; subst h h2; rfl
 | x :: y :: r, i + 1, b, c, h, h2 => by
  have := zg1 l (y :: r) i b c (by simpa using h) (by simpa using h2);simpa [sgs0] using this
theorem zib (l : List Ite) : ∀ (B : List Bd) (b c : Bd), sgs0 l ((B ++ [b]) ++ [c]) = sgs0 l (B ++ [b]) ++ [sg0 l b c]
 | [], b, c => rfl
 | [x], b, c => rfl
 | x :: y :: r, b, c => by
  have := zib l (y :: r) b c;simp only [List.cons_append, sgs0] at this ⊢;rw [this]
def itR (l : List Ite) (s : Sgm) : List Ite := (l.drop s.From.toNat).take (s.To.toNat - s.From.toNat)
def drL (l : List Ite) : List Tm := l.map (·.Dur)
def lsE (a b : Tm) : Int := if subE a b = 2 then 14 else subE a b
def cn1 (t : Tm) (h : Int) (d : Tm) : Tm × Int := if h < 0 then (t, 0) else if lsE t d = 0 then (subV t d, 0) else (tmZ, lsE t d)
def cnA (l : List Ite) (s : Sgm) : Tm × Int := sumF ⟨0, 1⟩ (drL (itR l s))
def cnB (l : List Ite) (s : Sgm) : Tm × Int := if (cnA l s).2 = 0 then cn1 (cnA l s).1 s.Left (l.getD s.Left.toNat default).After else (tmZ, (cnA l s).2)
def cnC (l : List Ite) (s : Sgm) : Tm × Int := if (cnB l s).2 = 0 then cn1 (cnB l s).1 s.Right (l.getD s.Right.toNat default).Before else (tmZ, (cnB l s).2)
def divE (a b : Tm) : Int := if yP [a, b] = 0 then (if b.N = 0 then 5 else tmsE a.N a.D b.D b.N) else yP [a, b]
def divV (a b : Tm) : Tm := if yP [a, b] = 0 then (if b.N = 0 then tmZ else tmsV a.N a.D b.D b.N) else tmZ
def cnE (u : Tm) (l : List Ite) (s : Sgm) : Int := if (cnC l s).2 = 0 then divE (cnC l s).1 u else (cnC l s).2
def cnV (u : Tm) (l : List Ite) (s : Sgm) : Tm := if (cnC l s).2 = 0 then divV (cnC l s).1 u else tmZ
def segW (u : Tm) (l : List Ite) (s : Sgm) : Sgm := { s with Count := cnV u l s }
def segR (u : Tm) (l : List Ite) (s : Sgm) : Int := if cnE u l s = 0 then (if s.Free = false /\ ¬ (cnV u l s).D = 1 then 14 else 0) else cnE u l s
def segX (u : Tm) (l : List Ite) : List Sgm -> Int
 | [] => 0
 | s :: r => if segR u l s = 0 then segX u l r else segR u l s
theorem zcI {u : Tm} {l : List Ite} {L : List Sgm} {k : Nat} {s : Sgm} (h : L[k]? = some s) : segX u l (L.drop k) = if segR u l s = 0 then segX u l (L.drop (k + 1)) else segR u l s := by
 have h1 := List.getElem?_eq_some_iff.1 h;rw [List.drop_eq_getElem_cons h1.1, h1.2]; rfl
theorem zk7 {u : Tm} {l : List Ite} : ∀ {L : List Sgm}, segX u l L = 0 -> ∀ s ∈ L, segR u l s = 0
 | [], _, x, hx => by simp at hx
 | s :: r, h, x, hx => by
  simp only [segX] at h;by_cases hs : segR u l s = 0
  ·rw [if_pos hs] at h;rcases List.mem_cons.1 hx with rfl | hx
   ·exact hs
   ·exact zk7 h x hx
  ·rw [if_neg hs] at h; exact absurd h hs
def segE (m : Mn) (k : Int) (l : List Ite) : Int := if unE m k = 0 then (if ckIE l = 0 then segX (unT m k) l (sgs0 l (bds k l)) else ckIE l) else unE m k
def segV (m : Mn) (k : Int) (l : List Ite) : List Sgm := if segE m k l = 0 then (sgs0 l (bds k l)).map (segW (unT m k) l) else []
def smF : Tm -> List Tm -> List Tm
 | _, [] => []
 | t, d :: r => addV t d :: smF (addV t d) r
def fsL (l : List Ite) : List Tm := smF ⟨0, 1⟩ (drL l)
def lasL (l : List Ite) : List Tm := match (fsL l).getLast? with
 | none => []
 | some a => a :: (((fsL l).dropLast.filter fun t => decide (subE a t = 0)).map fun t => subV a t)
def rcQ (u : Tm) (sums : List Tm) (lost : Tm) : Bool := decide (addE lost u = 0) && decide (addV lost u ∈ sums)
def lgQ (u : Tm) (x : Ite) : Bool := decide (0 < cmpV x.Dur u)
abbrev itg (l : List Ite) (i : Int) : Ite := l.getD i.toNat default
def poQ (u : Tm) (k : Int) (l : List Ite) (L : List (Int × Bool)) (s : Sgm) : Bool :=
 !decide (s.Left < 0) && ((decide ((itg l s.Left).Value < k) || !(mget s.Left L).getD false) && lgQ u (itg l s.Left) && rcQ u (fsL (itR l s)) (itg l s.Left).After)
def blQ (k : Int) (l : List Ite) (h : Int) : Bool :=
 decide ((itg l h).Value = k) && decide (h + 1 < l.length) && !decide (0 < (itg l h).Cut) && (!(itg l (h + 1)).Color && decide ((itg l (h + 1)).Value = k))
def anQ (u : Tm) (k : Int) (l : List Ite) (s : Sgm) : Bool :=
 !decide (s.Right < 0) && (!blQ k l s.Right && (lgQ u (itg l s.Right) && rcQ u (lasL (itR l s)) (itg l s.Right).Before))
def ntQ (u : Tm) (k : Int) (x : Ite) : Bool := !x.Rest && !x.Color && !x.Fixed && decide (x.Value = k + 1) && decide (x.Dur = u)
def atQ (u : Tm) (k : Int) (l : List Ite) (s : Sgm) : Bool :=
 !(decide (s.From = s.To) || s.Free) && (ntQ u k (itg l (s.To - 1)) && (decide (s.Right < 0) || decide ((itg l s.Right).Before.N = 0)))
def alR (p a t : Bool) (s : Sgm) : List Int :=
 (if s.Count.N % 3 = 0 \/ s.Free = true then [0] else []) ++ (if s.Count.N % 3 = 1 /\ s.Count.D = 1 /\ p = true then [1] else []) ++ (if s.Count.N % 3 = 1 /\ s.Free = false /\ a = true then [2] else []) ++
 (if s.Count.N % 3 = 2 /\ s.Free = false /\ p = true /\ a = true then [3] else []) ++ (if s.Count.N % 3 = 2 /\ s.Free = false /\ t = true then [4] else [])
def alQ (u : Tm) (k : Int) (l : List Ite) (L : List (Int × Bool)) (s : Sgm) : List Int := alR (poQ u k l L s) (anQ u k l s) (atQ u k l s) s
def zag (u : Tm) (x : Ite) : Ite := { x with Dur := subV x.Dur u, After := addV x.After u }
def zal (u : Tm) (x : Ite) : Ite := { x with Dur := subV x.Dur u, Before := addV x.Before u }
def dblI (x : Ite) : Ite := { x with Dur := addV x.Dur x.Dur }
def upI (l : List Ite) (i : Int) (f : Ite -> Ite) : List Ite := l.set i.toNat (f (itg l i))
def chN (u : Tm) (s : Sgm) (c : Int) (l : List Ite) : List Ite :=
 let l1 := if c = 1 \/ c = 3 then upI l s.Left (zag u) else l
 let l2 := if c = 2 \/ c = 3 then upI l1 s.Right (zal u) else l1
 if c = 4 then upI l2 (s.To - 1) dblI else l2
def chL (s : Sgm) (c : Int) (L : List (Int × Bool)) : List (Int × Bool) := if c = 2 \/ c = 3 then mput s.Right true L else L
theorem zfo (l : List Ite) (i : Int) (f : Ite -> Ite) : (upI l i f).length = l.length := by unfold upI; simp
theorem zk8 (u : Tm) (s : Sgm) (c : Int) (l : List Ite) : (chN u s c l).length = l.length := by
 unfold chN; simp only; split <;> split <;> split <;> simp [zfo]
def stK (u : Tm) (S : List Sgm) (l : List Ite) (M : List Int) : Nat -> List Ite × List (Int × Bool)
 | 0 => (l, [])
 | n + 1 => (chN u (S.getD n default) (M.getD n 0) (stK u S l M n).1, chL (S.getD n default) (M.getD n 0) (stK u S l M n).2)
def alK (u : Tm) (k : Int) (S : List Sgm) (l : List Ite) (M : List Int) (n : Nat) : List Int := alQ u k (stK u S l M n).1 (stK u S l M n).2 (S.getD n default)
def okJ (u : Tm) (k : Int) (S : List Sgm) (l : List Ite) (M : List Int) : Nat -> Bool
 | 0 => true
 | n + 1 => okJ u k S l M n && decide (M.getD n 0 ∈ alK u k S l M n)
theorem zbv (u : Tm) (S : List Sgm) (l : List Ite) (M : List Int) : ∀ n, (stK u S l M n).1.length = l.length
 | 0 => rfl
 | n + 1 => by show (chN _ _ _ _).length = _; rw [zk8, zbv u S l M n]
theorem zk9 (u : Tm) (S : List Sgm) (l : List Ite) (M : List Int) (n : Nat) : stK u S l M (n + 1) = (chN u (S.getD n default) (M.getD n 0) (stK u S l M n).1, chL (S.getD n default) (M.getD n 0) (stK u S l M n).2) := rfl
def apE (m : Mn) (k : Int) (l : List Ite) (M : List Int) : Int := if segE m k l = 0 then (if ¬ (segV m k l).length = M.length \/ okJ (unT m k) k (segV m k l) l M M.length = false then 2 else 0) else segE m k l
def apV (m : Mn) (k : Int) (l : List Ite) (M : List Int) : List Ite := if apE m k l M = 0 then (stK (unT m k) (segV m k l) l M M.length).1 else []
end Go.Rse
namespace Go.Rse
open Go Go.Proofs
structure BdOk (k : Int) (l : List Ite) (n : Nat) (b : Bd) : Prop where
 it : b.item = -1 \/ (0 <= b.item /\ b.next = b.item + 1 /\ isH k (itg l b.item))
 lo : 0 <= b.next
 hi : b.next <= n
theorem BdOk.mono {k : Int} {l : List Ite} {n n' : Nat} {b : Bd} (h : BdOk k l n b) (hn : n <= n') : BdOk k l n' b := ⟨h.it, h.lo, by have := h.hi; omega⟩
theorem zqv {l : List Ite} {n : Nat} {x : Ite} (h : l[n]? = some x) : itg l (n : Int) = x := by
 unfold itg; rw [show (n : Int).toNat = n by omega, List.getD_eq_getElem?_getD, h]; rfl
theorem zku (k : Int) (l : List Ite) : ∀ n, n <= l.length -> (∀ b ∈ bdK k l n, BdOk k l n b /\ b.fin = false) /\ (bdK k l n).Pairwise (fun b c => b.next <= bdF c)
 | 0, _ => by
  constructor
  ·intro b hb;simp [bdK] at hb; subst hb;exact ⟨⟨.inl rfl, by simp, by simp⟩, rfl⟩
  ·simp [bdK]
 | n + 1, hn => by
  obtain ⟨h1, h2⟩ := zku k l n (by omega);have hx : l[n]? = some l[n] := lgg (by omega);rw [zbB hx];have hg := zqv hx;generalize l[n] = x at *
  have a1 : ∀ b ∈ bdK k l n ++ (if isH k x then [(⟨n, n + 1, false⟩ : Bd)] else []), BdOk k l (n + 1) b /\ b.fin = false := by
   intro b hb;rcases List.mem_append.1 hb with hb | hb
   ·exact ⟨(h1 b hb).1.mono (by omega), (h1 b hb).2⟩
   ·split at hb
    ·rename_i hh;simp at hb; subst hb;refine ⟨⟨.inr ⟨by simp, rfl, ?_⟩, by show (0 : Int) <= n + 1; omega, by show (n : Int) + 1 <= ((n + 1 : Nat) : Int); omega⟩, rfl⟩;show isH k (itg l (n : Int)); rw [hg]; exact hh
    ·simp at hb
  have a2 : (bdK k l n ++ (if isH k x then [(⟨n, n + 1, false⟩ : Bd)] else [])).Pairwise (fun b c => b.next <= bdF c) := by
   refine List.pairwise_append.2 ⟨h2, ?_, ?_⟩
   ·split <;> simp
   ·intro b hb c hc;split at hc
    ·simp at hc; subst hc;have := (h1 b hb).1.hi;show b.next <= if (0 : Int) <= (n : Int) then (n : Int) else _
     rw [if_pos (by omega)]; exact this
    ·simp at hc
  constructor
  ·intro b hb;rcases List.mem_append.1 hb with hb | hb
   ·exact a1 b hb
   ·split at hb
    ·simp at hb; subst hb;exact ⟨⟨.inl rfl, by show (0 : Int) <= n + 1; omega, by show (n : Int) + 1 <= ((n + 1 : Nat) : Int); omega⟩, rfl⟩
    ·simp at hb
  ·refine List.pairwise_append.2 ⟨a2, ?_, ?_⟩
   ·split <;> simp
   ·intro b hb c hc;split at hc
    ·simp at hc; subst hc;have := (a1 b hb).1.hi;show b.next <= if (0 : Int) <= -1 then (-1 : Int) else (n : Int) + 1
     rw [if_neg (by omega)]; omega
    ·simp at hc
theorem zkv (k : Int) (l : List Ite) : (∀ b ∈ bds k l, BdOk k l l.length b) /\ (bds k l).Pairwise (fun b c => b.next <= bdF c) := by
 obtain ⟨h1, h2⟩ := zku k l l.length (Nat.le_refl _);unfold bds;constructor
 ·intro b hb;rcases List.mem_append.1 hb with hb | hb
  ·exact (h1 b hb).1
  ·simp at hb; subst hb; exact ⟨.inl rfl, by simp, by simp⟩
 ·refine List.pairwise_append.2 ⟨h2, by simp, ?_⟩;intro b hb c hc;simp at hc; subst hc;have := (h1 b hb).1.hi;show b.next <= if (0 : Int) <= -1 then (-1 : Int) else (l.length : Int)
  rw [if_neg (by omega)]; exact this
theorem zjF (k : Int) (l : List Ite) : ∀ n, (bdK k l n)[0]? = some ⟨-1, 0, false⟩
 | 0 => rfl
 | n + 1 => by
  have h := zjF k l n;have hp := (zco k l n).1;cases hx : l[n]? with
  | none => unfold bdK; rw [hx]; exact h
  | some x => rw [zbB hx, List.append_assoc, List.getElem?_append_left (by omega)]; exact h
theorem zcX (k : Int) (l : List Ite) : (bds k l).length = (bdK k l l.length).length + 1 := by unfold bds; simp
theorem zjG (k : Int) (l : List Ite) : (bds k l)[0]? = some ⟨-1, 0, false⟩ := by
 unfold bds;rw [List.getElem?_append_left (by have := (zco k l l.length).1; omega)];exact zjF k l _
theorem zok {k : Int} {l : List Ite} {i : Nat} {b : Bd} (h : (bds k l)[i]? = some b) : b.fin = decide (i + 1 = (bds k l).length) := by
 have hl := zcX k l;unfold bds at h;rcases Nat.lt_or_ge i (bdK k l l.length).length with hi | hi
 ·rw [List.getElem?_append_left hi] at h;rw [((zku k l l.length (Nat.le_refl _)).1 b (List.mem_of_getElem? h)).2, eq_comm, decide_eq_false_iff_not]; omega
 ·rw [List.getElem?_append_right hi] at h
  have h0 : i - (bdK k l l.length).length = 0 := by
   rcases Nat.eq_zero_or_pos (i - (bdK k l l.length).length) with h0 | h0
   ·exact h0
   ·rw [List.getElem?_eq_none (by simp; omega)] at h; cases h
  rw [h0] at h;simp at h; subst h;show true = _;rw [eq_comm, decide_eq_true_iff]; omega
structure SgOk (k : Int) (l : List Ite) (s : Sgm) : Prop where
 f0 : 0 <= s.From
 ft : s.From <= s.To
 tl : s.To <= l.length
 lf : s.Left = -1 \/ (0 <= s.Left /\ s.Left + 1 = s.From /\ (itg l s.Left).Value <= k /\ (itg l s.Left).Color = false /\ (itg l s.Left).Fixed = false)
 rt : s.Right = -1 \/ (s.Right = s.To /\ s.To < l.length /\ (itg l s.Right).Value <= k /\ (itg l s.Right).Color = false /\ (itg l s.Right).Fixed = false)
structure SgsOk (k : Int) (l : List Ite) (S : List Sgm) : Prop where
 all : ∀ s ∈ S, SgOk k l s
 nx : ∀ n s t, S[n]? = some s -> S[n + 1]? = some t -> t.Left = s.Right /\ s.To <= t.From /\ (0 <= s.Right -> t.From = s.To + 1)
 st : ∀ s, S[0]? = some s -> s.Left = -1
theorem zkw {k : Int} {l : List Ite} {n : Nat} {b : Bd} (h : BdOk k l n b) : hdI l b = -1 \/ (0 <= b.item /\ hdI l b = b.item /\ b.next = b.item + 1 /\ (itg l b.item).Value <= k /\ (itg l b.item).Color = false /\ (itg l b.item).Fixed = false) := by
 unfold hdI;split
 ·exact .inl rfl
 ·rename_i hc;have h1 : ¬ b.item < 0 := fun h => hc (.inl h)
  have h2 : (itg l b.item).Fixed = false := by
   cases hf : (itg l b.item).Fixed with
   | false => rfl
   | true => exact absurd (.inr hf) hc
  rcases h.it with h3 | ⟨h3, h4, h5⟩
  ·omega
  ·exact .inr ⟨h3, rfl, h4, h5.2, h5.1, h2⟩
theorem zqw {k : Int} {l : List Ite} {b c : Bd} (hb : BdOk k l l.length b) (hc : BdOk k l l.length c) (h : b.next <= bdF c) : SgOk k l (sg0 l b c) := by
 have hcF : bdF c <= c.next := by
  unfold bdF;rcases hc.it with h3 | ⟨h3, h4, h5⟩
  ·rw [if_neg (by omega)]; exact Int.le_refl _
  ·rw [if_pos h3]; omega
 refine ⟨hb.lo, h, by have := hc.hi; show bdF c <= l.length; omega, ?_, ?_⟩
 ·rcases zkw hb with h3 | ⟨h3, h4, h5, h6⟩
  ·exact .inl h3
  ·refine .inr ?_;show 0 <= hdI l b /\ hdI l b + 1 = b.next /\ (itg l (hdI l b)).Value <= k /\ (itg l (hdI l b)).Color = false /\ (itg l (hdI l b)).Fixed = false;rw [h4]; exact ⟨h3, h5.symm, h6⟩
 ·rcases zkw hc with h3 | ⟨h3, h4, h5, h6⟩
  ·exact .inl h3
  ·refine .inr ?_;have hF : bdF c = c.item := by unfold bdF; rw [if_pos h3]
   show hdI l c = bdF c /\ bdF c < l.length /\ (itg l (hdI l c)).Value <= k /\ (itg l (hdI l c)).Color = false /\ (itg l (hdI l c)).Fixed = false;rw [h4, hF];exact ⟨rfl, by have := hc.hi; omega, h6⟩
theorem zgG {l : List Ite} {B : List Bd} {i : Nat} {s : Sgm} (h : (sgs0 l B)[i]? = some s) : ∃ b c, B[i]? = some b /\ B[i + 1]? = some c /\ s = sg0 l b c := by
 have hi := (List.getElem?_eq_some_iff.1 h).1;rw [zdJ] at hi;have hb : B[i]? = some B[i] := lgg (by omega);have hc : B[i + 1]? = some B[i + 1] := lgg (by omega);have := zg1 l B i _ _ hb hc;rw [h] at this;exact ⟨_, _, hb, hc, Option.some.inj this⟩
theorem zol {B : List Bd} (h : B.Pairwise (fun b c => b.next <= bdF c)) {i : Nat} {b c : Bd} (hb : B[i]? = some b) (hc : B[i + 1]? = some c) : b.next <= bdF c := by
 obtain ⟨h1, rfl⟩ := List.getElem?_eq_some_iff.1 hb;obtain ⟨h2, rfl⟩ := List.getElem?_eq_some_iff.1 hc;exact List.pairwise_iff_getElem.1 h i (i + 1) h1 h2 (by omega)
theorem ziW (k : Int) (l : List Ite) : SgsOk k l (sgs0 l (bds k l)) := by
 obtain ⟨h1, h2⟩ := zkv k l;refine ⟨?_, ?_, ?_⟩
 ·intro s hs;obtain ⟨i, hi⟩ := List.getElem?_of_mem hs;obtain ⟨b, c, hb, hc, rfl⟩ := zgG hi;exact zqw (h1 b (List.mem_of_getElem? hb)) (h1 c (List.mem_of_getElem? hc)) (zol h2 hb hc)
 ·intro n s t hs ht;obtain ⟨b, c, hb, hc, rfl⟩ := zgG hs;obtain ⟨c', d, hc', hd, rfl⟩ := zgG ht;rw [hc] at hc'; cases hc';have ho := h1 c (List.mem_of_getElem? hc);refine ⟨rfl, ?_, ?_⟩
  ·show bdF c <= c.next;unfold bdF;rcases ho.it with h3 | ⟨h3, h4, h5⟩
   ·rw [if_neg (by omega)]; exact Int.le_refl _
   ·rw [if_pos h3]; omega
  ·intro h;have h : 0 <= hdI l c := h;show c.next = bdF c + 1;rcases zkw ho with h3 | ⟨h3, h4, h5, h6⟩
   ·omega
   ·unfold bdF; rw [if_pos h3]; exact h5
 ·intro s hs;obtain ⟨b, c, hb, hc, rfl⟩ := zgG hs;rw [zjG] at hb; cases hb;rfl
theorem SgOk.cnt {k : Int} {l : List Ite} {s : Sgm} (h : SgOk k l s) (t : Tm) : SgOk k l { s with Count := t } := ⟨h.f0, h.ft, h.tl, h.lf, h.rt⟩
theorem zdK {m : Mn} {k : Int} {l : List Ite} (h : segE m k l = 0) : SgsOk k l (segV m k l) := by
 have h0 := ziW k l;unfold segV;rw [if_pos h];refine ⟨?_, ?_, ?_⟩
 ·intro s hs;obtain ⟨t, ht, rfl⟩ := List.mem_map.1 hs;exact (h0.all t ht).cnt _
 ·intro n s t hs ht;rw [List.getElem?_map] at hs ht;obtain ⟨s', hs', rfl⟩ := Option.map_eq_some_iff.1 hs;obtain ⟨t', ht', rfl⟩ := Option.map_eq_some_iff.1 ht;exact h0.nx n s' t' hs' ht'
 ·intro s hs;rw [List.getElem?_map] at hs;obtain ⟨s', hs', rfl⟩ := Option.map_eq_some_iff.1 hs;exact h0.st s' hs'
theorem zcJ {m : Mn} {k : Int} {l : List Ite} (h : segE m k l = 0) : unE m k = 0 /\ ckIE l = 0 /\ segX (unT m k) l (sgs0 l (bds k l)) = 0 := by
 unfold segE at h;split at h
 ·split at h
  ·exact ⟨by assumption, by assumption, h⟩
  ·exact absurd h (by assumption)
 ·exact absurd h (by assumption)
theorem zr9 {u : Tm} {l : List Ite} {s : Sgm} (h : segR u l s = 0) : cnE u l s = 0 /\ (s.Free = true \/ (cnV u l s).D = 1) := by
 unfold segR at h;split at h
 ·split at h
  ·cases h
  ·rename_i h1 h2;refine ⟨h1, ?_⟩;cases hf : s.Free with
   | true => exact .inl rfl
   | false => exact .inr (Classical.byContradiction fun hd => h2 ⟨hf, hd⟩)
 ·exact absurd h (by assumption)
theorem zfp {m : Mn} {k : Int} {l : List Ite} (h : segE m k l = 0) : ∀ s ∈ segV m k l, s.Free = true \/ s.Count.D = 1 := by
 unfold segV; rw [if_pos h];intro s hs;obtain ⟨t, ht, rfl⟩ := List.mem_map.1 hs;exact (zr9 (zk7 (zcJ h).2.2 t ht)).2
def sameI (x y : Ite) : Prop := x.Sign = y.Sign /\ x.Value = y.Value /\ x.Rest = y.Rest /\ x.Color = y.Color /\ x.Fixed = y.Fixed /\ x.Cut = y.Cut
theorem zat (x : Ite) : sameI x x := ⟨rfl, rfl, rfl, rfl, rfl, rfl⟩
theorem sameI.tr {x y z : Ite} (h : sameI x y) (g : sameI y z) : sameI x z := ⟨h.1.trans g.1, h.2.1.trans g.2.1, h.2.2.1.trans g.2.2.1, h.2.2.2.1.trans g.2.2.2.1, h.2.2.2.2.1.trans g.2.2.2.2.1, h.2.2.2.2.2.trans g.2.2.2.2.2⟩
theorem zej {l : List Ite} {i j : Int} {f : Ite -> Ite} (hi : 0 <= i) (hj : 0 <= j) (hl : i < l.length) : itg (upI l i f) j = if i = j then f (itg l i) else itg l j := by
 unfold itg upI;rw [List.getD_eq_getElem?_getD, List.getElem?_set];by_cases h : i = j
 ·subst h;rw [if_pos rfl, if_pos rfl, if_pos (by omega)]; rfl
 ·rw [if_neg (by omega), if_neg h, ← List.getD_eq_getElem?_getD]
theorem zg2 {l : List Ite} {i j : Int} {f : Ite -> Ite} (hf : ∀ x, sameI (f x) x) (hi : 0 <= i) (hj : 0 <= j) (hl : i < l.length) : sameI (itg (upI l i f) j) (itg l j) := by
 rw [zej hi hj hl];split
 ·rename_i h; subst h; exact hf _
 ·exact zat _
theorem zkx (u : Tm) (x : Ite) : sameI (zag u x) x := zat _
theorem zky (u : Tm) (x : Ite) : sameI (zal u x) x := zat _
theorem zmg (x : Ite) : sameI (dblI x) x := zat _
structure ChOk (s : Sgm) (c : Int) : Prop where
 lf : c = 1 \/ c = 3 -> 0 <= s.Left
 rt : c = 2 \/ c = 3 -> 0 <= s.Right
 al : c = 4 -> s.From < s.To
theorem zom {p a t : Bool} {s : Sgm} {c : Int} (h : c ∈ alR p a t s) : (c = 0 /\ (s.Count.N % 3 = 0 \/ s.Free = true)) \/ (c = 1 /\ p = true /\ s.Count.N % 3 = 1) \/ (c = 2 /\ a = true /\ s.Free = false /\ s.Count.N % 3 = 1) \/ (c = 3 /\ p = true /\ a = true /\ s.Free = false /\ s.Count.N % 3 = 2) \/ (c = 4 /\ t = true /\ s.Free = false /\ s.Count.N % 3 = 2) := by
 unfold alR at h;simp only [List.mem_append] at h;rcases h with (((h | h) | h) | h) | h
 ·split at h
  ·simp at h; exact .inl ⟨h, by assumption⟩
  ·simp at h
 ·split at h
  ·rename_i hh; simp at h; exact .inr (.inl ⟨h, hh.2.2, hh.1⟩)
  ·simp at h
 ·split at h
  ·rename_i hh; simp at h; exact .inr (.inr (.inl ⟨h, hh.2.2, hh.2.1, hh.1⟩))
  ·simp at h
 ·split at h
  ·rename_i hh; simp at h; exact .inr (.inr (.inr (.inl ⟨h, hh.2.2.1, hh.2.2.2, hh.2.1, hh.1⟩)))
  ·simp at h
 ·split at h
  ·rename_i hh; simp at h; exact .inr (.inr (.inr (.inr ⟨h, hh.2.2, hh.2.1, hh.1⟩)))
  ·simp at h
theorem zpP {u : Tm} {k : Int} {l : List Ite} {L : List (Int × Bool)} {s : Sgm} (h : poQ u k l L s = true) : 0 <= s.Left /\ lgQ u (itg l s.Left) = true /\ rcQ u (fsL (itR l s)) (itg l s.Left).After = true := by
 unfold poQ at h;simp only [Bool.and_eq_true, Bool.not_eq_true', decide_eq_false_iff_not] at h;exact ⟨by omega, h.2.1.2, h.2.2⟩
theorem zpQ {u : Tm} {k : Int} {l : List Ite} {s : Sgm} (h : anQ u k l s = true) : 0 <= s.Right /\ lgQ u (itg l s.Right) = true /\ rcQ u (lasL (itR l s)) (itg l s.Right).Before = true := by
 unfold anQ at h;simp only [Bool.and_eq_true, Bool.not_eq_true', decide_eq_false_iff_not] at h;exact ⟨by omega, h.2.2.1, h.2.2.2⟩
theorem zsb {u : Tm} {k : Int} {l : List Ite} {s : Sgm} (h : atQ u k l s = true) : ¬ s.From = s.To /\ ntQ u k (itg l (s.To - 1)) = true := by
 unfold atQ at h;simp only [Bool.and_eq_true, Bool.not_eq_true', Bool.or_eq_false_iff, decide_eq_false_iff_not] at h;exact ⟨h.1.1, h.2.1⟩
theorem zfX {u : Tm} {k : Int} {l : List Ite} {L : List (Int × Bool)} {s : Sgm} {c : Int} (hs : s.From <= s.To) (h : c ∈ alQ u k l L s) : ChOk s c := by
 unfold alQ at h;rcases zom h with ⟨h1, _⟩ | ⟨h1, h2, _⟩ | ⟨h1, h2, _⟩ | ⟨h1, h2, h3, _⟩ | ⟨h1, h2, _⟩
 ·exact ⟨by omega, by omega, by omega⟩
 ·exact ⟨fun _ => (zpP h2).1, by omega, by omega⟩
 ·exact ⟨by omega, fun _ => (zpQ h2).1, by omega⟩
 ·exact ⟨fun _ => (zpP h2).1, fun _ => (zpQ h3).1, by omega⟩
 ·exact ⟨by omega, by omega, fun _ => by have := (zsb h2).1; omega⟩
theorem zon {k : Int} {u : Tm} {s : Sgm} {c : Int} {l0 l : List Ite} (hs : SgOk k l0 s) (hl : l.length = l0.length) (hc : ChOk s c) {i : Int} (hi : 0 <= i) :
 sameI (itg (chN u s c l) i) (itg l i) /\ (¬ i = s.Left -> ¬ i = s.Right -> ¬ i = s.To - 1 -> itg (chN u s c l) i = itg l i) /\ (¬ i = s.Left -> (itg (chN u s c l) i).After = (itg l i).After) := by
 unfold chN;simp only;have A : (if c = 1 \/ c = 3 then upI l s.Left (zag u) else l).length = l.length := by split <;> simp [zfo]
 have B : (if c = 2 \/ c = 3 then upI (if c = 1 \/ c = 3 then upI l s.Left (zag u) else l) s.Right (zal u) else (if c = 1 \/ c = 3 then upI l s.Left (zag u) else l)).length = l.length := by split <;> simp [zfo, A]
 have h1 : sameI (itg (if c = 1 \/ c = 3 then upI l s.Left (zag u) else l) i) (itg l i) /\ (¬ i = s.Left -> itg (if c = 1 \/ c = 3 then upI l s.Left (zag u) else l) i = itg l i) := by
  split
  ·rename_i h;have h0 := hc.lf h;have hlt : s.Left < l.length := by have := hs.tl; have := hs.ft; rcases hs.lf with h2 | h2 <;> omega
   refine ⟨zg2 (zkx u) h0 hi hlt, fun hn => ?_⟩;rw [zej h0 hi hlt, if_neg (by omega)]
  ·exact ⟨zat _, fun _ => rfl⟩
 generalize (if c = 1 \/ c = 3 then upI l s.Left (zag u) else l) = l1 at *
 have h2 : sameI (itg (if c = 2 \/ c = 3 then upI l1 s.Right (zal u) else l1) i) (itg l1 i) /\ (¬ i = s.Right -> itg (if c = 2 \/ c = 3 then upI l1 s.Right (zal u) else l1) i = itg l1 i) /\ (itg (if c = 2 \/ c = 3 then upI l1 s.Right (zal u) else l1) i).After = (itg l1 i).After := by
  split
  ·rename_i h;have h0 := hc.rt h;have hlt : s.Right < l1.length := by rw [A, hl]; rcases hs.rt with h2 | h2 <;> omega
   refine ⟨zg2 (zky u) h0 hi hlt, fun hn => ?_, ?_⟩
   ·rw [zej h0 hi hlt, if_neg (by omega)]
   ·rw [zej h0 hi hlt]; split
    ·rename_i h; subst h; rfl
    ·rfl
  ·exact ⟨zat _, fun _ => rfl, rfl⟩
 generalize (if c = 2 \/ c = 3 then upI l1 s.Right (zal u) else l1) = l2 at *
 have h3 : sameI (itg (if c = 4 then upI l2 (s.To - 1) dblI else l2) i) (itg l2 i) /\ (¬ i = s.To - 1 -> itg (if c = 4 then upI l2 (s.To - 1) dblI else l2) i = itg l2 i) /\ (itg (if c = 4 then upI l2 (s.To - 1) dblI else l2) i).After = (itg l2 i).After := by
  split
  ·rename_i h;have h0 := hc.al h;have hlt : s.To - 1 < l2.length := by rw [B, hl]; have := hs.tl; omega
   have h00 : 0 <= s.To - 1 := by have := hs.f0; omega
   refine ⟨zg2 zmg h00 hi hlt, fun hn => ?_, ?_⟩
   ·rw [zej h00 hi hlt, if_neg (by omega)]
   ·rw [zej h00 hi hlt]; split
    ·rename_i h; subst h; rfl
    ·rfl
  ·exact ⟨zat _, fun _ => rfl, rfl⟩
 refine ⟨h3.1.tr (h2.1.tr h1.1), fun a b d => ?_, fun a => ?_⟩
 ·rw [h3.2.1 d, h2.2.1 b, h1.2 a]
 ·rw [h3.2.2, h2.2.2, h1.2 a]
theorem zjH (q r : Int) (x : Bool) (L : List (Int × Bool)) : mget q (mput r x L) = if r = q then some x else mget q L := by
 exact zbT q r x L
structure StaOk (l : List Ite) (S : List Sgm) (M : List Int) (n : Nat) (st : List Ite × List (Int × Bool)) : Prop where
 len : st.1.length = l.length
 same : ∀ i : Int, 0 <= i -> sameI (itg st.1 i) (itg l i)
 rest : ∀ s, S[n]? = some s -> ∀ i : Int, s.From <= i -> itg st.1 i = itg l i /\ mget i st.2 = none
 left : ∀ s, S[n]? = some s -> 0 <= s.Left -> (itg st.1 s.Left).After = (itg l s.Left).After /\ (mget s.Left st.2).getD false = (decide (0 < n) && (decide (M.getD (n - 1) 0 = 2) || decide (M.getD (n - 1) 0 = 3)))
theorem zmU {u : Tm} {k : Int} {S : List Sgm} {l : List Ite} {M : List Int} (hS : SgsOk k l S) : ∀ n, n <= S.length -> okJ u k S l M n = true -> StaOk l S M n (stK u S l M n)
 | 0, _, _ => by
  refine ⟨rfl, fun _ _ => zat _, fun s hs i hi => ⟨rfl, rfl⟩, fun s hs h0 => ?_⟩;have := hS.st s hs; omega
 | n + 1, hn, hk => by
  have hk : (okJ u k S l M n && decide (M.getD n 0 ∈ alK u k S l M n)) = true := hk;simp only [Bool.and_eq_true, decide_eq_true_eq] at hk;have ih := zmU hS n (by omega) hk.1;rw [zk9];have hs : S[n]? = some S[n] := lgg (by omega);have hd : S.getD n default = S[n] := by rw [List.getD_eq_getElem?_getD, hs]; rfl
  have hso := hS.all _ (List.mem_of_getElem? hs);unfold alK at hk;rw [hd] at hk ⊢;generalize S[n] = s at *
  generalize stK u S l M n = st at *
  have hc := zfX hso.ft hk.2;generalize hM : M.getD n 0 = c at *
  have hg := fun (i : Int) (hi : 0 <= i) => zon (u := u) hso ih.len hc hi
  have hlt : s.Left < s.From := by have := hso.f0; rcases hso.lf with h | h <;> omega
  refine ⟨by rw [zk8]; exact ih.len, fun i hi => (hg i hi).1.tr (ih.same i hi), fun t ht i hi => ?_, fun t ht h0 => ?_⟩
  ·obtain ⟨n1, n2, n3⟩ := hS.nx n s t hs ht;have hi0 : 0 <= i := by have := (hS.all t (List.mem_of_getElem? ht)).f0; omega
   have hf := hso.ft;have hr : ¬ i = s.Right := by rcases hso.rt with h | h <;> omega
   have := ih.rest s hs i (by omega);refine ⟨by rw [(hg i hi0).2.1 (by omega) hr (by omega)]; exact this.1, ?_⟩;show mget i (chL s c st.2) = none;unfold chL;split
   ·rw [zjH, if_neg (by omega)]; exact this.2
   ·exact this.2
  ·obtain ⟨n1, n2, n3⟩ := hS.nx n s t hs ht;have hr : 0 <= s.Right := by omega
   have hrt : s.Right = s.To := by rcases hso.rt with h | h <;> omega
   have hf := hso.ft;have hth := ih.rest s hs t.Left (by omega);refine ⟨by rw [(hg t.Left h0).2.2 (by omega), hth.1], ?_⟩;show (mget t.Left (chL s c st.2)).getD false = _;rw [show n + 1 - 1 = n from rfl, hM, decide_eq_true (show 0 < n + 1 by omega), Bool.true_and];unfold chL;split
   ·rename_i h;rw [zjH, if_pos n1.symm];rcases h with h | h <;> simp [h]
   ·rename_i h;rw [hth.2];have h1 : ¬ c = 2 := fun e => h (.inl e)
    have h2 : ¬ c = 3 := fun e => h (.inr e)
    simp [h1, h2]
end Go.Rse
namespace Go.Rse
open Go Go.Proofs
def pfF : Tm -> List Tm -> List Tm
 | _, [] => []
 | t, d :: r => t :: pfF (addV t d) r
def sumA : Tm -> List Tm -> Tm
 | t, [] => t
 | t, d :: r => sumA (addV t d) r
def rlaL (l : List Ite) : List Tm := ((pfF ⟨0, 1⟩ (drL l)).filter fun t => decide (subE (sumA ⟨0, 1⟩ (drL l)) t = 0)).map fun t => subV (sumA ⟨0, 1⟩ (drL l)) t
def rfPo (u : Tm) (k : Int) (l now : List Ite) (lo : Bool) (s : Sgm) : Bool :=
 !(decide (s.Left < 0) || !lgQ u (itg now s.Left)) && (!(lo && decide ((itg l s.Left).Value = k)) && rcQ u (fsL (itR l s)) (itg l s.Left).After)
def rfBl (k : Int) (l : List Ite) (h : Int) : Bool :=
 decide ((itg l h).Value = k) && decide ((itg l h).Cut = 0) && decide (h + 1 < l.length) && !(itg l (h + 1)).Color && decide ((itg l (h + 1)).Value = k)
def rfAn (u : Tm) (k : Int) (l now : List Ite) (s : Sgm) : Bool :=
 !(decide (s.Right < 0) || !lgQ u (itg now s.Right)) && (!rfBl k l s.Right && rcQ u (rlaL (itR l s)) (itg l s.Right).Before)
def rfAt (u : Tm) (k : Int) (l : List Ite) (s : Sgm) : Bool :=
 !(decide (s.From = s.To) || s.Free || (!decide (s.Right < 0) && !decide ((itg l s.Right).Before.N = 0))) && ntQ u k (itg l (s.To - 1))
def rfR (p a t : Bool) (s : Sgm) : List Int :=
 if s.Free = true then (if s.Count.D = 1 /\ s.Count.N % 3 = 1 /\ p = true then [0, 1] else [0])
 else if s.Count.N % 3 = 0 then [0]
 else if s.Count.N % 3 = 1 then (if p = true then [1] else []) ++ (if a = true then [2] else [])
 else (if p = true /\ a = true then [3] else []) ++ (if t = true then [4] else [])
def rfLo (M : List Int) (n : Nat) : Bool := decide (0 < n) && (decide (M.getD (n - 1) 0 = 2) || decide (M.getD (n - 1) 0 = 3))
def rfA (u : Tm) (k : Int) (S : List Sgm) (l now : List Ite) (M : List Int) (n : Nat) : List Int :=
 let s := S.getD n default
 rfR (rfPo u k l now (rfLo M n) s) (rfAn u k l now s) (rfAt u k l s) s
theorem zqx {p a t : Bool} {s : Sgm} (h : s.Free = true \/ s.Count.D = 1) : rfR p a t s = alR p a t s := by
 have hm0 := Int.emod_nonneg s.Count.N (show (3 : Int) ≠ 0 by omega);have hm1 := Int.emod_lt_of_pos s.Count.N (show (0 : Int) < 3 by omega);unfold rfR alR;generalize s.Count.N % 3 = r at *
 have hr : r = 0 \/ r = 1 \/ r = 2 := by omega
 cases hf : s.Free with
 | true => rcases hr with rfl | rfl | rfl <;> simp
           by_cases hq : s.Count.D = 1 /\ p = true <;> simp [hq]
 | false =>
  have hd : s.Count.D = 1 := by rcases h with h | h; rw [hf] at h; cases h; exact h
  rcases hr with rfl | rfl | rfl <;> simp [hd]
theorem zjI {l now : List Ite} {s : Sgm} {k : Int} (hs : SgOk k l s) (hl : now.length = l.length) (h : ∀ i : Int, s.From <= i -> itg now i = itg l i) : itR now s = itR l s := by
 unfold itR;have hf := hs.f0;apply List.ext_getElem?;intro i;rcases Nat.lt_or_ge i (s.To.toNat - s.From.toNat) with h1 | h1
 ·rw [List.getElem?_take_of_lt h1, List.getElem?_take_of_lt h1, List.getElem?_drop, List.getElem?_drop];have := h ((s.From.toNat + i : Nat) : Int) (by omega);unfold itg at this;rw [Int.toNat_natCast, List.getD_eq_getElem?_getD, List.getD_eq_getElem?_getD] at this;rcases Nat.lt_or_ge (s.From.toNat + i) l.length with h2 | h2
  ·rw [lgg (by omega), lgg h2] at this ⊢;simpa using this
  ·rw [List.getElem?_eq_none (by omega), List.getElem?_eq_none h2]
 ·rw [List.getElem?_eq_none (by rw [List.length_take]; omega), List.getElem?_eq_none (by rw [List.length_take]; omega)]
theorem zmV : ∀ (t : Tm) (d : Tm) (r : List Tm), pfF t (d :: r) = t :: (smF t (d :: r)).dropLast
 | t, d, [] => rfl
 | t, d, e :: r => by
  have := zmV (addV t d) e r;show t :: pfF (addV t d) (e :: r) = t :: (addV t d :: smF (addV t d) (e :: r)).dropLast;rw [this]; simp [smF]
theorem zjJ : ∀ (t : Tm) (d : Tm) (r : List Tm), (smF t (d :: r)).getLast? = some (sumA t (d :: r))
 | t, d, [] => rfl
 | t, d, e :: r => by
  have := zjJ (addV t d) e r;show (addV t d :: smF (addV t d) (e :: r)).getLast? = some (sumA (addV t d) (e :: r));rw [← this];simp [smF]
theorem zmW {a t : Tm} (h : ¬ ckT a = 0) : ¬ subE a t = 0 := fun h1 => h (zoj h1).1
theorem zqy {w : Tm} (hw : ckT w = 0) (l : List Ite) : w ∈ rlaL l ↔ w ∈ lasL l := by
 unfold rlaL lasL;cases hl : drL l with
 | nil => unfold fsL; rw [hl]; simp [pfF, smF]
 | cons d r =>
  have h1 : (fsL l).getLast? = some (sumA ⟨0, 1⟩ (d :: r)) := by unfold fsL; rw [hl]; exact zjJ _ _ _
  have h2 : pfF ⟨0, 1⟩ (d :: r) = ⟨0, 1⟩ :: (fsL l).dropLast := by unfold fsL; rw [hl]; exact zmV _ _ _
  rw [h1, h2];simp only;generalize sumA ⟨0, 1⟩ (d :: r) = a;by_cases ha : ckT a = 0
  ·obtain ⟨e1, e2⟩ := zr8 ha;rw [List.filter_cons, if_pos (by simpa using e1), List.map_cons, e2]
  ·have hn : ∀ t, ¬ subE a t = 0 := fun t => zmW ha
   have hwa : ¬ w = a := fun e => ha (by rw [← e]; exact hw)
   simp [hn, hwa]
theorem zsc (u : Tm) (l : List Ite) (b : Tm) : rcQ u (rlaL l) b = rcQ u (lasL l) b := by
 unfold rcQ;by_cases h : addE b u = 0
 ·have := zqy (zoi h).2.2 l;simp only [this]
 ·simp [h]
theorem zsd {u : Tm} {k : Int} {S : List Sgm} {l : List Ite} {M : List Int} {n : Nat} {st : List Ite × List (Int × Bool)} {s : Sgm} (hn : S[n]? = some s) (hs : SgOk k l s) (h : StaOk l S M n st) :
 rfPo u k l st.1 (rfLo M n) s = poQ u k st.1 st.2 s := by
 unfold rfPo poQ;rcases hs.lf with h1 | ⟨h1, h2, h3, h4⟩
 ·rw [decide_eq_true (show s.Left < 0 by omega)]; simp
 ·rw [decide_eq_false (show ¬ s.Left < 0 by omega)];obtain ⟨l1, l2⟩ := h.left s hn h1;have hv := (h.same s.Left h1).2.1;rw [zjI hs h.len (fun i hi => (h.rest s hn i hi).1), l1, l2, hv];unfold rfLo;generalize (decide (0 < n) && (decide (M.getD (n - 1) 0 = 2) || decide (M.getD (n - 1) 0 = 3))) = lo;generalize (itg l s.Left).Value = vv at *
  generalize rcQ u (fsL (itR l s)) (itg l s.Left).After = rr;generalize lgQ u (itg st.1 s.Left) = gg;by_cases hk : vv = k
  ·subst hk; cases gg <;> cases lo <;> simp
  ·have : vv < k := by omega
   cases gg <;> cases lo <;> simp [hk, this]
theorem zse {u : Tm} {k : Int} {S : List Sgm} {l : List Ite} {M : List Int} {n : Nat} {st : List Ite × List (Int × Bool)} {s : Sgm} (hl : ∀ x ∈ l, 0 <= x.Cut) (hn : S[n]? = some s) (hs : SgOk k l s) (h : StaOk l S M n st) :
 rfAn u k l st.1 s = anQ u k st.1 s := by
 unfold rfAn anQ;rcases hs.rt with h1 | ⟨h1, h2, h3, h4⟩
 ·rw [decide_eq_true (show s.Right < 0 by omega)]; simp
 ·have hf := hs.ft;have hf0 := hs.f0;rw [decide_eq_false (show ¬ s.Right < 0 by omega)];have e1 := (h.rest s hn s.Right (by omega)).1;have e2 := (h.rest s hn (s.Right + 1) (by omega)).1
  have hb : rfBl k l s.Right = blQ k st.1 s.Right := by
   unfold rfBl blQ;rw [e1, e2, h.len]
   have hc : 0 <= (itg l s.Right).Cut := by
    unfold itg;rw [List.getD_eq_getElem?_getD, lgg (by omega)];exact hl _ (List.getElem_mem _)
   have : decide ((itg l s.Right).Cut = 0) = !decide (0 < (itg l s.Right).Cut) := by
    generalize (itg l s.Right).Cut = cc at *
    by_cases h0 : cc = 0
    ·subst h0; rfl
    ·rw [decide_eq_false h0, decide_eq_true (show 0 < cc by omega)]; rfl
   rw [this];cases decide ((itg l s.Right).Value = k) <;> cases (!decide (0 < (itg l s.Right).Cut)) <;> cases decide (s.Right + 1 < (l.length : Int)) <;> simp
  rw [zjI hs h.len (fun i hi => (h.rest s hn i hi).1), e1, hb, zsc];cases lgQ u (itg l s.Right) <;> simp
theorem zsf {u : Tm} {k : Int} {S : List Sgm} {l : List Ite} {M : List Int} {n : Nat} {st : List Ite × List (Int × Bool)} {s : Sgm} (hn : S[n]? = some s) (hs : SgOk k l s) (h : StaOk l S M n st) :
 rfAt u k l s = atQ u k st.1 s := by
 unfold rfAt atQ;by_cases hft : s.From = s.To
 ·simp [hft]
 ·have hf := hs.ft;rw [(h.rest s hn (s.To - 1) (by omega)).1]
  have hr : (decide (s.Right < 0) || decide ((itg st.1 s.Right).Before.N = 0)) = (decide (s.Right < 0) || decide ((itg l s.Right).Before.N = 0)) := by
   rcases hs.rt with h1 | ⟨h1, h2⟩
   ·rw [decide_eq_true (show s.Right < 0 by omega)]; simp
   ·rw [(h.rest s hn s.Right (by omega)).1]
  rw [hr, decide_eq_false hft];cases s.Free <;> cases ntQ u k (itg l (s.To - 1)) <;> cases decide (s.Right < 0) <;> cases decide ((itg l s.Right).Before.N = 0) <;> rfl
theorem ziX {u : Tm} {k : Int} {S : List Sgm} {l : List Ite} {M : List Int} {n : Nat} (hl : ∀ x ∈ l, 0 <= x.Cut) (hS : SgsOk k l S) (hF : ∀ s ∈ S, s.Free = true \/ s.Count.D = 1) (hn : n < S.length) (hk : okJ u k S l M n = true) :
 rfA u k S l (stK u S l M n).1 M n = alK u k S l M n := by
 have hst := zmU hS n (by omega) hk;have hs : S[n]? = some S[n] := lgg hn;have hd : S.getD n default = S[n] := by rw [List.getD_eq_getElem?_getD, hs]; rfl
 have hm := List.mem_of_getElem? hs;unfold rfA alK alQ;simp only;rw [hd];generalize S[n] = s at *
 rw [zsd hs (hS.all s hm) hst, zse hl hs (hS.all s hm) hst, zsf hs (hS.all s hm) hst, zqx (hF s hm)]
end Go.Rse
namespace Go.Rse
open Go Go.Proofs
def wnL (s : Sgm) : List Int :=
 if s.Free = true then [1, 0] else if s.Count.N % 3 = 0 then [0] else if s.Count.N % 3 = 1 then [1, 2] else if s.Count.N = 2 then [4, 3] else [3, 4]
def chF (s : Sgm) (A : List Int) : Option Int := (wnL s).find? fun c => decide (c ∈ A)
theorem zoo {s : Sgm} {A : List Int} {c : Int} (h : chF s A = some c) : c ∈ A := by
 have := List.find?_some h; simpa using this
theorem zop (s : Sgm) : ∀ c ∈ wnL s, 0 <= c /\ c <= 4 := by
 intro c h;unfold wnL at h;split at h
 ·simp at h; omega
 ·split at h
  ·simp at h; omega
  ·split at h
   ·simp at h; omega
   ·split at h <;> simp at h <;> omega
theorem zmX {s : Sgm} {A : List Int} {c : Int} (h : chF s A = some c) : 0 <= c /\ c <= 4 := zop s c (List.mem_of_find?_eq_some h)
def mdJ (u : Tm) (k : Int) (S : List Sgm) (l : List Ite) : Nat -> Option (List Int)
 | 0 => some []
 | n + 1 => match mdJ u k S l n with
  | none => none
  | some M => match chF (S.getD n default) (alK u k S l M n) with
   | none => none
   | some c => some (M ++ [c])
section
variable {u : Tm} {k : Int} {S : List Sgm} {l : List Ite}
theorem zmY {n : Nat} {M : List Int} (h : mdJ u k S l n = some M) : mdJ u k S l (n + 1) = match chF (S.getD n default) (alK u k S l M n) with
 | none => none
 | some c => some (M ++ [c]) := by conv => lhs; unfold mdJ
                                   rw [h]
theorem zjK {n : Nat} (h : mdJ u k S l n = none) : ∀ j, mdJ u k S l (n + j) = none
 | 0 => h
 | j + 1 => by
  show mdJ u k S l (n + j + 1) = none;unfold mdJ; rw [zjK h j]
theorem zla (M M2 : List Int) : ∀ n, n <= M.length -> stK u S l (M ++ M2) n = stK u S l M n
 | 0, _ => rfl
 | n + 1, h => by
  rw [zk9, zk9, zla M M2 n (by omega)]
  have : (M ++ M2).getD n 0 = M.getD n 0 := by
   rw [List.getD_eq_getElem?_getD, List.getD_eq_getElem?_getD, List.getElem?_append_left (by omega)]
  rw [this]
theorem zlb (M M2 : List Int) {n : Nat} (h : n <= M.length) : alK u k S l (M ++ M2) n = alK u k S l M n := by
 unfold alK; rw [zla M M2 n h]
theorem zlc (M M2 : List Int) : ∀ n, n <= M.length -> okJ u k S l (M ++ M2) n = okJ u k S l M n
 | 0, _ => rfl
 | n + 1, h => by
  show (okJ u k S l (M ++ M2) n && decide ((M ++ M2).getD n 0 ∈ alK u k S l (M ++ M2) n)) = (okJ u k S l M n && decide (M.getD n 0 ∈ alK u k S l M n));rw [zlc M M2 n (by omega), zlb M M2 (by omega)]
  have : (M ++ M2).getD n 0 = M.getD n 0 := by
   rw [List.getD_eq_getElem?_getD, List.getD_eq_getElem?_getD, List.getElem?_append_left (by omega)]
  rw [this]
theorem zg3 : ∀ {n : Nat} {M : List Int}, mdJ u k S l n = some M -> M.length = n /\ okJ u k S l M n = true /\ ∀ c ∈ M, 0 <= c /\ c <= 4
 | 0, M, h => by
  have : M = [] := by simpa [mdJ] using h.symm
  subst this; exact ⟨rfl, rfl, by simp⟩
 | n + 1, M, h => by
  cases hm : mdJ u k S l n with
  | none => unfold mdJ at h; rw [hm] at h; cases h
  | some M1 =>
   rw [zmY hm] at h;obtain ⟨i1, i2, i3⟩ := zg3 hm;cases hc : chF (S.getD n default) (alK u k S l M1 n) with
   | none => rw [hc] at h; cases h
   | some c =>
    rw [hc] at h;have : M1 ++ [c] = M := by injection h
    subst this;refine ⟨by simp [i1], ?_, ?_⟩
    ·show (okJ u k S l (M1 ++ [c]) n && decide ((M1 ++ [c]).getD n 0 ∈ alK u k S l (M1 ++ [c]) n)) = true;rw [zlc M1 [c] n (by omega), zlb M1 [c] (by omega), i2]
     have : (M1 ++ [c]).getD n 0 = c := by
      rw [List.getD_eq_getElem?_getD, List.getElem?_append_right (by omega), show n - M1.length = 0 by omega]; rfl
     rw [this, Bool.true_and, decide_eq_true_iff];exact zoo hc
    ·intro x hx;rcases List.mem_append.1 hx with hx | hx
     ·exact i3 x hx
     ·simp at hx; subst hx; exact zmX hc
end
def cuO (m : Mn) (k : Int) (l : List Ite) : Option (List Int) := mdJ (unT m k) k (segV m k l) l (segV m k l).length
def cuE (m : Mn) (k : Int) (l : List Ite) : Int := if segE m k l = 0 then (if (cuO m k l).isSome then 0 else 14) else segE m k l
def cuV (m : Mn) (k : Int) (l : List Ite) : List Int := if cuE m k l = 0 then (cuO m k l).getD [] else []
theorem zpR {m : Mn} {k : Int} {l : List Ite} (h : cuE m k l = 0) : segE m k l = 0 /\ cuO m k l = some (cuV m k l) := by
 have h' := h;unfold cuE at h;split at h
 ·rename_i h0;refine ⟨h0, ?_⟩;unfold cuV; rw [if_pos h'];cases ho : cuO m k l with
  | none => rw [ho] at h; simp at h
  | some M => rfl
 ·exact absurd h (by assumption)
theorem zld {m : Mn} {k : Int} {l : List Ite} (h : cuE m k l = 0) : apE m k l (cuV m k l) = 0 := by
 obtain ⟨h0, h1⟩ := zpR h;unfold cuO at h1;obtain ⟨i1, i2, i3⟩ := zg3 h1;unfold apE;rw [if_pos h0, if_neg];intro hc;rcases hc with hc | hc
 ·exact hc i1.symm
 ·rw [i1, i2] at hc; cases hc
def lvF (m : Mn) : List Int -> List Ite -> List Int -> List Int × List Ite × Int
 | [], l, C => (C, l, 0)
 | k :: r, l, C => if cuE m k l = 0 then lvF m r (apV m k l (cuV m k l)) (C ++ cuV m k l) else ([], [], cuE m k l)
theorem zjL {m : Mn} {L : List Int} {n : Nat} {k : Int} (h : L[n]? = some k) (l : List Ite) (C : List Int) :
 lvF m (L.drop n) l C = if cuE m k l = 0 then lvF m (L.drop (n + 1)) (apV m k l (cuV m k l)) (C ++ cuV m k l) else ([], [], cuE m k l) := by
 have h1 := List.getElem?_eq_some_iff.1 h;rw [List.drop_eq_getElem_cons h1.1, h1.2]; rfl
def leE (m : Mn) (l : List Ite) : Int := if ckM m = 0 then (if ckIE l = 0 then (lvF m (perfL m) l []).2.2 else ckIE l) else ckM m
def leC (m : Mn) (l : List Ite) : List Int := if leE m l = 0 then (lvF m (perfL m) l []).1 else []
def leI (m : Mn) (l : List Ite) : List Ite := if leE m l = 0 then (lvF m (perfL m) l []).2.1 else []
structure Rdg where
 Dots : List Int
 Minor : List Int
 Choices : List Int
 Durs : List Tm
 deriving DecidableEq
def rdgE (r : Rdg) : List AV := [yg r.Dots, yg r.Minor, yg r.Choices, tmsA r.Durs]
abbrev rdgA (r : Rdg) : AV := .agg (rdgE r)
end Go.Rse
namespace Go.Rse
open Go Go.Proofs
end Go.Rse
namespace Go.Rse
open Go Go.Proofs
end Go.Rse
