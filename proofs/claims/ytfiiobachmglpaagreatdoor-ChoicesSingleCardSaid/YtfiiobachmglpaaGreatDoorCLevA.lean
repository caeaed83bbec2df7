/-
  Plain: sums and differences of times are valid times; a whole unit is taken off.
  Plain: segments of a level, their counts, and the choices that are allowed.
  Plain: how segments lie, and what choices leave unchanged.
  Plain: choices by definition are those that are allowed.
  Plain: the choices by the rule, at a level and at all levels; the reading of a run.
  Plain: allowed choices leave items valid, longer than 0, and the fixed ones as they were; which errors a reading can have.
  Plain: equal notes and rests: nothing is changed at any level.
-/
import Derived.Test.YtfiiobachmglpaaGreatDoorCTime
import Derived.Test.YtfiiobachmglpaaGreatDoorCIteA
set_option linter.unusedSimpArgs false
set_option linter.unusedVariables false
namespace Go.Rse
open Go Go.Proofs
end Go.Rse
namespace Go.Rse
open Go Go.Proofs
structure Sgm where
 From : Int
 To : Int
 Left : Int
 Right : Int
 Free : Bool
 Count : Tm
 deriving DecidableEq
instance : Inhabited Sgm := ⟨⟨0, 0, 0, 0, false, ⟨0, 0⟩⟩⟩
def smE : Sgm -> List AV := fun x => [.int .i64 x.From, .int .i64 x.To, .int .i64 x.Left, .int .i64 x.Right, .bool x.Free, .int .i64 x.Count.N, .int .i64 x.Count.D]
abbrev smA (x : Sgm) : AV := .agg (smE x)
abbrev smsA (l : List Sgm) : AV := .sl smE l
abbrev itT (x : Ite) : List Tm := [x.Dur, x.Before, x.After]
abbrev itKd (x : Ite) : Prop := (x.Rest = true /\ x.Color = true) \/ ((x.Rest = true \/ x.Color = true) /\ x.Fixed = false)
abbrev itRg (x : Ite) : Prop := x.Value < 1 \/ 8 < x.Value \/ x.Cut < 0 \/ 8 < x.Cut
def itF (x : Ite) : Int := if itRg x then 2 else if firstT (itT x) = 0 then (if itKd x then 8 else 0) else firstT (itT x)
def ckIE : List Ite -> Int
 | [] => 0
 | x :: r => if itF x = 0 then ckIE r else itF x
def ckIX : List Ite -> Int -> Int
 | [], _ => 0
 | x :: r, k => if itF x = 0 then ckIX r (k + 1) else k
theorem ckIE_step {l : List Ite} {k : Nat} {x : Ite} (h : l[k]? = some x) : ckIE (l.drop k) = if itF x = 0 then ckIE (l.drop (k + 1)) else itF x := by
 have h1 := List.getElem?_eq_some_iff.1 h
 rw [List.drop_eq_getElem_cons h1.1, h1.2]; rfl
theorem ckIX_step {l : List Ite} {k : Nat} {x : Ite} (n : Int) (h : l[k]? = some x) : ckIX (l.drop k) n = if itF x = 0 then ckIX (l.drop (k + 1)) (n + 1) else n := by
 have h1 := List.getElem?_eq_some_iff.1 h
 rw [List.drop_eq_getElem_cons h1.1, h1.2]; rfl
theorem ckIE_all : ∀ {l : List Ite}, ckIE l = 0 -> ∀ x ∈ l, itF x = 0
 | [], _, x, hx => by simp at hx
 | s :: r, h, x, hx => by
  simp only [ckIE] at h
  by_cases hs : itF s = 0
  ·rw [if_pos hs] at h
   rcases List.mem_cons.1 hx with rfl | hx
   ·exact hs
   ·exact ckIE_all h x hx
  ·rw [if_neg hs] at h; exact absurd h hs
theorem itF_ok {x : Ite} (h : itF x = 0) : (1 <= x.Value /\ x.Value <= 8 /\ 0 <= x.Cut /\ x.Cut <= 8) /\ ckT x.Dur = 0 /\ ckT x.Before = 0 /\ ckT x.After = 0 /\ ¬ itKd x := by
 unfold itF at h
 split at h
 ·cases h
 ·rename_i h1
  split at h
  ·rename_i h2
   split at h
   ·cases h
   ·rename_i h3
    have h4 := first_all h2
    exact ⟨by unfold itRg at h1; omega, h4 _ (by simp), h4 _ (by simp), h4 _ (by simp), h3⟩
  ·rename_i h2; exact absurd h h2
def unE (m : Mn) (k : Int) : Int := if ckM m = 0 then (if 1 <= k /\ k <= 4 /\ m.p k = 3 then 0 else 2) else ckM m
def unT (m : Mn) (k : Int) : Tm := if unE m k = 0 then fullT m (k + 1) else tmZ
theorem unE_0 {m : Mn} {k : Int} (h : unE m k = 0) : ckM m = 0 /\ 1 <= k /\ k <= 4 /\ m.p k = 3 := by
 unfold unE at h
 split at h
 ·split at h
  ·exact ⟨by assumption, by assumption⟩
  ·cases h
 ·exact absurd h (by assumption)
structure Bd where
 item : Int
 next : Int
 fin : Bool
 deriving DecidableEq
instance : Inhabited Bd := ⟨⟨0, 0, false⟩⟩
def bdE : Bd -> List AV := fun x => [.int .i64 x.item, .int .i64 x.next, .bool x.fin]
abbrev bdA (x : Bd) : AV := .agg (bdE x)
abbrev isH (k : Int) (x : Ite) : Prop := x.Color = false /\ x.Value <= k
abbrev isC (k : Int) (x : Ite) : Prop := 0 < x.Cut /\ x.Cut <= k
def bdK (k : Int) (l : List Ite) : Nat -> List Bd
 | 0 => [⟨-1, 0, false⟩]
 | n + 1 => match l[n]? with
  | some x => (bdK k l n ++ if isH k x then [⟨n, n + 1, false⟩] else []) ++ if isC k x then [⟨-1, n + 1, false⟩] else []
  | none => bdK k l n
def bds (k : Int) (l : List Ite) : List Bd := bdK k l l.length ++ [⟨-1, l.length, true⟩]
theorem bdK_step {k : Int} {l : List Ite} {n : Nat} {x : Ite} (h : l[n]? = some x) : bdK k l (n + 1) = (bdK k l n ++ if isH k x then [⟨n, n + 1, false⟩] else []) ++ if isC k x then [⟨-1, n + 1, false⟩] else [] := by
 conv => lhs; unfold bdK
 rw [h]
theorem bdK_pos (k : Int) (l : List Ite) : ∀ n, 1 <= (bdK k l n).length /\ (bdK k l n).length <= 2 * n + 1
 | 0 => by simp [bdK]
 | n + 1 => by
  have h := bdK_pos k l n
  cases hx : l[n]? with
  | none => unfold bdK; rw [hx]; simp only; omega
  | some x =>
   rw [bdK_step hx]
   simp only [List.length_append]
   have h1 : (if isH k x then [(⟨n, n + 1, false⟩ : Bd)] else []).length <= 1 := by split <;> simp
   have h2 : (if isC k x then [(⟨-1, n + 1, false⟩ : Bd)] else []).length <= 1 := by split <;> simp
   omega
def hdI (l : List Ite) (b : Bd) : Int := if b.item < 0 \/ (l.getD b.item.toNat default).Fixed = true then -1 else b.item
abbrev bdF (b : Bd) : Int := if 0 <= b.item then b.item else b.next
def sg0 (l : List Ite) (b c : Bd) : Sgm := ⟨b.next, bdF c, hdI l b, hdI l c, c.fin, ⟨0, 0⟩⟩
def sgs0 (l : List Ite) : List Bd -> List Sgm
 | b :: c :: r => sg0 l b c :: sgs0 l (c :: r)
 | _ => []
theorem sgs0_len (l : List Ite) : ∀ B : List Bd, (sgs0 l B).length = B.length - 1
 | [] => rfl
 | [_] => rfl
 | b :: c :: r => by
  have := sgs0_len l (c :: r)
  simp only [sgs0, List.length_cons] at this ⊢
  omega
theorem sgs0_get (l : List Ite) : ∀ (B : List Bd) (i : Nat) (b c : Bd), B[i]? = some b -> B[i + 1]? = some c -> (sgs0 l B)[i]? = some (sg0 l b c)
 | [], i, b, c, h, _ => by simp at h
 | [_], i, b, c, _, h => by simp at h
 | x :: y :: r, 0, b, c, h, h2 => by
  simp at h h2; subst h h2; rfl
 | x :: y :: r, i + 1, b, c, h, h2 => by
  have := sgs0_get l (y :: r) i b c (by simpa using h) (by simpa using h2)
  simpa [sgs0] using this
theorem sgs0_snoc (l : List Ite) : ∀ (B : List Bd) (b c : Bd), sgs0 l ((B ++ [b]) ++ [c]) = sgs0 l (B ++ [b]) ++ [sg0 l b c]
 | [], b, c => rfl
 | [x], b, c => rfl
 | x :: y :: r, b, c => by
  have := sgs0_snoc l (y :: r) b c
  simp only [List.cons_append, sgs0] at this ⊢
  rw [this]
def itR (l : List Ite) (s : Sgm) : List Ite := (l.drop s.From.toNat).take (s.To.toNat - s.From.toNat)
def drL (l : List Ite) : List Tm := l.map (·.Dur)
def lsE (a b : Tm) : Int := if subE a b = 2 then 14 else subE a b
def cn1 (t : Tm) (h : Int) (d : Tm) : Tm × Int := if h < 0 then (t, 0) else if lsE t d = 0 then (subV t d, 0) else (tmZ, lsE t d)
def cnA (l : List Ite) (s : Sgm) : Tm × Int := sumF ⟨0, 1⟩ (drL (itR l s))
def cnB (l : List Ite) (s : Sgm) : Tm × Int := if (cnA l s).2 = 0 then cn1 (cnA l s).1 s.Left (l.getD s.Left.toNat default).After else (tmZ, (cnA l s).2)
def cnC (l : List Ite) (s : Sgm) : Tm × Int := if (cnB l s).2 = 0 then cn1 (cnB l s).1 s.Right (l.getD s.Right.toNat default).Before else (tmZ, (cnB l s).2)
def divE (a b : Tm) : Int := if firstT [a, b] = 0 then (if b.N = 0 then 5 else tmsE a.N a.D b.D b.N) else firstT [a, b]
def divV (a b : Tm) : Tm := if firstT [a, b] = 0 then (if b.N = 0 then tmZ else tmsV a.N a.D b.D b.N) else tmZ
def cnE (u : Tm) (l : List Ite) (s : Sgm) : Int := if (cnC l s).2 = 0 then divE (cnC l s).1 u else (cnC l s).2
def cnV (u : Tm) (l : List Ite) (s : Sgm) : Tm := if (cnC l s).2 = 0 then divV (cnC l s).1 u else tmZ
def segW (u : Tm) (l : List Ite) (s : Sgm) : Sgm := { s with Count := cnV u l s }
def segR (u : Tm) (l : List Ite) (s : Sgm) : Int := if cnE u l s = 0 then (if s.Free = false /\ ¬ (cnV u l s).D = 1 then 14 else 0) else cnE u l s
def segX (u : Tm) (l : List Ite) : List Sgm -> Int
 | [] => 0
 | s :: r => if segR u l s = 0 then segX u l r else segR u l s
theorem sgX_step {u : Tm} {l : List Ite} {L : List Sgm} {k : Nat} {s : Sgm} (h : L[k]? = some s) : segX u l (L.drop k) = if segR u l s = 0 then segX u l (L.drop (k + 1)) else segR u l s := by
 have h1 := List.getElem?_eq_some_iff.1 h
 rw [List.drop_eq_getElem_cons h1.1, h1.2]; rfl
def segE (m : Mn) (k : Int) (l : List Ite) : Int := if unE m k = 0 then (if ckIE l = 0 then segX (unT m k) l (sgs0 l (bds k l)) else ckIE l) else unE m k
def segV (m : Mn) (k : Int) (l : List Ite) : List Sgm := if segE m k l = 0 then (sgs0 l (bds k l)).map (segW (unT m k) l) else []
def smF : Tm -> List Tm -> List Tm
 | _, [] => []
 | t, d :: r => addV t d :: smF (addV t d) r
def fsL (l : List Ite) : List Tm := smF ⟨0, 1⟩ (drL l)
def lasL (l : List Ite) : List Tm := match (fsL l).getLast? with
 | none => []
 | some a => a :: (((fsL l).dropLast.filter fun t => decide (subE a t = 0)).map fun t => subV a t)
def rcQ (u : Tm) (sums : List Tm) (lost : Tm) : Bool := decide (addE lost u = 0) && decide (addV lost u ∈ sums)
def lgQ (u : Tm) (x : Ite) : Bool := decide (0 < cmpV x.Dur u)
abbrev itg (l : List Ite) (i : Int) : Ite := l.getD i.toNat default
def poQ (u : Tm) (k : Int) (l : List Ite) (L : List (Int × Bool)) (s : Sgm) : Bool :=
 !decide (s.Left < 0) && ((decide ((itg l s.Left).Value < k) || !(mget s.Left L).getD false) && lgQ u (itg l s.Left) && rcQ u (fsL (itR l s)) (itg l s.Left).After)
def blQ (k : Int) (l : List Ite) (h : Int) : Bool :=
 decide ((itg l h).Value = k) && decide (h + 1 < l.length) && !decide (0 < (itg l h).Cut) && (!(itg l (h + 1)).Color && decide ((itg l (h + 1)).Value = k))
def anQ (u : Tm) (k : Int) (l : List Ite) (s : Sgm) : Bool :=
 !decide (s.Right < 0) && (!blQ k l s.Right && (lgQ u (itg l s.Right) && rcQ u (lasL (itR l s)) (itg l s.Right).Before))
def ntQ (u : Tm) (k : Int) (x : Ite) : Bool := !x.Rest && !x.Color && !x.Fixed && decide (x.Value = k + 1) && decide (x.Dur = u)
def atQ (u : Tm) (k : Int) (l : List Ite) (s : Sgm) : Bool :=
 !(decide (s.From = s.To) || s.Free) && (ntQ u k (itg l (s.To - 1)) && (decide (s.Right < 0) || decide ((itg l s.Right).Before.N = 0)))
def alR (p a t : Bool) (s : Sgm) : List Int :=
 (if s.Count.N % 3 = 0 \/ s.Free = true then [0] else []) ++ (if s.Count.N % 3 = 1 /\ s.Count.D = 1 /\ p = true then [1] else []) ++ (if s.Count.N % 3 = 1 /\ s.Free = false /\ a = true then [2] else []) ++
 (if s.Count.N % 3 = 2 /\ s.Free = false /\ p = true /\ a = true then [3] else []) ++ (if s.Count.N % 3 = 2 /\ s.Free = false /\ t = true then [4] else [])
def alQ (u : Tm) (k : Int) (l : List Ite) (L : List (Int × Bool)) (s : Sgm) : List Int := alR (poQ u k l L s) (anQ u k l s) (atQ u k l s) s
def loseA (u : Tm) (x : Ite) : Ite := { x with Dur := subV x.Dur u, After := addV x.After u }
def loseB (u : Tm) (x : Ite) : Ite := { x with Dur := subV x.Dur u, Before := addV x.Before u }
def dblI (x : Ite) : Ite := { x with Dur := addV x.Dur x.Dur }
def upI (l : List Ite) (i : Int) (f : Ite -> Ite) : List Ite := l.set i.toNat (f (itg l i))
def chN (u : Tm) (s : Sgm) (c : Int) (l : List Ite) : List Ite :=
 let l1 := if c = 1 \/ c = 3 then upI l s.Left (loseA u) else l
 let l2 := if c = 2 \/ c = 3 then upI l1 s.Right (loseB u) else l1
 if c = 4 then upI l2 (s.To - 1) dblI else l2
def chL (s : Sgm) (c : Int) (L : List (Int × Bool)) : List (Int × Bool) := if c = 2 \/ c = 3 then mput s.Right true L else L
theorem upI_len (l : List Ite) (i : Int) (f : Ite -> Ite) : (upI l i f).length = l.length := by unfold upI; simp
theorem chN_len (u : Tm) (s : Sgm) (c : Int) (l : List Ite) : (chN u s c l).length = l.length := by
 unfold chN; simp only; split <;> split <;> split <;> simp [upI_len]
def stK (u : Tm) (S : List Sgm) (l : List Ite) (M : List Int) : Nat -> List Ite × List (Int × Bool)
 | 0 => (l, [])
 | n + 1 => (chN u (S.getD n default) (M.getD n 0) (stK u S l M n).1, chL (S.getD n default) (M.getD n 0) (stK u S l M n).2)
def alK (u : Tm) (k : Int) (S : List Sgm) (l : List Ite) (M : List Int) (n : Nat) : List Int := alQ u k (stK u S l M n).1 (stK u S l M n).2 (S.getD n default)
def okJ (u : Tm) (k : Int) (S : List Sgm) (l : List Ite) (M : List Int) : Nat -> Bool
 | 0 => true
 | n + 1 => okJ u k S l M n && decide (M.getD n 0 ∈ alK u k S l M n)
theorem stK_len (u : Tm) (S : List Sgm) (l : List Ite) (M : List Int) : ∀ n, (stK u S l M n).1.length = l.length
 | 0 => rfl
 | n + 1 => by show (chN _ _ _ _).length = _; rw [chN_len, stK_len u S l M n]
theorem stK_s (u : Tm) (S : List Sgm) (l : List Ite) (M : List Int) (n : Nat) : stK u S l M (n + 1) = (chN u (S.getD n default) (M.getD n 0) (stK u S l M n).1, chL (S.getD n default) (M.getD n 0) (stK u S l M n).2) := rfl
def alE (m : Mn) (k : Int) (l : List Ite) (M : List Int) : Int := if segE m k l = 0 then (if (segV m k l).length <= M.length \/ okJ (unT m k) k (segV m k l) l M M.length = false then 2 else 0) else segE m k l
def alV (m : Mn) (k : Int) (l : List Ite) (M : List Int) : List Int := if alE m k l M = 0 then alK (unT m k) k (segV m k l) l M M.length else []
def apE (m : Mn) (k : Int) (l : List Ite) (M : List Int) : Int := if segE m k l = 0 then (if ¬ (segV m k l).length = M.length \/ okJ (unT m k) k (segV m k l) l M M.length = false then 2 else 0) else segE m k l
def apV (m : Mn) (k : Int) (l : List Ite) (M : List Int) : List Ite := if apE m k l M = 0 then (stK (unT m k) (segV m k l) l M M.length).1 else []
end Go.Rse
namespace Go.Rse
open Go Go.Proofs
structure BdOk (k : Int) (l : List Ite) (n : Nat) (b : Bd) : Prop where
 it : b.item = -1 \/ (0 <= b.item /\ b.next = b.item + 1 /\ isH k (itg l b.item))
 lo : 0 <= b.next
 hi : b.next <= n
theorem BdOk.mono {k : Int} {l : List Ite} {n n' : Nat} {b : Bd} (h : BdOk k l n b) (hn : n <= n') : BdOk k l n' b := ⟨h.it, h.lo, by have := h.hi; omega⟩
theorem itg_of {l : List Ite} {n : Nat} {x : Ite} (h : l[n]? = some x) : itg l (n : Int) = x := by
 unfold itg; rw [show (n : Int).toNat = n by omega, List.getD_eq_getElem?_getD, h]; rfl
theorem bdK_ok (k : Int) (l : List Ite) : ∀ n, n <= l.length -> (∀ b ∈ bdK k l n, BdOk k l n b /\ b.fin = false) /\ (bdK k l n).Pairwise (fun b c => b.next <= bdF c)
 | 0, _ => by
  constructor
  ·intro b hb
   simp [bdK] at hb; subst hb
   exact ⟨⟨.inl rfl, by simp, by simp⟩, rfl⟩
  ·simp [bdK]
 | n + 1, hn => by
  obtain ⟨h1, h2⟩ := bdK_ok k l n (by omega)
  have hx : l[n]? = some l[n] := List.getElem?_eq_getElem (by omega)
  rw [bdK_step hx]
  have hg := itg_of hx
  generalize l[n] = x at *
  have a1 : ∀ b ∈ bdK k l n ++ (if isH k x then [(⟨n, n + 1, false⟩ : Bd)] else []), BdOk k l (n + 1) b /\ b.fin = false := by
   intro b hb
   rcases List.mem_append.1 hb with hb | hb
   ·exact ⟨(h1 b hb).1.mono (by omega), (h1 b hb).2⟩
   ·split at hb
    ·rename_i hh
     simp at hb; subst hb
     refine ⟨⟨.inr ⟨by simp, rfl, ?_⟩, by show (0 : Int) <= n + 1; omega, by show (n : Int) + 1 <= ((n + 1 : Nat) : Int); omega⟩, rfl⟩
     show isH k (itg l (n : Int)); rw [hg]; exact hh
    ·simp at hb
  have a2 : (bdK k l n ++ (if isH k x then [(⟨n, n + 1, false⟩ : Bd)] else [])).Pairwise (fun b c => b.next <= bdF c) := by
   refine List.pairwise_append.2 ⟨h2, ?_, ?_⟩
   ·split <;> simp
   ·intro b hb c hc
    split at hc
    ·simp at hc; subst hc
     have := (h1 b hb).1.hi
     show b.next <= if (0 : Int) <= (n : Int) then (n : Int) else _
     rw [if_pos (by omega)]; exact this
    ·simp at hc
  constructor
  ·intro b hb
   rcases List.mem_append.1 hb with hb | hb
   ·exact a1 b hb
   ·split at hb
    ·simp at hb; subst hb
     exact ⟨⟨.inl rfl, by show (0 : Int) <= n + 1; omega, by show (n : Int) + 1 <= ((n + 1 : Nat) : Int); omega⟩, rfl⟩
    ·simp at hb
  ·refine List.pairwise_append.2 ⟨a2, ?_, ?_⟩
   ·split <;> simp
   ·intro b hb c hc
    split at hc
    ·simp at hc; subst hc
     have := (a1 b hb).1.hi
     show b.next <= if (0 : Int) <= -1 then (-1 : Int) else (n : Int) + 1
     rw [if_neg (by omega)]; omega
    ·simp at hc
theorem bds_ok (k : Int) (l : List Ite) : (∀ b ∈ bds k l, BdOk k l l.length b) /\ (bds k l).Pairwise (fun b c => b.next <= bdF c) := by
 obtain ⟨h1, h2⟩ := bdK_ok k l l.length (Nat.le_refl _)
 unfold bds
 constructor
 ·intro b hb
  rcases List.mem_append.1 hb with hb | hb
  ·exact (h1 b hb).1
  ·simp at hb; subst hb; exact ⟨.inl rfl, by simp, by simp⟩
 ·refine List.pairwise_append.2 ⟨h2, by simp, ?_⟩
  intro b hb c hc
  simp at hc; subst hc
  have := (h1 b hb).1.hi
  show b.next <= if (0 : Int) <= -1 then (-1 : Int) else (l.length : Int)
  rw [if_neg (by omega)]; exact this
theorem bdK_head (k : Int) (l : List Ite) : ∀ n, (bdK k l n)[0]? = some ⟨-1, 0, false⟩
 | 0 => rfl
 | n + 1 => by
  have h := bdK_head k l n
  have hp := (bdK_pos k l n).1
  cases hx : l[n]? with
  | none => unfold bdK; rw [hx]; exact h
  | some x => rw [bdK_step hx, List.append_assoc, List.getElem?_append_left (by omega)]; exact h
theorem bds_len (k : Int) (l : List Ite) : (bds k l).length = (bdK k l l.length).length + 1 := by unfold bds; simp
theorem bds_head (k : Int) (l : List Ite) : (bds k l)[0]? = some ⟨-1, 0, false⟩ := by
 unfold bds
 rw [List.getElem?_append_left (by have := (bdK_pos k l l.length).1; omega)]
 exact bdK_head k l _
theorem bds_fin {k : Int} {l : List Ite} {i : Nat} {b : Bd} (h : (bds k l)[i]? = some b) : b.fin = decide (i + 1 = (bds k l).length) := by
 have hl := bds_len k l
 unfold bds at h
 rcases Nat.lt_or_ge i (bdK k l l.length).length with hi | hi
 ·rw [List.getElem?_append_left hi] at h
  rw [((bdK_ok k l l.length (Nat.le_refl _)).1 b (List.mem_of_getElem? h)).2, eq_comm, decide_eq_false_iff_not]; omega
 ·rw [List.getElem?_append_right hi] at h
  have h0 : i - (bdK k l l.length).length = 0 := by
   rcases Nat.eq_zero_or_pos (i - (bdK k l l.length).length) with h0 | h0
   ·exact h0
   ·rw [List.getElem?_eq_none (by simp; omega)] at h; cases h
  rw [h0] at h
  simp at h; subst h
  show true = _
  rw [eq_comm, decide_eq_true_iff]; omega
structure SgOk (k : Int) (l : List Ite) (s : Sgm) : Prop where
 f0 : 0 <= s.From
 ft : s.From <= s.To
 tl : s.To <= l.length
 lf : s.Left = -1 \/ (0 <= s.Left /\ s.Left + 1 = s.From /\ (itg l s.Left).Value <= k /\ (itg l s.Left).Color = false /\ (itg l s.Left).Fixed = false)
 rt : s.Right = -1 \/ (s.Right = s.To /\ s.To < l.length /\ (itg l s.Right).Value <= k /\ (itg l s.Right).Color = false /\ (itg l s.Right).Fixed = false)
structure SgsOk (k : Int) (l : List Ite) (S : List Sgm) : Prop where
 all : ∀ s ∈ S, SgOk k l s
 nx : ∀ n s t, S[n]? = some s -> S[n + 1]? = some t -> t.Left = s.Right /\ s.To <= t.From /\ (0 <= s.Right -> t.From = s.To + 1)
 st : ∀ s, S[0]? = some s -> s.Left = -1
theorem hdI_or {k : Int} {l : List Ite} {n : Nat} {b : Bd} (h : BdOk k l n b) : hdI l b = -1 \/ (0 <= b.item /\ hdI l b = b.item /\ b.next = b.item + 1 /\ (itg l b.item).Value <= k /\ (itg l b.item).Color = false /\ (itg l b.item).Fixed = false) := by
 unfold hdI
 split
 ·exact .inl rfl
 ·rename_i hc
  have h1 : ¬ b.item < 0 := fun h => hc (.inl h)
  have h2 : (itg l b.item).Fixed = false := by
   cases hf : (itg l b.item).Fixed with
   | false => rfl
   | true => exact absurd (.inr hf) hc
  rcases h.it with h3 | ⟨h3, h4, h5⟩
  ·omega
  ·exact .inr ⟨h3, rfl, h4, h5.2, h5.1, h2⟩
theorem sg0_ok {k : Int} {l : List Ite} {b c : Bd} (hb : BdOk k l l.length b) (hc : BdOk k l l.length c) (h : b.next <= bdF c) : SgOk k l (sg0 l b c) := by
 have hcF : bdF c <= c.next := by
  unfold bdF
  rcases hc.it with h3 | ⟨h3, h4, h5⟩
  ·rw [if_neg (by omega)]; exact Int.le_refl _
  ·rw [if_pos h3]; omega
 refine ⟨hb.lo, h, by have := hc.hi; show bdF c <= l.length; omega, ?_, ?_⟩
 ·rcases hdI_or hb with h3 | ⟨h3, h4, h5, h6⟩
  ·exact .inl h3
  ·refine .inr ?_
   show 0 <= hdI l b /\ hdI l b + 1 = b.next /\ (itg l (hdI l b)).Value <= k /\ (itg l (hdI l b)).Color = false /\ (itg l (hdI l b)).Fixed = false
   rw [h4]; exact ⟨h3, h5.symm, h6⟩
 ·rcases hdI_or hc with h3 | ⟨h3, h4, h5, h6⟩
  ·exact .inl h3
  ·refine .inr ?_
   have hF : bdF c = c.item := by unfold bdF; rw [if_pos h3]
   show hdI l c = bdF c /\ bdF c < l.length /\ (itg l (hdI l c)).Value <= k /\ (itg l (hdI l c)).Color = false /\ (itg l (hdI l c)).Fixed = false
   rw [h4, hF]
   exact ⟨rfl, by have := hc.hi; omega, h6⟩
theorem sgs0_at {l : List Ite} {B : List Bd} {i : Nat} {s : Sgm} (h : (sgs0 l B)[i]? = some s) : ∃ b c, B[i]? = some b /\ B[i + 1]? = some c /\ s = sg0 l b c := by
 have hi := (List.getElem?_eq_some_iff.1 h).1
 rw [sgs0_len] at hi
 have hb : B[i]? = some B[i] := List.getElem?_eq_getElem (by omega)
 have hc : B[i + 1]? = some B[i + 1] := List.getElem?_eq_getElem (by omega)
 have := sgs0_get l B i _ _ hb hc
 rw [h] at this
 exact ⟨_, _, hb, hc, Option.some.inj this⟩
theorem pw_next {B : List Bd} (h : B.Pairwise (fun b c => b.next <= bdF c)) {i : Nat} {b c : Bd} (hb : B[i]? = some b) (hc : B[i + 1]? = some c) : b.next <= bdF c := by
 obtain ⟨h1, rfl⟩ := List.getElem?_eq_some_iff.1 hb
 obtain ⟨h2, rfl⟩ := List.getElem?_eq_some_iff.1 hc
 exact List.pairwise_iff_getElem.1 h i (i + 1) h1 h2 (by omega)
theorem sgs0_ok (k : Int) (l : List Ite) : SgsOk k l (sgs0 l (bds k l)) := by
 obtain ⟨h1, h2⟩ := bds_ok k l
 refine ⟨?_, ?_, ?_⟩
 ·intro s hs
  obtain ⟨i, hi⟩ := List.getElem?_of_mem hs
  obtain ⟨b, c, hb, hc, rfl⟩ := sgs0_at hi
  exact sg0_ok (h1 b (List.mem_of_getElem? hb)) (h1 c (List.mem_of_getElem? hc)) (pw_next h2 hb hc)
 ·intro n s t hs ht
  obtain ⟨b, c, hb, hc, rfl⟩ := sgs0_at hs
  obtain ⟨c', d, hc', hd, rfl⟩ := sgs0_at ht
  rw [hc] at hc'; cases hc'
  have ho := h1 c (List.mem_of_getElem? hc)
  refine ⟨rfl, ?_, ?_⟩
  ·show bdF c <= c.next
   unfold bdF
   rcases ho.it with h3 | ⟨h3, h4, h5⟩
   ·rw [if_neg (by omega)]; exact Int.le_refl _
   ·rw [if_pos h3]; omega
  ·intro h
   have h : 0 <= hdI l c := h
   show c.next = bdF c + 1
   rcases hdI_or ho with h3 | ⟨h3, h4, h5, h6⟩
   ·omega
   ·unfold bdF; rw [if_pos h3]; exact h5
 ·intro s hs
  obtain ⟨b, c, hb, hc, rfl⟩ := sgs0_at hs
  rw [bds_head] at hb; cases hb
  rfl
theorem SgOk.cnt {k : Int} {l : List Ite} {s : Sgm} (h : SgOk k l s) (t : Tm) : SgOk k l { s with Count := t } := ⟨h.f0, h.ft, h.tl, h.lf, h.rt⟩
theorem sgV_ok {m : Mn} {k : Int} {l : List Ite} (h : segE m k l = 0) : SgsOk k l (segV m k l) := by
 have h0 := sgs0_ok k l
 unfold segV
 rw [if_pos h]
 refine ⟨?_, ?_, ?_⟩
 ·intro s hs
  obtain ⟨t, ht, rfl⟩ := List.mem_map.1 hs
  exact (h0.all t ht).cnt _
 ·intro n s t hs ht
  rw [List.getElem?_map] at hs ht
  obtain ⟨s', hs', rfl⟩ := Option.map_eq_some_iff.1 hs
  obtain ⟨t', ht', rfl⟩ := Option.map_eq_some_iff.1 ht
  exact h0.nx n s' t' hs' ht'
 ·intro s hs
  rw [List.getElem?_map] at hs
  obtain ⟨s', hs', rfl⟩ := Option.map_eq_some_iff.1 hs
  exact h0.st s' hs'
theorem sgE_0 {m : Mn} {k : Int} {l : List Ite} (h : segE m k l = 0) : unE m k = 0 /\ ckIE l = 0 /\ segX (unT m k) l (sgs0 l (bds k l)) = 0 := by
 unfold segE at h
 split at h
 ·split at h
  ·exact ⟨by assumption, by assumption, h⟩
  ·exact absurd h (by assumption)
 ·exact absurd h (by assumption)
structure ChOk (s : Sgm) (c : Int) : Prop where
 lf : c = 1 \/ c = 3 -> 0 <= s.Left
 rt : c = 2 \/ c = 3 -> 0 <= s.Right
 al : c = 4 -> s.From < s.To
theorem alR_mem {p a t : Bool} {s : Sgm} {c : Int} (h : c ∈ alR p a t s) : (c = 0 /\ (s.Count.N % 3 = 0 \/ s.Free = true)) \/ (c = 1 /\ p = true /\ s.Count.N % 3 = 1) \/ (c = 2 /\ a = true /\ s.Free = false /\ s.Count.N % 3 = 1) \/ (c = 3 /\ p = true /\ a = true /\ s.Free = false /\ s.Count.N % 3 = 2) \/ (c = 4 /\ t = true /\ s.Free = false /\ s.Count.N % 3 = 2) := by
 unfold alR at h
 simp only [List.mem_append] at h
 rcases h with (((h | h) | h) | h) | h
 ·split at h
  ·simp at h; exact .inl ⟨h, by assumption⟩
  ·simp at h
 ·split at h
  ·rename_i hh; simp at h; exact .inr (.inl ⟨h, hh.2.2, hh.1⟩)
  ·simp at h
 ·split at h
  ·rename_i hh; simp at h; exact .inr (.inr (.inl ⟨h, hh.2.2, hh.2.1, hh.1⟩))
  ·simp at h
 ·split at h
  ·rename_i hh; simp at h; exact .inr (.inr (.inr (.inl ⟨h, hh.2.2.1, hh.2.2.2, hh.2.1, hh.1⟩)))
  ·simp at h
 ·split at h
  ·rename_i hh; simp at h; exact .inr (.inr (.inr (.inr ⟨h, hh.2.2, hh.2.1, hh.1⟩)))
  ·simp at h
theorem poQ_0 {u : Tm} {k : Int} {l : List Ite} {L : List (Int × Bool)} {s : Sgm} (h : poQ u k l L s = true) : 0 <= s.Left /\ lgQ u (itg l s.Left) = true /\ rcQ u (fsL (itR l s)) (itg l s.Left).After = true := by
 unfold poQ at h
 simp only [Bool.and_eq_true, Bool.not_eq_true', decide_eq_false_iff_not] at h
 exact ⟨by omega, h.2.1.2, h.2.2⟩
theorem anQ_0 {u : Tm} {k : Int} {l : List Ite} {s : Sgm} (h : anQ u k l s = true) : 0 <= s.Right /\ lgQ u (itg l s.Right) = true /\ rcQ u (lasL (itR l s)) (itg l s.Right).Before = true := by
 unfold anQ at h
 simp only [Bool.and_eq_true, Bool.not_eq_true', decide_eq_false_iff_not] at h
 exact ⟨by omega, h.2.2.1, h.2.2.2⟩
theorem atQ_0 {u : Tm} {k : Int} {l : List Ite} {s : Sgm} (h : atQ u k l s = true) : ¬ s.From = s.To /\ ntQ u k (itg l (s.To - 1)) = true := by
 unfold atQ at h
 simp only [Bool.and_eq_true, Bool.not_eq_true', Bool.or_eq_false_iff, decide_eq_false_iff_not] at h
 exact ⟨h.1.1, h.2.1⟩
theorem alQ_ch {u : Tm} {k : Int} {l : List Ite} {L : List (Int × Bool)} {s : Sgm} {c : Int} (hs : s.From <= s.To) (h : c ∈ alQ u k l L s) : ChOk s c := by
 unfold alQ at h
 rcases alR_mem h with ⟨h1, _⟩ | ⟨h1, h2, _⟩ | ⟨h1, h2, _⟩ | ⟨h1, h2, h3, _⟩ | ⟨h1, h2, _⟩
 ·exact ⟨by omega, by omega, by omega⟩
 ·exact ⟨fun _ => (poQ_0 h2).1, by omega, by omega⟩
 ·exact ⟨by omega, fun _ => (anQ_0 h2).1, by omega⟩
 ·exact ⟨fun _ => (poQ_0 h2).1, fun _ => (anQ_0 h3).1, by omega⟩
 ·exact ⟨by omega, by omega, fun _ => by have := (atQ_0 h2).1; omega⟩
end Go.Rse
namespace Go.Rse
open Go Go.Proofs
def sumA : Tm -> List Tm -> Tm
 | t, [] => t
 | t, d :: r => sumA (addV t d) r
end Go.Rse
namespace Go.Rse
open Go Go.Proofs
section
variable {u : Tm} {k : Int} {S : List Sgm} {l : List Ite}
end
structure Rdg where
 Dots : List Int
 Minor : List Int
 Choices : List Int
 Durs : List Tm
 deriving DecidableEq
def rdgE (r : Rdg) : List AV := [intsA r.Dots, intsA r.Minor, intsA r.Choices, tmsA r.Durs]
abbrev rdgA (r : Rdg) : AV := .agg (rdgE r)
end Go.Rse
namespace Go.Rse
open Go Go.Proofs
end Go.Rse
namespace Go.Rse
open Go Go.Proofs
end Go.Rse
