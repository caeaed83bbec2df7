/-
  Plain.
-/
import Derived.Test.YtbopkhoalndflaaGreatDoorVJTim2
set_option linter.all false
namespace Go.Rse
open Go Go.Proofs Go.Proofs.Tryz
section
structure BdOk (k : Int) (l : List Ite) (n : Nat) (b : Bd) : Prop where
 it : b.item = -1 \/ (0 <= b.item /\ b.next = b.item + 1 /\ isH k (itg l b.item))
 lo : 0 <= b.next
 hi : b.next <= n
theorem BdOk.mono {k : Int} {l : List Ite} {n n' : Nat} {b : Bd} (h : BdOk k l n b) (Z : n <= n') : BdOk k l n' b := ⟨h.it, h.lo, by have := h.hi; omega⟩
def zu2 {l : List Ite} {n : Nat} {x : Ite} (h : l[n]? = some x) : itg l (n : Int) = x := by
 simp_all
theorem zmo (k : Int) (l : List Ite) : ∀ n, n <= l.length -> (∀ b ∈ bdK k l n, BdOk k l n b /\ b.fin = false) /\ (bdK k l n).Pairwise (fun b c => b.next <= bdF c)
 | 0, _ => by
  grind [bdK, BdOk]
 | n + 1, Q => by
  obtain ⟨U, T⟩ := zmo k l n (by omega);have hx : l[n]? = some l[n] := lgg (by omega);rw [zdx hx];have N := zu2 hx;generalize l[n] = x at *
  have a1 : ∀ b ∈ bdK k l n ++ (if isH k x then [(⟨n, n + 1, false⟩ : Bd)] else []), BdOk k l (n + 1) b /\ b.fin = false := by
   grind [BdOk]
  have a2 : (bdK k l n ++ (if isH k x then [(⟨n, n + 1, false⟩ : Bd)] else [])).Pairwise (fun b c => b.next <= bdF c) := by
   refine vK.2 ⟨T, ?_, ?_⟩
   ·split <;> simp
   ·intro b V c Z;split at Z
    ·simp at Z; subst Z;have := (U b V).1.hi
     grind
    ·simp at Z
  constructor
  ·grind [BdOk]
  ·refine vK.2 ⟨a2, ?_, ?_⟩
   ·split <;> simp
   ·intro b V c Z;split at Z
    ·simp at Z; subst Z;have := (a1 b V).1.hi
     grind
    ·simp at Z
def zmp (k : Int) (l : List Ite) : (∀ b ∈ bds k l, BdOk k l l.length b) /\ (bds k l).Pairwise (fun b c => b.next <= bdF c) := by
 grind [zmo, bds, BdOk]
theorem zlp (k : Int) (l : List Ite) : ∀ n, (bdK k l n)[0]? = some ⟨-1, 0, false⟩
 | 0 => rfl
 | n + 1 => by
  have h := zlp k l n
  grind [bdK]
def zeR (k : Int) (l : List Ite) : (bds k l).length = (bdK k l l.length).length + 1 := by unfold bds; simp
def zlq (k : Int) (l : List Ite) : (bds k l)[0]? = some ⟨-1, 0, false⟩ := by
 grind [bds, zlp]
def zrp {k : Int} {l : List Ite} {i : Nat} {b : Bd} (h : (bds k l)[i]? = some b) : b.fin = decide (i + 1 = (bds k l).length) := by
 grind [bds, zmo]
structure SgOk (k : Int) (l : List Ite) (s : Sgm) : Prop where
 f0 : 0 <= s.From
 ft : s.From <= s.To
 tl : s.To <= l.length
 lf : s.Left = -1 \/ (0 <= s.Left /\ s.Left + 1 = s.From /\ (itg l s.Left).Value <= k /\ (itg l s.Left).Color = false /\ (itg l s.Left).Fixed = false)
 rt : s.Right = -1 \/ (s.Right = s.To /\ s.To < l.length /\ (itg l s.Right).Value <= k /\ (itg l s.Right).Color = false /\ (itg l s.Right).Fixed = false)
structure SgsOk (k : Int) (l : List Ite) (S : List Sgm) : Prop where
 all : ∀ s ∈ S, SgOk k l s
 nx : ∀ n s t, S[n]? = some s -> S[n + 1]? = some t -> t.Left = s.Right /\ s.To <= t.From /\ (0 <= s.Right -> t.From = s.To + 1)
 st : ∀ s, S[0]? = some s -> s.Left = -1
def zmq {k : Int} {l : List Ite} {n : Nat} {b : Bd} (h : BdOk k l n b) : hdI l b = -1 \/ (0 <= b.item /\ hdI l b = b.item /\ b.next = b.item + 1 /\ (itg l b.item).Value <= k /\ (itg l b.item).Color = false /\ (itg l b.item).Fixed = false) := by
 unfold hdI;split
 ·exact .inl rfl
 ·rename_i Z;have U : ¬ b.item < 0 := fun h => Z (.inl h)
  have T : (itg l b.item).Fixed = false := by
   cases hf : (itg l b.item).Fixed with
   | false => rfl
   | true => exact absurd (.inr hf) Z
  rcases h.it with V | ⟨V, Q, N⟩;all_goals simp_all
theorem zu3 {k : Int} {l : List Ite} {b c : Bd} (T : BdOk k l l.length b) (V : BdOk k l l.length c) (h : b.next <= bdF c) : SgOk k l (sg0 l b c) := by
 have J : bdF c <= c.next := by
  unfold bdF;rcases V.it with Z | ⟨Z, U, Q⟩;all_goals omega
 refine ⟨T.lo, h, by have := V.hi; grind [sg0], ?_, ?_⟩
 ·rcases zmq T with Z | ⟨Z, U, Q, N⟩;all_goals grind [sg0]
 ·rcases zmq V with Z | ⟨Z, U, Q, N⟩
  ·exact .inl Z
  ·refine .inr ?_;have I : bdF c = c.item := by simp_all
   show hdI l c = bdF c /\ bdF c < l.length /\ (itg l (hdI l c)).Value <= k /\ (itg l (hdI l c)).Color = false /\ (itg l (hdI l c)).Fixed = false;rw [U, I];exact ⟨rfl, by have := V.hi; omega, N⟩
theorem zhL {l : List Ite} {B : List Bd} {i : Nat} {s : Sgm} (h : (sgs0 l B)[i]? = some s) : ∃ b c, B[i]? = some b /\ B[i + 1]? = some c /\ s = sg0 l b c := by
 have hi := (j1.1 h).1;rw [zev] at hi;have Z : B[i]? = some B[i] := lgg (by omega)
 grind [ziH]
theorem zrq {B : List Bd} (h : B.Pairwise (fun b c => b.next <= bdF c)) {i : Nat} {b c : Bd} (Z : B[i]? = some b) (V : B[i + 1]? = some c) : b.next <= bdF c := by
 grind [List.pairwise_iff_getElem]
def zkp (k : Int) (l : List Ite) : SgsOk k l (sgs0 l (bds k l)) := by
 obtain ⟨Q, I⟩ := zmp k l;refine ⟨?_, ?_, ?_⟩
 ·grind [List.getElem?_of_mem, zhL, zu3, zrq]
 ·intro n s t hs ht;obtain ⟨b, c, V, U, rfl⟩ := zhL hs;obtain ⟨c', d, Z, H, rfl⟩ := zhL ht;rw [U] at Z; cases Z;have ho := Q c (j6 U);refine ⟨rfl, ?_, ?_⟩
  ·show bdF c <= c.next;unfold bdF;rcases ho.it with T | ⟨T, N, J⟩;all_goals omega
  ·intro h;have h : 0 <= hdI l c := h;show c.next = bdF c + 1;rcases zmq ho with T | ⟨T, N, J, G⟩;all_goals simp_all
 ·intro s hs;obtain ⟨b, c, V, U, rfl⟩ := zhL hs;rw [zlq] at V; cases V;rfl
def SgOk.cnt {k : Int} {l : List Ite} {s : Sgm} (h : SgOk k l s) (t : Tm) : SgOk k l { s with Count := t } := ⟨h.f0, h.ft, h.tl, h.lf, h.rt⟩
def zeg {m : Mn} {k : Int} {l : List Ite} (h : segE m k l = 0) : SgsOk k l (segV m k l) := by
 have h0 := zkp k l;unfold segV;rw [j4 h];refine ⟨?_, ?_, ?_⟩
 ·intro s hs;obtain ⟨t, ht, rfl⟩ := jV.1 hs;exact (h0.all t ht).cnt _
 ·intro n s t hs ht;rw [jK] at hs ht;obtain ⟨s', Z, rfl⟩ := x8.1 hs;obtain ⟨t', V, rfl⟩ := x8.1 ht;exact h0.nx n s' t' Z V
 ·intro s hs;rw [jK] at hs;obtain ⟨s', Z, rfl⟩ := x8.1 hs;exact h0.st s' Z
def zdq {m : Mn} {k : Int} {l : List Ite} (h : segE m k l = 0) : unE m k = 0 /\ ckIE l = 0 /\ segX (unT m k) l (sgs0 l (bds k l)) = 0 := by
 grind [segE]
def zwY {u : Tm} {l : List Ite} {s : Sgm} (h : segR u l s = 0) : cnE u l s = 0 /\ (s.Free = true \/ (cnV u l s).D = 1) := by
 grind [segR]
def zf6 {m : Mn} {k : Int} {l : List Ite} (h : segE m k l = 0) : ∀ s ∈ segV m k l, s.Free = true \/ s.Count.D = 1 := by
 unfold segV; rw [j4 h];intro s hs;obtain ⟨t, ht, rfl⟩ := jV.1 hs;exact (zwY (znK (zdq h).2.2 t ht)).2
def sameI (x y : Ite) : Prop := x.Sign = y.Sign /\ x.Value = y.Value /\ x.Rest = y.Rest /\ x.Color = y.Color /\ x.Fixed = y.Fixed /\ x.Cut = y.Cut
theorem zaI (x : Ite) : sameI x x := ⟨rfl, rfl, rfl, rfl, rfl, rfl⟩
def sameI.tr {x y z : Ite} (h : sameI x y) (g : sameI y z) : sameI x z := ⟨h.1.trans g.1, h.2.1.trans g.2.1, h.2.2.1.trans g.2.2.1, h.2.2.2.1.trans g.2.2.2.1, h.2.2.2.2.1.trans g.2.2.2.2.1, h.2.2.2.2.2.trans g.2.2.2.2.2⟩
theorem zeS {l : List Ite} {i j : Int} {f : Ite -> Ite} (hi : 0 <= i) (Z : 0 <= j) (hl : i < l.length) : itg (upI l i f) j = if i = j then f (itg l i) else itg l j := by
 grind [upI]
def zia {l : List Ite} {i j : Int} {f : Ite -> Ite} (hf : ∀ x, sameI (f x) x) (hi : 0 <= i) (Z : 0 <= j) (hl : i < l.length) : sameI (itg (upI l i f) j) (itg l j) := by
 grind [zeS, zaI]
def zmr (u : Tm) (x : Ite) : sameI (zaN u x) x := zaI _
def zms (u : Tm) (x : Ite) : sameI (zaY u x) x := zaI _
def zoy (x : Ite) : sameI (dblI x) x := zaI _
structure ChOk (s : Sgm) (c : Int) : Prop where
 lf : c = 1 \/ c = 3 -> 0 <= s.Left
 rt : c = 2 \/ c = 3 -> 0 <= s.Right
 al : c = 4 -> s.From < s.To
def zrr {p a t : Bool} {s : Sgm} {c : Int} (h : c ∈ alR p a t s) : (c = 0 /\ (s.Count.N % 3 = 0 \/ s.Free = true)) \/ (c = 1 /\ p = true /\ s.Count.N % 3 = 1) \/ (c = 2 /\ a = true /\ s.Free = false /\ s.Count.N % 3 = 1) \/ (c = 3 /\ p = true /\ a = true /\ s.Free = false /\ s.Count.N % 3 = 2) \/ (c = 4 /\ t = true /\ s.Free = false /\ s.Count.N % 3 = 2) := by
 unfold alR at h;simp only [wG] at h;rcases h with (((h | h) | h) | h) | h
 ·split at h
  ·simp at h; exact .inl ⟨h, by assumption⟩
  ·simp at h
 all_goals simp_all
def zt0 {u : Tm} {k : Int} {l : List Ite} {L : List (Int × Bool)} {s : Sgm} (h : poQ u k l L s = true) : 0 <= s.Left /\ lgQ u (itg l s.Left) = true /\ rcQ u (fsL (itR l s)) (itg l s.Left).After = true := by
 simp_all [poQ]
def zt1 {u : Tm} {k : Int} {l : List Ite} {s : Sgm} (h : anQ u k l s = true) : 0 <= s.Right /\ lgQ u (itg l s.Right) = true /\ rcQ u (lasL (itR l s)) (itg l s.Right).Before = true := by
 simp_all [anQ]
def zw0 {u : Tm} {k : Int} {l : List Ite} {s : Sgm} (h : atQ u k l s = true) : ¬ s.From = s.To /\ ntQ u k (itg l (s.To - 1)) = true := by
 simp_all [atQ]
def zgT {u : Tm} {k : Int} {l : List Ite} {L : List (Int × Bool)} {s : Sgm} {c : Int} (hs : s.From <= s.To) (h : c ∈ alQ u k l L s) : ChOk s c := by
 unfold alQ at h;rcases zrr h with ⟨V, _⟩ | ⟨V, Z, _⟩ | ⟨V, Z, _⟩ | ⟨V, Z, U, _⟩ | ⟨V, Z, _⟩
 ·exact ⟨by omega, by omega, by omega⟩
 ·exact ⟨fun _ => (zt0 Z).1, by omega, by omega⟩
 ·exact ⟨by omega, fun _ => (zt1 Z).1, by omega⟩
 ·exact ⟨fun _ => (zt0 Z).1, fun _ => (zt1 U).1, by omega⟩
 ·exact ⟨by omega, by omega, fun _ => by have := (zw0 Z).1; omega⟩
def zrs {k : Int} {u : Tm} {s : Sgm} {c : Int} {l0 l : List Ite} (hs : SgOk k l0 s) (hl : l.length = l0.length) (T : ChOk s c) {i : Int} (hi : 0 <= i) :
 sameI (itg (chN u s c l) i) (itg l i) /\ (¬ i = s.Left -> ¬ i = s.Right -> ¬ i = s.To - 1 -> itg (chN u s c l) i = itg l i) /\ (¬ i = s.Left -> (itg (chN u s c l) i).After = (itg l i).After) := by
 unfold chN;simp only;have A : (if c = 1 \/ c = 3 then upI l s.Left (zaN u) else l).length = l.length := by split <;> simp [zgA]
 have B : (if c = 2 \/ c = 3 then upI (if c = 1 \/ c = 3 then upI l s.Left (zaN u) else l) s.Right (zaY u) else (if c = 1 \/ c = 3 then upI l s.Left (zaN u) else l)).length = l.length := by split <;> simp [zgA, A]
 have N : sameI (itg (if c = 1 \/ c = 3 then upI l s.Left (zaN u) else l) i) (itg l i) /\ (¬ i = s.Left -> itg (if c = 1 \/ c = 3 then upI l s.Left (zaN u) else l) i = itg l i) := by
  split
  ·rename_i h;have h0 := T.lf h;have Z : s.Left < l.length := by have := hs.tl; have := hs.ft; rcases hs.lf with U | U <;> omega
   refine ⟨zia (zmr u) h0 hi Z, fun Q => ?_⟩;rw [zeS h0 hi Z, j3 (by omega)]
  ·exact ⟨zaI _, fun _ => rfl⟩
 generalize (if c = 1 \/ c = 3 then upI l s.Left (zaN u) else l) = l1 at *
 have U : sameI (itg (if c = 2 \/ c = 3 then upI l1 s.Right (zaY u) else l1) i) (itg l1 i) /\ (¬ i = s.Right -> itg (if c = 2 \/ c = 3 then upI l1 s.Right (zaY u) else l1) i = itg l1 i) /\ (itg (if c = 2 \/ c = 3 then upI l1 s.Right (zaY u) else l1) i).After = (itg l1 i).After := by
  split
  ·rename_i h;have h0 := T.rt h;have Z : s.Right < l1.length := by rw [A, hl]; rcases hs.rt with U | U <;> omega
   refine ⟨zia (zms u) h0 hi Z, fun Q => ?_, ?_⟩
   ·rw [zeS h0 hi Z, j3 (by omega)]
   ·rw [zeS h0 hi Z]; split
    ·rename_i h; subst h; rfl
    ·rfl
  ·exact ⟨zaI _, fun _ => rfl, rfl⟩
 generalize (if c = 2 \/ c = 3 then upI l1 s.Right (zaY u) else l1) = l2 at *
 have J : sameI (itg (if c = 4 then upI l2 (s.To - 1) dblI else l2) i) (itg l2 i) /\ (¬ i = s.To - 1 -> itg (if c = 4 then upI l2 (s.To - 1) dblI else l2) i = itg l2 i) /\ (itg (if c = 4 then upI l2 (s.To - 1) dblI else l2) i).After = (itg l2 i).After := by
  split
  ·rename_i h;have h0 := T.al h;have Z : s.To - 1 < l2.length := by rw [B, hl]; have := hs.tl; omega
   have V : 0 <= s.To - 1 := by have := hs.f0; omega
   refine ⟨zia zoy V hi Z, fun Q => ?_, ?_⟩
   ·rw [zeS V hi Z, j3 (by omega)]
   ·rw [zeS V hi Z]; split
    ·rename_i h; subst h; rfl
    ·rfl
  ·exact ⟨zaI _, fun _ => rfl, rfl⟩
 refine ⟨J.1.tr (U.1.tr N.1), fun a b d => ?_, fun a => ?_⟩;all_goals simp_all
theorem zlr (q r : Int) (x : Bool) (L : List (Int × Bool)) : mget q (mput r x L) = if r = q then some x else mget q L := by
 exact zdp q r x L
structure StaOk (l : List Ite) (S : List Sgm) (M : List Int) (n : Nat) (st : List Ite × List (Int × Bool)) : Prop where
 len : st.1.length = l.length
 same : ∀ i : Int, 0 <= i -> sameI (itg st.1 i) (itg l i)
 rest : ∀ s, S[n]? = some s -> ∀ i : Int, s.From <= i -> itg st.1 i = itg l i /\ mget i st.2 = none
 left : ∀ s, S[n]? = some s -> 0 <= s.Left -> (itg st.1 s.Left).After = (itg l s.Left).After /\ (mget s.Left st.2).getD false = (decide (0 < n) && (decide (M.getD (n - 1) 0 = 2) || decide (M.getD (n - 1) 0 = 3)))
def zpk {u : Tm} {k : Int} {S : List Sgm} {l : List Ite} {M : List Int} (U : SgsOk k l S) : ∀ n, n <= S.length -> okJ u k S l M n = true -> StaOk l S M n (stK u S l M n)
 | 0, _, _ => by
  refine ⟨rfl, fun _ _ => zaI _, fun s hs i hi => ⟨rfl, rfl⟩, fun s hs h0 => ?_⟩;have := U.st s hs; omega
 | n + 1, E, V => by
  have V : (okJ u k S l M n && decide (M.getD n 0 ∈ alK u k S l M n)) = true := V;simp only [j7, wA] at V;have ih := zpk U n (by omega) V.1;rw [znM];have hs : S[n]? = some S[n] := lgg (by omega);have T : S.getD n default = S[n] := by grind
  have Z := U.all _ (j6 hs);unfold alK at V;rw [T] at V ⊢;generalize S[n] = s at *
  generalize stK u S l M n = st at *
  have Q := zgT Z.ft V.2;generalize hM : M.getD n 0 = c at *
  have N := fun (i : Int) (hi : 0 <= i) => zrs (u := u) Z ih.len Q hi
  have J : s.Left < s.From := by have := Z.f0; rcases Z.lf with h | h <;> omega
  refine ⟨by rw [znL]; exact ih.len, fun i hi => (N i hi).1.tr (ih.same i hi), fun t ht i hi => ?_, fun t ht h0 => ?_⟩
  ·obtain ⟨n1, n2, n3⟩ := U.nx n s t hs ht;have I : 0 <= i := by have := (U.all t (j6 ht)).f0; omega
   have hf := Z.ft;have hr : ¬ i = s.Right := by rcases Z.rt with h | h <;> omega
   have := ih.rest s hs i (by omega)
   grind [chL, zlr]
  ·obtain ⟨n1, n2, n3⟩ := U.nx n s t hs ht;have hr : 0 <= s.Right := by omega
   have H : s.Right = s.To := by rcases Z.rt with h | h <;> omega
   have hf := Z.ft;have G := ih.rest s hs t.Left (by omega)
   grind [chL, zlr]
end
section
attribute [local irreducible] Pur yu yq Ex X Fn Imp LeV LeB FnO It yD
def bdX (k : Int) (l : List Ite) : List (List AV) := (bds k l).map fun b => [bdA b]
def zkq {k : Int} {l : List Ite} {j : Nat} {zs : List AV} (h : (bdX k l)[j]? = some zs) : ∃ b, (bds k l)[j]? = some b /\ zs = [bdA b] := by
 rw [bdX, jK] at h;cases Z : (bds k l)[j]? with
 | none => simp [Z] at h
 | some b => simp [Z] at h; exact ⟨b, rfl, h.symm⟩
def zm3 (k : Int) (l : List Ite) : (bdX k l).length = (bdK k l l.length).length + 1 := by unfold bdX; rw [jU, zeR]
def zm4 {k : Int} {l : List Ite} (n : Nat) : ∀ d, ∃ r, bdK k l (n + d) = bdK k l n ++ r
 | 0 => ⟨[], by simp⟩
 | d + 1 => by
  obtain ⟨r, hr⟩ := zm4 (k := k) (l := l) n d;cases hx : l[n + d]? with
  | none =>
   have e : bdK k l (n + d + 1) = bdK k l (n + d) := by
    conv => lhs; unfold bdK
    rw [hx]
   exact ⟨r, by rw [show n + (d + 1) = n + d + 1 from rfl, e]; exact hr⟩
  | some x => exact ⟨r ++ ((if isH k x then [⟨(n + d : Nat), (n + d : Nat) + 1, false⟩] else []) ++ if isC k x then [⟨-1, (n + d : Nat) + 1, false⟩] else []), by
   show bdK k l ((n + d) + 1) = _;rw [zdx hx, hr]; simp only [vG]⟩
def zmt {k : Int} {l : List Ite} {n : Nat} {p : List Bd} {b : Bd} {q : List Bd} (Z : n + 1 <= l.length) (h : bdK k l (n + 1) = p ++ b :: q) : (bds k l)[p.length]? = some b := by
 obtain ⟨r, hr⟩ := zm4 (k := k) (l := l) (n + 1) (l.length - (n + 1));rw [show n + 1 + (l.length - (n + 1)) = l.length by omega, h] at hr;unfold bds;rw [hr]; simp
def zib {k : Int} {l : List Ite} {i : Nat} {b : Bd} (h : (bds k l)[i]? = some b) : (bdX k l)[i]? = some [bdA b] := by
 unfold bdX; rw [jK, h]; rfl
def zpl {k : Int} {l : List Ite} {n : Nat} {x : Ite} (hx : l[n]? = some x) (h : ¬ isH k x) :
 (bdK k l (n + 1)).length = (bdK k l n).length + (if isC k x then 1 else 0) /\ (isC k x -> (bdX k l)[(bdK k l n).length]? = some [bdA ⟨-1, (n : Int) + 1, false⟩]) := by
 have hs := zdx (k := k) hx;rw [j3 h, wE] at hs;have Z := (j1.1 hx).1;refine ⟨by rw [hs, jJ]; split <;> rfl, fun V => zib (zmt (q := []) (n := n) (by omega) (by rw [hs, j4 V]))⟩
def zw1 {k : Int} {l : List Ite} {n : Nat} {x : Ite} (hx : l[n]? = some x) (h : isH k x) :
 (bdX k l)[(bdK k l n).length]? = some [bdA ⟨(n : Int), (n : Int) + 1, false⟩] /\ (bdK k l (n + 1)).length = (bdK k l n).length + 1 + (if isC k x then 1 else 0) /\ (isC k x -> (bdX k l)[(bdK k l n).length + 1]? = some [bdA ⟨-1, (n : Int) + 1, false⟩]) := by
 have hs := zdx (k := k) hx;rw [j4 h] at hs;have Z := (j1.1 hx).1;refine ⟨zib (zmt (n := n) (by omega) (by rw [hs, vG]; rfl)), by rw [hs, jJ, jJ]; split <;> rfl, fun V => ?_⟩;have := zib (zmt (k := k) (l := l) (p := bdK k l n ++ [⟨(n : Int), (n : Int) + 1, false⟩]) (q := []) (n := n) (b := ⟨-1, (n : Int) + 1, false⟩) (by omega) (by rw [hs, j4 V]));rw [jJ] at this; exact this
def zAw (k : Int) (l : List Ite) : (bdX k l)[0]? = some [bdA ⟨-1, 0, false⟩] := zib (zlq k l)
def zu4 (k : Int) (l : List Ite) : (bdX k l)[(bdK k l l.length).length]? = some [bdA ⟨-1, (l.length : Int), true⟩] := zib (by unfold bds; simp)
attribute [local irreducible] bdK bds bdX
set_option maxHeartbeats 4000000 in
def zeh (k : Int) (l : List Ite) (hl : l.length <= 4000000) : It prog 368 [.ept (fun _ : Unit => [.sl itE l]) () 0, .ept (fun _ : Unit => [iv k]) () 0] (bdX k l) := by
 have u2 : (bdK k l 0).length = 1 := by unfold bdK; rfl
 have u1 := zeZ k l l.length;refine It.intro (ts := fun lY => [(0, .yv lY), (1, .ept (fun _ : Unit => [.sl itE l]) () 0), (2, .ept (fun _ : Unit => [iv k]) () 0)]) (n := 58) (by kernel_rfl) func368 rfl ntmps368 rfl (fun _ => rfl) (by simp) (fun g w d ds Y lY hY => ?_);apply yg;apply ye;iterate 2 refine ya ?_
 refine Ex.yield hY rfl rfl rfl (kE _) rfl rfl (zAw k l) rfl (fun b => ?_);refine gd ?_ ?_<;>intro x3
 ·subst x3;refine xU ?_;refine ⟨.inr rfl, _, false, rfl, fun I => by simp at I⟩
 subst x3;apply yl;apply yg;apply ye;refine yy ?_;apply xS;refine zq (fun n => [(0, .yv lY), (1, .ept (fun _ : Unit => [.sl itE l]) () 0), (2, .ept (fun _ : Unit => [iv k]) () 0), (10, itsA l), (11, iv l.length), (12, iv (n : Int))]) (fun n => [(1000000, .yld (bdK k l n).length true)]) l.length (fun n hk => ?_) (h0 := yd);refine gd ?_ ?_<;>intro kZ
 ·obtain ⟨x, hx⟩ : ∃ x, l[n]? = some x := ⟨_, lgg (by omega)⟩;have kY : l[(n : Int).toNat]? = some x := by simpa using hx
  apply yl;apply yg;apply xS;apply ye;iterate 3 refine ya ?_
  refine zh ?_;refine ya ?_;refine xY ?_;apply k9;iterate 2 apply yg
  have w2 : x.Color = true \/ (x.Color = false /\ ¬ x.Value <= k) \/ (x.Color = false /\ x.Value <= k) := by cases x.Color <;> simp; omega
  rcases w2 with H | ⟨H, hq⟩ | ⟨H, hq⟩
  ·have U : ((!x.Color) == true) = false := by rw [H]; rfl
   have x4 : ¬ isH k x := fun h => by rw [h.1] at H; cases H
   have hZ := zpl (k := k) hx x4;obtain ⟨N, hC⟩ := hZ;apply yi;(iterate 4 refine ya ?_);(iterate 4 refine zbO ?_);(iterate 2 refine ya ?_);(iterate 7 refine zbO ?_);refine gd ?_ ?_<;>intro v9
   ·exact absurd v9 (by decide)
   apply yl;apply yg;have Q : ¬ 0 < x.Cut \/ (0 < x.Cut /\ ¬ x.Cut <= k) \/ (0 < x.Cut /\ x.Cut <= k) := by omega
   rcases Q with V | ⟨V, Z⟩ | ⟨V, Z⟩
   ·have U : (decide (0 < x.Cut) == true) = false := by rw [j9 V]; rfl
    rw [j3 (fun h => V h.1), uW] at N;apply yi;(iterate 4 refine ya ?_);(iterate 4 refine zbO ?_);(iterate 2 refine ya ?_);(iterate 6 refine zbO ?_);refine gd ?_ ?_<;>intro v8
    ·exact absurd v8 (by decide)
    refine gq ?_;refine yw (n + 1)
   ·have U : (decide (0 < x.Cut) == true) = true := by rw [jI V]; rfl
    have T : (decide (x.Cut <= k) == true) = false := by rw [j9 Z]; rfl
    rw [j3 (fun h => Z h.2), uW] at N;apply yi;(iterate 4 refine ya ?_);(iterate 4 refine zac ?_);(iterate 2 refine ya ?_);(iterate 6 refine zbO ?_);refine gd ?_ ?_<;>intro v5
    ·exact absurd v5 (by decide)
    refine gq ?_;refine yw (n + 1)
   ·have U : (decide (0 < x.Cut) == true) = true := by rw [jI V]; rfl
    have T : (decide (x.Cut <= k) == true) = true := by rw [jI Z]; rfl
    have J := hC ⟨V, Z⟩;rw [j4 ⟨V, Z⟩] at N;apply yi;(iterate 4 refine ya ?_);(iterate 4 refine zac ?_);(iterate 2 refine ya ?_);(iterate 4 refine zac ?_);refine zcv hY rfl rfl rfl (fun _ => ⟨_, _, rfl, rfl, rfl, kE _, rfl, rfl, J, fun b => ?_⟩) (fun h => absurd (h.symm.trans T) (by decide));refine zac ?_;refine gd ?_ ?_<;>intro x2
    ·subst x2;refine xU ?_;refine ⟨.inr rfl, _, false, rfl, fun I => by simp at I⟩
    subst x2;refine gq ?_;refine yw (n + 1)
  ·have U : ((!x.Color) == true) = true := by rw [H]; rfl
   have T : (decide (x.Value <= k) == true) = false := by rw [j9 hq]; rfl
   have x4 : ¬ isH k x := fun h => hq h.2
   have hZ := zpl (k := k) hx x4;obtain ⟨N, hC⟩ := hZ;apply yi;(iterate 4 refine ya ?_);(iterate 4 refine zac ?_);(iterate 2 refine ya ?_);(iterate 7 refine zbO ?_);refine gd ?_ ?_<;>intro v4
   ·exact absurd v4 (by decide)
   apply yl;apply yg;have Q : ¬ 0 < x.Cut \/ (0 < x.Cut /\ ¬ x.Cut <= k) \/ (0 < x.Cut /\ x.Cut <= k) := by omega
   rcases Q with V | ⟨V, Z⟩ | ⟨V, Z⟩
   ·have U : (decide (0 < x.Cut) == true) = false := by rw [j9 V]; rfl
    rw [j3 (fun h => V h.1), uW] at N;apply yi;(iterate 4 refine ya ?_);(iterate 4 refine zbO ?_);(iterate 2 refine ya ?_);(iterate 6 refine zbO ?_);refine gd ?_ ?_<;>intro v3
    ·exact absurd v3 (by decide)
    refine gq ?_;refine yw (n + 1)
   ·have U : (decide (0 < x.Cut) == true) = true := by rw [jI V]; rfl
    have T : (decide (x.Cut <= k) == true) = false := by rw [j9 Z]; rfl
    rw [j3 (fun h => Z h.2), uW] at N;apply yi;(iterate 4 refine ya ?_);(iterate 4 refine zac ?_);(iterate 2 refine ya ?_);(iterate 6 refine zbO ?_);refine gd ?_ ?_<;>intro v1
    ·exact absurd v1 (by decide)
    refine gq ?_;refine yw (n + 1)
   ·have U : (decide (0 < x.Cut) == true) = true := by rw [jI V]; rfl
    have T : (decide (x.Cut <= k) == true) = true := by rw [jI Z]; rfl
    have J := hC ⟨V, Z⟩;rw [j4 ⟨V, Z⟩] at N;apply yi;(iterate 4 refine ya ?_);(iterate 4 refine zac ?_);(iterate 2 refine ya ?_);(iterate 4 refine zac ?_);refine zcv hY rfl rfl rfl (fun _ => ⟨_, _, rfl, rfl, rfl, kE _, rfl, rfl, J, fun b => ?_⟩) (fun h => absurd (h.symm.trans T) (by decide));refine zac ?_;refine gd ?_ ?_<;>intro G
    ·subst G;refine xU ?_;refine ⟨.inr rfl, _, false, rfl, fun I => by simp at I⟩
    subst G;refine gq ?_;refine yw (n + 1)
  ·have U : ((!x.Color) == true) = true := by rw [H]; rfl
   have T : (decide (x.Value <= k) == true) = true := by rw [jI hq]; rfl
   have hZ := zw1 (k := k) hx ⟨H, hq⟩;obtain ⟨v0, N, hC⟩ := hZ;apply yi;(iterate 4 refine ya ?_);(iterate 4 refine zac ?_);(iterate 2 refine ya ?_);(iterate 5 refine zac ?_);refine zcv hY rfl rfl rfl (fun _ => ⟨_, _, rfl, rfl, rfl, kE _, rfl, rfl, v0, fun b => ?_⟩) (fun h => absurd (h.symm.trans T) (by decide));refine zac ?_;refine gd ?_ ?_<;>intro E
   ·subst E;refine xU ?_;refine ⟨.inr rfl, _, false, rfl, fun I => by simp at I⟩
   subst E;apply yl;apply yg;have Q : ¬ 0 < x.Cut \/ (0 < x.Cut /\ ¬ x.Cut <= k) \/ (0 < x.Cut /\ x.Cut <= k) := by omega
   rcases Q with V | ⟨V, Z⟩ | ⟨V, Z⟩
   ·have U : (decide (0 < x.Cut) == true) = false := by rw [j9 V]; rfl
    rw [j3 (fun h => V h.1), uW] at N;apply yi;(iterate 4 refine ya ?_);(iterate 4 refine zbO ?_);(iterate 2 refine ya ?_);(iterate 6 refine zbO ?_);refine gd ?_ ?_<;>intro x1
    ·exact absurd x1 (by decide)
    refine gq ?_;refine yw (n + 1)
   ·have U : (decide (0 < x.Cut) == true) = true := by rw [jI V]; rfl
    have T : (decide (x.Cut <= k) == true) = false := by rw [j9 Z]; rfl
    rw [j3 (fun h => Z h.2), uW] at N;apply yi;(iterate 4 refine ya ?_);(iterate 4 refine zac ?_);(iterate 2 refine ya ?_);(iterate 6 refine zbO ?_);refine gd ?_ ?_<;>intro x0
    ·exact absurd x0 (by decide)
    refine gq ?_;refine yw (n + 1)
   ·have U : (decide (0 < x.Cut) == true) = true := by rw [jI V]; rfl
    have T : (decide (x.Cut <= k) == true) = true := by rw [jI Z]; rfl
    have J := hC ⟨V, Z⟩;rw [j4 ⟨V, Z⟩] at N;apply yi;(iterate 4 refine ya ?_);(iterate 4 refine zac ?_);(iterate 2 refine ya ?_);(iterate 4 refine zac ?_);refine zcv hY rfl rfl rfl (fun _ => ⟨_, _, rfl, rfl, rfl, kE _, rfl, rfl, J, fun b => ?_⟩) (fun h => absurd (h.symm.trans T) (by decide));refine zac ?_;refine gd ?_ ?_<;>intro xT
    ·subst xT;refine xU ?_;refine ⟨.inr rfl, _, false, rfl, fun I => by simp at I⟩
    subst xT;refine gq ?_;refine yw (n + 1)
 ·have u3 : n = l.length := by omega
  subst u3;apply k8;apply yi;iterate 4 refine ya ?_
  refine Ex.yield hY rfl rfl rfl (kE _) rfl rfl (zu4 k l) rfl (fun b => ?_);apply k9;refine ⟨.inl rfl, _, b, rfl, fun h => by rw [zm3, h]; rfl⟩
def zfD (k : Int) (l : List Ite) : Fn prog 346 [iv k, itsA l] (.fn 368 [.ept (fun _ : Unit => [.sl itE l]) () 0, .ept (fun _ : Unit => [iv k]) () 0]) := by
 refine xV func346 ntmps346 (fun g w d => ?_);apply ye;iterate 2 refine zeL ?_
 refine ya ?_;apply yE;refine yL ?_;refine xU ?_;refine xQ ((yZ (k := 2) rfl rfl).trans (yZ (k := 3) rfl rfl)) ?_;refine gq ?_;all_goals exact zR
end
end Go.Rse
