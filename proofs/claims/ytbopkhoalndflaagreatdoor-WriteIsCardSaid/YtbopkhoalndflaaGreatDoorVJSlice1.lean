/-
  Walks.
-/
import Derived.Test.YtbopkhoalndflaaGreatDoorVJSpell1
set_option linter.all false
namespace Go.Rse
open Go Go.Proofs Go.Proofs.Tryz
section
attribute [local irreducible] Pur yu yq Ex X Fn Imp LeV LeB FnO It yD
def fidx (p : Int -> Bool) (l : List Int) : Int := if l.findIdx p < l.length then (l.findIdx p : Int) else -1
def zlO {p : Int -> Bool} {l : List Int} {k : Nat} {v : Int} (hv : l[k]? = some v) (V : p v = true) (hJ : ∀ i u, i < k -> l[i]? = some u -> p u = false) : fidx p l = k := by
 have Z : k < l.length := (j1.1 hv).1;have U : l[k] = v := (j1.1 hv).2;have : l.findIdx p = k := (List.findIdx_eq Z).2 ⟨by rw [U]; exact V, fun j T => hJ j _ T (lgg (by omega))⟩;unfold fidx; rw [this, j4 Z]
def zjM {p : Int -> Bool} {l : List Int} (hJ : ∀ i u, i < l.length -> l[i]? = some u -> p u = false) : fidx p l = -1 := by
 have : l.findIdx p = l.length := u8.2 fun x hx => by
  obtain ⟨i, hi⟩ := jP.1 hx;simpa using hJ i x (j1.1 hi).1 hi
 unfold fidx; rw [j3 (by omega)]
def zcH (l : List Int) (hl : l.length <= 4000000000) (fp : FuncId) (caps : List AV) (p : Int -> Bool) (T : AV.nm.nmL caps = true) (Q : ∀ v, v ∈ l -> Fn prog fp ([iv v] ++ caps) (.bool (p v))) : FnO prog 278 [.own 2000000, .fn fp caps] [(2000000, .row intE l 3 1)] [2000000] (iv (fidx p l)) [(2000000, .row intE l 3 1)] := by
 refine kQ (ts := [(0, .own 2000000), (1, .fn fp caps)]) (rv := [.tmp 4]) (n := 19) (cs := [.own 2000000]) (by kernel_rfl) func278 rfl ntmps278 rfl rfl (by simp) rfl rfl rfl rfl (fun g w d vs => ?_);apply ye;refine yh ?_;apply yg;apply ye;refine yy ?_;apply xS;refine zX (fun k => [(0, .own 2000000), (1, .fn fp caps), (7, iv l.length), (8, iv k)]) (fun k => [(1000001, .hold vs [.own 2000000]), (2000000, .row intE l 3 1)]) (fun k => k <= l.length /\ ∀ i u, i < k -> l[i]? = some u -> p u = false) l.length (fun k N => ?_) (hJ := by exact ⟨by omega, fun i u h => absurd h (wN i)⟩) (h0 := yd);obtain ⟨J, Z⟩ := N;refine gd ?_ ?_<;>intro I
 ·obtain ⟨v, hv⟩ : ∃ v, l[k]? = some v := ⟨_, lgg (by omega)⟩;have H : l[(k : Int).toNat]? = some v := by simpa using hv
  apply yl;apply yg;apply xS;apply ye;iterate 2 refine ya ?_
  apply yE;iterate 5 refine ya ?_
  refine Ex.call rfl rfl (by simpa [AV.nm.nmL, AV.nm] using T) (Q v (j6 hv)) rfl ?_;refine gd ?_ ?_<;>intro V
  ·have he := zlO hv V Z;apply ye;refine yL ?_;refine xU ?_;rw [he];refine zn3.mk (ts := [(4, iv k)]) (.inr rfl) (yd) (.one (.tmp rfl (xR rfl)))
  refine gq ?_
  refine yw (k + 1) (hJ := by
   refine ⟨by omega, fun i u hi U => ?_⟩;rcases jZ.1 hi with h | h
   ·exact Z i u h U
   ·subst h; rw [hv] at U; injection U with U; subst U; exact V)
 ·have he := zjM (p := p) (l := l) fun i u hi => Z i u (by omega)
  apply k8;apply ye;refine yh ?_;refine xU ?_;rw [he];refine zn3.mk (ts := [(4, iv (-1))]) (.inr rfl) (yd) (.one (.tmp rfl (xR rfl)))
def zvD {L : List Nat} {x : AV} (h : x.nm = true) : ok1 L x = true := by
 cases x <;> first | exact h | (simp [AV.nm] at h)
def zsa {μ : List (Nat × Nat)} {x : AV} (h : x.nm = true) : ren1 μ x = x := by
 cases x <;> first | rfl | (simp [AV.nm] at h)
def zny {cs : List AV} (h : AV.nm.nmL cs = true) : ∀ x ∈ cs, x.nm = true := fun x hx => by
 obtain ⟨j, Z⟩ := jP.1 hx;exact zr h Z
def zxX {L : List Nat} {f : FuncId} {caps : List AV} (h : AV.nm.nmL caps = true) : AV.okN L (.fn f caps) = true :=
 jB.2 fun x hx => zvD (zny h x hx)
def zvE {μ : List (Nat × Nat)} {f : FuncId} {caps : List AV} (h : AV.nm.nmL caps = true) : AV.fn f caps = AV.ren μ (.fn f caps) := by
 have : caps.map (ren1 μ) = caps := by
  have Z : caps.map (ren1 μ) = caps.map id := v2 fun x hx => zsa (zny h x hx)
  simpa using Z
 show AV.fn f caps = AV.fn f (caps.map (ren1 μ));rw [this]
def dl (p : Int -> Bool) (l : List Int) : List Int := l.filter fun v => !p v
def zkJ {p : Int -> Bool} {l : List Int} {k : Nat} {v : Int} (h : l[k]? = some v) : dl p (l.take (k + 1)) = dl p (l.take k) ++ (if p v = true then [] else [v]) := by
 have : l.take (k + 1) = l.take k ++ [v] := by rw [jE, h]; rfl
 rw [dl, this, wU];cases Z : p v <;> simp [dl, Z]
def zmA (p : Int -> Bool) (l : List Int) : (fidx p l = -1 /\ dl p l = l) \/ ∃ (k : Nat) (v : Int), fidx p l = (k : Int) /\ l[k]? = some v /\ p v = true /\ dl p (l.take k) = l.take k := by
 unfold fidx;split
 ·rename_i h;refine .inr ⟨l.findIdx p, l[l.findIdx p], rfl, lgg h, List.findIdx_getElem (w := h), ?_⟩;refine vN.2 fun x hx => ?_
  obtain ⟨i, hi⟩ := jP.1 hx;rw [w5] at hi;split at hi
  ·rename_i Z;have := List.not_of_lt_findIdx Z;have V : l[i] = x := (j1.1 hi).2;rw [V] at this;simpa using this
  ·simp at hi
 ·rename_i h;refine .inl ⟨rfl, vN.2 fun x hx => ?_⟩;have U : l.findIdx p = l.length := Nat.le_antisymm List.findIdx_le_length (by omega);have := (u8.1 U) x hx;simpa using this
def zcn (l : List Int) (hl : l.length <= 4000000000) (fp : FuncId) (caps : List AV) (p : Int -> Bool) (H : AV.nm.nmL caps = true) (hp : ∀ v, v ∈ l -> Fn prog fp ([iv v] ++ caps) (.bool (p v))) : FnO prog 232 [.own 2000000, .fn fp caps] [(2000000, .row intE l 3 1)] [] (.own 2000000) [(2000000, .row intE (dl p l) 3 1)] := by
 have Q := zmA p l;refine kQ (ts := [(0, .own 2000000), (1, .fn fp caps)]) (rv := [.tmp 4]) (n := 42) (cs := []) (by kernel_rfl) func232 rfl ntmps232 rfl rfl (by simp) rfl rfl rfl rfl (fun g w d vs => ?_);apply ye;refine ya ?_;apply yE;iterate 2 refine ya ?_
 refine zbs [(2000000, 2000000)] (zcH l hl fp caps p H hp) rfl rfl rfl (.cons (kB _) (.cons (xR (zvE H)) .nil)) (by simp only [vO, List.all_nil, zxX H, Bool.and_true]; rfl) rfl ⟨⟨_, _, rfl, rfl, kA _, rfl⟩, trivial⟩ rfl rfl rfl rfl ?_;refine gd ?_ ?_<;>intro w2
 ·apply ye;refine yL ?_;refine xU ?_;have he := (Q.resolve_right (fun ⟨k, _, h, _⟩ => by omega)).2;have G : l = dl p l := he.symm;refine zn3.mk (ts := [(4, .own 2000000)]) (.inr rfl) (yd) (.one (.tmp rfl (xR rfl)))
 obtain ⟨k0, v0, v9, N, E, xT⟩ := Q.resolve_left (fun h => by omega);have x1 : k0 < l.length := (j1.1 N).1;have J : dl p (l.take (k0 + 1)) = l.take k0 := by rw [zkJ N, j4 E, xT, wE]
 have x4 : (dl p (l.take (k0 + 1))).length = k0 := by rw [J, jM]; omega
 have U : l = dl p (l.take (k0 + 1)) ++ l.drop (dl p (l.take (k0 + 1))).length := by rw [x4, J, w9]
 refine gq ?_
 refine zdW (ι := Nat) (fun (k : Nat) => [(0, .own 2000000), (1, .fn fp caps), (5, iv ((dl p (l.take k)).length : Int)), (6, iv (k : Int))]) (fun (k : Nat) => [(1000001, .hold vs []), (2000000, .row intE (dl p (l.take k) ++ l.drop (dl p (l.take k)).length) 3 1)]) (fun (k : Nat) => k <= l.length /\ (dl p (l.take k)).length < k) (fun (k : Nat) => l.length - k) (k0 + 1) (fun k hk => ?_) (hJ := by exact ⟨by omega, by omega⟩) (h0 := by
  refine kL ⟨⟨_, rfl, kB _⟩, ⟨_, rfl, kB _⟩, ⟨_, rfl, xR (j5 (AV.int .i64) (by omega))⟩, ⟨_, rfl, xR (j5 (AV.int .i64) (by omega))⟩, trivial⟩ ⟨⟨_, rfl, kA _⟩, ⟨_, rfl, kM U⟩, trivial⟩)
 obtain ⟨v8, v5⟩ := hk;have v4 : (dl p (l.take k) ++ l.drop (dl p (l.take k)).length).length = l.length := by simp; omega
 refine gd ?_ ?_<;>intro v3
 ·obtain ⟨v, hv⟩ : ∃ v, l[k]? = some v := ⟨_, lgg (by omega)⟩
  have v1 : (dl p (l.take k) ++ l.drop (dl p (l.take k)).length)[(k : Int).toNat]? = some v := by
   rw [wJ, wO (by omega), wH, show (dl p (l.take k)).length + (k - (dl p (l.take k)).length) = k by omega]; exact hv
  apply yl;apply yg;apply xS;apply ye;iterate 5 refine ya ?_
  apply yE;iterate 2 refine ya ?_
  refine Ex.call rfl rfl (by simpa [AV.nm.nmL, AV.nm] using H) (hp v (j6 hv)) rfl ?_;refine gd ?_ ?_<;>intro I
  ·have Z : dl p (l.take (k + 1)) = dl p (l.take k) ++ [v] := by rw [zkJ hv, j3 (by simp [I])]
   have V : (dl p (l.take (k + 1))).length = (dl p (l.take k)).length + 1 := by rw [Z]; simp
   have T : (dl p (l.take k) ++ l.drop (dl p (l.take k)).length).set (((dl p (l.take k)).length : Nat) : Int).toNat v = dl p (l.take (k + 1)) ++ l.drop (dl p (l.take (k + 1))).length := by
    rw [V, Z, wJ, vF _ _ (jC _), Nat.sub_self];have h9 : (l.drop (dl p (l.take k)).length).set 0 v = v :: l.drop ((dl p (l.take k)).length + 1) := by rw [jG (show (dl p (l.take k)).length < l.length by omega)]; rfl
    rw [h9]; simp
   refine gq ?_
   refine yw (k + 1) (hJ := by
    refine ⟨by omega, ?_⟩;rw [V];omega)
  ·have Z : dl p (l.take (k + 1)) = dl p (l.take k) := by rw [zkJ hv, j4 (by simpa using I), wE]
   have V : (dl p (l.take (k + 1))).length = (dl p (l.take k)).length := by rw [Z]
   have T : dl p (l.take k) ++ l.drop (dl p (l.take k)).length = dl p (l.take (k + 1)) ++ l.drop (dl p (l.take (k + 1))).length := by rw [Z]
   refine gq ?_
   refine yw (k + 1) (hJ := by
    refine ⟨by omega, ?_⟩;rw [V];omega)
 ·have x3 : k = l.length := by omega
  subst x3;have x2 : (((dl p (l.take l.length)).length : Nat) : Int).toNat + ((dl p (l.take l.length) ++ l.drop (dl p (l.take l.length)).length).length - (((dl p (l.take l.length)).length : Nat) : Int).toNat) = (dl p (l.take l.length) ++ l.drop (dl p (l.take l.length)).length).length := by rw [wJ]; omega
  apply k8;apply ye;iterate 2 refine ya ?_
  refine zY (zO rfl rfl rfl sl46 ty3 (by omega) (by omega)) rfl ?_;refine zaO (zsE (0 : Int) rfl rfl (fun _ => rfl) (by decide) sl46 ti3 rfl rfl rfl x2) ?_;refine gq ?_;refine zaO (zwd rfl rfl rfl sl46 ty3 (by omega) (by simp; omega) rfl) ?_;refine yh ?_;refine xU ?_
  have x0 : List.take (((dl p (l.take l.length)).length : Nat) : Int).toNat (List.take (((dl p (l.take l.length)).length : Nat) : Int).toNat (dl p (l.take l.length) ++ l.drop (dl p (l.take l.length)).length) ++ List.replicate ((dl p (l.take l.length) ++ l.drop (dl p (l.take l.length)).length).length - (((dl p (l.take l.length)).length : Nat) : Int).toNat) 0) = dl p l := by
   rw [wJ, wI (by simp), List.take_take, Nat.min_self, wI (jC _), jY (jC _), jY (jC _)]
  refine zn3.mk (ts := [(4, .own 2000000)]) (.inr rfl) (yd) (.one (.tmp rfl (xR rfl)))
end
section
attribute [local irreducible] Pur yu yq Ex X Fn Imp LeV LeB FnO It yD
def coll (p : Int -> Bool) (l : List Int) : List Int := Lib.compact (srtI (dl (fun v => !p v) l))
def zgo (p : Int -> Bool) (l : List Int) : (coll p l).length <= l.length := jQ (Lib.compact_length_le _) (by rw [zgt]; exact wM _ _)
def zhh (p : Int -> Bool) (l : List Int) : (dl p l).length <= l.length := wM _ _
def zfg (fp : FuncId) (p : Int -> Bool) (v : Int) (Z : Fn prog fp [iv v] (.bool (p v))) : Fn prog 234 [iv v, .ept (fun _ : Unit => [.fn fp []]) () 0] (.bool (!p v)) := by
 refine xV func234 ntmps234 (fun g w d => ?_);refine gc Z ?_;all_goals exact zR
def zbz (l : List Int) (hl : l.length <= 4000000000) (fp : FuncId) (p : Int -> Bool) (Z : ∀ v, v ∈ l -> Fn prog fp [iv v] (.bool (p v))) : Fn prog 179 [yc l, .fn fp []] (yc (coll p l)) := by
 refine xV func179 ntmps179 (fun g w d => ?_);apply ye;refine zeL ?_;refine ya ?_;apply yE;refine ya ?_;refine zbs [(5, 6)] (zbB l hl) rfl rfl rfl (kE _) rfl rfl trivial rfl rfl rfl rfl ?_;refine kG (yZ (k := 3) rfl rfl) ?_;refine zY (zfU rfl) rfl ?_;refine zbs [(2000000, 6), (2000002, 8)] (zi2 2000002 (zcn l hl 234 [.ept (fun _ : Unit => [.fn fp []]) () 0] (fun v => !p v) rfl (fun v hv => zfg fp p v (Z v hv))) rfl) rfl rfl rfl (kE _) rfl rfl ⟨⟨_, _, rfl, rfl, kA _, rfl⟩, trivial⟩ rfl rfl rfl rfl ?_;refine ya ?_;apply yE;refine ya ?_;refine zbs [(2000000, 8)] (zea (dl (fun v => !p v) l) (jQ (zhh _ _) hl)) rfl rfl rfl (kE _) rfl rfl ⟨⟨_, _, rfl, rfl, kA _, rfl⟩, trivial⟩ rfl rfl rfl rfl ?_;apply yE;refine ya ?_;refine zbs [(2000000, 8), (2000002, 12)] (zi2 2000002 (zdl (srtI (dl (fun v => !p v) l)) (by rw [zgt]; exact jQ (zhh _ _) hl)) rfl) rfl rfl rfl (kE _) rfl rfl ⟨⟨_, _, rfl, rfl, kA _, rfl⟩, trivial⟩ rfl rfl rfl rfl ?_;refine yh ?_;refine xU ?_;refine xQ (xP (k := 12) rfl) ?_;refine gq ?_;all_goals exact zR
def Mn.aV (m : Mn) (v : Int) : Int := if ckMV m v = 0 then m.ab v else 0
def Mn.pV (m : Mn) (v : Int) : Int := if ckMV m v = 0 then m.p v else 0
def posI (v : Int) : Bool := decide (0 < v)
def mngs (m : Mn) (s : Sg) : List Int :=
 if s.Kind = 2 then coll posI [m.aV s.Value] else if s.Color then [0] else if m.pV s.Value = 3 then coll posI [s.Value, m.aV s.Value] else 0 :: coll posI [m.aV s.Value]
def zbS (v : Int) : Fn prog 178 [iv v] (.bool (posI v)) := by
 refine xV func178 ntmps178 (fun g w d => ?_);refine gq ?_;all_goals exact zR
def zer (m : Mn) (s : Sg) : Fn prog 129 [mnA m, sgA s] (yc (mngs m s)) := by
 refine xV func129 ntmps129 (fun g w d => ?_);refine gc (zgw m s.Value) ?_;refine gc (zdT m s.Value) ?_;refine gd ?_ ?_<;>intro Z
 ·refine gq ?_;refine yz intE [_] ?_;refine ya ?_;refine kG (xP (k := 29) rfl) ?_;refine Ex.call rfl rfl rfl (zbz [m.aV s.Value] (by simp) _ posI (fun v _ => zbS v)) rfl ?_;refine gq ?_;all_goals (simp [mngs, Z])
 refine gd ?_ ?_<;>intro T
 ·apply ye;refine yz intE [_] ?_;refine yh ?_;refine xU ?_;refine xQ (xP (k := 35) rfl) ?_;refine gq ?_;all_goals (simp [mngs, *]; rfl)
 refine gd ?_ ?_<;>intro V
 ·have U : m.pV s.Value = 3 := V;refine gq ?_;refine yz intE [_, _] ?_;refine ya ?_;refine kG (xP (k := 42) rfl) ?_;refine Ex.call rfl rfl rfl (zbz [s.Value, m.aV s.Value] (by simp) _ posI (fun v _ => zbS v)) rfl ?_;refine gq ?_;all_goals (simp [mngs, Z, T, U])
 have U : ¬ m.pV s.Value = 3 := V;have Q : (coll posI [m.aV s.Value]).length <= 1 := zgo _ _;refine gq ?_;refine yz intE [_] ?_;refine gq ?_;refine yz intE [_] ?_;refine ya ?_;refine kG (xP (k := 47) rfl) ?_;refine Ex.call rfl rfl rfl (zbz [m.aV s.Value] (by simp) _ posI (fun v _ => zbS v)) rfl ?_;refine xY ?_;refine yh ?_;refine xU ?_;refine xQ (xP (k := 45) rfl) ?_;refine gq ?_;all_goals (simp [mngs, *]; rfl)
end
section
attribute [local irreducible] Pur yu yq Ex X Fn Imp LeV LeB FnO It yD
def yU (l : List Sg) : Nat -> List Int
 | 0 => []
 | k + 1 => yU l k ++ (match l[k]? with | some s => if s.Kind = 3 then [(k : Int)] else [] | none => [])
def zbT (l : List Sg) : ∀ k, (yU l k).length <= k
 | 0 => jC _
 | k + 1 => by
  have := zbT l k;simp only [yU, jJ];split
  ·split <;> simp <;> omega
  ·simp; omega
def zis (l : List Sg) (hl : l.length <= 1000) : Fn prog 248 [sgsA l] (yc (yU l l.length)) := by
 refine xV func248 ntmps248 (fun g w d => ?_);apply ye;refine ya ?_;apply yE;refine yh ?_;iterate 2 apply yg
 refine xZ (yF intE 3 1 3 3 rfl rfl) ?_;apply yi;refine yy ?_;apply xS;refine zq (fun k => [(3, .own 3), (6, sgsA l), (7, iv l.length), (8, iv (k : Int))]) (fun k => [(3, .row intE (yU l k) 3 1)]) l.length (fun k J => ?_) (h0 := yd);refine gd ?_ ?_<;>intro T
 ·obtain ⟨s, hs⟩ : ∃ s, l[k]? = some s := ⟨_, lgg (by omega)⟩;have Q : l[(k : Int).toNat]? = some s := by simpa using hs
  have N := zbT l k;refine gd ?_ ?_<;>intro V
  ·have Z : yU l k ++ [(k : Int)] = yU l (k + 1) := by simp [yU, hs, V]
   refine gq ?_;refine yz intE [_] ?_;refine gq ?_;refine yw (k + 1)
  ·have Z : yU l k = yU l (k + 1) := by simp [yU, hs, V]
   refine gq ?_;refine yw (k + 1)
 ·have U : k = l.length := by omega
  subst U;apply k8;apply ye;refine yL ?_;refine xU ?_;refine xQ (xP (k := 3) rfl) ?_;refine gq ?_;all_goals exact zR
end
section
attribute [local irreducible] Pur yu yq Ex X Fn Imp LeV LeB FnO It yD
def sgF (m : Mn) (l : List Sg) (k : Nat) (s : Sg) : Int :=
 if s.Kind = 1 \/ s.Kind = 2 then (if 1 <= s.Value /\ s.Value <= 8 then 0 else 2)
 else if s.Kind = 3 then (match k with | 0 => 13 | j + 1 => match l[j]? with | some p => if p.Kind = 3 \/ (mngs m p).length = 0 then 13 else 0 | none => 13)
 else 8
def zan (m : Mn) (l : List Sg) : Nat -> List Sg -> Int
 | _, [] => 0
 | k, s :: r => if sgF m l k s = 0 then zan m l (k + 1) r else sgF m l k s
def ckD (m : Mn) (l : List Sg) : Int := if ckM m = 0 then zan m l 0 l else ckM m
def zdv {m : Mn} {l : List Sg} {k : Nat} {s : Sg} (h : l[k]? = some s) (h0 : sgF m l k s = 0) : zan m l k (l.drop k) = zan m l (k + 1) (l.drop (k + 1)) := by
 have Z : k < l.length := (j1.1 h).1;rw [jG Z];have : l[k] = s := (j1.1 h).2;rw [this]; simp only [zan, h0, if_true]
theorem zbU {m : Mn} {l : List Sg} {k : Nat} {s : Sg} (h : l[k]? = some s) (h0 : sgF m l k s ≠ 0) : zan m l k (l.drop k) = sgF m l k s := by
 have Z : k < l.length := (j1.1 h).1;rw [jG Z];have : l[k] = s := (j1.1 h).2;rw [this]; simp only [zan, j3 h0]
def znz {m : Mn} {l : List Sg} {k : Nat} {s : Sg} (Q : k < l.length) (Z : s.Kind = 3) : sgF m l k s = if ((k : Int) = 0 \/ (l.getD ((k : Int) - 1).toNat default).Kind = 3) \/ ((mngs m (l.getD ((k : Int) - 1).toNat default)).length : Int) = 0 then 13 else 0 := by
 unfold sgF;rw [j3 (by omega), j4 Z];cases k with
 | zero => simp
 | succ j =>
  have e : (((j + 1 : Nat) : Int) - 1).toNat = j := by omega
  have V : l[j]? = some (l.getD j default) := by rw [jA, lgg (by omega)]; rfl
  rw [e]; simp only [V];generalize l.getD j default = p;by_cases U : p.Kind = 3
  ·simp [U]
  ·by_cases T : (mngs m p).length = 0
   ·rw [j4 (.inr T), j4 (.inr (by omega))]
   ·rw [j3 (by omega), j3 (by omega)]
def zb8 (m : Mn) (l : List Sg) (hl : l.length <= 1000) : Fn prog 76 [mnA m, sgsA l] (iv (ckD m l)) := by
 refine xV func76 ntmps76 (fun g w d => ?_);refine gc (zaV m) ?_;refine gd ?_ ?_<;>intro T
 ·refine gq ?_;all_goals (first | rfl | (unfold ckD; rw [j3 T]))
 apply yl;apply yg;apply ye;refine yy ?_;apply xS;refine zX (fun k => [(1, sgsA l), (2, .ptr 2 0 0 0), (13, sgsA l), (14, iv l.length), (15, iv (k : Int))]) (fun k => [(2, .box (mnE m) 23)]) (fun k => k <= l.length /\ ckD m l = zan m l k (l.drop k)) l.length (fun k H => ?_) (hJ := by exact ⟨by omega, by unfold ckD; rw [j4 T]; rfl⟩) (h0 := yd);obtain ⟨G, Z⟩ := H;refine gd ?_ ?_<;>intro E
 ·obtain ⟨s, hs⟩ : ∃ s, l[k]? = some s := ⟨_, lgg (by omega)⟩;have xT : l[(k : Int).toNat]? = some s := by simpa using hs
  refine gd ?_ ?_<;>intro U
  ·refine gd ?_ ?_<;>intro J
   ·apply ye;(iterate 3 refine ya ?_);refine xX 3 ?_;refine ym ?_;(iterate 3 refine xW ?_);refine gf ?_ ?_<;>intro x4
    ·have V : sgF m l k s = 2 := by unfold sgF; rw [j4 (.inl U), j3 (by omega)]
     refine gq ?_;all_goals (rw [Z, zbU hs (by rw [V]; decide), V])
    have h0 : sgF m l k s = 0 := by unfold sgF; rw [j4 (.inl U), j4 (by omega)]
    refine gq ?_;refine yw (k + 1) (hJ := by exact ⟨by omega, by rw [Z, zdv hs h0]⟩)
   ·exact absurd U J
  ·refine gd ?_ ?_<;>intro Q
   ·apply ye;(iterate 3 refine ya ?_);refine xX 3 ?_;refine ym ?_;(iterate 3 refine xW ?_);refine gf ?_ ?_<;>intro x3
    ·have V : sgF m l k s = 2 := by unfold sgF; rw [j4 (.inr Q), j3 (by omega)]
     refine gq ?_;all_goals (rw [Z, zbU hs (by rw [V]; decide), V])
    have h0 : sgF m l k s = 0 := by unfold sgF; rw [j4 (.inr Q), j4 (by omega)]
    refine gq ?_;refine yw (k + 1) (hJ := by exact ⟨by omega, by rw [Z, zdv hs h0]⟩)
   ·refine gd ?_ ?_<;>intro N
    ·apply yg;refine yW [35,36,37,38,39,40,41,42,43,44,45,46,47,48,49,50,51,52,53,54,55,56] [0,1,3,7,7,23,63,127,255,511,1023,2047,4095,4095,4095,20479,61439,126975,262143,524287,1048575,2097151] mo ?_;(iterate 3 refine yb ?_);(iterate 7 refine k6 ?_);(iterate 2 refine yb ?_);(iterate 6 refine k6 ?_);refine kJ (zer m _) ?_;(iterate 2 refine k6 ?_);refine yb ?_;refine yA ?_;refine gd ?_ ?_<;>intro I
     ·have V : sgF m l k s = 13 := by rw [znz (by omega) N, j4 I]
      refine gq ?_;all_goals (rw [Z, zbU hs (by rw [V]; decide), V])
     have h0 : sgF m l k s = 0 := by rw [znz (by omega) N, j3 (fun h => by omega)]
     refine gq ?_;refine yw (k + 1) (hJ := by exact ⟨by omega, by rw [Z, zdv hs h0]⟩)
    ·have V : sgF m l k s = 8 := by unfold sgF; rw [j3 (by omega), j3 (by omega)]
     refine gq ?_;all_goals (rw [Z, zbU hs (by rw [V]; decide), V])
 ·refine gq ?_;all_goals (rw [Z, w4 (by omega)]; rfl)
end
section
attribute [local irreducible] Pur yu yq Ex X Fn Imp LeV LeB FnO It yD
def zas {m : Mn} {l : List Sg} (h : zan m l 0 l = 0) : ∀ k, k <= l.length -> zan m l k (l.drop k) = 0 /\ ∀ i s, i < k -> l[i]? = some s -> sgF m l i s = 0
 | 0, _ => ⟨h, fun i s hi => absurd hi (wN i)⟩
 | k + 1, T => by
  obtain ⟨Z, U⟩ := zas h k (by omega);have hs : l[k]? = some l[k] := lgg (by omega)
  have h0 : sgF m l k l[k] = 0 := by
   by_cases h0 : sgF m l k l[k] = 0
   ·exact h0
   ·rw [zbU hs h0] at Z; exact Z
  refine ⟨by rw [← zdv hs h0]; exact Z, fun i s hi he => ?_⟩;rcases jZ.1 hi with V | V
  ·exact U i s V he
  ·subst V; rw [hs] at he; injection he with he; subst he; exact h0
def zeW {m : Mn} {l : List Sg} (h : zan m l 0 l = 0) : ∀ k, k <= l.length -> ∀ x, x ∈ yU l k -> ∃ (j : Nat) (s p : Sg), x = ((j + 1 : Nat) : Int) /\ l[j + 1]? = some s /\ l[j]? = some p
 | 0, _, x, hx => by simp [yU] at hx
 | k + 1, Z, x, hx => by
  simp only [yU, wG] at hx;rcases hx with hx | hx
  ·exact zeW h k (by omega) x hx
  ·have hs : l[k]? = some l[k] := lgg (by omega);simp only [hs] at hx;split at hx
   ·rename_i V;have h0 := (zas h (k + 1) Z).2 k _ (by omega) hs;simp at hx;cases k with
    | zero => unfold sgF at h0; rw [j3 (by omega), j4 V] at h0; simp at h0
    | succ j => exact ⟨j, _, _, hx, hs, lgg (by omega)⟩
   ·simp at hx
def zes (l : List Sg) (i : Int) : Option Sg := l[(i - 1).toNat]?
def mnAt (m : Mn) (l : List Sg) (i : Int) : List Int := match zes l i with | some p => mngs m p | none => []
def mnsD (m : Mn) (l : List Sg) : List (List Int) := (yU l l.length).map (mnAt m l)
def zoJ {m : Mn} {l : List Sg} {L : List Int} {k : Nat} {x : Int} {p : Sg} (h : L[k]? = some x) (Z : l[(x - 1).toNat]? = some p) : (L.take k).map (mnAt m l) ++ [mngs m p] = (L.take (k + 1)).map (mnAt m l) := by
 have e : mnAt m l x = mngs m p := by unfold mnAt zes; rw [Z]
 rw [jE, h];simp [e]
def C_dot_Meanings (m : Mn) (l : List Sg) (hl : l.length <= 1000) : Fn prog 246 [mnA m, sgsA l] (.tup [zcX (if ckD m l = 0 then mnsD m l else []), iv (ckD m l)]) := by
 refine xV func246 ntmps246 (fun g w d => ?_);refine gc (zb8 m l hl) ?_;refine gd ?_ ?_<;>intro Z
 ·apply ye;refine yy ?_;refine xU ?_;refine xQ (yd (ts := [(4, zcX []), (5, iv (ckD m l))]) (hs := [])) ?_;refine yj ?_ ?_;all_goals (first | (simp [Z]; done) | (rw [j4 Z, ← V]; rfl) | (rw [j3 Z]) | exact zE Z | rfl)
 apply yl;apply ye;refine yh ?_;iterate 2 apply yg
 refine xZ (yF zi9 46 1 7 7 rfl rfl) ?_
 have U : zan m l 0 l = 0 := by unfold ckD at Z; split at Z
                                ·exact Z
                                ·exact absurd Z (by assumption)
 refine gq ?_;refine yM (zis l hl) ?_;refine yL ?_;apply xS;have I := zbT l l.length;refine zq (fun k => [(1, sgsA l), (2, .ptr 2 0 0 0), (7, .own 7), (17, yc (yU l l.length)), (18, iv (yU l l.length).length), (19, iv (k : Int)), (5, iv 0)]) (fun k => [(2, .box (mnE m) 23), (7, .row zi9 (((yU l l.length).take k).map (mnAt m l)) 46 1)]) ((yU l l.length).length) (fun k hk => ?_) (h0 := yd);refine gd ?_ ?_<;>intro H
 ·obtain ⟨x, hx⟩ : ∃ x, (yU l l.length)[k]? = some x := ⟨_, lgg (by omega)⟩;have G : (yU l l.length)[(k : Int).toNat]? = some x := by simpa using hx
  obtain ⟨j, s, p, E, T, Q⟩ := zeW U l.length (jC _) x (j6 hx);have xT : j + 1 < l.length := (j1.1 T).1;have hp : l[(x - 1).toNat]? = some p := by rw [show (x - 1).toNat = j by omega]; exact Q
  have N := zoJ (m := m) hx hp;have x4 : (((yU l l.length).take k).map (mnAt m l)).length <= 1000 := by simp; omega
  refine gq ?_;refine yW [23,24,25,26,27,28,29,30,31] [0,0,0,0,8,28,60,126,254,511,1023] mo ?_;iterate 7 refine yb ?_
  refine yH (zer m _) ?_;refine ChM.step rfl rfl rfl (zM (k := 31) (enc := zi9) (l := [_]) zuM ty46 ze46 (by decide) rfl rfl rfl rfl (by decide) (by decide) (fun _ => rfl) rfl) rfl ?_;refine yA ?_;refine gq ?_;refine yw (k + 1)
 ·have J : k = (yU l l.length).length := by omega
  subst J;have V : ((yU l l.length).take (yU l l.length).length).map (mnAt m l) = mnsD m l := by rw [jH]; rfl
  apply k8;apply ye;refine yy ?_;refine xU ?_;refine xQ (xP (k := 7) rfl) ?_;refine yj ?_ ?_;all_goals (first | (simp [Z]; done) | (rw [j4 Z, ← V]; rfl) | (rw [j3 Z]) | exact zE Z | rfl)
end
section
attribute [local irreducible] Pur yu yq Ex X Fn Imp LeV LeB FnO It yD
def zqb (m : Mn) (s : Sg) : (mngs m s).length <= 2 := by
 unfold mngs;split
 ·exact jQ (zgo _ _) (by simp)
 ·split
  ·simp
  ·split
   ·exact zgo _ _
   ·have := zgo posI [m.aV s.Value]; simp at this ⊢; omega
def zjN {m : Mn} {l : List Sg} {x : List Int} (h : x ∈ mnsD m l) : x.length <= 2 := by
 obtain ⟨i, _, rfl⟩ := jV.1 h;unfold mnAt;split
 ·exact zqb _ _
 ·simp
def zgp (m : Mn) (l : List Sg) : (mnsD m l).length <= l.length := by simpa [mnsD] using zbT l l.length
end
end Go.Rse
