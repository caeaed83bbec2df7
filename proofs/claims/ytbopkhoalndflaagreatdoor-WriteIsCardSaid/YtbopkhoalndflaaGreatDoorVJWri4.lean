/-
  Walks.
-/
import Derived.Test.YtbopkhoalndflaaGreatDoorVJRef9b
set_option linter.all false
namespace Go.Rse
open Go Go.Proofs Go.Proofs.Tryz
def fmV (m : Mn) (b : Bt) (h : Hb) : List (List Sg) := if wcE m [b] = 0 then frV m b h else []
theorem zqj {m : Mn} {l : List Bt} {h : Hb} (c : ¬ wcE m l = 0) : wcnE m l h = wcE m l /\ wcnV m l h = 0 := by
 have e : wcnE m l h = wcE m l := by unfold wcnE; rw [j3 c]
 exact ⟨e, by unfold wcnV; rw [e, j3 c]⟩
def zuo {m : Mn} {l : List Bt} {h : Hb} (c : wcE m l = 0) (c2 : 12 < l.length) : wcnE m l h = 11 /\ wcnV m l h = 0 := by
 have e : wcnE m l h = 11 := by unfold wcnE; rw [j4 c, j4 c2]
 exact ⟨e, by unfold wcnV; rw [e]; rfl⟩
def zqk {m : Mn} {l : List Bt} {h : Hb} (c : wcE m l = 0) (c2 : ¬ 12 < l.length) (c3 : 4096 < cnP m h l) : wcnE m l h = 15 /\ wcnV m l h = 0 := by
 have e : wcnE m l h = 15 := by unfold wcnE; rw [j4 c, j3 c2, j4 c3]
 exact ⟨e, by unfold wcnV; rw [e]; rfl⟩
def znN {m : Mn} {l : List Bt} {h : Hb} (c : wcE m l = 0) (c2 : ¬ 12 < l.length) (c3 : ¬ 4096 < cnP m h l) : wcnE m l h = 0 /\ wcnV m l h = (cnP m h l : Int) := by
 have e : wcnE m l h = 0 := by unfold wcnE; rw [j4 c, j3 c2, j3 c3]
 exact ⟨e, by unfold wcnV; rw [e]; rfl⟩
def zvK {m : Mn} {h : Hb} {l : List Bt} {k : Nat} {b : Bt} (hi : l[k]? = some b) : ((cnP m h (l.take k) : Nat) : Int) * ((frV m b h).length : Int) = ((cnP m h (l.take (k + 1)) : Nat) : Int) := by
 rw [zxO hi]; simp
def zup {m : Mn} {h : Hb} {l : List Bt} {k : Nat} {b : Bt} (hi : l[k]? = some b) : chV m (l.take k) h ++ [frV m b h] = chV m (l.take (k + 1)) h := by
 unfold chV; rw [jE, hi]; simp
theorem zgB (m : Mn) (l : List Bt) (h : Hb) : (chV m l h).length = l.length := by unfold chV; simp
def rsL (l : List Sg) : List Bool := (l.filter fun s => !decide (s.Kind = 3)).map fun s => decide (s.Kind = 2)
def zgC {l : List Sg} {k : Nat} {s : Sg} (h : l[k]? = some s) (Z : s.Kind = 3) : rsL (l.take k) = rsL (l.take (k + 1)) := by
 unfold rsL; rw [jE, h]; simp [Z]
def zg4 {l : List Sg} {k : Nat} {s : Sg} (h : l[k]? = some s) (Z : ¬ s.Kind = 3) : rsL (l.take k) ++ [decide (s.Kind = 2)] = rsL (l.take (k + 1)) := by
 unfold rsL; rw [jE, h]; simp [Z]
def zhR (l : List Sg) : (rsL l).length <= l.length := by
 unfold rsL; rw [jU]; exact wM _ _
def wisE (m : Mn) (l : List Bt) (r : List Sg) : Int := if wcE m l = 0 then ckD m r else wcE m l
def wisB (m : Mn) (l : List Bt) (r : List Sg) : Bool := if wisE m l r = 0 then decide (l.map (·.Rest) = rsL r) && reQ m r (durB l) else false
def zvL {m : Mn} {l : List Bt} {r : List Sg} (c : ¬ wcE m l = 0) : wisE m l r = wcE m l /\ wisB m l r = false := by
 have e : wisE m l r = wcE m l := by unfold wisE; rw [j3 c]
 exact ⟨e, by unfold wisB; rw [e, j3 c]⟩
def zvM {m : Mn} {l : List Bt} {r : List Sg} (c : wcE m l = 0) (c2 : ¬ ckD m r = 0) : wisE m l r = ckD m r /\ wisB m l r = false := by
 have e : wisE m l r = ckD m r := by unfold wisE; rw [j4 c]
 exact ⟨e, by unfold wisB; rw [e, j3 c2]⟩
def zvN {m : Mn} {l : List Bt} {r : List Sg} (c : wcE m l = 0) (c2 : ckD m r = 0) : wisE m l r = 0 /\ wisB m l r = (decide (l.map (·.Rest) = rsL r) && reQ m r (durB l)) := by
 have e : wisE m l r = 0 := by unfold wisE; rw [j4 c, c2]
 exact ⟨e, by unfold wisB; rw [j4 e]⟩
def zx8 {l : List Bt} {R : List Bool} {k : Nat} {b : Bt} {r : Bool} (Z : l[k]? = some b) (hr : R[k]? = some r) (h : (l.take k).map (·.Rest) = R.take k) (e : b.Rest = r) : (l.take (k + 1)).map (·.Rest) = R.take (k + 1) := by
 rw [jE, Z, jE, hr]; simp [h, e]
def zvO {l : List Bt} {R : List Bool} {k : Nat} {b : Bt} {r : Bool} (V : l[k]? = some b) (hr : R[k]? = some r) (e : ¬ b.Rest = r) : ¬ l.map (·.Rest) = R := fun h => by
 have Z : (l.map (·.Rest))[k]? = some b.Rest := by rw [jK, V]; rfl
 rw [h, hr] at Z; injection Z with Z; exact e Z.symm
attribute [local irreducible] Pur yu yq Ex X Fn Imp LeV LeB FnO It yD FnW FnOW FnP FnD
attribute [local irreducible] wcE btF ckT ckM ckD frV wcnE wcnV cnP chV durB rdE rdV rsL wisE wisB
def zfq (m : Mn) (b : Bt) (h : Hb) : Fn prog 67 [mnA m, btA b, hbA h] (.tup [zb7 (fmV m b h), iv (wcE m [b])]) := by
 refine xV func67 ntmps67 (fun g w d => ?_);refine gq ?_;refine kF (yo (enc := btE) (l := [b]) sl24 zgP zkd (by decide) rfl rfl rfl rfl (by decide) (by decide) (fun _ => rfl) rfl) rfl rfl ?_;refine gc (zb1 m [b] (by simp)) ?_;refine gd ?_ ?_<;>intro Z
 ·have V : fmV m b h = [] := by unfold fmV; rw [j3 Z]
  apply ye;refine yy ?_;refine xU ?_;refine xQ (yd (ts := [(6, zb7 []), (7, iv (wcE m [b]))]) (hs := [])) ?_;refine yj ?_ ?_;all_goals (first | exact zE V | rfl)
 have h0 : wcE m [b] = 0 := by omega
 have V : fmV m b h = frV m b h := by unfold fmV; rw [j4 h0]
 refine gc (zdm m b h) ?_;refine yj ?_ ?_;all_goals (first | exact j5 (fun z => zb7 z) V.symm | exact j5 (AV.int .i64) h0.symm)
set_option maxHeartbeats 1000000 in
def zfr (m : Mn) (l : List Bt) (h : Hb) (hl : l.length <= 4000000000) : Fn prog 18 [mnA m, btsA l, hbA h] (.tup [iv (wcnV m l h), iv (wcnE m l h)]) := by
 have E : (1 : Int) = ((cnP m h (l.take 0) : Nat) : Int) := by unfold cnP; rfl
 refine xV func18 ntmps18 (fun g w d => ?_);refine gc (zb1 m l hl) ?_;refine gd ?_ ?_<;>intro T
 ·have N := zqj (h := h) T;obtain ⟨hE, Z⟩ := N;refine gq ?_;refine yj ?_ ?_;all_goals (first | exact zE Z | exact zE hE | (rw [Z, V]; done))
 have h0 : wcE m l = 0 := by omega
 refine gd ?_ ?_<;>intro xT
 ·have J := zuo (h := h) h0 (by omega);obtain ⟨hE, Z⟩ := J;refine gq ?_;refine yj ?_ ?_;all_goals (first | exact zE Z | exact zE hE | (rw [Z, V]; done))
 have U : ¬ 12 < l.length := by omega
 apply yl;apply ye;refine yh ?_;apply yg;apply ye;refine yy ?_;apply xS;refine zq (fun k => [(3, .ptr 3 0 0 0), (5, .ptr 5 0 0 0), (9, iv ((cnP m h (l.take k) : Nat) : Int)), (21, btsA l), (22, iv (l.length : Int)), (23, iv (k : Int))]) (fun k => [(3, .box (mnE m) 23), (5, .box (hbE h) 32)]) l.length (fun k hk => ?_);refine gd ?_ ?_<;>intro x4
 ·obtain ⟨b, G⟩ : ∃ b, l[k]? = some b := ⟨_, lgg (by omega)⟩;have x3 : l[(k : Int).toNat]? = some b := by simpa using G
  have hs := zvK (m := m) (h := h) G;have hq := zvt (m := m) (h := h) (l := l) (by omega) (k + 1);have hf := zgn m b h;refine gc (zdm m b h) ?_;refine yw (k + 1) (hI := yk)
 ·obtain rfl : k = l.length := by omega
  have V : cnP m h (l.take l.length) = cnP m h l := by rw [jH]
  refine gd ?_ ?_<;>intro x2
  ·have I := zqk (h := h) h0 U (by omega);obtain ⟨hE, Z⟩ := I;refine gq ?_;refine yj ?_ ?_;all_goals (first | exact zE Z | exact zE hE | (rw [Z, V]; done))
  have H := znN (h := h) h0 U (by omega);obtain ⟨hE, Z⟩ := H;refine gq ?_;refine yj ?_ ?_;all_goals (first | exact zE Z | exact zE hE | (rw [Z, V]; done))
def zhA (m : Mn) (l : List Bt) (h : Hb) (hl : l.length <= 1000000) : Fn prog 85 [mnA m, btsA l, hbA h] (chsA (chV m l h)) := by
 have V : [] = chV m (l.take 0) h := by unfold chV; rfl
 refine xV func85 ntmps85 (fun g w d => ?_);apply ye;iterate 2 refine zF ?_
 refine ya ?_;apply yE;refine yh ?_;iterate 2 apply yg
 refine xZ (yF zdZ 56 1 7 30 rfl rfl) ?_;apply yi;refine yy ?_;apply xS;refine zq (fun k => [(3, .ptr 3 0 0 0), (5, .ptr 5 0 0 0), (7, .own 30), (10, btsA l), (11, iv (l.length : Int)), (12, iv (k : Int))]) (fun k => [(3, .box (mnE m) 23), (5, .box (hbE h) 32), (30, .row zdZ (chV m (l.take k) h) 56 1)]) l.length (fun k I => ?_);refine gd ?_ ?_<;>intro U
 ·obtain ⟨b, Z⟩ : ∃ b, l[k]? = some b := ⟨_, lgg (by omega)⟩;have T : l[(k : Int).toNat]? = some b := by simpa using Z
  have hs := zup (m := m) (h := h) Z;have N : (chV m (l.take k) h).length <= 1000000 := by rw [zgB, jM]; omega
  refine gq ?_;refine yM (zdm m b h) ?_;refine yz zdZ [frV m b h] ?_;refine gq ?_;refine yw (k + 1) (hI := yk)
 ·obtain rfl : k = l.length := by omega
  have J : chV m (l.take l.length) h = chV m l h := by rw [jH]
  apply k8;apply ye;refine yL ?_;refine xU ?_;refine xQ (xP (k := 30) rfl) ?_;refine gq ?_;all_goals (exact j5 (fun z => chsA z) J)
def zad (l : List Bt) (R : List Bool) (hl : l.length <= 4000000000) : Fn prog 77 [btsA l, zaQ R, .fn 78 []] (.bool (decide (l.map (·.Rest) = R))) := by
 refine xV func77 ntmps77 (fun g w d => ?_);refine gd ?_ ?_<;>intro V
 ·have U : decide (l.map (·.Rest) = R) = false := by rw [jT]; intro e; rw [← e, jU] at V; exact V rfl
  refine gq ?_;all_goals rw [U]
 have N : l.length = R.length := by omega
 apply yl;apply yg;apply ye;refine yy ?_;apply xS;refine zX (fun k => [(1, zaQ R), (2, .fn 78 []), (15, btsA l), (16, iv (l.length : Int)), (17, iv (k : Int))]) (fun k => []) (fun k => k <= l.length /\ (l.take k).map (·.Rest) = R.take k) l.length (fun k I => ?_) (hJ := by exact ⟨by omega, by simp⟩);obtain ⟨H, Z⟩ := I;refine gd ?_ ?_<;>intro G
 ·obtain ⟨b, J⟩ : ∃ b, l[k]? = some b := ⟨_, lgg (by omega)⟩;have E : l[(k : Int).toNat]? = some b := by simpa using J
  obtain ⟨r, hr⟩ : ∃ r, R[k]? = some r := ⟨_, lgg (by omega)⟩;have xT : R[(k : Int).toNat]? = some r := by simpa using hr
  refine gc (zkU b r) ?_;refine gd ?_ ?_<;>intro T
  ·have U : decide (l.map (·.Rest) = R) = false := by rw [jT]; exact zvO J hr (by simpa using T)
   refine gq ?_;all_goals rw [U]
  refine gq ?_;refine yw (k + 1) (hJ := by exact ⟨by omega, zx8 J hr Z (by simpa using T)⟩) (hI := yk)
 ·obtain rfl : k = l.length := by omega
  have U : decide (l.map (·.Rest) = R) = true := by rw [w7]; rw [jH, N, jH] at Z; exact Z
  refine gq ?_;all_goals rw [U]
end Go.Rse
namespace Go.Rse
open Go Go.RowKit Go.Proofs.Tryz
section
section
variable {P : Program} {C : Ctx} {st : St} {ty : TypeId} {Q : Exit -> St -> Prop}
def zlS {α : Type} {enc : α -> List AV} {l : List α} {g : Gh} {a : Act} {w : World} {v : Value} {s : Nat} {ρ : Nat -> Value} (hr : Rel C st g a w) (hv : RV g.I ρ (.sl enc l) v) (hs : 0 < s) (he : ∀ z, (enc z).length = s) :
 ∃ A c news, v = .slice A l.length c /\ l.length <= c /\ news.length = l.length * s /\ RVL g.I noNames (l.flatMap enc) news /\ (l ≠ [] -> ∃ b o, A = some ⟨b, o, none⟩ /\ ∀ j u, news[j]? = some u -> w.cell? ⟨b, o + j, none⟩ = some u) := by
 obtain ⟨A, b, o, s', c, vs, e, hA, U, _, h1, h2, h3⟩ := zcR hv
 have T : l ≠ [] -> s' = s := fun V => by
  cases l with
  | nil => grind
  | cons p r => exact (h1 0 p (by simp)).symm.trans (he p)
 have N : ∀ (i : Nat) x, l[i]? = some x -> (enc x).length = s := fun i x _ => he x
 have Z : ∀ j u, ((List.range (l.length * s)).map fun q => vs (q / s) (q % s))[j]? = some u -> j < l.length * s /\ u = vs (j / s) (j % s) := fun j u E => by
  grind
 refine ⟨A, c, (List.range (l.length * s)).map fun q => vs (q / s) (q % s), e, U, by simp, ⟨by simp [zA l N], fun j c v hc hv => ?_⟩, fun V => ⟨b, o, hA V, fun j u E => ?_⟩⟩
 ·obtain ⟨J, rfl⟩ := Z j v hv;have H : j / s < l.length := uJ (by rw [wT]; exact J);have G : j / s * s + j % s = j := by rw [wT]; exact uU j s
  have xT : j % s < s := vV _ hs;have hp := lgg H
  grind [zdA]
 ·obtain ⟨J, rfl⟩ := Z j u E;have H : j / s < l.length := uJ (by rw [wT]; exact J);have G : j / s * s + j % s = j := by rw [wT]; exact uU j s
  have e2 := T V;subst e2;have := h2 (j / s') _ (j % s') (lgg H) (vV _ hs);have h4 := (hr.sat.im _ _ _ this).1
  grind
def zx9 {c : Code} {α : Type} {enc : α -> List AV} {l : List α} (t kh : Nat) (h : ∀ A n, l.length <= n -> X P C c ⟨(t, .val (.slice A l.length n)) :: st.t, (kh, .hold [.slice A l.length n] [.sl enc l]) :: st.h⟩ Q)
 (hx : lk st.t t = some (.sl enc l) := by exact rfl) : X P C c st Q := fun g a w hr => by
 have hv := hr.tmps t _ hx;obtain ⟨A, b, o, s, n, vs, e, I, T, -⟩ := zcR hv
 have V := hr.withBlk (k := kh) (B := .hold [.slice A l.length n] [.sl enc l]) ⟨rfl, fun j c' v N J => by
  grind⟩
 refine h A n T g a w ⟨V.size, V.defers, fun t' x Z => ?_, V.sat, V.ext⟩;simp only [yn] at Z;cases U : t.beq t' <;> simp [U] at Z
 ·exact V.tmps t' x Z
 ·have : t = t' := by simpa using U
  subst this; subst Z; rw [e]; exact .val _
def zjU {A : Option Addr} {n c : Nat} {x : Operand} {t E : TypeId} (hx : ev st x = some (.val (.slice A n c))) (h : slOk P t E = true) :
 Pur P C (.call { callee := .builtin .len, args := #[x], argTypes := #[t] }) ty st (.int .i64 n) := fun g a w dst pos af gd hr =>
 ⟨_, ze0 h (zbD (yr hr hx)), .int _ _⟩
def zoM (a : Addr) : a.add 0 = a := by rfl
def zvP {A : Option Addr} {n c s : Nat} {x y z : Operand} {t E : TypeId} {ag : Bool} (hx : ev st x = some (.val (.slice A n c))) (V : ev st y = some (.int .i64 n)) (U : ev st z = some (.int .i64 n)) (ht : slOk P t E = true) (hE : tyOk P E ag s = true) (Z : n <= c) :
 Pur P C (.slice t x none (some y) (some z)) ty st (.val (.slice A n n)) := fun g a w dst pos af gd hr => by
 have ex := zbD (yr hr hx);have ey := y8 (yr hr V);have ez := y8 (yr hr U)
 have T : (Instr.sliceBounds true n c none (some (.int .i64 (n : Int))) (some (.int .i64 (n : Int)))).run P w = .ok (0, n, n) w := by
  simp [Instr.sliceBounds, Instr.sliceBound, asIntOf, Z]
 refine ⟨_, ?_, .val _⟩
 have hm : (if n = 0 then A else Option.map (fun x => x.add 0) A) = A := by
  simp [zoM]
 simp [execOp, Instr.sliceAt, Instr.slice, run_underlying (zf ht), ex, ey, ez, T, yY hE, hm]
def zjn {α : Type} {enc : α -> List AV} {l l2 : List α} {A : Option Addr} {c k kh : Nat} {t E : TypeId} {z : Value} {s bytes : Nat} {x y : Operand}
 (hx : ev st x = some (.val (.slice A l.length l.length))) (hh : lk st.h kh = some (.hold [.slice A l.length c] [.sl enc l])) (hy : ev st y = some (.sl enc l2)) (ht : slOk P t E = true) (hi : zU P E z s bytes) (hs : 0 < s) (x0 : bytes <= 1024) (he : ∀ z, (enc z).length = s)
 (h2 : 0 < l2.length) (J : l.length + l2.length <= 4000000000) : yu P C (.call { callee := .builtin .append, args := #[x, y], argTypes := #[t, t] }) ty st (.own k) (some (k, .row enc (l ++ l2) E s)) :=
 zab fun g a w dst pos af gd hr => by
  obtain ⟨i, H, G, U, xT, w2⟩ := hi;have T := zf ht;have ex := zbD (yr hr hx);obtain ⟨A2, c2, news, ey, u1, N, kX, x4⟩ := zlS (s := s) hr (yr hr hy) hs he;obtain ⟨_, hq⟩ := hr.sat.blk kh _ hh;obtain ⟨A1, c1, olds, e1, kZ, V, kW, hold⟩ := zlS (s := s) hr (hq 0 _ _ rfl rfl) hs he;injection e1 with e1 _ _;subst e1;obtain ⟨b2, o2, v9, kV⟩ := x4 (uZ.1 h2);subst v9
  have x3 : (l.length + l2.length) * bytes <= 140737488355328 := by
   have : (l.length + l2.length) * bytes <= 4000000000 * 1024 := xK J x0;omega
  have x2 : ∀ (i : Nat) x, (l ++ l2)[i]? = some x -> (enc x).length = s := fun i x _ => he x
  have v8 : RVL g.I noNames ((l ++ l2).flatMap enc) (olds ++ news) := by grind [RVL]
  have v5 : (olds ++ news).length = (l.length + l2.length) * s := by grind
  have main : ∃ cap, (Builtin.append_ #[t, t] ty #[.slice A l.length l.length, .slice (some ⟨b2, o2, none⟩) l2.length c2]).run P w = .ok (.slice (some ⟨w.heap.size, 0, none⟩) (l.length + l2.length) cap) (w.drew.alloc (.cells (olds.toArray ++ news.toArray ++ Builtin.zeroCells z.cells (cap - (l.length + l2.length))) E)) /\ l.length + l2.length <= cap /\ cap <= maxLen := by
   have v4 : l.length + l2.length <= maxLen := by simp only [maxLen]; omega
   have kU := grownCap_ge w (l.length + l2.length) l.length E;have x1 := grownCap_le_maxLen w (l.length + l2.length) l.length E v4;have Z : ∀ j u, news[j]? = some u -> w.cell? ((⟨b2, o2, none⟩ : Addr).add j) = some u := fun j u T => by grind [zS]
   cases hA : A with
   | none =>
    have v3 : l = [] := by
     cases l with
     | nil => rfl
     | cons p r => obtain ⟨b, o, h, _⟩ := hold (by simp); rw [hA] at h; cases h
    subst v3;have ho : olds = [] := jN (by simpa using V);subst ho;have v1 := run_append_nil (P := P) w t ty E i z T H G ⟨b2, o2, none⟩ l2.length c2 news (by rw [U]; exact N) Z h2 (by omega) (by rw [xT]; simp only [wY, uN] at x3; omega)
    grind
   | some ad =>
    have v0 : ∀ j u, olds[j]? = some u -> w.cell? (ad.add j) = some u := fun j u T => by
     have u3 : l ≠ [] := fun e => by
      subst e;have : olds = [] := jN (by simpa using V);rw [this] at T; simp at T
     obtain ⟨b, o, h, hc⟩ := hold u3;rw [hA] at h; injection h with h; subst h;rw [zS]; exact hc j u T
    have v1 := run_append_grow (P := P) w t ty E i z T H G ad l.length l.length olds (by rw [U]; exact V) v0 ⟨b2, o2, none⟩ l2.length c2 news (by rw [U]; exact N) Z (by omega) (by omega) (growslice_fits (by omega) (by rw [xT]; exact x3))
    grind
  obtain ⟨cap, kY, u2, x1⟩ := main;have hg : Grow w (w.drew.alloc (.cells (olds.toArray ++ news.toArray ++ Builtin.zeroCells z.cells (cap - (l.length + l2.length))) E)) := (Grow.drew w).trans (Grow.alloc _ _);refine ⟨.slice (some ⟨w.heap.size, 0, none⟩) (l.length + l2.length) cap, _, g.nw C.d w.heap.size k (.slice (some ⟨w.heap.size, 0, none⟩) (l.length + l2.length) cap), ?_, Add.nw hg C.d k _, .own k _ _ _ (by simp [Gh.nw]), ImOB.nw ⟨hr.sat.im, hr.sat.ob⟩ hg (by simp) C.d k _, fun k' B hB => ?_⟩
  ·simp_all [execOp, resolve, invoke, builtin]
  ·injection hB with hB; injection hB with e1 e2; subst e1; subst e2;refine ⟨olds ++ news, ?_, x2, zbq x2 v8, fun b hb => ?_⟩
   ·simp only [Gh.nw, if_true, jJ];refine ⟨v5, .inr ⟨w.heap.size, cap, _, rfl, wF _, heap_alloc_new w.drew _, u2, x1, ?_, ?_⟩⟩
    ·simp only [Array.size_append, List.size_toArray, size_zeroCells, w2, V, N, ← Nat.add_mul];congr 1;omega
    grind
   ·simp only [Gh.nw, if_true, y7] at hb;injection hb with hb; subst hb;exact ⟨by simp [Gh.nw], .inl hr.ext.size⟩
end
end
section
def nlA {α : Type} (enc : α -> List AV) : Option (List α) -> AV
 | none => .nils
 | some l => .sl enc l
section
variable {P : Program} {C : Ctx} {st : St} {ty : TypeId} {Q : Exit -> St -> Prop}
def zkV {T E : TypeId} {w : World} (Z : P.underlying T = some (.slice E)) (A : Option Addr) (n c : Nat) : (Op.equal T (.slice A n c) (.slice none 0 0)).run P w = .ok A.isNone w := by
 unfold Op.equal;rw [show Op.maxDepth = 9999 + 1 from rfl];unfold Op.equalIn;cases A <;> simp [run_underlying Z]
def zql {α : Type} {enc : α -> List AV} {o : Option (List α)} {I : Im} {ρ : Nat -> Value} {v : Value} (h : RV I ρ (nlA enc o) v) (Z : ∀ l, o = some l -> l ≠ []) : ∃ A n c, v = .slice A n c /\ A.isNone = !o.isSome := by
 cases o with
 | none => exact ⟨none, 0, 0, zdz h, rfl⟩
 | some l =>
  obtain ⟨A, b, o, s, c, vs, e, V, -⟩ := zcR h;exact ⟨A, _, c, e, by rw [V (Z l rfl)]; rfl⟩
def zvQ {α : Type} {enc : α -> List AV} {o : Option (List α)} {T E : TypeId} {x : Operand} {yt : TypeId} (V : P.underlying T = some (.slice E)) (hx : ev st x = some (nlA enc o)) (Z : ∀ l, o = some l -> l ≠ []) : Pur P C (.binOp .neq T x (.const (.slice none 0 0)) yt) ty st (.bool o.isSome) := fun g a w dst pos af gd hr => by
 obtain ⟨A, n, c, e, h⟩ := zql (yr hr hx) Z;have e0 : a.eval (.const (.slice none 0 0)) = .slice none 0 0 := rfl;refine ⟨.bool o.isSome, ?_, .bool _⟩;have U : (eqGuard .neq T x (.const (.slice none 0 0)) (.slice A n c) (.slice none 0 0)).run P w = .ok () w := by unfold eqGuard; simp
 have N := zkV (P := P) (w := w) V A n c;simp only [execOp, e, e0, jL, U, jD, binOp, N, jO, h, Bool.not_not]
def zya {α : Type} {enc : α -> List AV} {o : Option (List α)} {T E : TypeId} {x : Operand} {yt : TypeId} (V : P.underlying T = some (.slice E)) (hx : ev st x = some (nlA enc o)) (Z : ∀ l, o = some l -> l ≠ []) : Pur P C (.binOp .eql T x (.const (.slice none 0 0)) yt) ty st (.bool (!o.isSome)) := fun g a w dst pos af gd hr => by
 obtain ⟨A, n, c, e, h⟩ := zql (yr hr hx) Z;have e0 : a.eval (.const (.slice none 0 0)) = .slice none 0 0 := rfl;refine ⟨.bool (!o.isSome), ?_, .bool _⟩;have U : (eqGuard .eql T x (.const (.slice none 0 0)) (.slice A n c) (.slice none 0 0)).run P w = .ok () w := by unfold eqGuard; simp
 have N := zkV (P := P) (w := w) V A n c;simp only [execOp, e, e0, jL, U, jD, binOp, N, jO, h]
def zvR {ops : Array Oper} {rest : List Oper} {d : Nat} {pos : String} {af : Array Edge} {α : Type} {enc : α -> List AV} {l : List α} {T E : TypeId} {x : Operand} {yt : TypeId} (h : ∀ b : Bool, (l ≠ [] -> b = false) -> Ex P C ops rest ⟨(d, .bool b) :: st.t, st.h⟩ Q)
 (V : P.underlying T = some (.slice E)) (hx : ev st x = some (.sl enc l) := by exact rfl) (U : dOk C.n (some d) = true := by exact rfl) :
 Ex P C ops ({ dst := some d, op := .binOp .eql T x (.const (.slice none 0 0)) yt, type := ty, pos := pos, after := af, guard := none } :: rest) st Q := fun g a w hr => by
 obtain ⟨A, b, o, s, c, vs, e, N, -⟩ := zcR (yr hr hx);have e0 : a.eval (.const (.slice none 0 0)) = .slice none 0 0 := rfl;have J : (eqGuard .eql T x (.const (.slice none 0 0)) (.slice A l.length c) (.slice none 0 0)).run P w = .ok () w := by unfold eqGuard; simp
 have I := zkV (P := P) (w := w) V A l.length c;refine wpListIn_plain rfl fun K' H => zau ?_
 simp only [wp1, execOp, e, e0, jL, J, jD, binOp, I, jO, zbN];refine H _ _ ?_;exact h A.isNone (fun Z => by rw [N Z]; rfl) _ _ _ (hr.addSt (nb := none) (d := some d) (x := .bool A.isNone) (v := .bool A.isNone) (Add.refl _ g w) U rfl (.bool _) hr.sat.im hr.sat.ob (fun _ _ h => by cases h))
end
end
end Go.Rse
