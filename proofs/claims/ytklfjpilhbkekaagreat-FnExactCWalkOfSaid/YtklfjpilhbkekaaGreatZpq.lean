/- Walks under substitutions and inside terms; nothing is assumed. -/
import Derived.Test.YtklfjpilhbkekaaGreatZpd
import Derived.Test.YtklfjpilhbkekaaGreatZf
import Derived.Test.YtklfjpilhbkekaaGreatZi
set_option linter.all false
namespace Go.Proofs.YtklfjpilhbkekaaGreat
open Go Abx Tm
abbrev y1h (a : q7) (τ : Int -> q7) : Prop := ∀ x, -24 <= x -> x < 0 -> Wf a 1 (τ x)
theorem y7o {a t : q7} {τ : Int -> q7} {k : Nat} (hτ : y1h a τ) (h : Wf a k t) : Wf a k (sub τ t) :=
 h.sub fun x hx h0 => hτ x (h.all x hx).1 h0
theorem j5m {a l r t t' P Q : q7} {i : Nat} (h : Mv a l r t t' i) : Mv a l r (P ++ (t ++ Q)) (P ++ (t' ++ Q)) (P.length + i) := by
 obtain ⟨p, s, σ, rfl, rfl, rfl, h4⟩ := h
 exact ⟨P ++ p, s ++ Q, σ, by simp, by simp, by simp, h4⟩
theorem p6q {s : Sys} (hs : b0q s = true) {j : Nat} (hj : j < s.2.length) : Wf s.1 1 (s.2.getD j default).1 /\ Wf s.1 1 (s.2.getD j default).2 /\ ∀ n ∈ (s.2.getD j default).2, n < 0 -> n ∈ (s.2.getD j default).1 := by
 obtain ⟨_, _, hr⟩ := i1q.1 hs
 obtain ⟨h1, h2, _, h4⟩ := k2c.1 (hr _ (u4 hj))
 exact ⟨(j4.1 h1).2.2.2, (j4.1 h2).2.2.2, h4⟩
theorem n6q {a t : q7} (ha : w7q a = true) (hw : Wf a 1 t) (hl : t.length <= 60) : z8 a t = true := j4.2 ⟨ha, hw.len, hl, hw⟩
abbrev Wlk := q7 × List Stp
def q7t (P Q : q7) (x : Stp) : Stp := ((P.length : Int) + x.1, x.2.1, P ++ (x.2.2 ++ Q))
structure SubF (a : q7) (s : Bd) : Prop where
 len : s.length <= 24
 to : ∀ u ∈ s, u.length <= 60
 wf : y1h a (Tm.sig s)
theorem SubF.get {a : q7} {s : Bd} (h : SubF a s) (i : Nat) : (s.getD i []).length <= 60 := by
 by_cases hi : i < s.length
 ·rw [lgd, List.getElem?_eq_getElem hi]; exact h.to _ (List.getElem_mem hi)
 ·rw [q1i (by omega)]; decide
theorem q9v {a : q7} {s : Bd} {t : q7} (h : SubF a s) (ht : z8 a t = true) : k5q s t = some (c4 (o5q (Tm.sig s) t)) /\ e8 s t = some (c4 (o5q (Tm.sig s) t)) := by
 obtain ⟨_, _, hl, hw⟩ := j4.1 ht
 exact ⟨q7m h.len h.get hl fun x hx => (hw.all x hx).1, q3a h.len h.to hl fun x hx => (hw.all x hx).1⟩
theorem x1v {a t : q7} (ht : z8 a t = true) {i : Int} (h0 : 0 <= i) (h1 : i < t.length) : ∃ p u q, t = p ++ (u ++ q) /\ (p.length : Int) = i /\ Wf a 1 u /\ x7 a t i.toNat = u /\ q7q a t i = some u /\ x2q a t i = some u := by
 obtain ⟨ha, _, hl, hw⟩ := j4.1 ht
 obtain ⟨p, u, q, e, hp, hu⟩ := hw.place (i := i.toNat) (by omega)
 have hi : i = ((i.toNat : Nat) : Int) := by omega
 have hd : t.drop i.toNat = u ++ q := by rw [e, <- hp, List.drop_left]
 refine ⟨p, u, q, e, by omega, hu, ?_, ?_, ?_⟩
 ·rw [<- hp, e]; exact k8o hu
 ·rw [hi]
  exact d3q ha (show t.length < _ by omega) (fun x hx => (hw.all x hx).1) hd hu
 ·rw [hi]
  exact n1q ha (show t.length < _ by omega) hd hu
def q6k (o : Option Wlk) : Wlk × Bool := match o with | some w => (w, true) | none => (([], []), false)
theorem x7f {c d : Prop} [Decidable c] [Decidable d] {w : Wlk} (hc : c) : q6k (if c /\ d then some w else none) = q6k (if d then some w else none) := by
 by_cases hd : d <;> simp [hc, hd]
def j4j (P Q : q7) (w : Wlk) : Option Wlk := if (P ++ (w.1 ++ Q)).length <= 60 /\ ∀ x ∈ w.2, (P ++ (x.2.2 ++ Q)).length <= 60 then some (P ++ (w.1 ++ Q), w.2.map (q7t P Q)) else none
theorem z4y {w : Wlk} {P Q z : q7} {f : Int × List Stp -> Option ((Int × List Stp) ⊕ (Wlk × Bool))}
 (h : ∀ (i : Nat) (out : List Stp) (x : Stp), i < w.2.length -> x ∈ w.2 -> w.2.getD i default = x -> out.length = i ->
  f ((i : Int), out) = some (if (P ++ (x.2.2 ++ Q)).length <= 60 then .inl ((i : Int) + 1, out ++ [q7t P Q x]) else .inr (([], []), false)))
 (he : ∀ out, f ((w.2.length : Int), out) = some (.inr ((z, out), true))) :
 loopC f (0, []) = some (q6k (if ∀ x ∈ w.2, (P ++ (x.2.2 ++ Q)).length <= 60 then some (z, w.2.map (q7t P Q)) else none)) := by
 have key : ∀ (ms : List Stp) (i : Nat) (out : List Stp), w.2.drop i = ms -> i + ms.length = w.2.length -> out.length = i ->
  loopC f ((i : Int), out) = some (q6k (if ∀ x ∈ ms, (P ++ (x.2.2 ++ Q)).length <= 60 then some (z, out ++ ms.map (q7t P Q)) else none)) := by
  intro ms
  induction ms with
  | nil =>
   intro i out hd hl ho
   obtain rfl : i = w.2.length := by simpa using hl
   exact x8 (by rw [he]; simp [q6k])
  | cons x ms ih =>
   intro i out hd hl ho
   simp only [List.length_cons] at hl
   obtain ⟨g1, g2, g3⟩ := n5q hd
   have hs := h i out x g1 (by rw [<- g2]; exact u4 g1) g2 ho
   by_cases hx : (P ++ (x.2.2 ++ Q)).length <= 60
   ·rw [if_pos hx] at hs
    rw [p9 hs, show ((i : Int) + 1) = ((i + 1 : Nat) : Int) by omega, ih (i + 1) _ g3 (by omega) (by simp [ho])]
    simp only [List.mem_cons, forall_eq_or_imp, hx, true_and, List.map_cons, laa, List.singleton_append]
   ·rw [if_neg hx] at hs
    exact x8 (by rw [hs]; simp only [List.mem_cons, forall_eq_or_imp, hx, false_and, if_false]; rfl)
 have := key w.2 0 [] (by simp) (by simp) rfl
 simpa using this
theorem j5w {a p u q v : q7} (hu : Wf a 1 u) : z2u a (p ++ (u ++ q)) p.length v = if (p ++ (v ++ q)).length <= 60 then some (p ++ (v ++ q)) else none := by
 unfold z2u; rw [k6a hu]
theorem h4q {x : Stp} {w0 : q7} {w1 : List Stp} (hx : x.2.2.length <= 60) (hw : w1.length <= 1000) : x5q x w0 w1 = some (w1 ++ [x]) := by
 unfold x5q
 rw [q0x (show x.2.2.length < _ by omega), obz, if_pos (by omega)]
def k5c (o : Option Wlk) : q7 × List Stp × Bool := match o with | some w => (w.1, w.2, true) | none => ([], [], false)
section
variable {s : Sys} {P Q : q7} {k : Nat} {w : Wlk}
end
open Go Abx Tm
theorem z1v {a : List Stp} (h : a.length <= Mx) (ht : ∀ x ∈ a, x.2.2.length <= Mx) : c7q a a = some true := by
 have h1 : a.length <= 1048576 := h
 unfold c7q
 rw [if_neg (by simp)]
 refine k0d (a := a) (fun i hi => ?_) (by simp [n8q])
 have h2 : (a.getD i default).2.2.length <= 1048576 := ht _ (u4 hi)
 simp only [n8q, q1e, show (i : Int) < a.length by omega, decide_true, if_true, show (0 : Int) <= i by omega, and_self, itn, bne_self_eq_false, bft, if_false, q3d (show (a.getD i default).2.2.length < _ by omega), obz, e7 (n := (i : Int) + 1) (by omega) (by omega)]
theorem z4o {w : Wlk} (h0 : w.1.length <= Mx) (h : w.2.length <= Mx) (ht : ∀ x ∈ w.2, x.2.2.length <= Mx) : t6q w w = some true := by
 have h1 : w.1.length <= 1048576 := h0
 unfold t6q
 rw [q3d (show w.1.length < _ by omega), obz, if_pos rfl, z1v h ht, obz, if_pos rfl]
def mS (x : Stp) (k : Int) : Stp × Int := ((k, k + 1, (c5 mI x.2.2 (k + 2)).1), (c5 mI x.2.2 (k + 2)).2)
theorem x7x {x : Stp} {k : Int} (h0 : 0 <= k) (h : x.2.2.length <= Mx) : k + 2 <= (mS x k).2 /\ (mS x k).2 <= k + 1048578 := by
 have h1 : x.2.2.length <= 1048576 := h
 have g1 := k9l (a := x.2.2) (k := k + 2) (by omega)
 simp only [mS]; omega
theorem j1u {a : List Stp} {n : Nat} {k : Int} (hn : n = a.length) (hl : a.length <= Mx) (ht : ∀ x ∈ a, x.2.2.length <= Mx) (h0 : 0 <= k) (hk : k <= 2 * Kx) : z0w n a k = some (c5 mS a k) := by
 subst hn
 have hl' : a.length <= 1048576 := hl
 have hk' : k <= 2 * 1152921504606846976 := hk
 unfold z0w
 refine k9k (g := mS) (fun i k' => 0 <= k' /\ k' <= k + 1048578 * i) (fun i k' b x hi hb hx hg hp => ?_) (fun k' b => by simp [k3h]) ⟨h0, by omega⟩
 obtain ⟨p0, p1⟩ := hp
 have := x7x p0 (ht x hx)
 refine ⟨?_, by omega⟩
 simp only [k3h, show (i : Int) < a.length by omega, show (i : Int) < b.length by omega, decide_true, if_true, show (0 : Int) <= i by omega, and_self, itn, hg, e7 (n := k' + 1) (by omega) (by omega), e7 (n := k' + 2) (by omega) (by omega), show k' + 1 + 1 = k' + 2 by omega,
  q0c rfl (ht x hx) (show 0 <= k' + 2 by omega) (show k' + 2 <= 4 * 1152921504606846976 by omega), obz, e7 (n := (i : Int) + 1) (by omega) (by omega), mS]
theorem heldS {a : List Stp} {k : Int} (hl : a.length <= Mx) (ht : ∀ x ∈ a, x.2.2.length <= Mx) (h0 : 0 <= k) (hk : k <= 2 * Kx) : g5q (c5 mS a k).1 k = some (c5 mS a k).2 := by
 have hl' : a.length <= 1048576 := hl
 have hk' : k <= 2 * 1152921504606846976 := hk
 have hm : (c5 mS a k).1.length = a.length := k0e
 unfold g5q
 refine z2m (g := mS) (fun i k' => 0 <= k' /\ k' <= k + 1048578 * i) (fun i k' x hi hx hg hp => ?_) (fun k' => by simp [m7q, hm]) ⟨h0, by omega⟩
 obtain ⟨p0, p1⟩ := hp
 have hb := x7x p0 (ht x hx)
 have e2 : (c5 mI x.2.2 (k' + 2)).2 = (mS x k').2 := rfl
 refine ⟨?_, by omega⟩
 simp only [m7q, hm, show (i : Int) < a.length by omega, decide_true, if_true, show (0 : Int) <= i by omega, and_self, itn, hg]
 simp only [show (mS x k').1 = (k', k' + 1, (c5 mI x.2.2 (k' + 2)).1) from rfl, bne_self_eq_false, bft, if_false, e7 (n := k' + 1) (by omega) (by omega), e7 (n := k' + 2) (by omega) (by omega), show k' + 1 + 1 = k' + 2 by omega,
  y2i (ht x hx) (show 0 <= k' + 2 by omega) (show k' + 2 <= 4 * 1152921504606846976 by omega), obz, e2, show ¬ (mS x k').2 < 0 by omega, decide_false, e7 (n := (i : Int) + 1) (by omega) (by omega)]
theorem y2r {a : List Stp} {k : Int} (h0 : 0 <= k) (ht : ∀ x ∈ a, x.2.2.length <= Mx) : k <= (c5 mS a k).2 /\ (c5 mS a k).2 <= k + 1048578 * a.length :=
 k5s (g := mS) (B := 1048578) (by decide) h0 fun x hx k hk => by have := x7x hk (ht x hx); omega
theorem j5f {w : Wlk} (h0 : w.1.length <= Mx) (h : w.2.length <= Mx) (ht : ∀ x ∈ w.2, x.2.2.length <= Mx) {k : Int} (k0 : 0 <= k) (k1 : k <= Kx) :
 ∃ m, z0u w.1.length w.2.length w k = some m /\ m.1.1.length = w.1.length /\ m.1.2.length = w.2.length /\ k <= m.2 /\ m.2 <= k + 1152921504606846976 /\ b5q m.1 k = some m.2 := by
 have l0 : w.1.length <= 1048576 := h0
 have l1 : w.2.length <= 1048576 := h
 have k1' : k <= 1152921504606846976 := k1
 have g1 := k9l (a := w.1) (k := k) k0
 have g2 := y2r (a := w.2) (k := (c5 mI w.1 k).2) (by omega) ht
 have a1 := q0c rfl h0 k0 (show k <= 4 * 1152921504606846976 by omega)
 have a2 := j1u (k := (c5 mI w.1 k).2) rfl h ht (by omega) (show (c5 mI w.1 k).2 <= 2 * 1152921504606846976 by omega)
 have b1 := y2i h0 k0 (show k <= 4 * 1152921504606846976 by omega)
 have b2 := heldS (k := (c5 mI w.1 k).2) h ht (by omega) (show (c5 mI w.1 k).2 <= 2 * 1152921504606846976 by omega)
 unfold z0u
 rw [a1, obz, a2, obz]
 refine ⟨_, rfl, k0e, k0e, by show k <= (c5 mS w.2 (c5 mI w.1 k).2).2; omega, by show (c5 mS w.2 (c5 mI w.1 k).2).2 <= _; omega, ?_⟩
 unfold b5q
 show (j2q (c5 mI w.1 k).1 k).bind _ = some (c5 mS w.2 (c5 mI w.1 k).2).2
 rw [b1, obz, if_neg (by simp; omega)]
 show (g5q (c5 mS w.2 (c5 mI w.1 k).2).1 (c5 mI w.1 k).2).bind _ = _
 rw [b2, obz, if_neg (by simp; omega)]
end Go.Proofs.YtklfjpilhbkekaaGreat
