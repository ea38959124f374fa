/- The walk of the unravelled system: both sides come to the same, and the equation of the law FnExactCWalkOf is true at every input; nothing is assumed. -/
import Derived.Test.YtklfjpilhbkekaaGreatZpr
import Derived.Test.YtklfjpilhbkekaaGreatZj
import Derived.Test.YtklfjpilhbkekaaGreatZpd
import Derived.Test.YtklfjpilhbkekaaGreatZpq
import Derived.Test.YtklfjpilhbkekaaGreatZi
set_option linter.all false
namespace Go.Proofs.YtklfjpilhbkekaaGreat
open Go Abx Tm
def r7q : q7 -> List Stp -> q7
 | t, [] => t
 | _, x :: r => r7q x.2.2 r
theorem k3l : ∀ {ms ns : List Stp} {t : q7}, r7q t (ms ++ ns) = r7q (r7q t ms) ns
 | [], _, _ => rfl
 | x :: ms, ns, t => k3l (ms := ms)
theorem z6p {P Q : q7} : ∀ {ms : List Stp} {t : q7}, r7q (P ++ (t ++ Q)) (ms.map (q7t P Q)) = P ++ (r7q t ms ++ Q)
 | [], _ => rfl
 | x :: ms, t => z6p (ms := ms) (t := x.2.2)
theorem q6v (w : Wlk) : k1m (chW w) = r7q w.1 w.2 := by
 rw [x0d]
 have key : ∀ (ms : List Stp) (t : q7), y1w t (ms.map fun s => (s.2.1, s.1, false, s.2.2)) = r7q t ms := by
  intro ms
  induction ms with
  | nil => intro t; rfl
  | cons x ms ih => intro t; exact ih x.2.2
 exact key w.2 w.1
def t5 (P Q : q7) (w : Wlk) (ms : List Stp) : Option Wlk := if w.2.length + ms.length <= 60 /\ ∀ x ∈ ms, (P ++ (x.2.2 ++ Q)).length <= 60 then some (w.1, w.2 ++ ms.map (q7t P Q)) else none
theorem k3m {P Q : q7} {w : Wlk} (h : w.2.length <= 60) : t5 P Q w [] = some w := by
 unfold t5; rw [if_pos ⟨by simpa using h, fun x hx => by cases hx⟩]; simp
theorem q7a {P Q : q7} {w : Wlk} {ms ns : List Stp} : t5 P Q w (ms ++ ns) = (t5 P Q w ms).bind fun w' => t5 P Q w' ns := by
 unfold t5
 by_cases h1 : w.2.length + ms.length <= 60 /\ ∀ x ∈ ms, (P ++ (x.2.2 ++ Q)).length <= 60
 ·rw [if_pos h1, obz]
  by_cases h2 : (w.2 ++ ms.map (q7t P Q)).length + ns.length <= 60 /\ ∀ x ∈ ns, (P ++ (x.2.2 ++ Q)).length <= 60
  ·rw [if_pos h2, if_pos ⟨by have := h2.1; simp at this ⊢; omega, fun x hx => (List.mem_append.1 hx).elim (h1.2 x) (h2.2 x)⟩]
   simp
  ·rw [if_neg h2, if_neg fun h => h2 ⟨by have := h.1; simp at this ⊢; omega, fun x hx => h.2 x (List.mem_append.2 (.inr hx))⟩]
 ·rw [if_neg h1, if_neg fun h => h1 ⟨by have := h.1; simp at this ⊢; omega, fun x hx => h.2 x (List.mem_append.2 (.inl hx))⟩]; rfl
theorem q9u {P Q : q7} {w : Wlk} {x : Stp} {ns : List Stp} : t5 P Q w (x :: ns) = (t5 P Q w [x]).bind fun w' => t5 P Q w' ns := q7a (ms := [x])
theorem z6t {P Q A B : q7} {w : Wlk} {ms : List Stp} : t5 P Q w (ms.map (q7t A B)) = t5 (P ++ A) (B ++ Q) w ms := by
 unfold t5
 have e1 : ∀ x : Stp, P ++ ((q7t A B x).2.2 ++ Q) = (P ++ A) ++ (x.2.2 ++ (B ++ Q)) := fun x => by simp [q7t]
 have e2 : ∀ x : Stp, q7t P Q (q7t A B x) = q7t (P ++ A) (B ++ Q) x := fun x => by
  simp only [q7t, laa, lap]
  refine Prod.ext ?_ rfl
  show (P.length : Int) + ((A.length : Int) + x.1) = ((P.length + A.length : Nat) : Int) + x.1
  omega
 have e3 : (ms.map (q7t A B)).map (q7t P Q) = ms.map (q7t (P ++ A) (B ++ Q)) := by
  rw [List.map_map]; exact List.map_congr_left fun x _ => e2 x
 rw [e3]
 have e4 : (∀ x ∈ ms.map (q7t A B), (P ++ (x.2.2 ++ Q)).length <= 60) ↔ ∀ x ∈ ms, ((P ++ A) ++ (x.2.2 ++ (B ++ Q))).length <= 60 := by
  rw [List.forall_mem_map]
  constructor
  ·intro h x hx; rw [<- e1]; exact h x hx
  ·intro h x hx; rw [e1]; exact h x hx
 by_cases hc : w.2.length + ms.length <= 60 /\ ∀ x ∈ ms, ((P ++ A) ++ (x.2.2 ++ (B ++ Q))).length <= 60
 ·rw [if_pos hc, if_pos ⟨by rw [List.length_map]; exact hc.1, e4.2 hc.2⟩]
 ·rw [if_neg hc, if_neg fun h => hc ⟨by have := h.1; rwa [List.length_map] at this, e4.1 h.2⟩]
theorem q3k {P Q : q7} {w w' : Wlk} {ms : List Stp} (hw : SmW w) (h : t5 P Q w ms = some w') : SmW w' := by
 unfold t5 at h
 split at h
 ·rename_i hc
  cases h
  refine ⟨hw.from', by have := hc.1; simpa using this, fun m hm => ?_⟩
  rcases List.mem_append.1 hm with hm | hm
  ·exact hw.to m hm
  ·obtain ⟨x, hx, rfl⟩ := List.mem_map.1 hm
   exact hc.2 x hx
 ·cases h
theorem q1h {P Q t : q7} {w w' : Wlk} {ms : List Stp} (he : r7q w.1 w.2 = P ++ (t ++ Q)) (h : t5 P Q w ms = some w') : r7q w'.1 w'.2 = P ++ (r7q t ms ++ Q) := by
 unfold t5 at h
 split at h
 ·cases h
  show r7q w.1 (w.2 ++ ms.map (q7t P Q)) = _
  rw [k3l, he, z6p]
 ·cases h
theorem q2k {P Q : q7} {w w' : Wlk} {ms : List Stp} (h : t5 P Q w ms = some w') : w'.1 = w.1 := by
 unfold t5 at h
 split at h
 ·cases h; rfl
 ·cases h
theorem q9t {w : Wlk} (h : SmW w) : (r7q w.1 w.2).length <= 60 := by
 rw [<- q6v]; exact h.ch.end'
theorem k7h {C D x : q7} {w : Wlk} {ms : List Stp} (hx : (C ++ (x ++ D)).length <= 60) :
 t5 C D w ms = (t5 [] [] (x, []) ms).bind fun iw => (j4j C D iw).bind fun pw => if w.2.length + pw.2.length <= 60 then some (w.1, w.2 ++ pw.2) else none := by
 by_cases hc : w.2.length + ms.length <= 60 /\ ∀ y ∈ ms, (C ++ (y.2.2 ++ D)).length <= 60
 ·have h1 : t5 [] [] (x, []) ms = some (x, ms) := by
   unfold t5
   rw [if_pos ⟨by have := hc.1; simp; omega, fun y hy => by have := hc.2 y hy; simp only [lap, List.nil_append, List.append_nil] at this ⊢; omega⟩]
   have : ms.map (q7t [] []) = ms := by
    have e : ∀ y : Stp, q7t [] [] y = y := fun y => by simp [q7t]
    rw [List.map_congr_left fun y _ => e y, List.map_id']
   rw [this]; rfl
  rw [h1, obz]
  unfold j4j
  rw [if_pos ⟨hx, hc.2⟩, obz, if_pos (by rw [List.length_map]; exact hc.1)]
  unfold t5
  rw [if_pos hc]
 ·have e0 : t5 C D w ms = none := by unfold t5; rw [if_neg hc]
  rw [e0]
  cases h1 : t5 [] [] (x, []) ms with
  | none => rfl
  | some iw =>
   unfold t5 at h1
   split at h1
   ·cases h1
    have e : ∀ y : Stp, q7t [] [] y = y := fun y => by simp [q7t]
    have : ms.map (q7t [] []) = ms := by rw [List.map_congr_left fun y _ => e y, List.map_id']
    rw [this, obz]
    unfold j4j
    by_cases h2 : (C ++ (x ++ D)).length <= 60 /\ ∀ y ∈ ([] : List Stp) ++ ms, (C ++ (y.2.2 ++ D)).length <= 60
    ·rw [if_pos h2, obz, if_neg]
     intro h3
     exact hc ⟨by simpa using h3, h2.2⟩
    ·rw [if_neg h2]; rfl
   ·cases h1
theorem z5n {a l r t t' : q7} {i : Nat} (hl : Wf a 1 l) (hv : ∀ n ∈ r, n < 0 -> n ∈ l) (h : Mv a l r t t' i) : j6h a l r t i = if t'.length <= 60 then some t' else none := by
 obtain ⟨p, s, σ, rfl, rfl, rfl, hσ⟩ := h
 have hu : Wf a 1 (sub σ l) := hl.sub fun x _ hx => hσ x hx
 obtain ⟨b, h1, h2, h3, h4⟩ := q3f (σ := σ) (b := j1q) hl (by simp [j1q]) (fun n _ hn => hσ n hn) fun n _ _ => .inl (z1d n)
 have e : sub (Tm.sig b) r = sub σ r := q6u fun n hn h0 => by
  unfold Tm.sig
  rw [h3 n (hv n hn h0) h0, if_neg (hσ n h0).ne]
 unfold j6h
 rw [k8o hu, h1, obz, e, k6a hu]
 by_cases hc : (p ++ (sub σ r ++ s)).length <= 60
 ·rw [if_pos hc, if_pos ⟨by simp only [lap] at hc; omega, hc⟩]
 ·rw [if_neg hc, if_neg fun h => hc h.2]
theorem z8a {s : Sys} (hs : b0q s = true) {P Q t t' : q7} {i rule : Nat} (hr : rule < s.2.length) (h : Mv s.1 (s.2.getD rule default).1 (s.2.getD rule default).2 t t' i) :
 j1c s (P ++ (t ++ Q)) (P.length + i) rule = if (P ++ (t' ++ Q)).length <= 60 then some (P ++ (t' ++ Q)) else none := by
 obtain ⟨h1, h2, h3⟩ := p6q hs hr
 unfold j1c
 exact z5n h1 h3 (j5m h)
theorem y6p {s : Sys} (hs : b0q s = true) {t t' : q7} {i rule : Nat} (hr : rule < s.2.length) (h : Mv s.1 (s.2.getD rule default).1 (s.2.getD rule default).2 t t' i) : i < t.length /\ i < t'.length := by
 obtain ⟨h1, h2, _⟩ := p6q hs hr
 obtain ⟨p, q, σ, rfl, rfl, rfl, hσ⟩ := h
 have l1 := (h1.sub fun x _ hx => hσ x hx : Wf s.1 1 (sub σ _)).len
 have l2 := (h2.sub fun x _ hx => hσ x hx : Wf s.1 1 (sub σ _)).len
 simp only [lap]
 omega
theorem k8x {P Q t' : q7} {w : Wlk} {i : Nat} {rule : Int} : t5 P Q w [((i : Int), rule, t')] = if w.2.length + 1 <= 60 /\ (P ++ (t' ++ Q)).length <= 60 then some (w.1, w.2 ++ [((P.length : Int) + i, rule, P ++ (t' ++ Q))]) else none := by
 unfold t5
 by_cases hc : w.2.length + 1 <= 60 /\ (P ++ (t' ++ Q)).length <= 60
 ·rw [if_pos hc, if_pos ⟨hc.1, fun x hx => by rw [List.mem_singleton.1 hx]; exact hc.2⟩]; rfl
 ·rw [if_neg hc, if_neg fun h => hc ⟨h.1, h.2 _ (List.mem_singleton.2 rfl)⟩]
theorem j1v {s : Sys} (hs : b0q s = true) {P Q t t' : q7} {w : Wlk} {i rule : Nat} (hr : rule < s.2.length) (h : Mv s.1 (s.2.getD rule default).1 (s.2.getD rule default).2 t t' i)
 (hw : SmW w) (he : r7q w.1 w.2 = P ++ (t ++ Q)) (hf : Wf s.1 1 (P ++ (t ++ Q))) :
 j9q s w ((P.length + i : Nat) : Int) rule = some (match t5 P Q w [((i : Int), (rule : Int), t')] with | some w' => (w', true) | none => (w, false)) := by
 have hl := hw.len
 have hlt := (y6p hs hr h).1
 have hel := q9t hw
 rw [he] at hel
 unfold j9q
 by_cases h60 : w.2.length + 1 <= 60
 ·have ht : z8 s.1 (P ++ (t ++ Q)) = true := n6q (i1q.1 hs).1 hf hel
  rw [if_neg (by simp only [decide_eq_true_eq]; omega), q6c hw, obz, q6v, he, k2w hs ht (by simp only [lap]; omega) hr, z8a hs hr h, obz]
  by_cases h1 : (P ++ (t' ++ Q)).length <= 60
  ·have hE := k8x (P := P) (Q := Q) (t' := t') (w := w) (i := i) (rule := (rule : Int))
   rw [if_pos ⟨h60, h1⟩] at hE
   rw [hE, if_pos h1]
   simp only [c4, if_true]
   rw [if_pos (by omega), if_pos (by omega)]
   simp
  ·have hE := k8x (P := P) (Q := Q) (t' := t') (w := w) (i := i) (rule := (rule : Int))
   rw [if_neg fun h => h1 h.2] at hE
   rw [hE, if_neg h1]
   simp [c4]
 ·have hE := k8x (P := P) (Q := Q) (t' := t') (w := w) (i := i) (rule := (rule : Int))
  rw [if_neg fun h => h60 h.1] at hE
  rw [hE, if_pos (by simp only [decide_eq_true_eq]; omega)]
theorem q2u {x : Stp} {w0 : q7} {w1 : List Stp} (hx : x.2.2.length <= 60) (hw : w1.length <= 1000) : v6q x w0 w1 = some (w1 ++ [x]) := by
 unfold v6q
 rw [j3q (show x.2.2.length < _ by omega), obz, if_pos (by omega)]
section
variable {s : Sys} (hs : b0q s = true) {P Q t t' : q7} {w0 : q7} {w1 : List Stp} {i rule : Nat} (hr : rule < s.2.length) (h : Mv s.1 (s.2.getD rule default).1 (s.2.getD rule default).2 t t' i)
 (hw : SmW (w0, w1)) (he : r7q w0 w1 = P ++ (t ++ Q)) (hf : Wf s.1 1 (P ++ (t ++ Q)))
include hs hr h hw he hf
theorem k7y {add : Stp -> q7 -> List Stp -> Option (List Stp)} (hadd : ∀ {x : Stp}, x.2.2.length <= 60 -> add x w0 w1 = some (w1 ++ [x])) :
 ((b8 (w0, w1)).bind fun r => (m6q s r ((P.length + i : Nat) : Int) rule).bind fun r_1 => if r_1.2 = true then if ((w1.length : Int) == 60) = true then some (false, w1) else (add (((P.length + i : Nat) : Int), (rule : Int), r_1.1) w0 w1).bind fun r_2 => some (true, r_2) else some (false, w1)) =
  some (match t5 P Q (w0, w1) [((i : Int), (rule : Int), t')] with | some w' => (true, w'.2) | none => (false, w1)) := by
 have hl := hw.len
 have hlt := (y6p hs hr h).1
 have hel := q9t hw
 simp only at hel hl
 rw [he] at hel
 have ht : z8 s.1 (P ++ (t ++ Q)) = true := n6q (i1q.1 hs).1 hf hel
 have e0 : k1m (chW (w0, w1)) = P ++ (t ++ Q) := by rw [q6v]; exact he
 rw [g8q hw, obz, e0, k6u hs ht (by simp only [lap]; omega) hr, z8a hs hr h, obz]
 have hE := k8x (P := P) (Q := Q) (t' := t') (w := (w0, w1)) (i := i) (rule := (rule : Int))
 by_cases h1 : (P ++ (t' ++ Q)).length <= 60
 ·rw [if_pos h1]
  simp only [c4, if_true]
  by_cases h60 : w1.length + 1 <= 60
  ·rw [if_pos ⟨h60, h1⟩] at hE
   rw [hE, if_neg (by simp; omega), hadd h1]
   simp
  ·rw [if_neg fun h => h60 h.1] at hE
   rw [hE, if_pos (by simp; omega)]
 ·rw [if_neg fun h => h1 h.2] at hE
  rw [hE, if_neg h1]
  simp [c4]
theorem j6g : i5 s ((P.length + i : Nat) : Int) rule w0 w1 = some (match t5 P Q (w0, w1) [((i : Int), (rule : Int), t')] with | some w' => (true, w'.2) | none => (false, w1)) := by
 unfold i5
 exact k7y hs hr h hw he hf fun hx => q2u hx (by have := hw.len; simp only at this; omega)
end
open Go Abx Tm
theorem z3a {a X : q7} : ∀ {t r : q7} {k : Nat}, Tm.skip a t k = some r -> Tm.skip (a ++ X) t k = some r
 | t, r, 0, h => by rw [e0q] at h ⊢; exact h
 | [], r, k + 1, h => by rw [z0f] at h; cases h
 | x :: t, r, k + 1, h => by
  rw [q0l] at h ⊢
  split at h
  ·rename_i hx
   obtain ⟨h1, h2⟩ := hx
   have e : ari (a ++ X) x = ari a x := by
    unfold ari
    split
    ·rfl
    ·rw [lgd, lgd, List.getElem?_append_left (by omega)]
   rw [if_pos (show okx (a ++ X) x from ⟨h1, by simp only [lap]; omega⟩), e]
   exact z3a h
  ·cases h
theorem y0b {a X t : q7} {k : Nat} (h : Wf a k t) : Wf (a ++ X) k t := z3a h
def q3n (cs : CSy) (k : Nat) : Nat := ((cs.2.take k).foldl z0q (cs.1, [])).1.length
theorem z5u : ∀ (rs : List CRl) (acc : Sys), ∃ X Y, rs.foldl z0q acc = (acc.1 ++ X, acc.2 ++ Y)
 | [], acc => ⟨[], [], by simp⟩
 | r :: rs, acc => by
  obtain ⟨X, Y, h⟩ := z5u rs (z0q acc r)
  refine ⟨arV r r.2.2.length ++ X, f5 r acc.1.length ++ Y, ?_⟩
  rw [List.foldl_cons, h]
  simp [z0q]
theorem z3p : ∀ (rs : List CRl) (acc : Sys), (rs.foldl z0q acc).2.length = acc.2.length + (rs.map fun r => 1 + r.2.2.length).sum
 | [], acc => by simp
 | r :: rs, acc => by
  rw [List.foldl_cons, z3p rs]
  simp only [z0q, lap, l6q, List.map_cons, List.sum_cons]
  omega
theorem x5n {cs : CSy} {k : Nat} (hk : k < cs.2.length) : ∃ L X Y, L.length = o6q cs k /\ (f9 cs).2 = L ++ (f5 (cs.2.getD k default) (q3n cs k) ++ Y) /\ (f9 cs).1 = cs.1 ++ X := by
 have hsplit : cs.2 = cs.2.take k ++ (cs.2.getD k default :: cs.2.drop (k + 1)) := by
  rw [y9 hk, List.getElem_cons_drop, List.take_append_drop]
 obtain ⟨X, Y, h⟩ := z5u (cs.2.drop (k + 1)) (z0q ((cs.2.take k).foldl z0q (cs.1, [])) (cs.2.getD k default))
 obtain ⟨X', Y', h'⟩ := z5u cs.2 (cs.1, [])
 refine ⟨((cs.2.take k).foldl z0q (cs.1, [])).2, X', Y, by rw [z3p]; simp [o6q], ?_, by unfold f9; rw [h']⟩
 have e : f9 cs = (cs.2.drop (k + 1)).foldl z0q (z0q ((cs.2.take k).foldl z0q (cs.1, [])) (cs.2.getD k default)) := by
  unfold f9
  conv => lhs; rw [hsplit]
  rw [List.foldl_append, List.foldl_cons]
 rw [e, h]
 simp [z0q, q3n]
theorem i7q {cs : CSy} {k j : Nat} (hk : k < cs.2.length) (hj : j <= (cs.2.getD k default).2.2.length) :
 o6q cs k + j < (f9 cs).2.length /\ (f9 cs).2.getD (o6q cs k + j) default = (f5 (cs.2.getD k default) (q3n cs k)).getD j default := by
 obtain ⟨L, X, Y, h1, h2, _⟩ := x5n hk
 have hl : j < (f5 (cs.2.getD k default) (q3n cs k)).length := by rw [l6q]; omega
 rw [h2]
 refine ⟨by simp only [lap]; omega, ?_⟩
 generalize f5 (cs.2.getD k default) (q3n cs k) = R at hl ⊢
 rw [lgd, lgd, List.getElem?_append_right (by omega), show o6q cs k + j - L.length = j by omega, List.getElem?_append_left hl]
theorem l9q {cs : CSy} {k : Nat} (hk : k < cs.2.length) {t : q7} {n : Nat} (h : Wf cs.1 n t) : Wf (f9 cs).1 n t := by
 obtain ⟨L, X, Y, _, _, h3⟩ := x5n hk
 rw [h3]; exact y0b h
def hvV (r : CRl) (j : Nat) (b : Bd) : q7 := sub (Tm.sig b) ((p8q r j).map fun v => -1 - v)
theorem z3j {σ : Int -> q7} {sym : Int} (h : 0 <= sym) {t vars : q7} : sub σ (q7l sym t vars) = [sym] ++ (sub σ t ++ sub σ (vars.map fun v => -1 - v)) := by
 unfold q7l
 rw [laa, List.singleton_append, q1l, if_neg (by omega), z5p]
def cTr (a : q7) (nf : q7 -> Option q7) (ntr : q7 -> List Stp) (r : CRl) (sym fst : Nat) (A B : q7) : Ty3 -> Nat -> Bd -> List Stp
 | [], _, _ => []
 | c :: ms, j, b => match nf (sub (Tm.sig b) c.1) with
  | none => []
  | some y => match mat a c.2 y b with
   | none => []
   | some b' => (ntr (sub (Tm.sig b) c.1)).map (q7t (A ++ [((sym + j : Nat) : Int)]) (hvV r j b ++ B)) ++
    (((A.length : Int), ((fst + (j + 1) : Nat) : Int), A ++ (sub (Tm.sig b') ((f5 r sym).getD (j + 1) default).2 ++ B)) :: cTr a nf ntr r sym fst A B ms (j + 1) b')
abbrev CTr := q7 -> Nat -> Nat -> List Stp
def k3s (cs : CSy) (st : q2t) (tr : CTr) : Nat -> q7 -> List Stp
 | 0, _ => []
 | n + 1, x => match p9q cs st x with
  | none => []
  | some p => match st x p.1 p.2 with
   | none => []
   | some x' => tr x p.1 p.2 ++ k3s cs st tr n x'
def trO (cs : CSy) (nf : q7 -> Option q7) (ntr : q7 -> List Stp) : CTr := fun u p k =>
 match mat cs.1 (cs.2.getD k default).1 (x7 cs.1 u p) j1q with
 | none => []
 | some b => ((p : Int), ((o6q cs k : Nat) : Int), u.take p ++ (sub (Tm.sig b) ((f5 (cs.2.getD k default) (q3n cs k)).getD 0 default).2 ++ u.drop (p + (x7 cs.1 u p).length))) ::
  cTr cs.1 nf ntr (cs.2.getD k default) (q3n cs k) (o6q cs k) (u.take p) (u.drop (p + (x7 cs.1 u p).length)) (cs.2.getD k default).2.2 0 b
def trD (cs : CSy) : Nat -> CTr
 | 0 => trO cs (fun _ => none) fun _ => []
 | d + 1 => trO cs (q7d cs (stD cs d) 8) (k3s cs (stD cs d) (trD cs d) 8)
theorem x0g {t : q7} {ms ns : List Stp} {x : Stp} : r7q t (ms ++ (x :: ns)) = r7q x.2.2 ns := by rw [k3l]; rfl
theorem q9w {σ : Int -> q7} {t x : q7} (h : o5q σ t = some x) : x = sub σ t /\ x.length <= 60 := by
 unfold o5q at h
 split at h
 ·rename_i hl; cases h; exact ⟨rfl, hl⟩
 ·cases h
theorem j2j {a : q7} {nf : q7 -> Option q7} {ntr : q7 -> List Stp} {r : CRl} {sym fst : Nat} {A B : q7} : ∀ {ms : Ty3} {j : Nat} {b bf : Bd}, j + ms.length = r.2.2.length -> s6q a nf ms b = some bf ->
 r7q (A ++ (sub (Tm.sig b) ((f5 r sym).getD j default).2 ++ B)) (cTr a nf ntr r sym fst A B ms j b) = A ++ (sub (Tm.sig bf) r.2.1 ++ B)
 | [], j, b, bf, hj, h => by
  cases h
  obtain rfl : j = r.2.2.length := by simpa using hj
  rw [cTr, r7q, k6c]
 | c :: ms, j, b, bf, hj, h => by
  rw [s6q] at h
  obtain ⟨x, g1, h'⟩ := Option.bind_eq_some_iff.1 h
  obtain ⟨y, g2, h''⟩ := Option.bind_eq_some_iff.1 h'
  obtain ⟨b2, g3, h3⟩ := Option.bind_eq_some_iff.1 h''
  rw [(q9w g1).1] at g2
  rw [cTr]
  simp only [g2, g3]
  rw [x0g]
  exact j2j (by simp only [List.length_cons] at hj; omega) h3
theorem k8v {cs : CSy} {nf : q7 -> Option q7} {nfo : Option (q7 -> Option q7)} (hn : nfo = some nf ∨ nfo = none) {u u' : q7} {p k : Nat} (h : csO cs nfo u p k = some u') :
 ∃ b bf, mat cs.1 (cs.2.getD k default).1 (x7 cs.1 u p) j1q = some b /\ s6q cs.1 nf (cs.2.getD k default).2.2 b = some bf /\ (nfo = none -> (cs.2.getD k default).2.2 = []) /\
  (sub (Tm.sig bf) (cs.2.getD k default).2.1).length <= 60 /\ u' = j8f cs.1 u p (sub (Tm.sig bf) (cs.2.getD k default).2.1) := by
 unfold csO q9y at h
 obtain ⟨bf, g1, h3⟩ := Option.bind_eq_some_iff.1 h
 obtain ⟨b, h0, h1⟩ := Option.bind_eq_some_iff.1 g1
 obtain ⟨v, h2, h4⟩ := Option.bind_eq_some_iff.1 h3
 obtain ⟨hv1, hv⟩ := q9w h2
 rw [hv1] at hv
 have hp : u' = j8f cs.1 u p (sub (Tm.sig bf) (cs.2.getD k default).2.1) := by
  rw [<- hv1]
  unfold z2u at h4
  split at h4
  ·exact (Option.some.inj h4).symm
  ·cases h4
 by_cases hc : (cs.2.getD k default).2.2 = []
 ·rw [if_pos hc] at h1
  have e := Option.some.inj h1
  exact ⟨b, bf, h0, by rw [hc, s6q, e], fun _ => hc, hv, hp⟩
 ·rw [if_neg hc] at h1
  rcases hn with hn | hn
  ·rw [hn] at h1
   exact ⟨b, bf, h0, h1, (fun h => by rw [h] at hn; cases hn), hv, hp⟩
  ·rw [hn] at h1; cases h1
theorem j6m {cs : CSy} {nf : q7 -> Option q7} {nfo : Option (q7 -> Option q7)} (hn : nfo = some nf ∨ nfo = none) {ntr : q7 -> List Stp} {u u' : q7} {p k : Nat} (h : csO cs nfo u p k = some u') :
 r7q u (trO cs nf ntr u p k) = u' := by
 obtain ⟨b, bf, h0, h1, _, _, rfl⟩ := k8v hn h
 unfold trO
 simp only [h0]
 rw [r7q, j2j (by simp) h1]
 rfl
theorem z5s {cs : CSy} : ∀ {d : Nat} {u u' : q7} {p k : Nat}, stD cs d u p k = some u' -> r7q u (trD cs d u p k) = u'
 | 0, u, u', p, k, h => j6m (.inr rfl) h
 | d + 1, u, u', p, k, h => j6m (.inl rfl) h
theorem k3t {cs : CSy} {st : q2t} {tr : CTr} (ht : ∀ x p k x', st x p k = some x' -> r7q x (tr x p k) = x') : ∀ {n : Nat} {x y : q7}, q7d cs st n x = some y -> r7q x (k3s cs st tr n x) = y
 | 0, x, y, h => by
  rw [q7d] at h
  rw [k3s, r7q]
  split at h
  ·cases h; rfl
  ·cases h
 | n + 1, x, y, h => by
  rw [q7d] at h
  rw [k3s]
  cases hp : p9q cs st x with
  | none => rw [hp] at h; cases h; rfl
  | some p =>
   rw [hp] at h
   obtain ⟨x', h1, h2⟩ := Option.bind_eq_some_iff.1 h
   simp only [h1]
   rw [k3l, ht _ _ _ _ h1]
   exact k3t ht h2
abbrev PlO (ms : List Stp) : Prop := ∀ x ∈ ms, 0 <= x.1 /\ x.1 < x.2.2.length
theorem PlO.ins {ms : List Stp} {P Q : q7} (h : PlO ms) : PlO (ms.map (q7t P Q)) := fun x hx => by
 obtain ⟨y, hy, rfl⟩ := List.mem_map.1 hx
 have := h y hy
 simp only [q7t, lap]
 omega
section
variable {cs : CSy} (hc : p7q cs = true) (hS : b0q (f9 cs) = true)
def y7j (b : Bd) (x : Int) : q7 := if -24 <= x then Tm.sig b x else [-1]
theorem j6d {k : Nat} (hk : k < cs.2.length) {b : Bd} (hg : GdB cs.1 b) : ∀ x, x < 0 -> Wf (f9 cs).1 1 (y7j b x) := fun x hx => by
 unfold y7j
 split
 ·rename_i h; exact l9q hk (hg.sub.wf x h hx)
 ·exact Wf.var
theorem z0d {a t : q7} {n : Nat} {b : Bd} (ht : Wf a n t) : sub (y7j b) t = sub (Tm.sig b) t := q6u fun x hx _ => by
 unfold y7j; rw [if_pos (ht.all x hx).1]
include hS in
theorem k5u {k j : Nat} (hk : k < cs.2.length) (hj : j <= (cs.2.getD k default).2.2.length) {b : Bd} (hg : GdB cs.1 b) {A B : q7} :
 Mv (f9 cs).1 ((f9 cs).2.getD (o6q cs k + j) default).1 ((f9 cs).2.getD (o6q cs k + j) default).2
  (A ++ (sub (Tm.sig b) ((f5 (cs.2.getD k default) (q3n cs k)).getD j default).1 ++ B)) (A ++ (sub (Tm.sig b) ((f5 (cs.2.getD k default) (q3n cs k)).getD j default).2 ++ B)) A.length := by
 obtain ⟨h1, h2⟩ := i7q hk hj
 obtain ⟨w1, w2, _⟩ := p6q hS h1
 refine ⟨A, B, y7j b, rfl, ?_, ?_, j6d hk hg⟩
 ·rw [z0d w1, h2]
 ·rw [z0d w2, h2]
include hS in
theorem z8k {k j : Nat} (hk : k < cs.2.length) (hj : j <= (cs.2.getD k default).2.2.length) {b : Bd} (hg : GdB cs.1 b) : Wf (f9 cs).1 1 (sub (Tm.sig b) ((f5 (cs.2.getD k default) (q3n cs k)).getD j default).2) := by
 obtain ⟨h1, h2⟩ := i7q hk hj
 obtain ⟨w1, w2, _⟩ := p6q hS h1
 rw [h2] at w2
 rw [<- z0d w2]
 exact w2.sub fun x _ hx => j6d hk hg x hx
end
open Go Abx Tm
theorem x7m {a : q7} {r : CRl} (hr : q1g a r = true) {j : Nat} (hj : j < r.2.2.length) {b b' : Bd} (hk : KnB b (q9l r j)) (h2 : ∀ n, n < 0 -> r5 b n ≠ [] -> r5 b' n = r5 b n) : hvV r j b' = hvV r j b := by
 unfold hvV
 refine q6u fun n hn h0 => ?_
 obtain ⟨v, hv, rfl⟩ := List.mem_map.1 hn
 rw [<- z7c hr hj] at hv
 have hm := z5v.1 (List.mem_filter.1 hv).1
 have := hk _ hm.2 h0
 unfold Tm.sig
 rw [h2 _ h0 this]
theorem j8v {r : CRl} {j : Nat} (hj : j < r.2.2.length) : q9l r (j + 1) = q9l r j ++ (r.2.2.getD j default).2 := by
 unfold q9l
 rw [x6q hj, List.flatMap_append]
 simp
theorem z8e {b : Bd} {t : q7} (h : ∀ n ∈ t, n < 0 -> r5 b n ≠ []) : sub (r5 b) t = sub (Tm.sig b) t := q6u fun n hn h0 => by
 unfold Tm.sig; rw [if_neg (h n hn h0)]
theorem z1o {a : q7} {r : CRl} (hr : q1g a r = true) {sym j : Nat} (hj : j < r.2.2.length) {b b' : Bd} {y : q7} (hg : GdB a b) (hk : KnB b (q9l r j)) (hy : z8 a y = true) (hm : mat a (r.2.2.getD j default).2 y b = some b') :
 sub (Tm.sig b) ((f5 r sym).getD j default).2 = [((sym + j : Nat) : Int)] ++ (sub (Tm.sig b) (r.2.2.getD j default).1 ++ hvV r j b) /\
 sub (Tm.sig b') ((f5 r sym).getD (j + 1) default).1 = [((sym + j : Nat) : Int)] ++ (y ++ hvV r j b) /\ GdB a b' /\ KnB b' (q9l r (j + 1)) := by
 obtain ⟨_, _, _, _, h5⟩ := i4.1 hr
 have hcs := s7q h5 _ (u4 hj)
 obtain ⟨e1, e2⟩ := z2w (r := r) (sym := (sym : Int)) hj
 obtain ⟨m1, m2, m3, m4⟩ := q7s hg hcs.2 hy hm
 have ec : (sym : Int) + (j : Int) = ((sym + j : Nat) : Int) := by omega
 refine ⟨?_, ?_, m1, ?_⟩
 ·rw [e1, z3j (by omega), ec]; rfl
 ·rw [e2, z3j (by omega), ec, <- z8e m3, <- m2]
  have := x7m hr hj hk m4
  unfold hvV at this
  rw [this]; rfl
 ·rw [j8v hj]; exact hk.app m3 m4
section
variable {cs : CSy} (hc : p7q cs = true) (hS : b0q (f9 cs) = true)
include hc hS
theorem z1f {k : Nat} (hk : k < cs.2.length) {nf : q7 -> Option q7} {ntr : q7 -> List Stp} (hkeep : ∀ x y, z8 cs.1 x = true -> nf x = some y -> z8 cs.1 y = true) (hn : ∀ x y, z8 cs.1 x = true -> nf x = some y -> PlO (ntr x)) {A B : q7} :
 ∀ {ms : Ty3} {j : Nat} {b bf : Bd}, (cs.2.getD k default).2.2.drop j = ms -> j + ms.length = (cs.2.getD k default).2.2.length -> GdB cs.1 b -> s6q cs.1 nf ms b = some bf -> PlO (cTr cs.1 nf ntr (cs.2.getD k default) (q3n cs k) (o6q cs k) A B ms j b)
 | [], _, _, _, _, _, _, _ => fun x hx => by cases hx
 | c :: ms, j, b, bf, hd, hj, hg, h => by
  simp only [List.length_cons] at hj
  obtain ⟨g1, g2, g3⟩ := n5q hd
  have hrk := (y4q.1 hc).2.2 _ (u4 hk)
  obtain ⟨_, _, _, _, h5⟩ := i4.1 hrk
  have hcs := s7q h5 _ (u4 g1)
  rw [g2] at hcs
  rw [s6q] at h
  obtain ⟨x, e0, h'⟩ := Option.bind_eq_some_iff.1 h
  obtain ⟨y, e1, h''⟩ := Option.bind_eq_some_iff.1 h'
  obtain ⟨b', e2, h3⟩ := Option.bind_eq_some_iff.1 h''
  have hx := q4t hg hcs.1 e0
  obtain ⟨rfl, _⟩ := q9w e0
  intro z hz
  rw [cTr] at hz
  simp only [e1, e2] at hz
  obtain ⟨m1, _, _, _⟩ := q7s hg hcs.2 (hkeep _ _ hx e1) e2
  rcases List.mem_append.1 hz with hz | hz
  ·exact (hn _ _ hx e1).ins z hz
  ·rcases List.mem_cons.1 hz with rfl | hz
   ·have := (z8k hS hk (j := j + 1) (by omega) m1).len
    simp only [lap]; omega
   ·exact z1f hk hkeep hn g3 (by omega) m1 h3 z hz
theorem z3n {nf : q7 -> Option q7} {nfo : Option (q7 -> Option q7)} (hno : nfo = some nf ∨ nfo = none) {ntr : q7 -> List Stp} (hkeep : ∀ x y, z8 cs.1 x = true -> nf x = some y -> z8 cs.1 y = true) (hn : ∀ x y, z8 cs.1 x = true -> nf x = some y -> PlO (ntr x))
 {u u' : q7} {p k : Nat} (hu : z8 cs.1 u = true) (hp : p < u.length) (hk : k < cs.2.length) (h : csO cs nfo u p k = some u') : PlO (trO cs nf ntr u p k) := by
 obtain ⟨b, bf, h0, h1, _, _, _⟩ := k8v hno h
 obtain ⟨ha, _, hl, hw⟩ := j4.1 hu
 have hrk := (y4q.1 hc).2.2 _ (u4 hk)
 obtain ⟨r1, _, _, _, _⟩ := i4.1 hrk
 obtain ⟨A, s, B, e, hA, hs⟩ := hw.place hp
 have hat : x7 cs.1 u p = s := by rw [e, <- hA]; exact k8o hs
 have hsl : s.length <= 60 := by rw [e] at hl; simp at hl; omega
 rw [hat] at h0
 obtain ⟨m1, _, _, _⟩ := q7s q6o r1 (n6q ha hs hsl) h0
 unfold trO
 rw [hat, h0]
 intro z hz
 rcases List.mem_cons.1 hz with rfl | hz
 ·have := (z8k hS hk (j := 0) (by omega) m1).len
  simp only [lap, List.length_take]
  omega
 ·exact z1f hc hS hk hkeep hn (by simp) (by simp) m1 h1 z hz
theorem k7t {st : q2t} {tr : CTr} (hkeep : k1f cs st) (ht : ∀ x p k x', z8 cs.1 x = true -> p < x.length -> k < cs.2.length -> st x p k = some x' -> PlO (tr x p k)) : ∀ {n : Nat} {x y : q7}, z8 cs.1 x = true -> q7d cs st n x = some y -> PlO (k3s cs st tr n x)
 | 0, x, y, _, h => fun z hz => by cases hz
 | n + 1, x, y, hx, h => by
  rw [q7d] at h
  rw [k3s]
  cases hp : p9q cs st x with
  | none => intro z hz; cases hz
  | some p =>
   rw [hp] at h
   obtain ⟨x', h1, h2⟩ := Option.bind_eq_some_iff.1 h
   obtain ⟨p1, p2, _⟩ := l4q hp
   simp only [h1]
   intro z hz
   rcases List.mem_append.1 hz with hz | hz
   ·exact ht _ _ _ _ hx p1 p2 h1 z hz
   ·exact k7t hkeep ht (hkeep _ _ _ _ hx p1 p2 h1) h2 z hz
theorem k6l : ∀ {d : Nat} {u u' : q7} {p k : Nat}, z8 cs.1 u = true -> p < u.length -> k < cs.2.length -> stD cs d u p k = some u' -> PlO (trD cs d u p k)
 | 0, u, u', p, k, hu, hp, hk, h => z3n hc hS (nfo := none) (.inr rfl) (fun _ _ _ h => by cases h) (fun _ _ _ h => by cases h) hu hp hk h
 | d + 1, u, u', p, k, hu, hp, hk, h => z3n hc hS (.inl rfl) (fun x y hx hy => q6s (q7x hc d) hx hy) (fun x y hx hy => k7t hc hS (q7x hc d) (fun x p k x' a1 a2 a3 a4 => k6l a1 a2 a3 a4) hx hy) hu hp hk h
end
open Go Abx Tm
theorem ext0 {x : q7} {ms : List Stp} {iw : Wlk} (h : t5 [] [] (x, []) ms = some iw) : iw = (x, ms) /\ ms.length <= 60 /\ ∀ y ∈ ms, y.2.2.length <= 60 := by
 unfold t5 at h
 split at h
 ·rename_i hc
  cases h
  have e : ∀ y : Stp, q7t [] [] y = y := fun y => by simp [q7t]
  have : ms.map (q7t [] []) = ms := by rw [List.map_congr_left fun y _ => e y, List.map_id']
  rw [this]
  exact ⟨rfl, by simpa using hc.1, fun y hy => by have := hc.2 y hy; simpa using this⟩
 ·cases h
theorem q0w {s : Sys} (hs : b0q s = true) {w : Wlk} {P u Q : q7} (hw : SmW w) (hp : PlO w.2) (hu : Wf s.1 1 u) (ht : z8 s.1 (P ++ (u ++ Q)) = true) :
 v1q s.1 w (P ++ (u ++ Q)) (P.length : Int) = some (q6k (j4j P Q w)) := by
 obtain ⟨ha, _, htl, htw⟩ := j4.1 ht
 have hul := hu.len
 have hl := hw.len
 have hPl : (P ++ (u ++ Q)).length = P.length + (u.length + Q.length) := by simp
 have hm : ∀ x ∈ P ++ (u ++ Q), -24 <= x := fun x hx => (htw.all x hx).1
 unfold v1q j4j
 rw [q1c ha hu hm htl hw.from', obz, j5w hu]
 by_cases h1 : (P ++ (w.1 ++ Q)).length <= 60
 ·rw [if_pos h1, x7f h1]
  simp only [c4, if_true]
  refine z4y (fun i out x hi hx hg ho => ?_) (fun out => by simp [u9q])
  have hx1 := hp x hx
  have hx2 := hw.to x hx
  simp only [u9q, show (i : Int) < w.2.length by omega, decide_true, if_true, show (0 : Int) <= i by omega, and_self, itn, hg, q1c ha hu hm htl hx2, obz, j5w hu, e7 (n := (i : Int) + 1) (by omega) (by omega), show (out.length + 1) * 40 <= 140737488355328 by omega,
   e7 (n := x.1 + (P.length : Int)) (by omega) (by omega)]
  by_cases hq : (P ++ (x.2.2 ++ Q)).length <= 60
  ·simp only [hq, if_true, c4, q7t, Int.add_comm]
  ·simp only [hq, if_false, c4, bft]; rfl
 ·rw [if_neg h1]
  simp only [c4, bft, if_false, h1, false_and]; rfl
section
variable {β : Type} {cs : CSy} {st : q2t} {tr : CTr} {r0 C D : q7} {fail : β}
theorem z7v {f2 : q7 × List Stp -> Option ((q7 × List Stp) ⊕ ((Int × List Stp) ⊕ β))} {K : List Stp -> Option ((Int × List Stp) ⊕ β)} (hkeep : k1f cs st)
 (hend : ∀ x p k x', st x p k = some x' -> r7q x (tr x p k) = x') (hwf : ∀ x, z8 cs.1 x = true -> Wf (f9 cs).1 1 x)
 (hf : ∀ x w1, z8 cs.1 x = true -> SmW (r0, w1) -> r7q r0 w1 = C ++ (x ++ D) -> Wf (f9 cs).1 1 (C ++ (x ++ D)) -> p9q cs st x = none -> f2 (x, w1) = Option.map Sum.inr (K w1))
 (hg : ∀ x w1 p x', z8 cs.1 x = true -> SmW (r0, w1) -> r7q r0 w1 = C ++ (x ++ D) -> Wf (f9 cs).1 1 (C ++ (x ++ D)) -> p9q cs st x = some p -> st x p.1 p.2 = some x' ->
  f2 (x, w1) = some (match t5 C D (r0, w1) (tr x p.1 p.2) with | some w' => .inl (x', w'.2) | none => .inr (.inr fail))) :
 ∀ {n : Nat} {x y : q7} {w1 : List Stp}, q7d cs st n x = some y -> z8 cs.1 x = true -> SmW (r0, w1) -> r7q r0 w1 = C ++ (x ++ D) -> Wf (f9 cs).1 1 (C ++ (x ++ D)) ->
  loopC f2 (x, w1) = match t5 C D (r0, w1) (k3s cs st tr n x) with | some w' => K w'.2 | none => some (.inr fail) := by
 have hnone : ∀ {n : Nat} {x : q7} {w1 : List Stp}, p9q cs st x = none -> z8 cs.1 x = true -> SmW (r0, w1) -> r7q r0 w1 = C ++ (x ++ D) -> Wf (f9 cs).1 1 (C ++ (x ++ D)) ->
  loopC f2 (x, w1) = match t5 C D (r0, w1) (k3s cs st tr n x) with | some w' => K w'.2 | none => some (.inr fail) := by
  intro n x w1 hp hx hw he hwx
  have e : k3s cs st tr n x = [] := by cases n <;> simp [k3s, hp]
  rw [e, k3m hw.len]
  have := hf x w1 hx hw he hwx hp
  cases hk : K w1 with
  | none =>
   rw [hk] at this
   simp only [hk]
   cases hl : loopC f2 (x, w1) with
   | none => rfl
   | some z =>
    obtain ⟨m, hm⟩ := a6q hl
    cases m with
    | zero => cases hm
    | succ m =>
     rcases hm with hm | ⟨_, hm, _⟩
     ·rw [this] at hm; cases hm
     ·rw [this] at hm; cases hm
  | some z =>
   rw [hk] at this
   simp only [hk]
   exact x8 this
 intro n
 induction n with
 | zero =>
  intro x y w1 h hx hw he hwx
  rw [q7d] at h
  cases hp : p9q cs st x with
  | none => exact hnone hp hx hw he hwx
  | some p => rw [hp] at h; cases h
 | succ n ih =>
  intro x y w1 h hx hw he hwx
  rw [q7d] at h
  cases hp : p9q cs st x with
  | none => exact hnone hp hx hw he hwx
  | some p =>
   rw [hp] at h
   obtain ⟨x', h1, h2⟩ := Option.bind_eq_some_iff.1 h
   obtain ⟨p1, p2, _⟩ := l4q hp
   have hx' := hkeep _ _ _ _ hx p1 p2 h1
   have hs := hg x w1 p x' hx hw he hwx hp h1
   rw [k3s, hp]
   simp only [h1]
   rw [q7a]
   cases hxw : t5 C D (r0, w1) (tr x p.1 p.2) with
   | none =>
    rw [hxw] at hs
    exact x8 hs
   | some w' =>
    rw [hxw] at hs
    have hfr := q2k hxw
    have he' := q1h he hxw
    rw [hend _ _ _ _ h1] at he'
    obtain ⟨w0', w1'⟩ := w'
    simp only at hfr
    subst hfr
    rw [p9 hs, obz]
    exact ih h2 hx' (q3k hw hxw) he' (Wf.put (hwf x hx) (hwf x' hx') hwx)
end
section
variable {β : Type} {cs : CSy} (hc : p7q cs = true) (hS : b0q (f9 cs) = true) {k : Nat} (hk : k < cs.2.length) {nf : q7 -> Option q7} {ntr : q7 -> List Stp} {r0 A B : q7} {fail : β} {done : List Stp -> β}
include hc hS hk
theorem z7u {f1 : Int × List Stp -> Option ((Int × List Stp) ⊕ β)} {K : Nat -> List Stp -> Option ((Int × List Stp) ⊕ β)} (hkeep : ∀ x y, z8 cs.1 x = true -> nf x = some y -> z8 cs.1 y = true)
 (hend : ∀ x y, nf x = some y -> r7q x (ntr x) = y) (hlen : 60 ≥ A.length)
 (hf : ∀ (j : Nat) (x y f : q7) (w1 : List Stp) (D : q7), j < (cs.2.getD k default).2.2.length -> f.length = 1 -> z8 cs.1 x = true -> nf x = some y -> SmW (r0, w1) -> r7q r0 w1 = (A ++ f) ++ (x ++ D) -> Wf (f9 cs).1 1 ((A ++ f) ++ (x ++ D)) ->
  f1 ((j : Int), w1) = match t5 (A ++ f) D (r0, w1) (ntr x) with | some w' => K j w'.2 | none => some (.inr fail))
 (hK : ∀ (j : Nat) (w1 : List Stp) (t t' : q7), j < (cs.2.getD k default).2.2.length -> SmW (r0, w1) -> r7q r0 w1 = t -> Wf (f9 cs).1 1 t -> Mv (f9 cs).1 ((f9 cs).2.getD (o6q cs k + (j + 1)) default).1 ((f9 cs).2.getD (o6q cs k + (j + 1)) default).2 t t' A.length ->
  K j w1 = some (match t5 [] [] (r0, w1) [((A.length : Int), ((o6q cs k + (j + 1) : Nat) : Int), t')] with | some w' => .inl (((j + 1 : Nat) : Int), w'.2) | none => .inr fail))
 (hdone : ∀ w1, f1 (((cs.2.getD k default).2.2.length : Int), w1) = some (.inr (done w1))) :
 ∀ {ms : Ty3} {j : Nat} {b bf : Bd} {w1 : List Stp}, (cs.2.getD k default).2.2.drop j = ms -> j + ms.length = (cs.2.getD k default).2.2.length -> GdB cs.1 b -> KnB b (q9l (cs.2.getD k default) j) -> s6q cs.1 nf ms b = some bf -> SmW (r0, w1) ->
  r7q r0 w1 = A ++ (sub (Tm.sig b) ((f5 (cs.2.getD k default) (q3n cs k)).getD j default).2 ++ B) -> Wf (f9 cs).1 1 (A ++ (sub (Tm.sig b) ((f5 (cs.2.getD k default) (q3n cs k)).getD j default).2 ++ B)) ->
  loopC f1 ((j : Int), w1) = some (match t5 [] [] (r0, w1) (cTr cs.1 nf ntr (cs.2.getD k default) (q3n cs k) (o6q cs k) A B ms j b) with | some w' => done w'.2 | none => fail) := by
 intro ms
 induction ms with
 | nil =>
  intro j b bf w1 hd hj hg hkn h hw he hwf
  obtain rfl : j = (cs.2.getD k default).2.2.length := by simpa using hj
  rw [cTr, k3m hw.len]
  exact x8 (hdone w1)
 | cons c ms ih =>
  intro j b bf w1 hd hj hg hkn h hw he hwf
  simp only [List.length_cons] at hj
  obtain ⟨g1, g2, g3⟩ := n5q hd
  have hrk := (y4q.1 hc).2.2 _ (u4 hk)
  obtain ⟨_, _, _, _, h5⟩ := i4.1 hrk
  have hcs := s7q h5 _ (u4 g1)
  rw [g2] at hcs
  rw [s6q] at h
  obtain ⟨x, e0, h'⟩ := Option.bind_eq_some_iff.1 h
  obtain ⟨y, e1, h''⟩ := Option.bind_eq_some_iff.1 h'
  obtain ⟨b', e2, h3⟩ := Option.bind_eq_some_iff.1 h''
  have hx := q4t hg hcs.1 e0
  obtain ⟨rfl, _⟩ := q9w e0
  have hy := hkeep _ _ hx e1
  obtain ⟨q1, q2, q3, q4⟩ := z1o (sym := q3n cs k) hrk g1 hg hkn hy (by rw [g2]; exact e2)
  rw [g2] at q1
  rw [cTr]
  simp only [e1, e2]
  have heq : ∀ z : q7, A ++ (([((q3n cs k + j : Nat) : Int)] ++ (z ++ hvV (cs.2.getD k default) j b)) ++ B) = (A ++ [((q3n cs k + j : Nat) : Int)]) ++ (z ++ (hvV (cs.2.getD k default) j b ++ B)) := fun z => by simp
  rw [q1, heq] at he hwf
  have hF := hf j _ y [((q3n cs k + j : Nat) : Int)] w1 _ g1 rfl hx e1 hw he hwf
  rw [q7a, z6t, List.nil_append, List.append_nil]
  cases hxw : t5 (A ++ [((q3n cs k + j : Nat) : Int)]) (hvV (cs.2.getD k default) j b ++ B) (r0, w1) (ntr (sub (Tm.sig b) c.1)) with
  | none =>
   rw [hxw] at hF
   exact x8 hF
  | some w' =>
   rw [hxw] at hF
   simp only at hF
   have hfr := q2k hxw
   have he' := q1h he hxw
   rw [hend _ _ e1] at he'
   obtain ⟨w0', w1'⟩ := w'
   simp only at hfr
   subst hfr
   have hw' := q3k hw hxw
   have hwy : Wf (f9 cs).1 1 (A ++ [((q3n cs k + j : Nat) : Int)] ++ (y ++ (hvV (cs.2.getD k default) j b ++ B))) := Wf.put (l9q hk (j4.1 hx).2.2.2) (l9q hk (j4.1 hy).2.2.2) hwf
   rw [<- heq, <- q2] at he' hwy
   have hmv := k5u hS hk (j := j + 1) (by omega) q3 (A := A) (B := B)
   have hKK := hK j w1' _ _ g1 hw' he' hwy hmv
   rw [obz, show ∀ (z : Stp) (l : List Stp), z :: l = [z] ++ l from fun _ _ => rfl, q7a]
   rw [hKK] at hF
   cases hst : t5 [] [] (w0', w1') [((A.length : Int), ((o6q cs k + (j + 1) : Nat) : Int), A ++ (sub (Tm.sig b') ((f5 (cs.2.getD k default) (q3n cs k)).getD (j + 1) default).2 ++ B))] with
   | none =>
    rw [hst] at hF
    exact x8 hF
   | some w2 =>
    rw [hst] at hF
    simp only at hF
    have hfr2 := q2k hst
    have he2 := q1h (P := []) (Q := []) (w := (w0', w1')) (by simpa using he') hst
    simp only [r7q, List.nil_append, List.append_nil] at he2
    have hw2 := q3k hw' hst
    obtain ⟨v0, v1⟩ := w2
    simp only at hfr2
    subst hfr2
    rw [p9 hF, obz]
    exact ih g3 (by omega) q3 q4 h3 hw2 he2 (hmv.wf (p6q hS (i7q hk (j := j + 1) (by omega)).1).1 (p6q hS (i7q hk (j := j + 1) (by omega)).1).2.1 hwy)
end
section
variable {cs : CSy} (hc : p7q cs = true) (hS : b0q (f9 cs) = true)
include hc hS
theorem k2h {nf : q7 -> Option q7} {nfo : Option (q7 -> Option q7)} (hno : nfo = some nf ∨ nfo = none) {ntr : q7 -> List Stp} {u u' : q7} {p k : Nat} (hu : z8 cs.1 u = true) (hp : p < u.length) (hk : k < cs.2.length) (h : csO cs nfo u p k = some u') :
 ∃ A s B b bf, u = A ++ (s ++ B) /\ A.length = p /\ Wf cs.1 1 s /\ z8 cs.1 s = true /\ mat cs.1 (cs.2.getD k default).1 s j1q = some b /\ GdB cs.1 b /\ KnB b (q9l (cs.2.getD k default) 0) /\ s6q cs.1 nf (cs.2.getD k default).2.2 b = some bf /\ (nfo = none -> (cs.2.getD k default).2.2 = []) /\
  u = A ++ (sub (Tm.sig b) ((f5 (cs.2.getD k default) (q3n cs k)).getD 0 default).1 ++ B) /\
  trO cs nf ntr u p k = ((A.length : Int), ((o6q cs k + 0 : Nat) : Int), A ++ (sub (Tm.sig b) ((f5 (cs.2.getD k default) (q3n cs k)).getD 0 default).2 ++ B)) :: cTr cs.1 nf ntr (cs.2.getD k default) (q3n cs k) (o6q cs k) A B (cs.2.getD k default).2.2 0 b := by
 obtain ⟨b, bf, h0, h1, h2, _, _⟩ := k8v hno h
 obtain ⟨ha, _, hl, hw⟩ := j4.1 hu
 have hrk := (y4q.1 hc).2.2 _ (u4 hk)
 obtain ⟨r1, _, _, _, _⟩ := i4.1 hrk
 obtain ⟨A, s, B, e, hA, hs⟩ := hw.place hp
 have hat : x7 cs.1 u p = s := by rw [e, <- hA]; exact k8o hs
 have hsl : s.length <= 60 := by rw [e] at hl; simp at hl; omega
 have hso := n6q ha hs hsl
 rw [hat] at h0
 obtain ⟨m1, m2, m3, _⟩ := q7s q6o r1 hso h0
 have hkn : KnB b (q9l (cs.2.getD k default) 0) := by
  intro n hn
  unfold q9l at hn
  exact m3 n (by simpa using hn)
 refine ⟨A, s, B, b, bf, e, hA, hs, hso, h0, m1, hkn, h1, h2, ?_, ?_⟩
 ·show u = A ++ (sub (Tm.sig b) (cs.2.getD k default).1 ++ B)
  rw [<- z8e m3, <- m2]; exact e
 ·have t1 : u.take p = A := by rw [e, <- hA]; exact List.take_left
  have t2 : u.drop (p + s.length) = B := by rw [e, <- hA, <- List.drop_drop, List.drop_left, List.drop_left]
  unfold trO
  rw [hat, h0, t1, t2, hA]; rfl
end
def cwO (cs : CSy) (t : q7) (i k d : Int) : Option Wlk := if (x0f cs t i k d).isSome = true /\ b0q (f9 cs) = true then t5 [] [] (t, []) (trD cs d.toNat t i.toNat k.toNat) else none
theorem k4x {cs : CSy} {t : q7} {i k d : Int} {u : q7} (h : x0f cs t i k d = some u) : p7q cs = true /\ z8 cs.1 t = true /\ (0 <= d /\ d <= 2) /\ (0 <= i /\ i < t.length) /\ (0 <= k /\ k < cs.2.length) /\ stD cs d.toNat t i.toNat k.toNat = some u := by
 unfold x0f at h
 split at h
 ·rename_i hc
  obtain ⟨h1, h2, h3⟩ := hc
  obtain ⟨a1, a2, a3⟩ := k1k.1 h1
  exact ⟨a1, a2, a3, h2, h3, h⟩
 ·cases h
open Go Abx Tm
theorem j6e {s : Sys} (hs : b0q s = true) {t t' : q7} {w0 : q7} {w1 : List Stp} {i rule : Nat} (hr : rule < s.2.length) (h : Mv s.1 (s.2.getD rule default).1 (s.2.getD rule default).2 t t' i)
 (hw : SmW (w0, w1)) (he : r7q w0 w1 = t) (hf : Wf s.1 1 t) : i5 s (i : Int) rule w0 w1 = some (match t5 [] [] (w0, w1) [((i : Int), (rule : Int), t')] with | some w' => (true, w'.2) | none => (false, w1)) := by
 have := j6g (P := []) (Q := []) hs hr h hw (by simpa using he) (by simpa using hf)
 rw [List.length_nil, Nat.zero_add] at this
 exact this
theorem j0v {cs : CSy} {t : q7} {d : Int} : c9 cs t d = n9 i7 cs t d := by
 unfold c9 n9
 congr 1
theorem z2s {cs : CSy} (hc : p7q cs = true) {d : Nat} (hd : d <= 2) {t : q7} (ht : z8 cs.1 t = true) : c9 cs t d = some (k1z cs (stD cs d) t) := by
 rw [j0v]
 exact k3x (y4q.1 hc).2.1 (fun t i k ht hi hk => k0a hc hd ht hi hk) (z3f hc d) ht
theorem z2j {P Q : q7} {w pw : Wlk} (h : j4j P Q w = some pw) : ∀ x ∈ pw.2, x.2.2.length <= 60 := by
 unfold j4j at h
 split at h
 ·rename_i hc
  cases h
  intro x hx
  obtain ⟨y, hy, rfl⟩ := List.mem_map.1 hx
  exact hc.2 y hy
 ·cases h
abbrev y0d := CSy -> Sys -> q7 -> Int -> Int -> Int -> Option (Wlk × Bool)
abbrev j1y (cs : CSy) (d : Int) (st : q2t) : Prop := ∀ x, z8 cs.1 x = true -> c9 cs x (IntKind.i64.wrap (d - 1)) = some (k1z cs st x)
abbrev z1b (cs : CSy) (d : Int) (st : q2t) (tr : CTr) (rec : y0d) : Prop := ∀ (x : q7) (p k : Nat) (x' : q7), z8 cs.1 x = true -> p < x.length -> k < cs.2.length -> st x p k = some x' -> rec cs (f9 cs) x p k (IntKind.i64.wrap (d - 1)) = some (q6k (t5 [] [] (x, []) (tr x p k)))
abbrev PlT (cs : CSy) (st : q2t) (tr : CTr) : Prop := ∀ (x : q7) (p k : Nat) (x' : q7), z8 cs.1 x = true -> p < x.length -> k < cs.2.length -> st x p k = some x' -> PlO (tr x p k)
section
variable {cs : CSy} (hc : p7q cs = true) (hS : b0q (f9 cs) = true) {d : Int} {st : q2t} {tr : CTr} {rec : y0d} {r0 A f D : q7} {k : Nat} (hk : k < cs.2.length)
include hc hS hk
theorem z3t (hpick : j1y cs d st) (hrec : z1b cs d st tr rec) (hpl : PlT cs st tr) (hf1 : f.length = 1) (r1 j : Int) (x : q7) (w1 : List Stp) (p : Nat × Nat) (x' : q7) (hx : z8 cs.1 x = true) (hw : SmW (r0, w1)) (he : r7q r0 w1 = (A ++ f) ++ (x ++ D)) (hwx : Wf (f9 cs).1 1 ((A ++ f) ++ (x ++ D)))
 (hp : p9q cs st x = some p) (h1 : st x p.1 p.2 = some x') :
 o6 rec cs (f9 cs) A.length d r0 r1 j (x, w1) = some (match t5 (A ++ f) D (r0, w1) (tr x p.1 p.2) with | some w' => .inl (x', w'.2) | none => .inr (.inr (([], []), false))) := by
 obtain ⟨p1, p2, _⟩ := l4q hp
 have hel : ((A ++ f) ++ (x ++ D)).length <= 60 := by rw [<- he]; exact q9t hw
 have hAl : A.length + 1 <= 60 := by simp only [lap] at hel; omega
 have hxl := (j4.1 hx).2.2.1
 have e0 : k1m (chW (r0, w1)) = (A ++ f) ++ (x ++ D) := by rw [q6v]; exact he
 have hat : IntKind.i64.wrap ((A.length : Int) + 1) = ((A ++ f).length : Int) := by rw [e7 (by omega) (by omega)]; simp [hf1]
 have hxS := l9q hk (j4.1 hx).2.2.2
 have htS : z8 (f9 cs).1 ((A ++ f) ++ (x ++ D)) = true := n6q (i1q.1 hS).1 hwx hel
 have hl1 := hw.len
 simp only at hl1
 simp only [o6, hpick x hx, obz, k1z, hp, show ¬ (p.1 : Int) < 0 by omega, decide_false, bft, if_false, hrec x p.1 p.2 x' hx p1 p2 h1]
 rw [k7h hel]
 cases hi : t5 [] [] (x, []) (tr x p.1 p.2) with
 | none => simp [q6k]
 | some iw =>
  obtain ⟨rfl, i1, i2⟩ := ext0 hi
  have hiw : SmW (x, tr x p.1 p.2) := ⟨hxl, i1, i2⟩
  simp only [q6k, if_true, g8q hw, e0, obz, hat, q0w hS hiw (hpl x p.1 p.2 x' hx p1 p2 h1) hxS htS]
  cases hin : j4j (A ++ f) D (x, tr x p.1 p.2) with
  | none => simp
  | some pw =>
   have hpw := z2j hin
   have hpl2 : pw.2.length <= 60 := by
    unfold j4j at hin
    split at hin
    ·cases hin; simpa using i1
    ·cases hin
   simp only [if_true, obz, e7 (n := (w1.length : Int) + (pw.2.length : Int)) (by omega) (by omega)]
   by_cases h60 : w1.length + pw.2.length <= 60
   ·rw [if_neg (by simp only [decide_eq_true_eq]; omega), if_pos h60]
    simp only [h1, Option.getD_some]
    refine k3r (mk := fun i (out : List Stp) => (i, out)) (xs := pw.2) (g := id) (out0 := w1) (fun i out y hi hy hg ho => ?_) ?_
    ·simp only [g2q, show (i : Int) < pw.2.length by omega, decide_true, if_true, show (0 : Int) <= i by omega, and_self, itn, hg, q2u (hpw y hy) (show out.length <= 1000 by omega), obz, e7 (n := (i : Int) + 1) (by omega) (by omega), id]
    ·simp [g2q]
   ·rw [if_pos (by simp only [decide_eq_true_eq]; omega), if_neg h60]
    simp
theorem z3s {n : Nat} (hkeep : k1f cs st) (hend : ∀ x p k x', st x p k = some x' -> r7q x (tr x p k) = x') (hpick : j1y cs d st) (hrec : z1b cs d st tr rec) (hpl : PlT cs st tr) (r1 : Int) (j : Nat) (x y : q7) (w1 : List Stp) (hj : j < (cs.2.getD k default).2.2.length) (hf1 : f.length = 1)
 (hx : z8 cs.1 x = true) (hy : q7d cs st n x = some y) (hw : SmW (r0, w1)) (he : r7q r0 w1 = (A ++ f) ++ (x ++ D)) (hwx : Wf (f9 cs).1 1 ((A ++ f) ++ (x ++ D))) :
 b5 rec cs (f9 cs) A.length k d r0 r1 ((j : Int), w1) = match t5 (A ++ f) D (r0, w1) (k3s cs st tr n x) with
  | some w' => (i5 (f9 cs) A.length (IntKind.i64.wrap ((IntKind.i64.wrap (r1 + 1)) + j)) r0 w'.2).bind fun r_7 => if r_7.1 = true then some (.inl ((IntKind.i64.wrap ((j : Int) + 1)), r_7.2)) else some (.inr (([], []), false))
  | none => some (.inr (([], []), false)) := by
 have hel : ((A ++ f) ++ (x ++ D)).length <= 60 := by rw [<- he]; exact q9t hw
 have hAl : A.length + 1 <= 60 := by simp only [lap] at hel; omega
 have e0 : k1m (chW (r0, w1)) = (A ++ f) ++ (x ++ D) := by rw [q6v]; exact he
 have hat : IntKind.i64.wrap ((A.length : Int) + 1) = ((A ++ f).length : Int) := by rw [e7 (by omega) (by omega)]; simp [hf1]
 have hxS := l9q hk (j4.1 hx).2.2.2
 have hsub : q7q (f9 cs).1 ((A ++ f) ++ (x ++ D)) ((A ++ f).length : Int) = some x := d3q (i1q.1 hS).1 (show List.length _ < _ by omega) (fun z hz => (hwx.all z hz).1) List.drop_left hxS
 have hxl := (j4.1 hx).2.2.1
 simp only [b5, itn, show (j : Int) < (cs.2.getD k default).2.2.length by omega, decide_true, if_true, g8q hw, e0, obz, hat, hsub, j3q (show x.length < _ by omega)]
 refine z7v (C := A ++ f) (D := D) (fail := (([], []), false)) (K := fun w1' => (i5 (f9 cs) A.length (IntKind.i64.wrap ((IntKind.i64.wrap (r1 + 1)) + j)) r0 w1').bind fun r_7 => if r_7.1 = true then some (.inl ((IntKind.i64.wrap ((j : Int) + 1)), r_7.2)) else some (.inr (([], []), false)))
  hkeep hend (fun x hx => l9q hk (j4.1 hx).2.2.2) (fun x w1 hx hw he hwx hp => ?_) (fun x w1 p x' hx hw he hwx hp h1 => z3t hc hS hk hpick hrec hpl hf1 r1 j x w1 p x' hx hw he hwx hp h1) hy hx hw he hwx
 simp only [o6, hpick x hx, obz, k1z, hp, show ((-1 : Int) < 0) by decide, decide_true, if_true]
 congr 1
end
open Go Abx Tm
abbrev LeW (f g : y0d) : Prop := ∀ cs sys t i k d, Le (f cs sys t i k d) (g cs sys t i k d)
theorem z0l {f g : y0d} (h : LeW f g) (cs : CSy) (sys : Sys) (i d : Int) (r : q7) (a b : Int) (s : q7 × List Stp) : Le (loopC (o6 f cs sys i d r a b) s) (loopC (o6 g cs sys i d r a b) s) := by
 refine Le.loop (fun s => ?_) _
 obtain ⟨u, w⟩ := s
 unfold o6
 exact Le.bind (Le.refl _) fun _ => Le.ite (fun _ => Le.refl _) fun _ => Le.bind (h _ _ _ _ _ _) fun _ => Le.refl _
theorem z0k {f g : y0d} (h : LeW f g) (cs : CSy) (sys : Sys) (i k d : Int) (r : q7) (a : Int) (s : Int × List Stp) : Le (loopC (b5 f cs sys i k d r a) s) (loopC (b5 g cs sys i k d r a) s) := by
 refine Le.loop (fun s => ?_) _
 obtain ⟨u, w⟩ := s
 unfold b5
 exact Le.ite (fun _ => Le.bind (Le.refl _) fun _ => Le.bind (Le.refl _) fun _ => Le.bind (Le.refl _) fun _ => z0l h _ _ _ _ _ _ _ _) fun _ => Le.refl _
theorem k8e : ∀ n, LeW (u6 n) (u6 (n + 1))
 | 0 => fun cs sys t i k d => by rw [u6]; exact Le.none _
 | n + 1 => fun cs sys t i k d => by
  rw [u6, u6]
  exact Le.ite (fun _ => Le.bind (Le.refl _) fun _ => Le.bind (Le.refl _) fun _ => Le.bind (Le.refl _) fun _ => Le.ite (fun _ => z0k (k8e n) _ _ _ _ _ _ _ _) fun _ => Le.refl _) fun _ => Le.refl _
section
variable {cs : CSy} (hc : p7q cs = true) (hS : b0q (f9 cs) = true)
include hc hS
abbrev InnW (cs : CSy) (d : Int) (nf : q7 -> Option q7) (ntr : q7 -> List Stp) (rec : y0d) : Prop :=
 ∃ st tr, nf = q7d cs st 8 /\ ntr = k3s cs st tr 8 /\ k1f cs st /\ (∀ x p k x', st x p k = some x' -> r7q x (tr x p k) = x') /\ j1y cs d st /\ z1b cs d st tr rec /\ PlT cs st tr
theorem z3r {fu : Nat} {d : Int} {nf : q7 -> Option q7} {nfo : Option (q7 -> Option q7)} {ntr : q7 -> List Stp} (hcase : (nfo = none /\ nf = fun _ => none) ∨ (nfo = some nf /\ InnW cs d nf ntr (u6 fu)))
 {u u' : q7} {p k : Nat} (hu : z8 cs.1 u = true) (hp : p < u.length) (hk : k < cs.2.length) (h : csO cs nfo u p k = some u') :
 u6 (fu + 1) cs (f9 cs) u p k d = some (q6k (t5 [] [] (u, []) (trO cs nf ntr u p k))) := by
 have hno : nfo = some nf ∨ nfo = none := hcase.elim (fun h => .inr h.1) fun h => .inl h.1
 obtain ⟨A, s, B, b, bf, e, hA, hs, hso, h0, hg, hkn, h1, h2, e2, e3⟩ := k2h hc hS hno (ntr := ntr) hu hp hk h
 obtain ⟨ha, _, hl, hwf⟩ := j4.1 hu
 obtain ⟨ha', hn, hrs⟩ := y4q.1 hc
 have h22 : ∀ r ∈ cs.2, r.2.2.length <= 2 := fun r hr => (i4.1 (hrs r hr)).2.2.2.1
 have hfst := k1s hn h22 k
 have hrl := h22 _ (u4 hk)
 have hr0 := i7q hk (j := 0) (by omega)
 have hmv := k5u hS hk (j := 0) (by omega) hg (A := A) (B := B)
 have hw0 : SmW (u, ([] : List Stp)) := ⟨hl, by simp, fun m hm => by cases hm⟩
 have hwS : Wf (f9 cs).1 1 (A ++ (sub (Tm.sig b) ((f5 (cs.2.getD k default) (q3n cs k)).getD 0 default).1 ++ B)) := by rw [<- e2]; exact l9q hk hwf
 have hst := j6e hS hr0.1 hmv hw0 e2 hwS
 have hA1 : 60 ≥ A.length := by omega
 rw [u6, if_pos (by omega), j3q (show u.length < _ by omega), obz, q1w hc hk, obz, e3, q9u]
 rw [hA, Nat.add_zero] at hst
 rw [hst, obz, hA, Nat.add_zero]
 cases hx : t5 [] [] (u, []) [((p : Int), (o6q cs k : Int), A ++ (sub (Tm.sig b) ((f5 (cs.2.getD k default) (q3n cs k)).getD 0 default).2 ++ B))] with
 | none => simp [q6k]
 | some w' =>
  have hfr := q2k hx
  have he' := q1h (P := []) (Q := []) (t := u) (w := (u, [])) (by simp [r7q]) hx
  simp only [r7q, List.nil_append, List.append_nil] at he'
  have hw' := q3k hw0 hx
  obtain ⟨v0, w1⟩ := w'
  simp only at hfr
  subst hfr
  simp only [if_true, obz]
  rw [<- hA]
  have hlast := z7u hc hS hk (nf := nf) (ntr := ntr) (r0 := v0) (A := A) (B := B) (fail := ((([], []), false) : Wlk × Bool)) (done := fun w1 => ((v0, w1), true))
   (f1 := b5 (u6 fu) cs (f9 cs) A.length k d v0 (o6q cs k))
   (K := fun j w1' => (i5 (f9 cs) A.length (IntKind.i64.wrap ((IntKind.i64.wrap ((o6q cs k : Int) + 1)) + j)) v0 w1').bind fun r_7 => if r_7.1 = true then some (.inl ((IntKind.i64.wrap ((j : Int) + 1)), r_7.2)) else some (.inr (([], []), false)))
   (fun x y hx hy => by
    rcases hcase with ⟨hc1, hc2⟩ | ⟨hc1, st, tr, rfl, rfl, k1, k2, k3, k4, k5⟩
    ·rw [hc2] at hy; cases hy
    ·exact q6s k1 hx hy)
   (fun x y hy => by
    rcases hcase with ⟨hc1, hc2⟩ | ⟨hc1, st, tr, rfl, rfl, k1, k2, k3, k4, k5⟩
    ·rw [hc2] at hy; cases hy
    ·exact k3t k2 hy) hA1
   (fun j x y f w1 D hj hf1 hx hy hw he hwx => by
    rcases hcase with ⟨hc1, hc2⟩ | ⟨hc1, st, tr, rfl, rfl, k1, k2, k3, k4, k5⟩
    ·rw [h2 hc1] at hj; simp at hj
    ·exact z3s hc hS hk k1 k2 k3 k4 k5 _ j x y w1 hj hf1 hx hy hw he hwx)
   (fun j w1 t t' hj hw he hwt hmv => by
    have hst := j6e hS (i7q hk (j := j + 1) (by omega)).1 hmv hw he hwt
    have ee : IntKind.i64.wrap ((IntKind.i64.wrap ((o6q cs k : Int) + 1)) + j) = ((o6q cs k + (j + 1) : Nat) : Int) := by
     rw [e7 (n := (o6q cs k : Int) + 1) (by omega) (by omega), e7 (by omega) (by omega)]; omega
    simp only [ee, hst, obz, e7 (n := (j : Int) + 1) (by omega) (by omega)]
    cases t5 [] [] (v0, w1) [((A.length : Int), ((o6q cs k + (j + 1) : Nat) : Int), t')] <;> simp)
   (fun w1 => by simp [b5])
   (ms := (cs.2.getD k default).2.2) (j := 0) (b := b) (bf := bf) (w1 := w1) (by simp) (by simp) hg hkn h1 hw' he' (hmv.wf (p6q hS hr0.1).1 (p6q hS hr0.1).2.1 hwS)
  refine hlast.trans ?_
  cases hz : t5 [] [] (v0, w1) (cTr cs.1 nf ntr (cs.2.getD k default) (q3n cs k) (o6q cs k) A B (cs.2.getD k default).2.2 0 b) with
  | none => rfl
  | some w2 =>
   have := q2k hz
   obtain ⟨z0, z1⟩ := w2
   simp only at this
   subst this
   rfl
theorem z2i : ∀ (d : Nat), d <= 2 -> ∀ (u : q7) (p k : Nat) (u' : q7), z8 cs.1 u = true -> p < u.length -> k < cs.2.length -> stD cs d u p k = some u' ->
 u6 (d + 1) cs (f9 cs) u p k (d : Int) = some (q6k (t5 [] [] (u, []) (trD cs d u p k))) := by
 intro d
 induction d with
 | zero => intro _ u p k u' hu hp hk h; exact z3r hc hS (.inl ⟨rfl, rfl⟩) hu hp hk h
 | succ d ih =>
  intro h2 u p k u' hu hp hk h
  have e : IntKind.i64.wrap (((d + 1 : Nat) : Int) - 1) = (d : Int) := by rw [e7 (by omega) (by omega)]; omega
  exact z3r hc hS (.inr ⟨rfl, stD cs d, trD cs d, rfl, rfl, q7x hc d, fun x p k x' h => z5s h, fun x hx => by rw [e]; exact z2s hc (by omega) hx,
   fun x p k x' a1 a2 a3 a4 => by rw [e]; exact ih (by omega) x p k x' a1 a2 a3 a4, fun x p k x' a1 a2 a3 a4 => k6l hc hS a1 a2 a3 a4⟩) hu hp hk h
theorem k9g {d : Nat} (hd : d <= 2) {u : q7} {p k : Nat} {u' : q7} (hu : z8 cs.1 u = true) (hp : p < u.length) (hk : k < cs.2.length) (h : stD cs d u p k = some u') :
 i8 cs (f9 cs) u p k (d : Int) = some (q6k (t5 [] [] (u, []) (trD cs d u p k))) := by
 unfold i8
 exact k9j (fun n => k8e n cs (f9 cs) u p k d) (z2i hc hS d hd u p k u' hu hp hk h)
end
open Go Abx Tm
theorem j6f {s : Sys} (hs : b0q s = true) {t t' : q7} {w0 : q7} {w1 : List Stp} {i rule : Nat} (hr : rule < s.2.length) (h : Mv s.1 (s.2.getD rule default).1 (s.2.getD rule default).2 t t' i)
 (hw : SmW (w0, w1)) (he : r7q w0 w1 = t) (hf : Wf s.1 1 t) : w5 s (i : Int) rule w0 w1 = some (match t5 [] [] (w0, w1) [((i : Int), (rule : Int), t')] with | some w' => (true, w'.2) | none => (false, w1)) := by
 have : w5 s ((([] : q7).length + i : Nat) : Int) rule w0 w1 = some (match t5 [] [] (w0, w1) [((i : Int), (rule : Int), t')] with | some w' => (true, w'.2) | none => (false, w1)) := by
  unfold w5
  exact k7y (P := []) (Q := []) hs hr h hw (by simpa using he) (by simpa using hf) fun hx => h4q hx (by have := hw.len; simp only at this; omega)
 rw [List.length_nil, Nat.zero_add] at this
 exact this
section
variable {cs : CSy} (hc : p7q cs = true) (hS : b0q (f9 cs) = true) {d : Int} {st : q2t} {tr : CTr} {r0 A f D : q7} {k : Nat} (hk : k < cs.2.length)
include hc hS hk
theorem z0j (hpick : j1y cs d st) (hrec : z1b cs d st tr i8) (hpl : PlT cs st tr) (hf1 : f.length = 1) (r1 j : Int) (x : q7) (w1 : List Stp) (p : Nat × Nat) (x' : q7) (hx : z8 cs.1 x = true) (hw : SmW (r0, w1)) (he : r7q r0 w1 = (A ++ f) ++ (x ++ D)) (hwx : Wf (f9 cs).1 1 ((A ++ f) ++ (x ++ D)))
 (hp : p9q cs st x = some p) (h1 : st x p.1 p.2 = some x') :
 k1q cs (f9 cs) A.length d r0 r1 j (x, w1) = some (match t5 (A ++ f) D (r0, w1) (tr x p.1 p.2) with | some w' => .inl (x', w'.2) | none => .inr (.inr ([], [], false))) := by
 obtain ⟨p1, p2, _⟩ := l4q hp
 have hel : ((A ++ f) ++ (x ++ D)).length <= 60 := by rw [<- he]; exact q9t hw
 have hAl : A.length + 1 <= 60 := by simp only [lap] at hel; omega
 have hxl := (j4.1 hx).2.2.1
 have e0 : k1m (chW (r0, w1)) = (A ++ f) ++ (x ++ D) := by rw [q6v]; exact he
 have hat : IntKind.i64.wrap ((A.length : Int) + 1) = ((A ++ f).length : Int) := by rw [e7 (by omega) (by omega)]; simp [hf1]
 have hxS := l9q hk (j4.1 hx).2.2.2
 have htS : z8 (f9 cs).1 ((A ++ f) ++ (x ++ D)) = true := n6q (i1q.1 hS).1 hwx hel
 have hl1 := hw.len
 simp only at hl1
 simp only [k1q, hpick x hx, obz, k1z, hp, show ¬ (p.1 : Int) < 0 by omega, decide_false, bft, if_false, hrec x p.1 p.2 x' hx p1 p2 h1]
 rw [k7h hel]
 cases hi : t5 [] [] (x, []) (tr x p.1 p.2) with
 | none => simp [q6k]
 | some iw =>
  obtain ⟨rfl, i1, i2⟩ := ext0 hi
  have hiw : SmW (x, tr x p.1 p.2) := ⟨hxl, i1, i2⟩
  simp only [q6k, if_true, g8q hw, e0, obz, hat, q0w hS hiw (hpl x p.1 p.2 x' hx p1 p2 h1) hxS htS]
  cases hin : j4j (A ++ f) D (x, tr x p.1 p.2) with
  | none => simp
  | some pw =>
   have hpw := z2j hin
   have hpl2 : pw.2.length <= 60 := by
    unfold j4j at hin
    split at hin
    ·cases hin; simpa using i1
    ·cases hin
   simp only [if_true, obz, e7 (n := (w1.length : Int) + (pw.2.length : Int)) (by omega) (by omega)]
   by_cases h60 : w1.length + pw.2.length <= 60
   ·rw [if_neg (by simp only [decide_eq_true_eq]; omega), if_pos h60]
    simp only [h1, Option.getD_some]
    refine k3r (mk := fun i (out : List Stp) => (i, out)) (xs := pw.2) (g := id) (out0 := w1) (fun i out y hi hy hg ho => ?_) ?_
    ·simp only [j6q, show (i : Int) < pw.2.length by omega, decide_true, if_true, show (0 : Int) <= i by omega, and_self, itn, hg, h4q (hpw y hy) (show out.length <= 1000 by omega), obz, e7 (n := (i : Int) + 1) (by omega) (by omega), id]
    ·simp [j6q]
   ·rw [if_pos (by simp only [decide_eq_true_eq]; omega), if_neg h60]
    simp
theorem z0i {n : Nat} (hkeep : k1f cs st) (hend : ∀ x p k x', st x p k = some x' -> r7q x (tr x p k) = x') (hpick : j1y cs d st) (hrec : z1b cs d st tr i8) (hpl : PlT cs st tr) (r1 : Int) (j : Nat) (x y : q7) (w1 : List Stp) (hj : j < (cs.2.getD k default).2.2.length) (hf1 : f.length = 1)
 (hx : z8 cs.1 x = true) (hy : q7d cs st n x = some y) (hw : SmW (r0, w1)) (he : r7q r0 w1 = (A ++ f) ++ (x ++ D)) (hwx : Wf (f9 cs).1 1 ((A ++ f) ++ (x ++ D))) :
 s5 cs (f9 cs) A.length k d r0 r1 ((j : Int), w1) = match t5 (A ++ f) D (r0, w1) (k3s cs st tr n x) with
  | some w' => (w5 (f9 cs) A.length (IntKind.i64.wrap ((IntKind.i64.wrap (r1 + 1)) + j)) r0 w'.2).bind fun r_7 => if r_7.1 = true then some (.inl ((IntKind.i64.wrap ((j : Int) + 1)), r_7.2)) else some (.inr ([], [], false))
  | none => some (.inr ([], [], false)) := by
 have hel : ((A ++ f) ++ (x ++ D)).length <= 60 := by rw [<- he]; exact q9t hw
 have hAl : A.length + 1 <= 60 := by simp only [lap] at hel; omega
 have e0 : k1m (chW (r0, w1)) = (A ++ f) ++ (x ++ D) := by rw [q6v]; exact he
 have hat : IntKind.i64.wrap ((A.length : Int) + 1) = ((A ++ f).length : Int) := by rw [e7 (by omega) (by omega)]; simp [hf1]
 have hxS := l9q hk (j4.1 hx).2.2.2
 have hsub : q7q (f9 cs).1 ((A ++ f) ++ (x ++ D)) ((A ++ f).length : Int) = some x := d3q (i1q.1 hS).1 (show List.length _ < _ by omega) (fun z hz => (hwx.all z hz).1) List.drop_left hxS
 have hxl := (j4.1 hx).2.2.1
 simp only [s5, itn, show (j : Int) < (cs.2.getD k default).2.2.length by omega, decide_true, if_true, g8q hw, e0, obz, hat, hsub, j3q (show x.length < _ by omega)]
 refine z7v (C := A ++ f) (D := D) (fail := ([], [], false)) (K := fun w1' => (w5 (f9 cs) A.length (IntKind.i64.wrap ((IntKind.i64.wrap (r1 + 1)) + j)) r0 w1').bind fun r_7 => if r_7.1 = true then some (.inl ((IntKind.i64.wrap ((j : Int) + 1)), r_7.2)) else some (.inr ([], [], false)))
  hkeep hend (fun x hx => l9q hk (j4.1 hx).2.2.2) (fun x w1 hx hw he hwx hp => ?_) (fun x w1 p x' hx hw he hwx hp h1 => z0j hc hS hk hpick hrec hpl hf1 r1 j x w1 p x' hx hw he hwx hp h1) hy hx hw he hwx
 simp only [k1q, hpick x hx, obz, k1z, hp, show ((-1 : Int) < 0) by decide, decide_true, if_true]
 congr 1
end
section
variable {cs : CSy} (hc : p7q cs = true) (hS : b0q (f9 cs) = true)
include hc hS
theorem k8d {fu : Nat} {d : Int} {nf : q7 -> Option q7} {nfo : Option (q7 -> Option q7)} {ntr : q7 -> List Stp} (hcase : (nfo = none /\ nf = fun _ => none) ∨ (nfo = some nf /\ InnW cs d nf ntr i8))
 {u u' : q7} {p k : Nat} (hu : z8 cs.1 u = true) (hp : p < u.length) (hk : k < cs.2.length) (h : csO cs nfo u p k = some u') :
 o7 (fu + 1) cs (f9 cs) u p k d = some (k5c (t5 [] [] (u, []) (trO cs nf ntr u p k))) := by
 have hno : nfo = some nf ∨ nfo = none := hcase.elim (fun h => .inr h.1) fun h => .inl h.1
 obtain ⟨A, s, B, b, bf, e, hA, hs, hso, h0, hg, hkn, h1, h2, e2, e3⟩ := k2h hc hS hno (ntr := ntr) hu hp hk h
 obtain ⟨ha, _, hl, hwf⟩ := j4.1 hu
 obtain ⟨ha', hn, hrs⟩ := y4q.1 hc
 have h22 : ∀ r ∈ cs.2, r.2.2.length <= 2 := fun r hr => (i4.1 (hrs r hr)).2.2.2.1
 have hfst := k1s hn h22 k
 have hrl := h22 _ (u4 hk)
 have hr0 := i7q hk (j := 0) (by omega)
 have hmv := k5u hS hk (j := 0) (by omega) hg (A := A) (B := B)
 have hw0 : SmW (u, ([] : List Stp)) := ⟨hl, by simp, fun m hm => by cases hm⟩
 have hwS : Wf (f9 cs).1 1 (A ++ (sub (Tm.sig b) ((f5 (cs.2.getD k default) (q3n cs k)).getD 0 default).1 ++ B)) := by rw [<- e2]; exact l9q hk hwf
 have hst := j6f hS hr0.1 hmv hw0 e2 hwS
 have hA1 : 60 ≥ A.length := by omega
 rw [o7, if_pos (by omega), q0x (show u.length < _ by omega), obz, q1w hc hk, obz, e3, q9u]
 rw [hA, Nat.add_zero] at hst
 rw [hst, obz, hA, Nat.add_zero]
 cases hx : t5 [] [] (u, []) [((p : Int), (o6q cs k : Int), A ++ (sub (Tm.sig b) ((f5 (cs.2.getD k default) (q3n cs k)).getD 0 default).2 ++ B))] with
 | none => simp [k5c]
 | some w' =>
  have hfr := q2k hx
  have he' := q1h (P := []) (Q := []) (t := u) (w := (u, [])) (by simp [r7q]) hx
  simp only [r7q, List.nil_append, List.append_nil] at he'
  have hw' := q3k hw0 hx
  obtain ⟨v0, w1⟩ := w'
  simp only at hfr
  subst hfr
  simp only [if_true, obz]
  rw [<- hA]
  have hlast := z7u hc hS hk (nf := nf) (ntr := ntr) (r0 := v0) (A := A) (B := B) (fail := (([], [], false) : q7 × List Stp × Bool)) (done := fun w1 => (v0, w1, true))
   (f1 := s5 cs (f9 cs) A.length k d v0 (o6q cs k))
   (K := fun j w1' => (w5 (f9 cs) A.length (IntKind.i64.wrap ((IntKind.i64.wrap ((o6q cs k : Int) + 1)) + j)) v0 w1').bind fun r_7 => if r_7.1 = true then some (.inl ((IntKind.i64.wrap ((j : Int) + 1)), r_7.2)) else some (.inr ([], [], false)))
   (fun x y hx hy => by
    rcases hcase with ⟨hc1, hc2⟩ | ⟨hc1, st, tr, rfl, rfl, k1, k2, k3, k4, k5⟩
    ·rw [hc2] at hy; cases hy
    ·exact q6s k1 hx hy)
   (fun x y hy => by
    rcases hcase with ⟨hc1, hc2⟩ | ⟨hc1, st, tr, rfl, rfl, k1, k2, k3, k4, k5⟩
    ·rw [hc2] at hy; cases hy
    ·exact k3t k2 hy) hA1
   (fun j x y f w1 D hj hf1 hx hy hw he hwx => by
    rcases hcase with ⟨hc1, hc2⟩ | ⟨hc1, st, tr, rfl, rfl, k1, k2, k3, k4, k5⟩
    ·rw [h2 hc1] at hj; simp at hj
    ·exact z0i hc hS hk k1 k2 k3 k4 k5 _ j x y w1 hj hf1 hx hy hw he hwx)
   (fun j w1 t t' hj hw he hwt hmv => by
    have hst := j6f hS (i7q hk (j := j + 1) (by omega)).1 hmv hw he hwt
    have ee : IntKind.i64.wrap ((IntKind.i64.wrap ((o6q cs k : Int) + 1)) + j) = ((o6q cs k + (j + 1) : Nat) : Int) := by
     rw [e7 (n := (o6q cs k : Int) + 1) (by omega) (by omega), e7 (by omega) (by omega)]; omega
    simp only [ee, hst, obz, e7 (n := (j : Int) + 1) (by omega) (by omega)]
    cases t5 [] [] (v0, w1) [((A.length : Int), ((o6q cs k + (j + 1) : Nat) : Int), t')] <;> simp)
   (fun w1 => by simp [s5])
   (ms := (cs.2.getD k default).2.2) (j := 0) (b := b) (bf := bf) (w1 := w1) (by simp) (by simp) hg hkn h1 hw' he' (hmv.wf (p6q hS hr0.1).1 (p6q hS hr0.1).2.1 hwS)
  refine hlast.trans ?_
  cases hz : t5 [] [] (v0, w1) (cTr cs.1 nf ntr (cs.2.getD k default) (q3n cs k) (o6q cs k) A B (cs.2.getD k default).2.2 0 b) with
  | none => rfl
  | some w2 =>
   have := q2k hz
   obtain ⟨z0, z1⟩ := w2
   simp only at this
   subst this
   rfl
theorem k0b {fu d : Nat} (h2 : d <= 2) {u : q7} {p k : Nat} {u' : q7} (hu : z8 cs.1 u = true) (hp : p < u.length) (hk : k < cs.2.length) (h : stD cs d u p k = some u') :
 o7 (fu + 1) cs (f9 cs) u p k (d : Int) = some (k5c (t5 [] [] (u, []) (trD cs d u p k))) := by
 cases d with
 | zero => exact k8d hc hS (.inl ⟨rfl, rfl⟩) hu hp hk h
 | succ d =>
  have e : IntKind.i64.wrap (((d + 1 : Nat) : Int) - 1) = (d : Int) := by rw [e7 (by omega) (by omega)]; omega
  exact k8d hc hS (.inr ⟨rfl, stD cs d, trD cs d, rfl, rfl, q7x hc d, fun x p k x' h => z5s h, fun x hx => by rw [e]; exact z2s hc (by omega) hx,
   fun x p k x' a1 a2 a3 a4 => by rw [e]; exact k9g hc hS (by omega) a1 a2 a3 a4, fun x p k x' a1 a2 a3 a4 => k6l hc hS a1 a2 a3 a4⟩) hu hp hk h
theorem k6y {d : Nat} (hd : d <= 2) {u : q7} {p k : Nat} {u' : q7} (hu : z8 cs.1 u = true) (hp : p < u.length) (hk : k < cs.2.length) (h : stD cs d u p k = some u') :
 z8q cs (f9 cs) u p k (d : Int) = some (k5c (t5 [] [] (u, []) (trD cs d u p k))) := by
 unfold z8q
 refine j4x 1 (k0b hc hS (fu := 0) hd hu hp hk h) fun m b hb => ?_
 cases m with
 | zero => rw [o7] at hb; cases hb
 | succ m => rw [k0b hc hS hd hu hp hk h] at hb; exact (Option.some.inj hb).symm
end
theorem k0w (cs : CSy) (t : q7) (i k d : Int) : c4q cs t i k d = some (k5c (cwO cs t i k d)) := by
 unfold c4q cwO
 rw [k0v, obz]
 cases hst : x0f cs t i k d with
 | none => simp [c4, k5c]
 | some u =>
  obtain ⟨hc, ht, ⟨d0, d2⟩, ⟨i0, i1⟩, ⟨k0, k1⟩, h⟩ := k4x hst
  simp only [c4, if_true, k0z hc, obz, Option.isSome_some, true_and]
  cases hS : b0q (f9 cs) with
  | false => simp [k5c]
  | true =>
   have := k6y hc hS (d := d.toNat) (by omega) ht (p := i.toNat) (k := k.toNat) (by omega) (by omega) h
   rw [show ((i.toNat : Nat) : Int) = i by omega, show ((k.toNat : Nat) : Int) = k by omega, show ((d.toNat : Nat) : Int) = d by omega] at this
   simp only [if_true, this, obz]
open Go Abx Tm
theorem j5b {σ β : Type} {f : σ -> Option (σ ⊕ β)} {s : σ} {k : Option β} (h : f s = Option.map Sum.inr k) : loopC f s = k := by
 cases k with
 | some z => exact x8 h
 | none =>
  cases hl : loopC f s with
  | none => rfl
  | some z =>
   obtain ⟨m, hm⟩ := a6q hl
   cases m with
   | zero => cases hm
   | succ m =>
    rcases hm with hm | ⟨_, hm, _⟩
    ·rw [h] at hm; cases hm
    ·rw [h] at hm; cases hm
section
variable {cs : CSy} {t : q7} {d : Int}
theorem k9y : y3q cs t d = r7 s7 cs t d := by
 unfold y3q r7
 congr 1
theorem z5j : j4q cs t d = k8q s7 cs t d := by
 unfold j4q k8q
 rw [k9y]
 congr 1
theorem x8x {d : Nat} (hc : p7q cs = true) (hd : d <= 2) (ht : z8 cs.1 t = true) : j4q cs t d = some (j1r (p9q cs (stD cs d) t)) := by
 rw [z5j]
 exact k9v (y4q.1 hc).2.1 ht fun i k hi hk => q5d hc hd ht hi hk
end
section
variable {β : Type} {cs : CSy} {st : q2t} {tr : CTr} {C D : q7} {isF : β -> Prop}
theorem x1y {f2 : q7 × Int × q7 × List Stp -> Option ((q7 × Int × q7 × List Stp) ⊕ β)} {K : q7 -> Wlk -> Option β} (hkeep : k1f cs st)
 (hend : ∀ x p k x', st x p k = some x' -> r7q x (tr x p k) = x') (hwf : ∀ x, z8 cs.1 x = true -> Wf (f9 cs).1 1 x)
 (hf : ∀ (x : q7) (w : Wlk) (m : Nat), m <= 8 -> z8 cs.1 x = true -> p9q cs st x = none -> f2 (x, (m : Int), w.1, w.2) = Option.map Sum.inr (K x w))
 (hg : ∀ (x : q7) (w : Wlk) (m : Nat) (p : Nat × Nat) (x' : q7), m < 8 -> z8 cs.1 x = true -> SmW w -> r7q w.1 w.2 = C ++ (x ++ D) -> Wf (f9 cs).1 1 (C ++ (x ++ D)) -> p9q cs st x = some p -> st x p.1 p.2 = some x' ->
  match t5 C D w (tr x p.1 p.2) with | some w' => f2 (x, (m : Int), w.1, w.2) = some (.inl (x', (m : Int) + 1, w'.1, w'.2)) | none => ∃ z, isF z /\ f2 (x, (m : Int), w.1, w.2) = some (.inr z)) :
 ∀ {n : Nat} {x y : q7} {w : Wlk}, n <= 8 -> q7d cs st n x = some y -> z8 cs.1 x = true -> SmW w -> r7q w.1 w.2 = C ++ (x ++ D) -> Wf (f9 cs).1 1 (C ++ (x ++ D)) ->
  match t5 C D w (k3s cs st tr n x) with | some w' => loopC f2 (x, ((8 - n : Nat) : Int), w.1, w.2) = K y w' | none => ∃ z, isF z /\ loopC f2 (x, ((8 - n : Nat) : Int), w.1, w.2) = some z := by
 have hnone : ∀ {n : Nat} {x : q7} {w : Wlk}, n <= 8 -> p9q cs st x = none -> z8 cs.1 x = true -> SmW w ->
  match t5 C D w (k3s cs st tr n x) with | some w' => loopC f2 (x, ((8 - n : Nat) : Int), w.1, w.2) = K x w' | none => ∃ z, isF z /\ loopC f2 (x, ((8 - n : Nat) : Int), w.1, w.2) = some z := by
  intro n x w hn hp hx hw
  have e : k3s cs st tr n x = [] := by cases n <;> simp [k3s, hp]
  rw [e, k3m hw.len]
  exact j5b (hf x w (8 - n) (by omega) hx hp)
 intro n
 induction n with
 | zero =>
  intro x y w hn h hx hw he hwx
  rw [q7d] at h
  cases hp : p9q cs st x with
  | none => rw [hp] at h; cases h; exact hnone hn hp hx hw
  | some p => rw [hp] at h; cases h
 | succ n ih =>
  intro x y w hn h hx hw he hwx
  rw [q7d] at h
  cases hp : p9q cs st x with
  | none => rw [hp] at h; cases h; exact hnone hn hp hx hw
  | some p =>
   rw [hp] at h
   obtain ⟨x', h1, h2⟩ := Option.bind_eq_some_iff.1 h
   obtain ⟨p1, p2, _⟩ := l4q hp
   have hx' := hkeep _ _ _ _ hx p1 p2 h1
   have hs := hg x w (8 - (n + 1)) p x' (by omega) hx hw he hwx hp h1
   rw [k3s, hp]
   simp only [h1]
   rw [q7a]
   cases hxw : t5 C D w (tr x p.1 p.2) with
   | none =>
    rw [hxw] at hs
    obtain ⟨z, z1, z2⟩ := hs
    exact ⟨z, z1, x8 z2⟩
   | some w' =>
    rw [hxw] at hs
    simp only at hs
    have he' := q1h he hxw
    rw [hend _ _ _ _ h1] at he'
    have := ih (w := w') (by omega) h2 hx' (q3k hw hxw) he' (Wf.put (hwf x hx) (hwf x' hx') hwx)
    rw [obz, p9 hs, show (((8 - (n + 1) : Nat) : Int) + 1) = ((8 - n : Nat) : Int) by omega]
    exact this
end
abbrev y1e := CSy -> Sys -> Wlk -> Int -> Int -> Int -> Option (Wlk × Bool)
abbrev encX (o : Option Wlk) (q : Wlk × Bool) : Prop := match o with | some w' => q = (w', true) | none => q.2 = false
abbrev x3l (cs : CSy) (d : Int) (st : q2t) (tr : CTr) (rec : y1e) : Prop := ∀ (P Q : q7) (w : Wlk) (x : q7) (p k : Nat) (x' : q7), SmW w -> r7q w.1 w.2 = P ++ (x ++ Q) -> Wf (f9 cs).1 1 (P ++ (x ++ Q)) -> z8 cs.1 x = true -> p < x.length -> k < cs.2.length -> st x p k = some x' ->
 ∃ o, rec cs (f9 cs) w ((P.length + p : Nat) : Int) k (IntKind.i64.wrap (d - 1)) = some o /\ encX (t5 P Q w (tr x p k)) o
abbrev y1d (cs : CSy) (d : Int) (st : q2t) : Prop := ∀ x, z8 cs.1 x = true -> j4q cs x (IntKind.i64.wrap (d - 1)) = some (j1r (p9q cs st x))
abbrev y1g (cs : CSy) (d : Int) (st : q2t) : Prop := ∀ (x : q7) (p k : Nat), z8 cs.1 x = true -> p < x.length -> k < cs.2.length -> s7 cs x p k (IntKind.i64.wrap (d - 1)) = some (c4 (st x p k))
abbrev InnX (cs : CSy) (d : Int) (nf : q7 -> Option q7) (ntr : q7 -> List Stp) (rec : y1e) : Prop :=
 ∃ st tr, nf = q7d cs st 8 /\ ntr = k3s cs st tr 8 /\ k1f cs st /\ (∀ x p k x', st x p k = some x' -> r7q x (tr x p k) = x') /\ y1d cs d st /\ y1g cs d st /\ x3l cs d st tr rec
section
variable {cs : CSy} (hc : p7q cs = true) (hS : b0q (f9 cs) = true) {d : Int} {rec : y1e} {k : Nat} (hk : k < cs.2.length)
include hk
theorem specN {st : q2t} {tr : CTr} {C D x y : q7} {w : Wlk} {i0 : Nat} {r1 : Int} {b : Bd} {j : Nat} (hkeep : k1f cs st) (hend : ∀ x p k x', st x p k = some x' -> r7q x (tr x p k) = x') (hpick : y1d cs d st) (hstep : y1g cs d st) (hrec : x3l cs d st tr rec) (hC : C.length = i0 + 1)
 (hy : q7d cs st 8 x = some y) (hx : z8 cs.1 x = true) (hw : SmW w) (he : r7q w.1 w.2 = C ++ (x ++ D)) (hwx : Wf (f9 cs).1 1 (C ++ (x ++ D))) (hj : j < (cs.2.getD k default).2.2.length) :
 match t5 C D w (k3s cs st tr 8 x) with
 | some w' => loopC (r8 rec cs (f9 cs) i0 k d r1 b j) (x, 0, w.1, w.2) = (m7 cs.1 b ((cs.2.getD k default).2.2.getD j default).2 y).bind fun r_9 => (j9q (f9 cs) w' i0 (IntKind.i64.wrap ((IntKind.i64.wrap (r1 + j)) + 1))).bind fun r_10 => some (.inl (r_9.1, r_10.2, (IntKind.i64.wrap ((j : Int) + 1)), r_10.1.1, r_10.1.2))
 | none => ∃ q, loopC (r8 rec cs (f9 cs) i0 k d r1 b j) (x, 0, w.1, w.2) = some (.inr (q, false)) := by
 have hel : (C ++ (x ++ D)).length <= 60 := by rw [<- he]; exact q9t hw
 have hi0 : i0 + 1 <= 60 := by simp only [lap] at hel; omega
 have main := x1y (C := C) (D := D) (isF := fun z : (Bd × Bool × Int × q7 × List Stp) ⊕ (Wlk × Bool) => ∃ q, z = .inr (q, false)) (f2 := r8 rec cs (f9 cs) i0 k d r1 b j)
  (K := fun y w' => (m7 cs.1 b ((cs.2.getD k default).2.2.getD j default).2 y).bind fun r_9 => (j9q (f9 cs) w' i0 (IntKind.i64.wrap ((IntKind.i64.wrap (r1 + j)) + 1))).bind fun r_10 => some (.inl (r_9.1, r_10.2, (IntKind.i64.wrap ((j : Int) + 1)), r_10.1.1, r_10.1.2)))
  hkeep hend (fun x hx => l9q hk (j4.1 hx).2.2.2) (fun x w m hm hx hp => by
   have hjj : (0 : Int) <= j /\ (j : Int) < (cs.2.getD k default).2.2.length := ⟨by omega, by omega⟩
   by_cases h8 : m < 8
   ·simp only [r8, show (m : Int) < 8 by omega, decide_true, if_true, hpick x hx, obz, hp, j1r, bft, if_false, itn, hjj, and_self]
   ·simp only [r8, show ¬ (m : Int) < 8 by omega, decide_false, bft, if_false, itn, hjj, and_self, if_true])
  (fun x w m p x' hm hx hw he hwx hp h1 => by
   obtain ⟨p1, p2, _⟩ := l4q hp
   have hxl := (j4.1 hx).2.2.1
   have hel : (C ++ (x ++ D)).length <= 60 := by rw [<- he]; exact q9t hw
   obtain ⟨o, o1, o2⟩ := hrec C D w x p.1 p.2 x' hw he hwx hx p1 p2 h1
   have hat : IntKind.i64.wrap ((IntKind.i64.wrap ((i0 : Int) + 1)) + p.1) = ((C.length + p.1 : Nat) : Int) := by
    rw [e7 (n := (i0 : Int) + 1) (by omega) (by omega), e7 (by omega) (by omega)]; omega
   have hstp := hstep x p.1 p.2 hx p1 p2
   rw [h1] at hstp
   simp only [r8, show (m : Int) < 8 by omega, decide_true, if_true, hpick x hx, obz, hp, j1r, hat, o1]
   cases hxw : t5 C D w (tr x p.1 p.2) with
   | none =>
    rw [hxw] at o2
    have o2' : o.2 = false := o2
    exact ⟨.inr (o.1, false), ⟨_, rfl⟩, by simp [o2']⟩
   | some w' =>
    rw [hxw] at o2
    have o2' : o = (w', true) := o2
    simp only [o2', if_true, hstp, obz, c4, e7 (n := (m : Int) + 1) (by omega) (by omega)])
  (n := 8) (Nat.le_refl _) hy hx hw he hwx
 cases hxw : t5 C D w (k3s cs st tr 8 x) with
 | none =>
  rw [hxw] at main
  obtain ⟨z, ⟨q, rfl⟩, z2⟩ := main
  exact ⟨q, z2⟩
 | some w' =>
  rw [hxw] at main
  exact main
end
open Go Abx Tm
abbrev LeX (f g : y1e) : Prop := ∀ cs sys w i k d, Le (f cs sys w i k d) (g cs sys w i k d)
theorem k8f : ∀ n, LeX (o9 n) (o9 (n + 1))
 | 0 => fun cs sys w i k d => by rw [o9]; exact Le.none _
 | n + 1 => fun cs sys w i k d => by
  rw [o9, o9]
  refine Le.ite (fun _ => Le.bind (Le.refl _) fun _ => Le.bind (Le.refl _) fun _ => Le.bind (Le.refl _) fun _ => Le.bind (Le.refl _) fun _ => Le.bind (Le.refl _) fun _ => Le.loop (fun s => ?_) _) fun _ => Le.refl _
  obtain ⟨g, ok, i', w1, w2⟩ := s
  unfold q4q
  refine Le.ite (fun _ => Le.ite (fun _ => Le.ite (fun _ => Le.bind (Le.refl _) fun _ => Le.loop (fun s => ?_) _) fun _ => Le.refl _) fun _ => Le.refl _) fun _ => Le.refl _
  obtain ⟨u, k', w3, w4⟩ := s
  unfold r8
  exact Le.ite (fun _ => Le.bind (Le.refl _) fun _ => Le.ite (fun _ => Le.bind (k8f n _ _ _ _ _ _) fun _ => Le.refl _) fun _ => Le.refl _) fun _ => Le.refl _
section
variable {cs : CSy} (hc : p7q cs = true) (hS : b0q (f9 cs) = true) {d : Int} {rec : y1e} {k : Nat} (hk : k < cs.2.length)
theorem k6j {i0 : Int} {r1 : Int} {b : Bd} {j : Int} {w : Wlk} : loopC (q4q rec cs (f9 cs) i0 k d r1) (b, false, j, w.1, w.2) = some (w, false) := by
 refine x8 ?_
 by_cases h : j < ((cs.2.getD k default).2.2.length : Int) <;> simp [q4q, h]
include hc hS hk
theorem specC {nf : q7 -> Option q7} {ntr : q7 -> List Stp} (hcase : (cs.2.getD k default).2.2 = [] ∨ InnX cs d nf ntr rec) {P Q A B : q7} :
 ∀ {ms : Ty3} {j : Nat} {b bf : Bd} {w : Wlk}, (cs.2.getD k default).2.2.drop j = ms -> j + ms.length = (cs.2.getD k default).2.2.length -> GdB cs.1 b -> KnB b (q9l (cs.2.getD k default) j) -> s6q cs.1 nf ms b = some bf -> SmW w ->
  r7q w.1 w.2 = P ++ ((A ++ (sub (Tm.sig b) ((f5 (cs.2.getD k default) (q3n cs k)).getD j default).2 ++ B)) ++ Q) -> Wf (f9 cs).1 1 (P ++ ((A ++ (sub (Tm.sig b) ((f5 (cs.2.getD k default) (q3n cs k)).getD j default).2 ++ B)) ++ Q)) ->
  ∃ o, loopC (q4q rec cs (f9 cs) ((P.length + A.length : Nat) : Int) k d (o6q cs k)) (b, true, (j : Int), w.1, w.2) = some o /\ encX (t5 P Q w (cTr cs.1 nf ntr (cs.2.getD k default) (q3n cs k) (o6q cs k) A B ms j b)) o := by
 obtain ⟨ha', hn, hrs⟩ := y4q.1 hc
 have h22 : ∀ r ∈ cs.2, r.2.2.length <= 2 := fun r hr => (i4.1 (hrs r hr)).2.2.2.1
 have hfst := k1s hn h22 k
 have hrl := h22 _ (u4 hk)
 intro ms
 induction ms with
 | nil =>
  intro j b bf w hd hj hg hkn h hw he hwf
  obtain rfl : j = (cs.2.getD k default).2.2.length := by simpa using hj
  rw [cTr, k3m hw.len]
  exact ⟨(w, true), x8 (by simp [q4q]), rfl⟩
 | cons c ms ih =>
  intro j b bf w hd hj hg hkn h hw he hwf
  simp only [List.length_cons] at hj
  obtain ⟨g1, g2, g3⟩ := n5q hd
  have hrk := hrs _ (u4 hk)
  obtain ⟨_, _, _, _, h5⟩ := i4.1 hrk
  have hcs := s7q h5 _ (u4 g1)
  rw [g2] at hcs
  rw [s6q] at h
  obtain ⟨x, e0, h⟩ := Option.bind_eq_some_iff.1 h
  obtain ⟨y, e1, h⟩ := Option.bind_eq_some_iff.1 h
  obtain ⟨b', e2, h⟩ := Option.bind_eq_some_iff.1 h
  have hx := q4t hg hcs.1 e0
  rcases hcase with hc0 | ⟨st, tr, rfl, rfl, k1, k2, k3, k4, k5⟩
  ·rw [hc0] at g1; simp at g1
  have hy := q6s k1 hx e1
  obtain ⟨q1, q2, q3, q4⟩ := z1o (sym := q3n cs k) hrk g1 hg hkn hy (by rw [g2]; exact e2)
  have hl1 : q4q rec cs (f9 cs) ((P.length + A.length : Nat) : Int) k d (o6q cs k) (b, true, (j : Int), w.1, w.2) = loopC (r8 rec cs (f9 cs) ((P.length + A.length : Nat) : Int) k d (o6q cs k) b j) (x, 0, w.1, w.2) := by
   simp only [q4q, itn, show (j : Int) < (cs.2.getD k default).2.2.length by omega, decide_true, if_true, show (0 : Int) <= j by omega, and_self, g2, (q9v hg.sub hcs.1).2, e0, obz, c4]
  obtain ⟨hxe, _⟩ := q9w e0
  rw [g2, <- hxe] at q1
  rw [cTr, <- hxe]
  simp only [e1, e2]
  have heq : ∀ z : q7, P ++ ((A ++ (([((q3n cs k + j : Nat) : Int)] ++ (z ++ hvV (cs.2.getD k default) j b)) ++ B)) ++ Q) = (P ++ (A ++ [((q3n cs k + j : Nat) : Int)])) ++ (z ++ ((hvV (cs.2.getD k default) j b ++ B) ++ Q)) := fun z => by simp
  rw [q1, heq] at he hwf
  have hN := specN hk (d := d) (rec := rec) (i0 := P.length + A.length) (r1 := (o6q cs k : Int)) (b := b) (j := j) k1 k2 k3 k4 k5 (by simp only [lap, List.length_singleton]; omega) e1 hx hw he hwf g1
  rw [q7a, z6t]
  cases hxw : t5 (P ++ (A ++ [((q3n cs k + j : Nat) : Int)])) ((hvV (cs.2.getD k default) j b ++ B) ++ Q) w (k3s cs st tr 8 x) with
  | none =>
   rw [hxw] at hN
   obtain ⟨q, hq⟩ := hN
   exact ⟨(q, false), x8 (by rw [hl1, hq]), rfl⟩
  | some w' =>
   rw [hxw] at hN
   simp only at hN
   have he' := q1h he hxw
   rw [k3t k2 e1] at he'
   have hw' := q3k hw hxw
   have hwy : Wf (f9 cs).1 1 (P ++ (A ++ [((q3n cs k + j : Nat) : Int)]) ++ (y ++ ((hvV (cs.2.getD k default) j b ++ B) ++ Q))) := Wf.put (l9q hk (j4.1 hx).2.2.2) (l9q hk (j4.1 hy).2.2.2) hwf
   rw [<- heq, <- q2] at he' hwy
   have hmv := k5u hS hk (j := j + 1) (by omega) q3 (A := A) (B := B)
   have hmore := j1v hS (i7q hk (j := j + 1) (by omega)).1 hmv hw' he' hwy
   have ee : IntKind.i64.wrap ((IntKind.i64.wrap ((o6q cs k : Int) + j)) + 1) = ((o6q cs k + (j + 1) : Nat) : Int) := by
    rw [e7 (n := (o6q cs k : Int) + j) (by omega) (by omega), e7 (by omega) (by omega)]; omega
   obtain ⟨q, hq, hq2⟩ := z7h hcs.2 hy hg
   rw [e2] at hq2
   have hq2' : q = (b', true) := hq2
   rw [g2, hq, obz, ee, hmore, obz, hq2', e7 (n := (j : Int) + 1) (by omega) (by omega)] at hN
   rw [obz, q9u]
   cases hst : t5 P Q w' [((A.length : Int), ((o6q cs k + (j + 1) : Nat) : Int), A ++ (sub (Tm.sig b') ((f5 (cs.2.getD k default) (q3n cs k)).getD (j + 1) default).2 ++ B))] with
   | none =>
    rw [hst] at hN
    exact ⟨(w', false), by rw [p9 (hl1.trans hN)]; exact k6j, rfl⟩
   | some w2 =>
    rw [hst] at hN
    have he2 := q1h he' hst
    simp only [r7q] at he2
    have hw2 := q3k hw' hst
    rw [p9 (hl1.trans hN), obz, show ((j : Int) + 1) = ((j + 1 : Nat) : Int) by omega]
    have hww := (j5m (P := P) (Q := Q) hmv).wf (p6q hS (i7q hk (j := j + 1) (by omega)).1).1 (p6q hS (i7q hk (j := j + 1) (by omega)).1).2.1 hwy
    exact ih g3 (by omega) q3 q4 h hw2 he2 hww
omit hk in
theorem k7x {fu : Nat} {nf : q7 -> Option q7} {nfo : Option (q7 -> Option q7)} {ntr : q7 -> List Stp} (hcase : nfo = none ∨ (nfo = some nf /\ InnX cs d nf ntr (o9 fu)))
 {u u' : q7} {p k : Nat} (hu : z8 cs.1 u = true) (hp : p < u.length) (hk : k < cs.2.length) (h : csO cs nfo u p k = some u') {P Q : q7} {w : Wlk} (hw : SmW w) (he : r7q w.1 w.2 = P ++ (u ++ Q)) (hwf : Wf (f9 cs).1 1 (P ++ (u ++ Q))) :
 ∃ o, o9 (fu + 1) cs (f9 cs) w ((P.length + p : Nat) : Int) k d = some o /\ encX (t5 P Q w (trO cs nf ntr u p k)) o := by
 have hno : nfo = some nf ∨ nfo = none := hcase.elim .inr fun h => .inl h.1
 obtain ⟨A, s, B, b, bf, e, hA, hs, hso, h0, hg, hkn, h1, h2, e2, e3⟩ := k2h hc hS hno (ntr := ntr) hu hp hk h
 subst hA
 obtain ⟨ha, hn, hrs⟩ := y4q.1 hc
 have hrk := hrs _ (u4 hk)
 obtain ⟨r1, _, _, _, _⟩ := i4.1 hrk
 have h22 : ∀ r ∈ cs.2, r.2.2.length <= 2 := fun r hr => (i4.1 (hrs r hr)).2.2.2.1
 have hfst := k1s hn h22 k
 have hrl := h22 _ (u4 hk)
 have hr0 := i7q hk (j := 0) (by omega)
 have hmv := k5u hS hk (j := 0) (by omega) hg (A := A) (B := B)
 have hel := q9t hw
 have hwS := hwf
 have heS := he
 rw [e2] at hwS heS
 have hmore := j1v hS hr0.1 hmv hw heS hwS
 obtain ⟨q, hq, hq2⟩ := z7h r1 hso (q6o (a := cs.1))
 rw [h0] at hq2
 have hq2' : q = (b, true) := hq2
 have hq' : m7 cs.1 (List.replicate 24 []) (cs.2.getD k default).1 s = some q := hq
 have hdr : (P ++ (u ++ Q)).drop (P.length + A.length) = s ++ (B ++ Q) := by
  rw [e, <- List.drop_drop, List.drop_left, laa, List.drop_left, laa]
 have hsub : x2q (f9 cs).1 (P ++ (u ++ Q)) ((P.length + A.length : Nat) : Int) = some s := n1q (i1q.1 hS).1 (show List.length _ < _ by rw [<- he]; omega) hdr (l9q hk hs)
 rw [o9, if_pos (by omega), q9f hc hk, obz, q6c hw, obz, q6v, he, hsub, obz, itn, hq', obz]
 rw [Nat.add_zero] at hmore e3
 have hext := q9u (P := P) (Q := Q) (w := w) (x := ((A.length : Int), (o6q cs k : Int), A ++ (sub (Tm.sig b) ((f5 (cs.2.getD k default) (q3n cs k)).getD 0 default).2 ++ B))) (ns := cTr cs.1 nf ntr (cs.2.getD k default) (q3n cs k) (o6q cs k) A B (cs.2.getD k default).2.2 0 b)
 rw [hmore, obz, e3, hext, hq2']
 cases hx : t5 P Q w [((A.length : Int), (o6q cs k : Int), A ++ (sub (Tm.sig b) ((f5 (cs.2.getD k default) (q3n cs k)).getD 0 default).2 ++ B))] with
 | none => exact ⟨(w, false), k6j, rfl⟩
 | some w' =>
  have he' := q1h he hx
  simp only [r7q] at he'
  have hw' := q3k hw hx
  have hww := (j5m (P := P) (Q := Q) hmv).wf (p6q hS hr0.1).1 (p6q hS hr0.1).2.1 hwS
  exact specC hc hS hk (hcase.elim (fun h => .inl (h2 h)) fun h => .inr h.2) (by simp) (by simp) hg hkn h1 hw' he' hww
omit hk in
theorem z3d : ∀ (d : Nat), d <= 2 -> ∀ (P Q : q7) (w : Wlk) (u : q7) (p k : Nat) (u' : q7), SmW w -> r7q w.1 w.2 = P ++ (u ++ Q) -> Wf (f9 cs).1 1 (P ++ (u ++ Q)) -> z8 cs.1 u = true -> p < u.length -> k < cs.2.length -> stD cs d u p k = some u' ->
 ∃ o, o9 (d + 1) cs (f9 cs) w ((P.length + p : Nat) : Int) k (d : Int) = some o /\ encX (t5 P Q w (trD cs d u p k)) o := by
 intro d
 induction d with
 | zero => intro _ P Q w u p k u' hw he hwf hu hp hk h; exact k7x hc hS (nfo := none) (.inl rfl) hu hp hk h hw he hwf
 | succ d ih =>
  intro h2 P Q w u p k u' hw he hwf hu hp hk h
  have e : IntKind.i64.wrap (((d + 1 : Nat) : Int) - 1) = (d : Int) := by rw [e7 (by omega) (by omega)]; omega
  exact k7x hc hS (.inr ⟨rfl, stD cs d, trD cs d, rfl, rfl, q7x hc d, fun x p k x' h => z5s h, fun x hx => by rw [e]; exact x8x hc (by omega) hx, fun x p k a1 a2 a3 => by rw [e]; exact q5d hc (by omega) a1 a2 a3,
   fun P Q w x p k x' a1 a2 a3 a4 a5 a6 a7 => by rw [e]; exact ih (by omega) P Q w x p k x' a1 a2 a3 a4 a5 a6 a7⟩) hu hp hk h hw he hwf
end
theorem k1c (cs : CSy) (t : q7) (i k d : Int) : o1q cs t i k d = some (q6k (cwO cs t i k d)) := by
 unfold o1q cwO
 rw [k1b, obz, q7j, obz]
 cases hst : x0f cs t i k d with
 | none => simp [c4, q6k]
 | some u =>
  obtain ⟨hc, ht, ⟨d0, d2⟩, ⟨i0, i1⟩, ⟨k0, k1⟩, h⟩ := k4x hst
  have hl := (j4.1 ht).2.2.1
  simp only [c4, if_true, Option.isSome_some, true_and, hc]
  cases hS : b0q (f9 cs) with
  | false => simp [q6k]
  | true =>
   have hk : k.toNat < cs.2.length := by omega
   obtain ⟨o, o1, o2⟩ := z3d hc hS d.toNat (by omega) [] [] (t, []) t i.toNat k.toNat u ⟨hl, by simp, fun m hm => by cases hm⟩ (by simp [r7q]) (by simpa using l9q hk (j4.1 ht).2.2.2) ht (by omega) hk h
   have hall : p4q cs (f9 cs) (t, []) i k d = some o := by
    unfold p4q
    refine k9j (fun n => k8f n cs (f9 cs) (t, []) i k d) (n := d.toNat + 1) ?_
    rw [<- o1, List.length_nil, Nat.zero_add, show ((i.toNat : Nat) : Int) = i by omega, show ((k.toNat : Nat) : Int) = k by omega, show ((d.toNat : Nat) : Int) = d by omega]
   simp only [if_true, b7 (show t.length < _ by omega), obz, hall]
   cases hx : t5 [] [] (t, []) (trD cs d.toNat t i.toNat k.toNat) with
   | none =>
    rw [hx] at o2
    have o2' : o.2 = false := o2
    simp [o2', q6k]
   | some w' =>
    rw [hx] at o2
    have o2' : o = (w', true) := o2
    simp [o2', q6k]
open Go Abx Tm
structure y0o (s : CSy) : Prop where
 sig : Big s.1
 rules : Big s.2
 to : ∀ r ∈ s.2, Big r.1 /\ Big r.2.1 /\ Big r.2.2 /\ ∀ c ∈ r.2.2, Big c.1 /\ Big c.2
abbrev SmR (r : CRl) : Prop := r.1.length <= Mx /\ r.2.1.length <= Mx /\ r.2.2.length <= Mx /\ ∀ c ∈ r.2.2, c.1.length <= Mx /\ c.2.length <= Mx
structure y1f (s : CSy) : Prop where
 sig : s.1.length <= Mx
 rules : s.2.length <= Mx
 to : ∀ r ∈ s.2, SmR r
theorem szEq {x : q7 × q7} (h1 : Big x.1) (h2 : Big x.2) {left : Int} (h0 : 0 <= left) (hM : left <= Mx) : ∃ r, q1z x left = some r /\ -1 <= r /\ r <= left /\ (0 <= r -> x.1.length <= Mx /\ x.2.length <= Mx) := by
 obtain ⟨r, e1, e2, e3, e4⟩ := szI h1 h0 hM
 unfold q1z
 rw [e1, obz]
 by_cases hr : r < 0
 ·exact ⟨-1, by simp [hr], by omega, by omega, by omega⟩
 ·obtain ⟨r', g1, g2, g3, g4⟩ := szI h2 (left := r) (by omega) (by omega)
  rw [g1]
  by_cases hr' : r' < 0
  ·exact ⟨-1, by simp [hr, hr'], by omega, by omega, by omega⟩
  ·exact ⟨r', by simp [hr, hr'], by omega, by omega, fun _ => ⟨e4 (by omega), g4 (by omega)⟩⟩
theorem szEqS {a : Ty3} (ha : Big a) (ht : ∀ r ∈ a, Big r.1 /\ Big r.2) {left : Int} (h0 : 0 <= left) (hM : left <= Mx) :
 ∃ r, q0a a left = some r /\ -1 <= r /\ r <= left /\ (0 <= r -> a.length <= Mx /\ ∀ x ∈ a, x.1.length <= Mx /\ x.2.length <= Mx) := by
 unfold q0a
 have ha' : a.length < 9223372036854775808 := ha
 have hM' : left <= 1048576 := hM
 rw [e7 (n := left - (a.length : Int)) (by omega) (by omega)]
 by_cases h : left - (a.length : Int) < 0
 ·exact ⟨-1, by simp [h], by omega, by omega, by omega⟩
 ·obtain ⟨r, e1, e2, e3, e4⟩ := j5d (a := a) (Q := fun x => x.1.length <= Mx /\ x.2.length <= Mx) (f := b7q a) (left := left - a.length) (fun i left x hi hx hg h0 hM => by
   obtain ⟨r, e1, e2, e3, e4⟩ := szEq (ht x hx).1 (ht x hx).2 h0 hM
   simp only [b7q, show (i : Int) < a.length by omega, decide_true, if_true, show (0 : Int) <= i by omega, and_self, itn, hg, e1, obz, e7 (n := (i : Int) + 1) (by omega) (by omega)]
   by_cases hr : r < 0
   ·exact .inr (by simp [hr])
   ·exact .inl ⟨r, by omega, e3, e4 (by omega), by simp [hr]⟩) (fun left => by simp [b7q]) (by omega) (by show left - a.length <= 1048576; omega)
  refine ⟨r, by rw [if_neg (by simpa using h)]; exact e1, e2, by omega, fun hr => ⟨?_, e4 hr⟩⟩
  show a.length <= 1048576
  omega
theorem x9o {x : CRl} (h1 : Big x.1) (h2 : Big x.2.1) (h3 : Big x.2.2) (h4 : ∀ c ∈ x.2.2, Big c.1 /\ Big c.2) {left : Int} (h0 : 0 <= left) (hM : left <= Mx) : ∃ r, c8q x left = some r /\ -1 <= r /\ r <= left /\ (0 <= r -> SmR x) := by
 obtain ⟨r, e1, e2, e3, e4⟩ := szI h1 h0 hM
 unfold c8q
 rw [e1, obz]
 by_cases hr : r < 0
 ·exact ⟨-1, by simp [hr], by omega, by omega, by omega⟩
 obtain ⟨r', g1, g2, g3, g4⟩ := szI h2 (left := r) (by omega) (by omega)
 rw [g1]
 by_cases hr' : r' < 0
 ·exact ⟨-1, by simp [hr, hr'], by omega, by omega, by omega⟩
 obtain ⟨r'', k1, k2, k3, k4⟩ := szEqS h3 h4 (left := r') (by omega) (by omega)
 simp only [hr, hr', decide_false, bft, if_false, obz, k1]
 by_cases hr'' : r'' < 0
 ·exact ⟨-1, by simp [hr''], by omega, by omega, by omega⟩
 ·exact ⟨r'', by simp [hr''], by omega, by omega, fun _ => ⟨e4 (by omega), g4 (by omega), (k4 (by omega)).1, (k4 (by omega)).2⟩⟩
theorem x2o {a : List CRl} (ha : Big a) (ht : ∀ r ∈ a, Big r.1 /\ Big r.2.1 /\ Big r.2.2 /\ ∀ c ∈ r.2.2, Big c.1 /\ Big c.2) {left : Int} (h0 : 0 <= left) (hM : left <= Mx) :
 ∃ r, b6q a left = some r /\ -1 <= r /\ r <= left /\ (0 <= r -> a.length <= Mx /\ ∀ x ∈ a, SmR x) := by
 unfold b6q
 have ha' : a.length < 9223372036854775808 := ha
 have hM' : left <= 1048576 := hM
 rw [e7 (n := left - (a.length : Int)) (by omega) (by omega)]
 by_cases h : left - (a.length : Int) < 0
 ·exact ⟨-1, by simp [h], by omega, by omega, by omega⟩
 ·obtain ⟨r, e1, e2, e3, e4⟩ := j5d (a := a) (Q := SmR) (f := u2q a) (left := left - a.length) (fun i left x hi hx hg h0 hM => by
   obtain ⟨b1, b2, b3, b4⟩ := ht x hx
   obtain ⟨r, e1, e2, e3, e4⟩ := x9o b1 b2 b3 b4 h0 hM
   simp only [u2q, show (i : Int) < a.length by omega, decide_true, if_true, show (0 : Int) <= i by omega, and_self, itn, hg, e1, obz, e7 (n := (i : Int) + 1) (by omega) (by omega)]
   by_cases hr : r < 0
   ·exact .inr (by simp [hr])
   ·exact .inl ⟨r, by omega, e3, e4 (by omega), by simp [hr]⟩) (fun left => by simp [u2q]) (by omega) (by show left - a.length <= 1048576; omega)
  refine ⟨r, by rw [if_neg (by simpa using h)]; exact e1, e2, by omega, fun hr => ⟨?_, e4 hr⟩⟩
  show a.length <= 1048576
  omega
theorem j6k {s : CSy} (hs : y0o s) : ∃ r, f6q s 1048576 = some r /\ (0 <= r -> y1f s) := by
 obtain ⟨r, e1, e2, e3, e4⟩ := szI hs.sig (left := 1048576) (by omega) (by decide)
 unfold f6q q2x
 rw [e1, obz]
 by_cases hr : r < 0
 ·exact ⟨-1, by simp [hr], by omega⟩
 ·obtain ⟨r', g1, g2, g3, g4⟩ := x2o hs.rules hs.to (left := r) (by omega) (Int.le_trans e3 (by decide))
  simp only [hr, decide_false, bft, if_false, obz, g1]
  by_cases hr' : r' < 0
  ·exact ⟨-1, by simp [hr'], by omega⟩
  ·exact ⟨r', by simp [hr'], fun h => ⟨e4 (by omega), (g4 h).1, (g4 h).2⟩⟩
theorem z8v {x : q7 × q7} (h : x.1.length <= Mx /\ x.2.length <= Mx) : k4o x = some x := by
 unfold k4o
 rw [q2f h.1, obz, q2f h.2, obz]
theorem z8u {a : Ty3} (h : a.length <= Mx) (ht : ∀ x ∈ a, x.1.length <= Mx /\ x.2.length <= Mx) : k4n a = some a := by
 have h' : a.length <= 1048576 := h
 unfold k4n
 rw [if_pos ⟨by omega, by omega, by omega⟩]
 have := z5c (a := a) (z := List.replicate a.length ([], [])) (g := id) (f := q6e a) (by simp) (fun i out hi ho hm => by
  simp only [q6e, show (i : Int) < a.length by omega, show (i : Int) < out.length by omega, decide_true, if_true, show (0 : Int) <= i by omega, and_self, itn, z8v (ht _ hm), obz, e7 (n := (i : Int) + 1) (by omega) (by omega), id]) (fun out => by simp [q6e])
 simpa using this
theorem z8t {x : CRl} (h : SmR x) : k4m x = some x := by
 unfold k4m
 rw [q2f h.1, obz, q2f h.2.1, obz, z8u h.2.2.1 h.2.2.2, obz]
theorem z8s {a : List CRl} (h : a.length <= Mx) (ht : ∀ x ∈ a, SmR x) : k4l a = some a := by
 have h' : a.length <= 1048576 := h
 unfold k4l
 rw [if_pos ⟨by omega, by omega, by omega⟩]
 have := z5c (a := a) (z := List.replicate a.length ([], [], [])) (g := id) (f := q6d a) (by simp) (fun i out hi ho hm => by
  simp only [q6d, show (i : Int) < a.length by omega, show (i : Int) < out.length by omega, decide_true, if_true, show (0 : Int) <= i by omega, and_self, itn, z8t (ht _ hm), obz, e7 (n := (i : Int) + 1) (by omega) (by omega), id]) (fun out => by simp [q6d])
 simpa using this
theorem z0x {s : CSy} (h : y1f s) : k2k s = some s := by
 unfold k2k z6a
 rw [q2f h.sig, obz, obz, z8s h.rules h.to, obz]
theorem z8r {s : CSy} (h : y1f s) : k8i s = some s := by
 unfold k8i
 rw [z0x h, obz, if_pos ⟨rfl, rfl⟩]
theorem j3t {x : q7 × q7} (h : x.1.length <= Mx /\ x.2.length <= Mx) : q1y x x = some true := by
 have h1 : x.1.length <= 1048576 := h.1
 have h2 : x.2.length <= 1048576 := h.2
 unfold q1y
 rw [q3d (show x.1.length < _ by omega), obz, if_pos rfl, q3d (show x.2.length < _ by omega), obz, if_pos rfl]
theorem z9y {a : Ty3} (h : a.length <= Mx) (ht : ∀ x ∈ a, x.1.length <= Mx /\ x.2.length <= Mx) : h9q a a = some true := by
 have h1 : a.length <= 1048576 := h
 unfold h9q
 rw [if_neg (by simp)]
 refine k0d (a := a) (fun i hi => ?_) (by simp [t5q])
 simp only [t5q, show (i : Int) < a.length by omega, decide_true, if_true, show (0 : Int) <= i by omega, and_self, itn, j3t (ht _ (u4 hi)), obz, e7 (n := (i : Int) + 1) (by omega) (by omega)]
theorem z1u {x : CRl} (h : SmR x) : c6q x x = some true := by
 have h1 : x.1.length <= 1048576 := h.1
 have h2 : x.2.1.length <= 1048576 := h.2.1
 unfold c6q
 rw [q3d (show x.1.length < _ by omega), obz, if_pos rfl, q3d (show x.2.1.length < _ by omega), obz, if_pos rfl, z9y h.2.2.1 h.2.2.2, obz, if_pos rfl]
theorem k6x {s : CSy} (h : y1f s) : f5q s s = some true := by
 have h1 : s.1.length <= 1048576 := h.sig
 have h2 : s.2.length <= 1048576 := h.rules
 have e : b4q s.2 s.2 = some true := by
  unfold b4q
  rw [if_neg (by simp)]
  refine k0d (a := s.2) (fun i hi => ?_) (by simp [p0q])
  simp only [p0q, show (i : Int) < s.2.length by omega, decide_true, if_true, show (0 : Int) <= i by omega, and_self, itn, z1u (h.to _ (u4 hi)), obz, e7 (n := (i : Int) + 1) (by omega) (by omega)]
 unfold f5q q2w
 rw [q3d (show s.1.length < _ by omega)]
 simp [e]
theorem z8o {a : Ty3} {n : Nat} {k : Int} (hn : n = a.length) (hl : a.length <= Mx) (ht : ∀ x ∈ a, x.1.length <= Mx /\ x.2.length <= Mx) (h0 : 0 <= k) (hk : k <= 3 * Kx) : k4i n a k = some (c5 mR a k) := by
 subst hn
 have hl' : a.length <= 1048576 := hl
 have hk' : k <= 3 * 1152921504606846976 := hk
 unfold k4i
 refine k9k (g := mR) (fun i k' => 0 <= k' /\ k' <= k + 2097152 * i) (fun i k' b x hi hb hx hg hp => ?_) (fun k' b => by simp [q9c]) ⟨h0, by omega⟩
 obtain ⟨p0, p1⟩ := hp
 have hx1 : x.1.length <= 1048576 := (ht x hx).1
 have g1 := k9l (a := x.1) p0
 have := y2p p0 (ht x hx)
 refine ⟨?_, by omega⟩
 simp only [q9c, show (i : Int) < a.length by omega, show (i : Int) < b.length by omega, decide_true, if_true, show (0 : Int) <= i by omega, and_self, itn, hg, q0c rfl (ht x hx).1 p0 (show k' <= 4 * 1152921504606846976 by omega),
  q0c rfl (ht x hx).2 (show 0 <= (c5 mI x.1 k').2 by omega) (show (c5 mI x.1 k').2 <= 4 * 1152921504606846976 by omega), obz, e7 (n := (i : Int) + 1) (by omega) (by omega), mR]
def mCR (x : CRl) (k : Int) : CRl × Int :=
 (((c5 mI x.1 k).1, (c5 mI x.2.1 (c5 mI x.1 k).2).1, (c5 mR x.2.2 (c5 mI x.2.1 (c5 mI x.1 k).2).2).1), (c5 mR x.2.2 (c5 mI x.2.1 (c5 mI x.1 k).2).2).2)
theorem x4s {x : CRl} {k : Int} (h0 : 0 <= k) (h : SmR x) : k <= (c5 mI x.1 k).2 /\ (c5 mI x.1 k).2 <= (c5 mI x.2.1 (c5 mI x.1 k).2).2 /\ (c5 mI x.2.1 (c5 mI x.1 k).2).2 <= k + 2097152 /\ k <= (mCR x k).2 /\ (mCR x k).2 <= k + 2199025352704 := by
 have h1 : x.1.length <= 1048576 := h.1
 have h2 : x.2.1.length <= 1048576 := h.2.1
 have h3 : x.2.2.length <= 1048576 := h.2.2.1
 have g1 := k9l (a := x.1) h0
 have g2 := k9l (a := x.2.1) (k := (c5 mI x.1 k).2) (by omega)
 have g3 := k5s (g := mR) (B := 2097152) (by decide) (a := x.2.2) (k := (c5 mI x.2.1 (c5 mI x.1 k).2).2) (by omega) (fun y hy k hk => y2p hk (h.2.2.2 y hy))
 simp only [mCR]
 omega
theorem z8n {a : List CRl} {n : Nat} {k : Int} (hn : n = a.length) (hl : a.length <= Mx) (ht : ∀ x ∈ a, SmR x) (h0 : 0 <= k) (hk : k <= 1073741824) : k4h n a k = some (c5 mCR a k) := by
 subst hn
 have hl' : a.length <= 1048576 := hl
 unfold k4h
 refine k9k (g := mCR) (fun i k' => 0 <= k' /\ k' <= k + 2199025352704 * i) (fun i k' b x hi hb hx hg hp => ?_) (fun k' b => by simp [q9b]) ⟨h0, by omega⟩
 obtain ⟨p0, p1⟩ := hp
 obtain ⟨g1, g2, g3, g4, g5⟩ := x4s p0 (ht x hx)
 refine ⟨?_, by omega⟩
 simp only [q9b, show (i : Int) < a.length by omega, show (i : Int) < b.length by omega, decide_true, if_true, show (0 : Int) <= i by omega, and_self, itn, hg, q0c rfl (ht x hx).1 p0 (show k' <= 4 * 1152921504606846976 by omega),
  q0c rfl (ht x hx).2.1 (show 0 <= (c5 mI x.1 k').2 by omega) (show (c5 mI x.1 k').2 <= 4 * 1152921504606846976 by omega), z8o rfl (ht x hx).2.2.1 (ht x hx).2.2.2 (show 0 <= (c5 mI x.2.1 (c5 mI x.1 k').2).2 by omega) (show (c5 mI x.2.1 (c5 mI x.1 k').2).2 <= 3 * 1152921504606846976 by omega),
  obz, e7 (n := (i : Int) + 1) (by omega) (by omega), mCR]
theorem j1t {s : CSy} (h : y1f s) : ∃ m, z0v s.1.length s.2.length s 1 = some m /\ 0 <= m.2 /\ m.2 <= 3 * Kx := by
 have h1 : s.1.length <= 1048576 := h.sig
 have h2 : s.2.length <= 1048576 := h.rules
 have g1 := k9l (a := s.1) (k := 1) (by decide)
 have g2 := k5s (g := mCR) (B := 2199025352704) (by decide) (a := s.2) (k := (c5 mI s.1 1).2) (by omega) (fun x hx k hk => by have := x4s hk (h.to x hx); omega)
 unfold z0v z5z
 rw [q0c rfl h.sig (by decide) (by decide), obz, obz, z8n rfl h.rules h.to (show 0 <= (c5 mI s.1 1).2 by omega) (show (c5 mI s.1 1).2 <= 1073741824 by omega), obz]
 refine ⟨_, rfl, ?_, ?_⟩
 ·show 0 <= (c5 mCR s.2 (c5 mI s.1 1).2).2
  omega
 ·show (c5 mCR s.2 (c5 mI s.1 1).2).2 <= 3 * 1152921504606846976
  omega
theorem y1u {cs : CSy} {t : q7} {i k d : Int} {w : Wlk} (h : cwO cs t i k d = some w) : SmW w := by
 unfold cwO at h
 split at h
 ·rename_i hc
  obtain ⟨u, hu⟩ := Option.isSome_iff_exists.1 hc.1
  obtain ⟨_, ht, _⟩ := k4x hu
  exact q3k ⟨(j4.1 ht).2.2.1, by simp, fun m hm => by cases hm⟩ h
 ·cases h
theorem j4t {s : CSy} {t : q7} {i k d : Int} (hs : y0o s) : u1q s t i k d = some true := by
 unfold u1q
 by_cases htl : 1048576 < (t.length : Int)
 ·rw [if_pos (by simpa using htl)]
 rw [if_neg (by simpa using htl)]
 obtain ⟨r, e1, e2⟩ := j6k hs
 rw [e1, obz]
 by_cases hr : r < 0
 ·rw [if_pos (by simpa using hr)]
 rw [if_neg (by simpa using hr)]
 have sm := e2 (by omega)
 have st : t.length <= Mx := by show t.length <= 1048576; omega
 have q1 := k1c s t i k d
 have q2 := k0w s t i k d
 have q3 := fun w => @y1u s t i k d w
 generalize cwO s t i k d = R at q1 q2 q3
 have hR : (k5c R).1 = (q6k R).1.1 /\ (k5c R).2.1 = (q6k R).1.2 /\ (k5c R).2.2 = (q6k R).2 := by cases R <;> exact ⟨rfl, rfl, rfl⟩
 have hsm : (q6k R).1.1.length <= Mx /\ (q6k R).1.2.length <= Mx /\ ∀ x ∈ (q6k R).1.2, x.2.2.length <= Mx := by
  cases R with
  | none => exact ⟨by simp [q6k], by simp [q6k], fun x hx => by cases hx⟩
  | some w =>
   have := q3 w rfl
   refine ⟨?_, ?_, fun x hx => ?_⟩
   ·have := this.from'; show w.1.length <= 1048576; omega
   ·have := this.len; show w.2.length <= 1048576; omega
   ·have := this.to x hx; show x.2.2.length <= 1048576; omega
 obtain ⟨s1, s2, s3⟩ := hsm
 obtain ⟨m1, f1, f2, f3⟩ := j1t sm
 have f3' : m1.2 <= 3 * 1152921504606846976 := f3
 have g1 := q0c (a := t) (n := t.length) rfl st f2 (show m1.2 <= 4 * 1152921504606846976 by omega)
 have g2 := k9l (a := t) f2
 obtain ⟨m3, k1, k2, k3, k4, _, k5⟩ := j5f (w := (q6k R).1) s1 s2 s3 (k := 1) (by decide) (by decide)
 have l1 : q0b s.1.length s.2.length t.length s t i k d = some (k5c R) := by
  unfold q0b; rw [if_pos ⟨rfl, rfl, rfl⟩]; exact q2
 have l2 : q3s (q6k R).1.1.length (q6k R).1.2.length (q6k R).1 (q6k R).1 = some true := by
  unfold q3s; rw [if_pos ⟨rfl, rfl⟩]; exact z4o s1 s2 s3
 have l3 : q9a s.1.length s.2.length s.1.length s.2.length s s = some true := by
  unfold q9a; rw [if_pos ⟨rfl, rfl, rfl, rfl⟩]; exact k6x sm
 have l4 : q8z t.length t.length t t = some true := by
  unfold q8z; rw [if_pos ⟨rfl, rfl⟩]; exact q3d (show t.length < _ by omega)
 have l5 : q5z (q6k R).1.1.length (q6k R).1.2.length m3.1 1 = some m3.2 := by
  unfold q5z; rw [if_pos ⟨k2.symm, k3.symm⟩]; exact k5
 have n1 : ¬ (c5 mI t m1.2).2 < 0 := by omega
 have n2 : ¬ m3.2 < 0 := by omega
 simp only [z8r sm, z8p st, q1, z0x sm, q2f st, obz, l1, hR.1, hR.2.1, hR.2.2, l2, l3, l4, l5, f1, g1, k1, bne_self_eq_false, bft, if_false, if_true, n1, n2, decide_false]
theorem k6z {s : CSy} {t : q7} {i k d : Int} (hs : y0o s) : p7 Tryz.prog 6 [y5q s, (z7 1 iD) t, iD i, iD k, iD d] (bD true) := q6i.c (j4t hs)
end Go.Proofs.YtklfjpilhbkekaaGreat
