/- Plain theory of flat terms, matching and substitution; nothing is assumed. -/
set_option linter.all false
namespace Tm
def ari (a : List Int) (x : Int) : Nat := if x < 0 then 0 else (a.getD x.toNat 0).toNat
def okx (a : List Int) (x : Int) : Prop := -24 <= x /\ x < a.length
instance (a : List Int) (x : Int) : Decidable (okx a x) := by unfold okx; infer_instance
def skip (a : List Int) : List Int -> Nat -> Option (List Int)
 | t, 0 => some t
 | [], _ + 1 => none
 | x :: t, k + 1 => if okx a x then skip a t (k + ari a x) else none
def Wf (a : List Int) (k : Nat) (t : List Int) : Prop := skip a t k = some []
instance (a : List Int) (k : Nat) (t : List Int) : Decidable (Wf a k t) := by unfold Wf; infer_instance
theorem e0q (a t : List Int) : skip a t 0 = some t := by cases t <;> simp [skip]
theorem q0l (a t : List Int) (x : Int) (k : Nat) : skip a (x :: t) (k + 1) = if okx a x then skip a t (k + ari a x) else none := by simp [skip]
theorem z0f (a : List Int) (k : Nat) : skip a [] (k + 1) = none := by simp [skip]
theorem z7z {a : List Int} (s : List Int) : ∀ {t r : List Int} {k : Nat}, skip a t k = some r -> skip a (t ++ s) k = some (r ++ s)
 | t, r, 0, h => by rw [e0q] at h ⊢; cases h; rfl
 | [], r, k + 1, h => by simp [skip] at h
 | x :: t, r, k + 1, h => by
  rw [List.cons_append]
  rw [q0l] at h ⊢
  split at h
  ·rename_i hx; rw [if_pos hx]; exact z7z s h
  ·cases h
theorem z0e {a : List Int} (j : Nat) : ∀ {t : List Int} {k : Nat}, skip a t (k + j) = (skip a t k).bind fun r => skip a r j
 | t, 0 => by simp [e0q]
 | [], k + 1 => by rw [show k + 1 + j = (k + j) + 1 by omega]; simp [skip]
 | x :: t, k + 1 => by
  rw [show k + 1 + j = (k + j) + 1 by omega, q0l, q0l]
  split
  ·rw [show k + j + ari a x = (k + ari a x) + j by omega]; exact z0e j
  ·rfl
theorem k2d {a : List Int} : ∀ {t r : List Int} {k : Nat}, skip a t k = some r -> ∃ u, t = u ++ r /\ Wf a k u
 | t, r, 0, h => by rw [e0q] at h; cases h; exact ⟨[], rfl, e0q _ _⟩
 | [], r, k + 1, h => by simp [skip] at h
 | x :: t, r, k + 1, h => by
  rw [q0l] at h
  split at h
  ·rename_i hx
   obtain ⟨u, rfl, h2⟩ := k2d h
   exact ⟨x :: u, rfl, by unfold Wf; rw [q0l, if_pos hx]; exact h2⟩
  ·cases h
theorem Wf.skip {a u : List Int} {k : Nat} (h : Wf a k u) (s : List Int) : skip a (u ++ s) k = some s := z7z s h
theorem Wf.app {a u v : List Int} {k j : Nat} (h : Wf a k u) (h' : Wf a j v) : Wf a (k + j) (u ++ v) := by
 unfold Wf; rw [z0e, h.skip]; exact h'
theorem Wf.nil {a : List Int} : Wf a 0 [] := e0q _ _
theorem Wf.zero {a t : List Int} (h : Wf a 0 t) : t = [] := by unfold Wf at h; rw [e0q] at h; exact Option.some.inj h
theorem Wf.cons_iff {a t : List Int} {x : Int} {k : Nat} : Wf a (k + 1) (x :: t) ↔ okx a x /\ Wf a (k + ari a x) t := by
 unfold Wf; rw [q0l]; split <;> simp_all
theorem Wf.pos {a t : List Int} {k : Nat} (h : Wf a (k + 1) t) : ∃ x r, t = x :: r /\ okx a x /\ Wf a (k + ari a x) r := by
 cases t with
 | nil => simp [Wf, Tm.skip] at h
 | cons x r => exact ⟨x, r, rfl, Wf.cons_iff.1 h⟩
theorem Wf.split {a t : List Int} {k j : Nat} (h : Wf a (k + j) t) : ∃ u v, t = u ++ v /\ Wf a k u /\ Wf a j v := by
 unfold Wf at h; rw [z0e] at h
 obtain ⟨r, h1, h2⟩ := Option.bind_eq_some_iff.1 h
 obtain ⟨u, rfl, h3⟩ := k2d h1
 exact ⟨u, r, rfl, h3, h2⟩
theorem Wf.uniq {a u u' v v' : List Int} {k : Nat} (h : Wf a k u) (h' : Wf a k u') (e : u ++ v = u' ++ v') : u = u' /\ v = v' := by
 have h1 := h.skip v
 have h2 := h'.skip v'
 rw [e, h2] at h1
 cases Option.some.inj h1
 exact ⟨List.append_cancel_right e, rfl⟩
theorem Wf.all {a : List Int} : ∀ {t : List Int} {k : Nat}, Wf a k t -> ∀ x ∈ t, okx a x
 | [], _, _ => by simp
 | y :: t, 0, h => by have := h.zero; cases this
 | y :: t, k + 1, h => by
  obtain ⟨h1, h2⟩ := Wf.cons_iff.1 h
  intro x hx
  rcases List.mem_cons.1 hx with rfl | hx
  ·exact h1
  ·exact h2.all x hx
theorem Wf.len {a : List Int} : ∀ {t : List Int} {k : Nat}, Wf a k t -> k <= t.length
 | t, 0, _ => by omega
 | [], k + 1, h => by simp [Wf, Tm.skip] at h
 | y :: t, k + 1, h => by
  obtain ⟨h1, h2⟩ := Wf.cons_iff.1 h
  have := h2.len
  simp; omega
theorem Wf.place {a : List Int} : ∀ {t : List Int} {k i : Nat}, Wf a k t -> i < t.length -> ∃ p u s, t = p ++ (u ++ s) /\ p.length = i /\ Wf a 1 u
 | [], _, _, _, hi => by simp at hi
 | y :: t, 0, _, h, _ => by have := h.zero; cases this
 | y :: t, k + 1, 0, h, _ => by
  rw [show k + 1 = 1 + k by omega] at h
  obtain ⟨u, v, e, h1, _⟩ := h.split
  exact ⟨[], u, v, e, rfl, h1⟩
 | y :: t, k + 1, i + 1, h, hi => by
  obtain ⟨p, u, s, rfl, h2, h3⟩ := (Wf.cons_iff.1 h).2.place (i := i) (by simpa using hi)
  exact ⟨y :: p, u, s, rfl, by simp [h2], h3⟩
theorem Wf.put {a u v s : List Int} (hu : Wf a 1 u) (hv : Wf a 1 v) : ∀ {p : List Int} {k : Nat}, Wf a k (p ++ (u ++ s)) -> Wf a k (p ++ (v ++ s))
 | [], 0, h => by
  have := h.zero
  have := hu.len
  simp_all
 | [], k + 1, h => by
  rw [List.nil_append] at h ⊢
  rw [show k + 1 = 1 + k by omega] at h ⊢
  obtain ⟨u', v', e, h1, h2⟩ := h.split
  obtain ⟨rfl, rfl⟩ := hu.uniq h1 e
  exact hv.app h2
 | y :: p, 0, h => by have := h.zero; cases this
 | y :: p, k + 1, h => by
  rw [List.cons_append] at h ⊢
  obtain ⟨h1, h2⟩ := Wf.cons_iff.1 h
  exact Wf.cons_iff.2 ⟨h1, Wf.put hu hv h2⟩
def sub (σ : Int -> List Int) (t : List Int) : List Int := t.flatMap fun x => if x < 0 then σ x else [x]
theorem q1l (σ : Int -> List Int) (x : Int) (t : List Int) : sub σ (x :: t) = (if x < 0 then σ x else [x]) ++ sub σ t := by simp [sub]
theorem z5p (σ : Int -> List Int) (s t : List Int) : sub σ (s ++ t) = sub σ s ++ sub σ t := by simp [sub]
theorem q6u {σ τ : Int -> List Int} {t : List Int} (h : ∀ x ∈ t, x < 0 -> σ x = τ x) : sub σ t = sub τ t := by
 induction t with
 | nil => rfl
 | cons x t ih =>
  rw [q1l, q1l, ih fun y hy => h y (by simp [hy])]
  by_cases hx : x < 0
  ·rw [if_pos hx, if_pos hx, h x (by simp) hx]
  ·rw [if_neg hx, if_neg hx]
theorem Wf.sub {a : List Int} {σ : Int -> List Int} : ∀ {t : List Int} {k : Nat}, Wf a k t -> (∀ x ∈ t, x < 0 -> Wf a 1 (σ x)) -> Wf a k (Tm.sub σ t)
 | [], k, h, _ => by simpa [Tm.sub] using h
 | y :: t, 0, h, _ => by have := h.zero; cases this
 | y :: t, k + 1, h, hs => by
  obtain ⟨h1, h2⟩ := Wf.cons_iff.1 h
  rw [q1l]
  have ih := h2.sub fun x hx => hs x (by simp [hx])
  by_cases hy : y < 0
  ·rw [if_pos hy, show k + 1 = 1 + k by omega]
   refine (hs y (by simp) hy).app ?_
   simpa [ari, hy] using ih
  ·rw [if_neg hy]
   exact Wf.cons_iff.2 ⟨h1, ih⟩
end Tm
namespace Tm
abbrev Bd := List (List Int)
def r5 (b : Bd) (n : Int) : List Int := b.getD (-1 - n).toNat []
def bset (b : Bd) (n : Int) (u : List Int) : Bd := b.set (-1 - n).toNat u
def mat (a : List Int) : List Int -> List Int -> Bd -> Option Bd
 | [], _, b => some b
 | n :: p, t, b =>
  if n < 0 then match skip a t 1 with
   | none => none
   | some r =>
    let u := t.take (t.length - r.length)
    if r5 b n = [] then mat a p r (bset b n u) else if r5 b n = u then mat a p r b else none
  else match t with
   | [] => none
   | y :: t => if y = n then mat a p t b else none
theorem q6r (a t : List Int) (b : Bd) : mat a [] t b = some b := by simp [mat]
theorem Wf.ne {a u : List Int} (h : Wf a 1 u) : u ≠ [] := by have := h.len; intro e; subst e; simp at this
theorem q8m {a p t : List Int} {n y : Int} {b : Bd} (hn : ¬ n < 0) : mat a (n :: p) (y :: t) b = if y = n then mat a p t b else none := by simp [mat, hn]
theorem k1u {a p u r : List Int} {n : Int} {b : Bd} (hn : n < 0) (hu : Wf a 1 u) : mat a (n :: p) (u ++ r) b =
 if r5 b n = [] then mat a p r (bset b n u) else if r5 b n = u then mat a p r b else none := by
 simp [mat, hn, hu.skip]
theorem q3x {b : Bd} {n m : Int} {u : List Int} (hn : n < 0) (hl : -1 - n < b.length) (hm : m < 0) : r5 (bset b n u) m = if m = n then u else r5 b m := by
 unfold r5 bset
 rw [List.getD_eq_getElem?_getD, List.getD_eq_getElem?_getD, List.getElem?_set]
 by_cases h : m = n
 ·subst h
  rw [if_pos rfl, if_pos rfl, if_pos (by omega)]; rfl
 ·rw [if_neg h, if_neg (by omega)]
theorem k0f {a : List Int} : ∀ {p t : List Int} {b b' : Bd} {k : Nat}, Wf a k p -> Wf a k t -> b.length = 24 -> mat a p t b = some b' ->
 t = sub (r5 b') p /\ b'.length = 24 /\ (∀ n, n < 0 -> r5 b n ≠ [] -> r5 b' n = r5 b n) /\ (∀ n ∈ p, n < 0 -> Wf a 1 (r5 b' n) ∨ r5 b n = r5 b' n /\ r5 b n ≠ []) /\
 (∀ n, n < 0 -> n ∉ p -> r5 b' n = r5 b n)
 | [], t, b, b', k, hp, ht, hb, h => by
  rw [q6r] at h
  cases h
  cases k with
  | zero => have := ht.zero; subst this; exact ⟨rfl, hb, fun _ _ _ => rfl, by simp, fun _ _ _ => rfl⟩
  | succ k => simp [Wf, Tm.skip] at hp
 | n :: p, t, b, b', 0, hp, ht, hb, h => by have := hp.zero; cases this
 | n :: p, t, b, b', k + 1, hp, ht, hb, h => by
  obtain ⟨hx, hp⟩ := Wf.cons_iff.1 hp
  by_cases hn : n < 0
  ·rw [show k + 1 = 1 + k by omega] at ht
   obtain ⟨u, r, rfl, hu, hr⟩ := ht.split
   rw [k1u hn hu] at h
   have ha : ari a n = 0 := by simp [ari, hn]
   rw [ha, Nat.add_zero] at hp
   have hl : -1 - n < b.length := by have := hx.1; omega
   split at h
   ·rename_i h0
    obtain ⟨h1, h2, h3, h4, h5⟩ := k0f hp hr (by simpa [bset] using hb) h
    have hbn : r5 b' n = u := by
     rw [h3 n hn (by rw [q3x hn hl hn, if_pos rfl]; exact hu.ne), q3x hn hl hn, if_pos rfl]
    refine ⟨by rw [q1l, if_pos hn, hbn, <- h1], h2, fun m hm hne => ?_, fun m hm hm0 => ?_, fun m hm hmp => ?_⟩
    ·by_cases hmn : m = n
     ·subst hmn; exact absurd h0 hne
     ·have := q3x (u := u) hn hl hm
      rw [if_neg hmn] at this
      rw [h3 m hm (by rw [this]; exact hne), this]
    ·by_cases hmn : m = n
     ·subst hmn; rw [hbn]; exact .inl hu
     ·have := q3x (u := u) hn hl hm0
      rw [if_neg hmn] at this
      rcases List.mem_cons.1 hm with e | hm
      ·exact absurd e hmn
      ·rw [<- this]; exact h4 m hm hm0
    ·have hmn : m ≠ n := fun e => hmp (by simp [e])
     have := q3x (u := u) hn hl hm
     rw [if_neg hmn] at this
     rw [h5 m hm fun hx => hmp (by simp [hx]), this]
   ·rename_i h0
    split at h
    ·rename_i h00
     obtain ⟨h1, h2, h3, h4, h5⟩ := k0f hp hr hb h
     have hbn : r5 b' n = u := by rw [h3 n hn h0, h00]
     refine ⟨by rw [q1l, if_pos hn, hbn, <- h1], h2, h3, fun m hm hm0 => ?_, fun m hm hmp => ?_⟩
     ·by_cases hmn : m = n
      ·subst hmn; rw [hbn]; exact .inl hu
      ·rcases List.mem_cons.1 hm with e | hm
       ·exact absurd e hmn
       ·exact h4 m hm hm0
     ·exact h5 m hm fun hx => hmp (by simp [hx])
    ·cases h
  ·obtain ⟨y, t, rfl, hy, ht⟩ := ht.pos
   rw [q8m hn] at h
   split at h
   ·rename_i e
    subst e
    obtain ⟨h1, h2, h3, h4, h5⟩ := k0f hp ht hb h
    refine ⟨by rw [q1l, if_neg hn, List.singleton_append, <- h1], h2, h3, fun m hm hm0 => ?_, fun m hm hmp => ?_⟩
    ·rcases List.mem_cons.1 hm with e | hm
     ·omega
     ·exact h4 m hm hm0
    ·exact h5 m hm fun hx => hmp (by simp [hx])
   ·cases h
theorem q3f {a : List Int} {σ : Int -> List Int} : ∀ {p : List Int} {b : Bd} {k : Nat}, Wf a k p -> b.length = 24 -> (∀ n ∈ p, n < 0 -> Wf a 1 (σ n)) -> (∀ n ∈ p, n < 0 -> r5 b n = [] ∨ r5 b n = σ n) ->
 ∃ b', mat a p (sub σ p) b = some b' /\ b'.length = 24 /\ (∀ n ∈ p, n < 0 -> r5 b' n = σ n) /\ (∀ n, n < 0 -> n ∉ p -> r5 b' n = r5 b n)
 | [], b, k, hp, hb, hs, hc => ⟨b, q6r _ _ _, hb, by simp, fun _ _ _ => rfl⟩
 | n :: p, b, 0, hp, hb, hs, hc => by have := hp.zero; cases this
 | n :: p, b, k + 1, hp, hb, hs, hc => by
  obtain ⟨hx, hp⟩ := Wf.cons_iff.1 hp
  by_cases hn : n < 0
  ·have hu := hs n (by simp) hn
   have ha : ari a n = 0 := by simp [ari, hn]
   rw [ha, Nat.add_zero] at hp
   have hl : -1 - n < b.length := by have := hx.1; omega
   rw [q1l, if_pos hn, k1u hn hu]
   by_cases h0 : r5 b n = []
   ·rw [if_pos h0]
    have hg : ∀ m, m < 0 -> r5 (bset b n (σ n)) m = if m = n then σ n else r5 b m := fun m hm => q3x hn hl hm
    obtain ⟨b', h1, h2, h3, h4⟩ := q3f (σ := σ) (b := bset b n (σ n)) hp (by simpa [bset] using hb) (fun m hm hm0 => hs m (by simp [hm]) hm0) fun m hm hm0 => by
     rw [hg m hm0]
     by_cases hmn : m = n
     ·subst hmn; rw [if_pos rfl]; exact .inr rfl
     ·rw [if_neg hmn]; exact hc m (by simp [hm]) hm0
    refine ⟨b', h1, h2, fun m hm hm0 => ?_, fun m hm hmp => ?_⟩
    ·by_cases hmp : m ∈ p
     ·exact h3 m hmp hm0
     ·rcases List.mem_cons.1 hm with rfl | hm
      ·rw [h4 m hm0 hmp, hg m hm0, if_pos rfl]
      ·exact absurd hm hmp
    ·have hmn : m ≠ n := fun e => hmp (by simp [e])
     rw [h4 m hm fun hx => hmp (by simp [hx]), hg m hm, if_neg hmn]
   ·have hbn : r5 b n = σ n := (hc n (by simp) hn).resolve_left h0
    rw [if_neg h0, if_pos hbn]
    obtain ⟨b', h1, h2, h3, h4⟩ := q3f hp hb (fun m hm hm0 => hs m (by simp [hm]) hm0) fun m hm hm0 => hc m (by simp [hm]) hm0
    refine ⟨b', h1, h2, fun m hm hm0 => ?_, fun m hm hmp => h4 m hm fun hx => hmp (by simp [hx])⟩
    by_cases hmp : m ∈ p
    ·exact h3 m hmp hm0
    ·rcases List.mem_cons.1 hm with rfl | hm
     ·rw [h4 m hm0 hmp, hbn]
     ·exact absurd hm hmp
  ·rw [q1l, if_neg hn, List.singleton_append, q8m hn, if_pos rfl]
   obtain ⟨b', h1, h2, h3, h4⟩ := q3f hp hb (fun m hm hm0 => hs m (by simp [hm]) hm0) fun m hm hm0 => hc m (by simp [hm]) hm0
   refine ⟨b', h1, h2, fun m hm hm0 => ?_, fun m hm hmp => h4 m hm fun hx => hmp (by simp [hx])⟩
   rcases List.mem_cons.1 hm with rfl | hm
   ·exact absurd hm0 hn
   ·exact h3 m hm hm0
end Tm
namespace Tm
end Tm
namespace Tm
end Tm
namespace Tm
def j1q : Bd := List.replicate 24 []
theorem z1d (n : Int) : r5 j1q n = [] := by
 unfold r5 j1q
 rw [List.getD_eq_getElem?_getD, List.getElem?_replicate]
 split <;> rfl
def Mv (a f o t t' : List Int) (i : Nat) : Prop := ∃ p s σ, p.length = i /\ t = p ++ (sub σ f ++ s) /\ t' = p ++ (sub σ o ++ s) /\ ∀ x, x < 0 -> Wf a 1 (σ x)
theorem Mv.wf {a f o t t' : List Int} {i : Nat} (h : Mv a f o t t' i) (hf : Wf a 1 f) (ho : Wf a 1 o) (ht : Wf a 1 t) : Wf a 1 t' := by
 obtain ⟨p, s, σ, h1, rfl, rfl, h4⟩ := h
 exact Wf.put (hf.sub fun x _ hx => h4 x hx) (ho.sub fun x _ hx => h4 x hx) ht
theorem Wf.var {a : List Int} : Wf a 1 [-1] := Wf.cons_iff.2 ⟨⟨by omega, by omega⟩, by simp [ari]; exact Wf.nil⟩
def x7 (a t : List Int) (i : Nat) : List Int := match skip a (t.drop i) 1 with
 | some r => (t.drop i).take ((t.drop i).length - r.length)
 | none => []
theorem k8o {a p u s : List Int} (hu : Wf a 1 u) : x7 a (p ++ (u ++ s)) p.length = u := by
 unfold x7
 rw [List.drop_left, hu.skip]
 simp
def j8f (a t : List Int) (i : Nat) (v : List Int) : List Int := t.take i ++ (v ++ t.drop (i + (x7 a t i).length))
theorem k6a {a p u s v : List Int} (hu : Wf a 1 u) : j8f a (p ++ (u ++ s)) p.length v = p ++ (v ++ s) := by
 unfold j8f
 rw [k8o hu, List.take_left, <- List.drop_drop, List.drop_left, List.drop_left]
def mvB (a f o t t' : List Int) (i : Nat) : Bool := j8f a t i (x7 a t' i) == t' && ((mat a f (x7 a t i) j1q).bind fun b => mat a o (x7 a t' i) b).isSome
def sig (b : Bd) (n : Int) : List Int := if r5 b n = [] then [n] else r5 b n
def j6h (a l r t : List Int) (i : Nat) : Option (List Int) := (mat a l (x7 a t i) j1q).bind fun b =>
 if (sub (sig b) r).length <= 60 /\ (j8f a t i (sub (sig b) r)).length <= 60 then some (j8f a t i (sub (sig b) r)) else none
end Tm
