/- Plain theory of flat terms, matching, substitution and polynomial bounds; nothing is assumed. -/
set_option linter.unusedSimpArgs false
set_option linter.unusedVariables false
set_option linter.unusedSectionVars false
namespace Tm
/-! Terms as flat lists: plain theory. -/
def ari (a : List Int) (x : Int) : Nat := if x < 0 then 0 else (a.getD x.toNat 0).toNat
def okx (a : List Int) (x : Int) : Prop := -24 ≤ x ∧ x < a.length
instance (a : List Int) (x : Int) : Decidable (okx a x) := by unfold okx; infer_instance
/-- what is left of a list behind its first k terms -/
def skip (a : List Int) : List Int → Nat → Option (List Int)
  | t, 0 => some t
  | [], _ + 1 => none
  | x :: t, k + 1 => if okx a x then skip a t (k + ari a x) else none
def Wf (a : List Int) (k : Nat) (t : List Int) : Prop := skip a t k = some []
instance (a : List Int) (k : Nat) (t : List Int) : Decidable (Wf a k t) := by unfold Wf; infer_instance
theorem skip_zero (a t : List Int) : skip a t 0 = some t := by cases t <;> simp [skip]
theorem skip_cons (a t : List Int) (x : Int) (k : Nat) : skip a (x :: t) (k + 1) = if okx a x then skip a t (k + ari a x) else none := by simp [skip]
theorem skip_nil (a : List Int) (k : Nat) : skip a [] (k + 1) = none := by simp [skip]
theorem skip_app {a : List Int} (s : List Int) : ∀ {t r : List Int} {k : Nat}, skip a t k = some r → skip a (t ++ s) k = some (r ++ s)
  | t, r, 0, h => by rw [skip_zero] at h ⊢; cases h; rfl
  | [], r, k + 1, h => by simp [skip] at h
  | x :: t, r, k + 1, h => by
    rw [List.cons_append]
    rw [skip_cons] at h ⊢
    split at h
    · rename_i hx; rw [if_pos hx]; exact skip_app s h
    · cases h
theorem skip_add {a : List Int} (j : Nat) : ∀ {t : List Int} {k : Nat}, skip a t (k + j) = (skip a t k).bind fun r => skip a r j
  | t, 0 => by simp [skip_zero]
  | [], k + 1 => by rw [show k + 1 + j = (k + j) + 1 by omega]; simp [skip]
  | x :: t, k + 1 => by
    rw [show k + 1 + j = (k + j) + 1 by omega, skip_cons, skip_cons]
    split
    · rw [show k + j + ari a x = (k + ari a x) + j by omega]; exact skip_add j
    · rfl
theorem skip_split {a : List Int} : ∀ {t r : List Int} {k : Nat}, skip a t k = some r → ∃ u, t = u ++ r ∧ Wf a k u
  | t, r, 0, h => by rw [skip_zero] at h; cases h; exact ⟨[], rfl, skip_zero _ _⟩
  | [], r, k + 1, h => by simp [skip] at h
  | x :: t, r, k + 1, h => by
    rw [skip_cons] at h
    split at h
    · rename_i hx
      obtain ⟨u, rfl, h2⟩ := skip_split h
      exact ⟨x :: u, rfl, by unfold Wf; rw [skip_cons, if_pos hx]; exact h2⟩
    · cases h
theorem Wf.skip {a u : List Int} {k : Nat} (h : Wf a k u) (s : List Int) : skip a (u ++ s) k = some s := skip_app s h
theorem Wf.app {a u v : List Int} {k j : Nat} (h : Wf a k u) (h' : Wf a j v) : Wf a (k + j) (u ++ v) := by
  unfold Wf; rw [skip_add, h.skip]; exact h'
theorem Wf.nil {a : List Int} : Wf a 0 [] := skip_zero _ _
theorem Wf.zero {a t : List Int} (h : Wf a 0 t) : t = [] := by unfold Wf at h; rw [skip_zero] at h; exact Option.some.inj h
theorem Wf.cons_iff {a t : List Int} {x : Int} {k : Nat} : Wf a (k + 1) (x :: t) ↔ okx a x ∧ Wf a (k + ari a x) t := by
  unfold Wf; rw [skip_cons]; split <;> simp_all
theorem Wf.pos {a t : List Int} {k : Nat} (h : Wf a (k + 1) t) : ∃ x r, t = x :: r ∧ okx a x ∧ Wf a (k + ari a x) r := by
  cases t with
  | nil => simp [Wf, Tm.skip] at h
  | cons x r => exact ⟨x, r, rfl, Wf.cons_iff.1 h⟩
theorem Wf.split {a t : List Int} {k j : Nat} (h : Wf a (k + j) t) : ∃ u v, t = u ++ v ∧ Wf a k u ∧ Wf a j v := by
  unfold Wf at h; rw [skip_add] at h
  obtain ⟨r, h1, h2⟩ := Option.bind_eq_some_iff.1 h
  obtain ⟨u, rfl, h3⟩ := skip_split h1
  exact ⟨u, r, rfl, h3, h2⟩
theorem Wf.uniq {a u u' v v' : List Int} {k : Nat} (h : Wf a k u) (h' : Wf a k u') (e : u ++ v = u' ++ v') : u = u' ∧ v = v' := by
  have h1 := h.skip v
  have h2 := h'.skip v'
  rw [e, h2] at h1
  cases Option.some.inj h1
  exact ⟨List.append_cancel_right e, rfl⟩
theorem Wf.all {a : List Int} : ∀ {t : List Int} {k : Nat}, Wf a k t → ∀ x ∈ t, okx a x
  | [], _, _ => by simp
  | y :: t, 0, h => by have := h.zero; cases this
  | y :: t, k + 1, h => by
    obtain ⟨h1, h2⟩ := Wf.cons_iff.1 h
    intro x hx
    rcases List.mem_cons.1 hx with rfl | hx
    · exact h1
    · exact h2.all x hx
theorem Wf.len {a : List Int} : ∀ {t : List Int} {k : Nat}, Wf a k t → k ≤ t.length
  | t, 0, _ => by omega
  | [], k + 1, h => by simp [Wf, Tm.skip] at h
  | y :: t, k + 1, h => by
    obtain ⟨h1, h2⟩ := Wf.cons_iff.1 h
    have := h2.len
    simp; omega
/-- at every place a term stands -/
theorem Wf.place {a : List Int} : ∀ {t : List Int} {k i : Nat}, Wf a k t → i < t.length → ∃ p u s, t = p ++ (u ++ s) ∧ p.length = i ∧ Wf a 1 u
  | [], _, _, _, hi => by simp at hi
  | y :: t, 0, _, h, _ => by have := h.zero; cases this
  | y :: t, k + 1, 0, h, _ => by
    rw [show k + 1 = 1 + k by omega] at h
    obtain ⟨u, v, e, h1, _⟩ := h.split
    exact ⟨[], u, v, e, rfl, h1⟩
  | y :: t, k + 1, i + 1, h, hi => by
    obtain ⟨p, u, s, rfl, h2, h3⟩ := (Wf.cons_iff.1 h).2.place (i := i) (by simpa using hi)
    exact ⟨y :: p, u, s, rfl, by simp [h2], h3⟩
/-- another term may stand there -/
theorem Wf.put {a u v s : List Int} (hu : Wf a 1 u) (hv : Wf a 1 v) : ∀ {p : List Int} {k : Nat}, Wf a k (p ++ (u ++ s)) → Wf a k (p ++ (v ++ s))
  | [], 0, h => by
    have := h.zero
    have := hu.len
    simp_all
  | [], k + 1, h => by
    rw [List.nil_append] at h ⊢
    rw [show k + 1 = 1 + k by omega] at h ⊢
    obtain ⟨u', v', e, h1, h2⟩ := h.split
    obtain ⟨rfl, rfl⟩ := hu.uniq h1 e
    exact hv.app h2
  | y :: p, 0, h => by have := h.zero; cases this
  | y :: p, k + 1, h => by
    rw [List.cons_append] at h ⊢
    obtain ⟨h1, h2⟩ := Wf.cons_iff.1 h
    exact Wf.cons_iff.2 ⟨h1, Wf.put hu hv h2⟩
/-! substitution -/
def sub (σ : Int → List Int) (t : List Int) : List Int := t.flatMap fun x => if x < 0 then σ x else [x]
theorem sub_cons (σ : Int → List Int) (x : Int) (t : List Int) : sub σ (x :: t) = (if x < 0 then σ x else [x]) ++ sub σ t := by simp [sub]
theorem sub_app (σ : Int → List Int) (s t : List Int) : sub σ (s ++ t) = sub σ s ++ sub σ t := by simp [sub]
theorem sub_congr {σ τ : Int → List Int} {t : List Int} (h : ∀ x ∈ t, x < 0 → σ x = τ x) : sub σ t = sub τ t := by
  induction t with
  | nil => rfl
  | cons x t ih =>
    rw [sub_cons, sub_cons, ih fun y hy => h y (by simp [hy])]
    by_cases hx : x < 0
    · rw [if_pos hx, if_pos hx, h x (by simp) hx]
    · rw [if_neg hx, if_neg hx]
theorem Wf.sub {a : List Int} {σ : Int → List Int} : ∀ {t : List Int} {k : Nat}, Wf a k t → (∀ x ∈ t, x < 0 → Wf a 1 (σ x)) → Wf a k (Tm.sub σ t)
  | [], k, h, _ => by simpa [Tm.sub] using h
  | y :: t, 0, h, _ => by have := h.zero; cases this
  | y :: t, k + 1, h, hs => by
    obtain ⟨h1, h2⟩ := Wf.cons_iff.1 h
    rw [sub_cons]
    have ih := h2.sub fun x hx => hs x (by simp [hx])
    by_cases hy : y < 0
    · rw [if_pos hy, show k + 1 = 1 + k by omega]
      refine (hs y (by simp) hy).app ?_
      simpa [ari, hy] using ih
    · rw [if_neg hy]
      exact Wf.cons_iff.2 ⟨h1, ih⟩
end Tm
namespace Tm
/-! matching -/
abbrev Bd := List (List Int)
def bget (b : Bd) (n : Int) : List Int := b.getD (-1 - n).toNat []
def bset (b : Bd) (n : Int) (u : List Int) : Bd := b.set (-1 - n).toNat u
def mat (a : List Int) : List Int → List Int → Bd → Option Bd
  | [], _, b => some b
  | n :: p, t, b =>
    if n < 0 then match skip a t 1 with
      | none => none
      | some r =>
        let u := t.take (t.length - r.length)
        if bget b n = [] then mat a p r (bset b n u) else if bget b n = u then mat a p r b else none
    else match t with
      | [] => none
      | y :: t => if y = n then mat a p t b else none
theorem mat_nil (a t : List Int) (b : Bd) : mat a [] t b = some b := by simp [mat]
theorem Wf.ne {a u : List Int} (h : Wf a 1 u) : u ≠ [] := by have := h.len; intro e; subst e; simp at this
theorem mat_sym {a p t : List Int} {n y : Int} {b : Bd} (hn : ¬ n < 0) : mat a (n :: p) (y :: t) b = if y = n then mat a p t b else none := by simp [mat, hn]
theorem mat_var {a p u r : List Int} {n : Int} {b : Bd} (hn : n < 0) (hu : Wf a 1 u) : mat a (n :: p) (u ++ r) b =
    if bget b n = [] then mat a p r (bset b n u) else if bget b n = u then mat a p r b else none := by
  simp [mat, hn, hu.skip]
theorem bget_bset {b : Bd} {n m : Int} {u : List Int} (hn : n < 0) (hl : -1 - n < b.length) (hm : m < 0) : bget (bset b n u) m = if m = n then u else bget b m := by
  unfold bget bset
  rw [List.getD_eq_getElem?_getD, List.getD_eq_getElem?_getD, List.getElem?_set]
  by_cases h : m = n
  · subst h
    rw [if_pos rfl, if_pos rfl, if_pos (by omega)]; rfl
  · rw [if_neg h, if_neg (by omega)]
/-- what a match says -/
theorem mat_sound {a : List Int} : ∀ {p t : List Int} {b b' : Bd} {k : Nat}, Wf a k p → Wf a k t → b.length = 24 → mat a p t b = some b' →
    t = sub (bget b') p ∧ b'.length = 24 ∧ (∀ n, n < 0 → bget b n ≠ [] → bget b' n = bget b n) ∧ (∀ n ∈ p, n < 0 → Wf a 1 (bget b' n) ∨ bget b n = bget b' n ∧ bget b n ≠ []) ∧
    (∀ n, n < 0 → n ∉ p → bget b' n = bget b n)
  | [], t, b, b', k, hp, ht, hb, h => by
    rw [mat_nil] at h
    cases h
    cases k with
    | zero => have := ht.zero; subst this; exact ⟨rfl, hb, fun _ _ _ => rfl, by simp, fun _ _ _ => rfl⟩
    | succ k => simp [Wf, Tm.skip] at hp
  | n :: p, t, b, b', 0, hp, ht, hb, h => by have := hp.zero; cases this
  | n :: p, t, b, b', k + 1, hp, ht, hb, h => by
    obtain ⟨hx, hp⟩ := Wf.cons_iff.1 hp
    by_cases hn : n < 0
    · rw [show k + 1 = 1 + k by omega] at ht
      obtain ⟨u, r, rfl, hu, hr⟩ := ht.split
      rw [mat_var hn hu] at h
      have ha : ari a n = 0 := by simp [ari, hn]
      rw [ha, Nat.add_zero] at hp
      have hl : -1 - n < b.length := by have := hx.1; omega
      split at h
      · rename_i h0
        obtain ⟨h1, h2, h3, h4, h5⟩ := mat_sound hp hr (by simpa [bset] using hb) h
        have hbn : bget b' n = u := by
          rw [h3 n hn (by rw [bget_bset hn hl hn, if_pos rfl]; exact hu.ne), bget_bset hn hl hn, if_pos rfl]
        refine ⟨by rw [sub_cons, if_pos hn, hbn, ← h1], h2, fun m hm hne => ?_, fun m hm hm0 => ?_, fun m hm hmp => ?_⟩
        · by_cases hmn : m = n
          · subst hmn; exact absurd h0 hne
          · have := bget_bset (u := u) hn hl hm
            rw [if_neg hmn] at this
            rw [h3 m hm (by rw [this]; exact hne), this]
        · by_cases hmn : m = n
          · subst hmn; rw [hbn]; exact .inl hu
          · have := bget_bset (u := u) hn hl hm0
            rw [if_neg hmn] at this
            rcases List.mem_cons.1 hm with e | hm
            · exact absurd e hmn
            · rw [← this]; exact h4 m hm hm0
        · have hmn : m ≠ n := fun e => hmp (by simp [e])
          have := bget_bset (u := u) hn hl hm
          rw [if_neg hmn] at this
          rw [h5 m hm fun hx => hmp (by simp [hx]), this]
      · rename_i h0
        split at h
        · rename_i h00
          obtain ⟨h1, h2, h3, h4, h5⟩ := mat_sound hp hr hb h
          have hbn : bget b' n = u := by rw [h3 n hn h0, h00]
          refine ⟨by rw [sub_cons, if_pos hn, hbn, ← h1], h2, h3, fun m hm hm0 => ?_, fun m hm hmp => ?_⟩
          · by_cases hmn : m = n
            · subst hmn; rw [hbn]; exact .inl hu
            · rcases List.mem_cons.1 hm with e | hm
              · exact absurd e hmn
              · exact h4 m hm hm0
          · exact h5 m hm fun hx => hmp (by simp [hx])
        · cases h
    · obtain ⟨y, t, rfl, hy, ht⟩ := ht.pos
      rw [mat_sym hn] at h
      split at h
      · rename_i e
        subst e
        obtain ⟨h1, h2, h3, h4, h5⟩ := mat_sound hp ht hb h
        refine ⟨by rw [sub_cons, if_neg hn, List.singleton_append, ← h1], h2, h3, fun m hm hm0 => ?_, fun m hm hmp => ?_⟩
        · rcases List.mem_cons.1 hm with e | hm
          · omega
          · exact h4 m hm hm0
        · exact h5 m hm fun hx => hmp (by simp [hx])
      · cases h
end Tm
namespace Tm
/-! polynomial interpretations -/
abbrev Fm := Int × List Int
def zadd (c : Int) : List Int → List Int → List Int
  | [], ys => ys.map (c * ·)
  | xs, [] => xs
  | x :: xs, y :: ys => (x + c * y) :: zadd c xs ys
def addc (f : Fm) (c : Int) (g : Fm) : Fm := (f.1 + c * g.1, zadd c f.2 g.2)
def appF (f : Fm) : List Int → List Fm → Fm
  | c :: cs, g :: gs => appF (addc f c g) cs gs
  | _, _ => f
def varF (x : Int) : Fm := (0, List.replicate (-1 - x).toNat 0 ++ [1])
/-- the forms of the terms of a list -/
def fms (a : List Int) (ps : List Fm) : List Int → List Fm
  | [] => []
  | x :: t => if x < 0 then varF x :: fms a ps t else
    let p := ps.getD x.toNat default
    appF (p.1, []) p.2 ((fms a ps t).take (ari a x)) :: (fms a ps t).drop (ari a x)
def dot (ρ : Nat → Int) : List Int → Int
  | [] => 0
  | c :: cs => c * ρ 0 + dot (fun i => ρ (i + 1)) cs
def evF (ρ : Nat → Int) (f : Fm) : Int := f.1 + dot ρ f.2
def appV (n : Int) : List Int → List Int → Int
  | c :: cs, v :: vs => appV (n + c * v) cs vs
  | _, _ => n
/-- values of the terms of a list -/
def vals (a : List Int) (ps : List Fm) (ρ : Int → Int) : List Int → List Int
  | [] => []
  | x :: t => if x < 0 then ρ x :: vals a ps ρ t else
    let p := ps.getD x.toNat default
    appV p.1 p.2 ((vals a ps ρ t).take (ari a x)) :: (vals a ps ρ t).drop (ari a x)
theorem dot_zadd (c : Int) : ∀ (ρ : Nat → Int) (xs ys : List Int), dot ρ (zadd c xs ys) = dot ρ xs + c * dot ρ ys
  | ρ, [], ys => by
    simp only [zadd, dot, Int.zero_add]
    induction ys generalizing ρ with
    | nil => simp [dot]
    | cons y ys ih => simp only [List.map_cons, dot, ih, Int.mul_add, Int.mul_assoc]
  | ρ, x :: xs, [] => by simp [zadd, dot]
  | ρ, x :: xs, y :: ys => by
    simp only [zadd, dot, dot_zadd c _ xs ys, Int.mul_add, Int.add_mul, Int.mul_assoc]; omega
theorem evF_addc (ρ : Nat → Int) (f g : Fm) (c : Int) : evF ρ (addc f c g) = evF ρ f + c * evF ρ g := by
  simp only [evF, addc, dot_zadd, Int.mul_add]; omega
theorem evF_appF (ρ : Nat → Int) : ∀ (cs : List Int) (gs : List Fm) (f : Fm), evF ρ (appF f cs gs) = appV (evF ρ f) cs (gs.map (evF ρ))
  | [], gs, f => by simp [appF, appV]
  | c :: cs, [], f => by simp [appF, appV]
  | c :: cs, g :: gs, f => by simp only [appF, List.map_cons, appV]; rw [evF_appF ρ cs gs, evF_addc]
theorem dot_var (ρ : Nat → Int) : ∀ n, dot ρ (List.replicate n 0 ++ [1]) = ρ n
  | 0 => by simp [dot]
  | n + 1 => by simp only [List.replicate_succ, List.cons_append, dot]; rw [dot_var _ n]; simp
theorem evF_fms {a : List Int} {ps : List Fm} {ρ : Nat → Int} (r : Int → Int) (hr : ∀ x, x < 0 → r x = ρ (-1 - x).toNat) : ∀ t, (fms a ps t).map (evF ρ) = vals a ps r t
  | [] => rfl
  | x :: t => by
    simp only [fms, vals]
    split
    · rename_i hx
      rw [List.map_cons, evF_fms r hr t, hr x hx]
      simp [evF, varF, dot_var]
    · rw [List.map_cons, evF_appF, List.map_take, List.map_drop, evF_fms r hr t]
      simp [evF, dot]
/-- parse: as many values as terms -/
theorem vals_app {a : List Int} {ps : List Fm} {ρ : Int → Int} {v : List Int} : ∀ {u : List Int} {k : Nat}, Wf a k u → (vals a ps ρ u).length = k ∧ vals a ps ρ (u ++ v) = vals a ps ρ u ++ vals a ps ρ v
  | [], 0, _ => ⟨rfl, rfl⟩
  | [], k + 1, h => by simp [Wf, Tm.skip] at h
  | x :: u, 0, h => by have := h.zero; cases this
  | x :: u, k + 1, h => by
    obtain ⟨hx, h⟩ := Wf.cons_iff.1 h
    obtain ⟨h1, h2⟩ := vals_app (ps := ps) (ρ := ρ) (v := v) h
    rw [List.cons_append]
    simp only [vals]
    by_cases hn : x < 0
    · have ha : ari a x = 0 := by simp [ari, hn]
      rw [if_pos hn, if_pos hn]
      simp [h1, h2, ha]
    · rw [if_neg hn, if_neg hn, h2]
      simp only [List.length_cons, List.length_drop, h1, List.cons_append]
      refine ⟨by omega, ?_⟩
      rw [List.take_append_of_le_length (by omega), List.drop_append_of_le_length (by omega)]
theorem vals_sub {a : List Int} {ps : List Fm} {ρ : Int → Int} {σ : Int → List Int} (hs : ∀ x, x < 0 → Wf a 1 (σ x)) : ∀ t : List Int, vals a ps ρ (sub σ t) = vals a ps (fun x => (vals a ps ρ (σ x)).headD 0) t
  | [] => rfl
  | x :: t => by
    rw [sub_cons]
    by_cases hn : x < 0
    · rw [if_pos hn]
      obtain ⟨h1, h2⟩ := vals_app (ps := ps) (ρ := ρ) (v := sub σ t) (hs x hn)
      rw [h2, vals_sub hs t]
      simp only [vals, if_pos hn]
      generalize vals a ps ρ (σ x) = l at h1
      match l, h1 with
      | [y], _ => simp
    · rw [if_neg hn, List.singleton_append]
      simp only [vals, if_neg hn, vals_sub hs t]
/-- polynomials that count: each argument counts at least once -/
def PsOk (ps : List Fm) : Prop := ∀ p ∈ ps, 0 ≤ p.1 ∧ ∀ c ∈ p.2, 1 ≤ c
theorem appV_mono : ∀ {cs vs ws : List Int} {n m : Int}, (∀ c ∈ cs, 1 ≤ c) → n ≤ m → vs.length = ws.length → (∀ i, vs.getD i 0 ≤ ws.getD i 0) → appV n cs vs ≤ appV m cs ws
  | [], _, _, _, _, _, h, _, _ => by simpa [appV] using h
  | c :: cs, [], [], _, _, _, h, _, _ => by simpa [appV] using h
  | c :: cs, [], _ :: _, _, _, _, _, h, _ => by simp at h
  | c :: cs, _ :: _, [], _, _, _, _, h, _ => by simp at h
  | c :: cs, v :: vs, w :: ws, n, m, hc, h, hl, hv => by
    simp only [appV]
    have h0 := hv 0
    simp only [List.getD_cons_zero] at h0
    have h1 : 0 ≤ c := by have := hc c (by simp); omega
    have := Int.mul_le_mul_of_nonneg_left h0 h1
    exact appV_mono (fun x hx => hc x (by simp [hx])) (by omega) (by simpa using hl) fun i => by simpa using hv (i + 1)
theorem appV_lt : ∀ {cs vs ws : List Int} {n m : Int}, (∀ c ∈ cs, 1 ≤ c) → n ≤ m → vs.length = ws.length → (∀ i, vs.getD i 0 ≤ ws.getD i 0) → (n < m ∨ ∃ i < cs.length, vs.getD i 0 < ws.getD i 0) → appV n cs vs < appV m cs ws
  | [], _, _, _, _, _, h, _, _, hx => by
    rcases hx with hx | ⟨i, hi, _⟩
    · simpa [appV] using hx
    · simp at hi
  | c :: cs, [], [], _, _, _, h, _, _, hx => by
    rcases hx with hx | ⟨i, hi, hx⟩
    · simpa [appV] using hx
    · simp at hx
  | c :: cs, [], _ :: _, _, _, _, _, h, _, _ => by simp at h
  | c :: cs, _ :: _, [], _, _, _, _, h, _, _ => by simp at h
  | c :: cs, v :: vs, w :: ws, n, m, hc, h, hl, hv, hx => by
    simp only [appV]
    have h0 := hv 0
    simp only [List.getD_cons_zero] at h0
    have h1 : 0 < c := by have := hc c (by simp); omega
    have h2 := Int.mul_le_mul_of_nonneg_left h0 (Int.le_of_lt h1)
    refine appV_lt (fun x hx => hc x (by simp [hx])) (by omega) (by simpa using hl) (fun i => by simpa using hv (i + 1)) ?_
    rcases hx with hx | ⟨i, hi, hx⟩
    · exact .inl (by omega)
    · cases i with
      | zero =>
        simp only [List.getD_cons_zero] at hx
        have := Int.mul_lt_mul_of_pos_left hx h1
        exact .inl (by omega)
      | succ i => exact .inr ⟨i, by simpa using hi, by simpa using hx⟩
theorem getD_take' {l : List Int} {n i : Nat} : (l.take n).getD i 0 = if i < n then l.getD i 0 else 0 := by
  simp only [List.getD_eq_getElem?_getD, List.getElem?_take]
  split <;> rfl
theorem getD_drop' {l : List Int} {n i : Nat} : (l.drop n).getD i 0 = l.getD (n + i) 0 := by
  simp only [List.getD_eq_getElem?_getD, List.getElem?_drop]
def Mat (a : List Int) (ps : List Fm) : Prop := ∀ i : Nat, i < a.length → (ps.getD i default).2.length = (a.getD i 0).toNat
theorem getD_psok {ps : List Fm} (h : PsOk ps) (i : Nat) : 0 ≤ (ps.getD i default).1 ∧ ∀ c ∈ (ps.getD i default).2, 1 ≤ c := by
  rw [List.getD_eq_getElem?_getD]
  cases hi : ps[i]? with
  | none => exact ⟨Int.le_refl _, by simp [default]⟩
  | some p => exact h p (List.mem_of_getElem? hi)
theorem vals_nonneg {a : List Int} {ps : List Fm} {ρ : Int → Int} (hp : PsOk ps) (hρ : ∀ x, 0 ≤ ρ x) : ∀ t, ∀ v ∈ vals a ps ρ t, 0 ≤ v
  | [], v, h => by simp [vals] at h
  | x :: t, v, h => by
    simp only [vals] at h
    have ih := vals_nonneg (a := a) hp hρ t
    have key : ∀ (cs vs : List Int) (n : Int), 0 ≤ n → (∀ c ∈ cs, 1 ≤ c) → (∀ v ∈ vs, 0 ≤ v) → 0 ≤ appV n cs vs := by
      intro cs
      induction cs with
      | nil => intro vs n hn _ _; simpa [appV] using hn
      | cons c cs ih =>
        intro vs n hn hc hv
        cases vs with
        | nil => simpa [appV] using hn
        | cons v vs =>
          have h1 := hc c (by simp)
          have := Int.mul_nonneg (show 0 ≤ c by omega) (hv v (by simp))
          exact ih vs _ (by omega) (fun x hx => hc x (by simp [hx])) fun x hx => hv x (by simp [hx])
    split at h
    · rcases List.mem_cons.1 h with rfl | h
      · exact hρ _
      · exact ih v h
    · rcases List.mem_cons.1 h with rfl | h
      · obtain ⟨h1, h2⟩ := getD_psok hp x.toNat
        exact key _ _ _ h1 h2 fun w hw => ih w (List.mem_of_mem_take hw)
      · exact ih v (List.mem_of_mem_drop h)
/-- a smaller term in the same place -/
theorem vals_ctx {a : List Int} {ps : List Fm} {ρ : Int → Int} (hp : PsOk ps) (hm : Mat a ps) {u v s : List Int} (hu : Wf a 1 u) (hv : Wf a 1 v) (hlt : (vals a ps ρ v).headD 0 < (vals a ps ρ u).headD 0) :
    ∀ {p : List Int} {k : Nat}, Wf a k (p ++ (u ++ s)) → (vals a ps ρ (p ++ (v ++ s))).length = (vals a ps ρ (p ++ (u ++ s))).length ∧
      (∀ i, (vals a ps ρ (p ++ (v ++ s))).getD i 0 ≤ (vals a ps ρ (p ++ (u ++ s))).getD i 0) ∧ ∃ i < k, (vals a ps ρ (p ++ (v ++ s))).getD i 0 < (vals a ps ρ (p ++ (u ++ s))).getD i 0
  | [], k, h => by
    rw [List.nil_append, List.nil_append]
    obtain ⟨h1, h2⟩ := vals_app (ps := ps) (ρ := ρ) (v := s) hu
    obtain ⟨h3, h4⟩ := vals_app (ps := ps) (ρ := ρ) (v := s) hv
    rw [h2, h4]
    generalize vals a ps ρ u = l at *
    generalize vals a ps ρ v = l' at *
    match l, h1, l', h3, hlt with
    | [y], _, [z], _, hlt =>
      simp only [List.headD_cons] at hlt
      refine ⟨by simp, fun i => ?_, 0, ?_, by simpa using hlt⟩
      · cases i with
        | zero => simp; omega
        | succ i => simp
      · cases k with
        | zero => have := h.zero; have := hu.len; simp_all
        | succ k => omega
  | y :: p, 0, h => by have := h.zero; cases this
  | y :: p, k + 1, h => by
    rw [List.cons_append] at h
    obtain ⟨hx, h⟩ := Wf.cons_iff.1 h
    obtain ⟨h1, h2, i, hi, h3⟩ := vals_ctx hp hm hu hv hlt h
    rw [List.cons_append, List.cons_append]
    simp only [vals]
    by_cases hn : y < 0
    · have ha : ari a y = 0 := by simp [ari, hn]
      rw [if_pos hn, if_pos hn]
      refine ⟨by simp [h1], fun j => ?_, i + 1, by omega, by simpa using h3⟩
      cases j with
      | zero => simp
      | succ j => simpa using h2 j
    · rw [if_neg hn, if_neg hn]
      have hlen : ((ps.getD y.toNat default).2).length = ari a y := by
        rw [hm y.toNat (by have := hx.2; omega)]; simp [ari, hn]
      refine ⟨by simp [h1], fun j => ?_, ?_⟩
      · cases j with
        | zero =>
          simp only [List.getD_cons_zero]
          refine appV_mono (getD_psok hp _).2 (Int.le_refl _) (by simp [h1]) fun j => ?_
          rw [getD_take', getD_take']
          split
          · exact h2 j
          · exact Int.le_refl _
        | succ j =>
          simp only [List.getD_cons_succ]
          rw [getD_drop', getD_drop']
          exact h2 _
      · by_cases hia : i < ari a y
        · refine ⟨0, by omega, ?_⟩
          simp only [List.getD_cons_zero]
          refine appV_lt (getD_psok hp _).2 (Int.le_refl _) (by simp [h1]) (fun j => ?_) (.inr ⟨i, by omega, ?_⟩)
          · rw [getD_take', getD_take']
            split
            · exact h2 j
            · exact Int.le_refl _
          · rw [getD_take', getD_take', if_pos hia, if_pos hia]; exact h3
        · refine ⟨i - ari a y + 1, by omega, ?_⟩
          simp only [List.getD_cons_succ]
          rw [getD_drop', getD_drop', show ari a y + (i - ari a y) = i by omega]
          exact h3
end Tm
namespace Tm
/-! bounds decrease -/
def tv (a : List Int) (ps : List Fm) (ρ : Int → Int) (t : List Int) : Int := (vals a ps ρ t).headD 0
def fm (a : List Int) (ps : List Fm) (t : List Int) : Fm := (fms a ps t).headD (0, [])
def rh (ρ : Nat → Int) (x : Int) : Int := ρ (-1 - x).toNat
theorem evF_fm {a : List Int} {ps : List Fm} (ρ : Nat → Int) (t : List Int) : evF ρ (fm a ps t) = tv a ps (rh ρ) t := by
  have := evF_fms (a := a) (ps := ps) (ρ := ρ) (rh ρ) (fun _ _ => rfl) t
  unfold fm tv
  rw [← this]
  cases fms a ps t with
  | nil => simp [evF, dot]
  | cons x l => simp
theorem dot_mono : ∀ {xs ys : List Int} {ρ : Nat → Int}, (∀ i, xs.getD i 0 ≤ ys.getD i 0) → (∀ i, 0 ≤ ρ i) → dot ρ xs ≤ dot ρ ys
  | [], [], _, _, _ => Int.le_refl _
  | [], y :: ys, ρ, h, hr => by
    have h0 := h 0
    simp only [List.getD_nil, List.getD_cons_zero] at h0
    have := dot_mono (xs := []) (ys := ys) (ρ := fun i => ρ (i + 1)) (fun i => by simpa using h (i + 1)) fun i => hr _
    have := Int.mul_nonneg h0 (hr 0)
    simp only [dot] at *
    omega
  | x :: xs, [], ρ, h, hr => by
    have h0 := h 0
    simp only [List.getD_nil, List.getD_cons_zero] at h0
    have := dot_mono (xs := xs) (ys := []) (ρ := fun i => ρ (i + 1)) (fun i => by simpa using h (i + 1)) fun i => hr _
    have := Int.mul_le_mul_of_nonneg_right h0 (hr 0)
    simp only [dot, Int.zero_mul] at *
    omega
  | x :: xs, y :: ys, ρ, h, hr => by
    have h0 := h 0
    simp only [List.getD_cons_zero] at h0
    have := dot_mono (xs := xs) (ys := ys) (ρ := fun i => ρ (i + 1)) (fun i => by simpa using h (i + 1)) fun i => hr _
    have := Int.mul_le_mul_of_nonneg_right h0 (hr 0)
    simp only [dot] at *
    omega
theorem dot_one (N : Int) : ∀ (xs : List Int) (y : Nat), dot (fun i => if i = y then N else 0) xs = N * xs.getD y 0
  | [], y => by simp [dot]
  | x :: xs, 0 => by
    have : ∀ xs : List Int, dot (fun i => if i + 1 = 0 then N else 0) xs = 0 := by
      intro xs
      induction xs with
      | nil => rfl
      | cons x xs ih => simpa [dot] using ih
    simp only [dot]
    rw [this]
    simp [Int.mul_comm]
  | x :: xs, y + 1 => by
    simp only [dot, List.getD_cons_succ, ← dot_one N xs y]
    simp
theorem dot_zero : ∀ xs : List Int, dot (fun _ => 0) xs = 0
  | [] => rfl
  | x :: xs => by simp [dot, dot_zero xs]
/-- a rule that goes down -/
structure Down (a : List Int) (ps : List Fm) (l r : List Int) : Prop where
  wl : Wf a 1 l
  wr : Wf a 1 r
  const : (fm a ps r).1 < (fm a ps l).1
  coef : ∀ i, (fm a ps r).2.getD i 0 ≤ (fm a ps l).2.getD i 0
theorem Down.tv {a : List Int} {ps : List Fm} {l r : List Int} (h : Down a ps l r) (ρ : Nat → Int) (hr : ∀ i, 0 ≤ ρ i) : tv a ps (rh ρ) r < tv a ps (rh ρ) l := by
  rw [← evF_fm, ← evF_fm]
  have := dot_mono h.coef hr
  have := h.const
  unfold evF
  omega
theorem tv_sub {a : List Int} {ps : List Fm} {ρ : Int → Int} {σ : Int → List Int} (hs : ∀ x, x < 0 → Wf a 1 (σ x)) (t : List Int) : Tm.tv a ps ρ (sub σ t) = Tm.tv a ps (fun x => Tm.tv a ps ρ (σ x)) t := by
  unfold Tm.tv; rw [vals_sub hs]
theorem vals_congr {a : List Int} {ps : List Fm} {ρ τ : Int → Int} : ∀ {t : List Int}, (∀ x ∈ t, x < 0 → ρ x = τ x) → vals a ps ρ t = vals a ps τ t
  | [], _ => rfl
  | x :: t, h => by
    simp only [vals]
    rw [vals_congr fun y hy => h y (by simp [hy])]
    split
    · rename_i hx; rw [h x (by simp) hx]
    · rfl
theorem tv_step {a : List Int} {ps : List Fm} (hp : PsOk ps) (hm : Mat a ps) {l r p s : List Int} (hd : Down a ps l r) {σ : Int → List Int} (hs : ∀ x, x < 0 → Wf a 1 (σ x))
    (ht : Wf a 1 (p ++ (sub σ l ++ s))) (ρ : Int → Int) (hr : ∀ i, 0 ≤ ρ i) : tv a ps ρ (p ++ (sub σ r ++ s)) < tv a ps ρ (p ++ (sub σ l ++ s)) := by
  have hl : Wf a 1 (sub σ l) := hd.wl.sub fun x _ hx => hs x hx
  have hr' : Wf a 1 (sub σ r) := hd.wr.sub fun x _ hx => hs x hx
  have hlt : tv a ps ρ (sub σ r) < tv a ps ρ (sub σ l) := by
    rw [tv_sub hs, tv_sub hs]
    have hnn : ∀ x, 0 ≤ tv a ps ρ (σ x) := fun x => by
      unfold tv
      cases hv : vals a ps ρ (σ x) with
      | nil => simp
      | cons y l => exact vals_nonneg (a := a) hp hr (σ x) y (by rw [hv]; simp)
    have := hd.tv (fun i => tv a ps ρ (σ (-1 - i))) fun i => hnn _
    have e : ∀ t, tv a ps (rh fun i => tv a ps ρ (σ (-1 - i))) t = tv a ps (fun x => tv a ps ρ (σ x)) t := fun t => by
      unfold tv
      rw [vals_congr fun x _ hx => ?_]
      unfold rh
      show (vals a ps ρ (σ (-1 - ((-1 - x).toNat : Int)))).headD 0 = _
      rw [show -1 - ((-1 - x).toNat : Int) = x by omega]
    rw [e, e] at this
    exact this
  obtain ⟨_, _, i, hi, h⟩ := vals_ctx hp hm hl hr' hlt ht
  obtain rfl : i = 0 := by omega
  unfold tv
  have hd : ∀ l : List Int, l.headD 0 = l.getD 0 0 := fun l => by cases l <;> rfl
  rw [hd, hd]
  exact h
def FmOk (M : Int) (f : Fm) : Prop := f.1 ≤ M ∧ ∀ i, f.2.getD i 0 ≤ M
theorem fm_nonneg {a : List Int} {ps : List Fm} (hp : PsOk ps) (t : List Int) : 0 ≤ (fm a ps t).1 := by
  have := evF_fm (a := a) (ps := ps) (fun _ => 0) t
  unfold evF at this
  rw [dot_zero, Int.add_zero] at this
  rw [this]
  unfold tv
  cases hv : vals a ps (rh fun _ => 0) t with
  | nil => simp
  | cons y l => exact vals_nonneg (a := a) (ρ := rh fun _ => 0) hp (fun _ => Int.le_refl _) t y (by rw [hv]; simp)
theorem fm_step {a : List Int} {ps : List Fm} (hp : PsOk ps) (hm : Mat a ps) {l r p s : List Int} (hd : Down a ps l r) {σ : Int → List Int} (hs : ∀ x, x < 0 → Wf a 1 (σ x))
    (ht : Wf a 1 (p ++ (sub σ l ++ s))) : (fm a ps (p ++ (sub σ r ++ s))).1 < (fm a ps (p ++ (sub σ l ++ s))).1 ∧
      ∀ i, (fm a ps (p ++ (sub σ r ++ s))).2.getD i 0 ≤ (fm a ps (p ++ (sub σ l ++ s))).2.getD i 0 := by
  have key : ∀ ρ : Nat → Int, (∀ i, 0 ≤ ρ i) → evF ρ (fm a ps (p ++ (sub σ r ++ s))) < evF ρ (fm a ps (p ++ (sub σ l ++ s))) := fun ρ hr => by
    rw [evF_fm, evF_fm]
    exact tv_step hp hm hd hs ht _ fun i => hr _
  have h0 := fm_nonneg (a := a) hp (p ++ (sub σ r ++ s))
  generalize fm a ps (p ++ (sub σ r ++ s)) = f at *
  generalize fm a ps (p ++ (sub σ l ++ s)) = g at *
  have h1 := key (fun _ => 0) fun _ => Int.le_refl _
  simp only [evF, dot_zero, Int.add_zero] at h1
  refine ⟨h1, fun y => ?_⟩
  have h2 := key (fun i => if i = y then g.1 + 1 else 0) fun i => by split <;> omega
  simp only [evF, dot_one] at h2
  by_cases hc : f.2.getD y 0 ≤ g.2.getD y 0
  · exact hc
  · exfalso
    have : (g.1 + 1) * (g.2.getD y 0 + 1) ≤ (g.1 + 1) * f.2.getD y 0 := Int.mul_le_mul_of_nonneg_left (by omega) (by omega)
    rw [Int.mul_add] at this
    omega
/-- with a slope -/
theorem sum_appV {m : Int} : ∀ {cs vs : List Int} {n : Int}, (∀ c ∈ cs, c ≤ 1) → (∀ v ∈ vs, 0 ≤ v) → n ≤ m → appV n cs vs ≤ m + vs.sum
  | [], vs, n, _, hv, hn => by
    have : ∀ l : List Int, (∀ v ∈ l, 0 ≤ v) → 0 ≤ l.sum := by
      intro l
      induction l with
      | nil => simp
      | cons x l ih => intro h; have := h x (by simp); have := ih fun v hv => h v (by simp [hv]); simp only [List.sum_cons]; omega
    have := this vs hv
    simp only [appV]; omega
  | c :: cs, [], n, _, _, hn => by simpa [appV] using hn
  | c :: cs, v :: vs, n, hc, hv, hn => by
    simp only [appV, List.sum_cons]
    have h1 := hc c (by simp)
    have h2 := Int.mul_le_mul_of_nonneg_right h1 (hv v (by simp))
    have := sum_appV (m := m + v) (cs := cs) (vs := vs) (n := n + c * v) (fun x hx => hc x (by simp [hx])) (fun x hx => hv x (by simp [hx])) (by omega)
    omega
theorem vals_slope {a : List Int} {ps : List Fm} {m : Int} (hp : PsOk ps) (hc : ∀ p ∈ ps, p.1 ≤ m ∧ ∀ c ∈ p.2, c ≤ 1) (hm : 0 ≤ m) : ∀ t : List Int, (vals a ps (fun _ => 0) t).sum ≤ m * t.length
  | [] => by simp [vals]
  | x :: t => by
    have ih := vals_slope (a := a) hp hc hm t
    simp only [vals, List.length_cons]
    rw [show ((t.length + 1 : Nat) : Int) = t.length + 1 by omega, Int.mul_add, Int.mul_one]
    split
    · simp only [List.sum_cons]; omega
    · simp only [List.sum_cons]
      have h1 : (ps.getD x.toNat default).1 ≤ m ∧ ∀ c ∈ (ps.getD x.toNat default).2, c ≤ 1 := by
        rw [List.getD_eq_getElem?_getD]
        cases hi : ps[x.toNat]? with
        | none => exact ⟨hm, by simp [default]⟩
        | some p => exact hc p (List.mem_of_getElem? hi)
      have h2 := sum_appV h1.2 (vs := (vals a ps (fun _ => 0) t).take (ari a x)) (fun v hv => vals_nonneg (a := a) hp (fun _ => Int.le_refl _) t v (List.mem_of_mem_take hv)) h1.1
      have h3 : ((vals a ps (fun _ => 0) t).take (ari a x)).sum + ((vals a ps (fun _ => 0) t).drop (ari a x)).sum = (vals a ps (fun _ => 0) t).sum := by
        rw [← List.sum_append, List.take_append_drop]
      omega
end Tm
namespace Tm
/-! equational steps -/
def none24 : Bd := List.replicate 24 []
theorem bget_none (n : Int) : bget none24 n = [] := by
  unfold bget none24
  rw [List.getD_eq_getElem?_getD, List.getElem?_replicate]
  split <;> rfl
/-- t and t' differ at one place by one instance of two sides -/
def Mv (a f o t t' : List Int) (i : Nat) : Prop := ∃ p s σ, p.length = i ∧ t = p ++ (sub σ f ++ s) ∧ t' = p ++ (sub σ o ++ s) ∧ ∀ x, x < 0 → Wf a 1 (σ x)
theorem Mv.wf {a f o t t' : List Int} {i : Nat} (h : Mv a f o t t' i) (hf : Wf a 1 f) (ho : Wf a 1 o) (ht : Wf a 1 t) : Wf a 1 t' := by
  obtain ⟨p, s, σ, h1, rfl, rfl, h4⟩ := h
  exact Wf.put (hf.sub fun x _ hx => h4 x hx) (ho.sub fun x _ hx => h4 x hx) ht
theorem Wf.var {a : List Int} : Wf a 1 [-1] := Wf.cons_iff.2 ⟨⟨by omega, by omega⟩, by simp [ari]; exact Wf.nil⟩
/-- the term at a place -/
def at' (a t : List Int) (i : Nat) : List Int := match skip a (t.drop i) 1 with
  | some r => (t.drop i).take ((t.drop i).length - r.length)
  | none => []
theorem at_eq {a p u s : List Int} (hu : Wf a 1 u) : at' a (p ++ (u ++ s)) p.length = u := by
  unfold at'
  rw [List.drop_left, hu.skip]
  simp
def putp (a t : List Int) (i : Nat) (v : List Int) : List Int := t.take i ++ (v ++ t.drop (i + (at' a t i).length))
theorem putp_eq {a p u s v : List Int} (hu : Wf a 1 u) : putp a (p ++ (u ++ s)) p.length v = p ++ (v ++ s) := by
  unfold putp
  rw [at_eq hu, List.take_left, ← List.drop_drop, List.drop_left, List.drop_left]
/-- one step of rewriting: match, fill, put -/
def sig (b : Bd) (n : Int) : List Int := if bget b n = [] then [n] else bget b n
def stepp (a l r t : List Int) (i : Nat) : Option (List Int) := (mat a l (at' a t i) none24).bind fun b =>
  if (sub (sig b) r).length ≤ 60 ∧ (putp a t i (sub (sig b) r)).length ≤ 60 then some (putp a t i (sub (sig b) r)) else none
theorem stepp_mv {a l r t t' : List Int} {i : Nat} (hl : Wf a 1 l) (hr : Wf a 1 r) (ht : Wf a 1 t) (hi : i < t.length) (hv : ∀ n ∈ r, n < 0 → n ∈ l) (h : stepp a l r t i = some t') :
    Mv a l r t t' i ∧ t'.length ≤ 60 := by
  unfold stepp at h
  obtain ⟨b, h1, h2⟩ := Option.bind_eq_some_iff.1 h
  split at h2
  · rename_i hc
    cases h2
    refine ⟨?_, hc.2⟩
    obtain ⟨p, u, s, rfl, rfl, hu⟩ := ht.place hi
    rw [at_eq hu] at h1
    rw [putp_eq hu]
    obtain ⟨e1, l1, k1, w1, n1⟩ := mat_sound hl hu (by simp [none24]) h1
    have hw1 : ∀ n ∈ l, n < 0 → Wf a 1 (bget b n) := fun n hn h0 => by
      rcases w1 n hn h0 with h | h
      · exact h
      · exact absurd (bget_none n) h.2
    let σ : Int → List Int := fun x => if Wf a 1 (bget b x) then bget b x else [-1]
    have hσ : ∀ x, x < 0 → Wf a 1 (σ x) := fun x _ => by
      by_cases h : Wf a 1 (bget b x)
      · simp only [σ, if_pos h]; exact h
      · simp only [σ, if_neg h]; exact Wf.var
    have hx : ∀ n ∈ l, n < 0 → σ n = bget b n := fun n hn h0 => by simp only [σ, if_pos (hw1 n hn h0)]
    refine ⟨p, s, σ, rfl, ?_, ?_, hσ⟩
    · rw [sub_congr hx, ← e1]
    · rw [sub_congr fun n hn h0 => ?_]
      rw [hx n (hv n hn h0) h0]
      unfold sig
      rw [if_neg (hw1 n (hv n hn h0) h0).ne]
  · cases h2
end Tm
