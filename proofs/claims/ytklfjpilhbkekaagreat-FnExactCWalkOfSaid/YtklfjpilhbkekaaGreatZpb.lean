/- What the equations of both sides come to: walks, matches with bindings; nothing is assumed. -/
import Derived.Test.YtklfjpilhbkekaaGreatZb
import Derived.Test.YtklfjpilhbkekaaGreatZpa
import Derived.Test.YtklfjpilhbkekaaGreatZf
import Derived.Test.YtklfjpilhbkekaaGreatZg
set_option linter.all false
namespace Go.Proofs.YtklfjpilhbkekaaGreat
open Go Abx Tm
theorem k3r {α β γ σ : Type} [Inhabited α] (mk : Int -> List β -> σ) {xs : List α} {g : α -> β} {out0 : List β} {c : γ} {f : σ -> Option (σ ⊕ γ)}
 (h : ∀ (i : Nat) (out : List β) (x : α), i < xs.length -> x ∈ xs -> xs.getD i default = x -> out.length = out0.length + i -> f (mk i out) = some (.inl (mk ((i : Int) + 1) (out ++ [g x]))))
 (he : f (mk xs.length (out0 ++ xs.map g)) = some (.inr c)) : loopC f (mk 0 out0) = some c := by
 have key : ∀ (k i : Nat) (out : List β), i + k = xs.length -> out.length = out0.length + i -> out ++ (xs.drop i).map g = out0 ++ xs.map g -> loopC f (mk i out) = some c := by
  intro k
  induction k with
  | zero =>
   intro i out hi _ ho
   obtain rfl : i = xs.length := by omega
   rw [List.drop_length] at ho
   simp at ho; subst ho
   exact x8 he
  | succ k ih =>
   intro i out hi hl ho
   have hlt : i < xs.length := by omega
   rw [p9 (h i out _ hlt (List.getElem_mem hlt) (y9 hlt) hl), show ((i : Int) + 1) = ((i + 1 : Nat) : Int) by omega]
   refine ih (i + 1) _ (by omega) (by simp; omega) ?_
   rw [List.drop_eq_getElem_cons hlt, List.map_cons] at ho
   rw [laa, List.singleton_append]
   exact ho
 exact key xs.length 0 out0 (by omega) (by omega) (by simp)
abbrev Mvv := Int × Int × Bool × q7
abbrev Chn := q7 × List Mvv
def chW (w : q7 × List Stp) : Chn := (w.1, w.2.map fun s => (s.2.1, s.1, false, s.2.2))
def k1m (c : Chn) : q7 := if c.2.length = 0 then c.1 else (c.2.getD (c.2.length - 1) default).2.2.2
structure SmC (c : Chn) : Prop where
 from' : c.1.length <= 60
 len : c.2.length <= 60
 to : ∀ m ∈ c.2, m.2.2.2.length <= 60
structure SmW (w : q7 × List Stp) : Prop where
 from' : w.1.length <= 60
 len : w.2.length <= 60
 to : ∀ m ∈ w.2, m.2.2.length <= 60
theorem SmW.ch {w : q7 × List Stp} (h : SmW w) : SmC (chW w) :=
 ⟨h.from', by simpa [chW] using h.len, fun m hm => by obtain ⟨s, hs, rfl⟩ := List.mem_map.1 hm; exact h.to s hs⟩
theorem SmC.at {c : Chn} (h : SmC c) {i : Nat} (hi : i < c.2.length) : (c.2.getD i default).2.2.2.length <= 60 := h.to _ (u4 hi)
theorem SmC.end' {c : Chn} (h : SmC c) : (k1m c).length <= 60 := by
 unfold k1m
 split
 ·exact h.from'
 ·exact h.at (by omega)
abbrev Eqq := q7 × q7
def sideF (eqs : List Eqq) (m : Mvv) : q7 := if m.2.2.1 = true then (eqs.getD m.1.toNat default).2 else (eqs.getD m.1.toNat default).1
def sideO (eqs : List Eqq) (m : Mvv) : q7 := if m.2.2.1 = true then (eqs.getD m.1.toNat default).1 else (eqs.getD m.1.toNat default).2
def inB (eqs : List Eqq) (t : q7) (m : Mvv) : Prop := (0 <= m.1 /\ m.1 < eqs.length) /\ (0 <= m.2.1 /\ m.2.1 < t.length) /\ m.2.1 < m.2.2.2.length
instance (eqs : List Eqq) (t : q7) (m : Mvv) : Decidable (inB eqs t m) := by unfold inB; infer_instance
def moveB (a : q7) (eqs : List Eqq) (t : q7) (m : Mvv) : Bool := decide (inB eqs t m) && (z8 a m.2.2.2 && mvB a (sideF eqs m) (sideO eqs m) t m.2.2.2 m.2.1.toNat)
def y1t (a : q7) (eqs : List Eqq) : q7 -> List Mvv -> Bool
 | _, [] => true
 | t, m :: ms => moveB a eqs t m && y1t a eqs m.2.2.2 ms
theorem k9n {a p' t' : q7} : ∀ {p t : q7} {b : Bd} {k : Nat}, Wf a k p -> Wf a k t -> mat a (p ++ p') (t ++ t') b = (mat a p t b).bind fun b' => mat a p' t' b'
 | [], t, b, 0, _, ht => by rw [ht.zero]; simp [q6r]
 | [], t, b, k + 1, hp, _ => by simp [Wf, Tm.skip] at hp
 | n :: p, t, b, 0, hp, _ => by have := hp.zero; cases this
 | n :: p, t, b, k + 1, hp, ht => by
  obtain ⟨hx, hp⟩ := Wf.cons_iff.1 hp
  by_cases hn : n < 0
  ·rw [show k + 1 = 1 + k by omega] at ht
   obtain ⟨u, r, rfl, hu, hr⟩ := ht.split
   have ha : ari a n = 0 := by simp [ari, hn]
   rw [ha, Nat.add_zero] at hp
   rw [List.cons_append, laa, k1u hn hu, k1u hn hu]
   split
   ·exact k9n hp hr
   ·split
    ·exact k9n hp hr
    ·rfl
  ·obtain ⟨y, r, rfl, hy, hr⟩ := ht.pos
   rw [List.cons_append, List.cons_append, q8m hn, q8m hn]
   split
   ·rename_i e; subst e; exact k9n hp hr
   ·rfl
def x4u (a : q7) : Ty1 -> Ty1 -> Bd -> Option Bd
 | p :: ps, t :: ts, b => (mat a p t b).bind fun b' => x4u a ps ts b'
 | _, _, b => some b
theorem z7k {a : q7} : ∀ {ps ts : Ty1} {b : Bd}, ps.length = ts.length -> (∀ u ∈ ps, Wf a 1 u) -> (∀ u ∈ ts, Wf a 1 u) -> mat a ps.flatten ts.flatten b = x4u a ps ts b
 | [], [], b, _, _, _ => by simp [q6r, x4u]
 | p :: ps, t :: ts, b, hl, hp, ht => by
  rw [List.flatten_cons, List.flatten_cons, k9n (hp p (by simp)) (ht t (by simp)), x4u]
  cases mat a p t b with
  | none => rfl
  | some b' => exact z7k (by simpa using hl) (fun u hu => hp u (by simp [hu])) fun u hu => ht u (by simp [hu])
 | [], _ :: _, _, hl, _, _ => by simp at hl
 | _ :: _, [], _, hl, _, _ => by simp at hl
def z4a (s : Int) : Ty1 -> q7
 | [] => []
 | u :: us => s :: z4a (s + u.length) us
theorem k9x : ∀ (us : Ty1) (s : Int), (z4a s us).length = us.length
 | [], _ => rfl
 | u :: us, s => by simp [z4a, k9x us]
theorem z2t : ∀ (us : Ty1) (s : Int) (j : Nat) (_ : j < us.length), z4a s (us.take (j + 1)) = z4a s (us.take j) ++ [s + ((us.take j).flatten.length : Int)]
 | [], _, _, h => by simp at h
 | u :: us, s, 0, _ => by simp [z4a]
 | u :: us, s, j + 1, h => by
  simp only [List.take_succ_cons, z4a]
  rw [z2t us _ j (by simpa using h)]
  simp; omega
theorem k9w : ∀ (us : Ty1) (s : Int) (j : Nat) (_ : j < us.length), (z4a s us).getD j default = s + ((us.take j).flatten.length : Int)
 | [], _, _, h => by simp at h
 | u :: us, s, 0, _ => by simp [z4a]
 | u :: us, s, j + 1, h => by
  simp only [z4a, List.getD_cons_succ, List.take_succ_cons]
  rw [k9w us _ j (by simpa using h)]
  simp; omega
theorem z9z {us : Ty1} {j : Nat} (h : j < us.length) : (us.take (j + 1)).flatten = (us.take j).flatten ++ us[j] := by
 rw [List.take_add_one, List.getElem?_eq_getElem h, List.flatten_append]; simp
theorem x7e {x : Int} {us : Ty1} {j : Nat} (hj : j < us.length) : (x :: us.flatten).drop (1 + (us.take j).flatten.length) = us[j] ++ (us.drop (j + 1)).flatten := by
 rw [Nat.add_comm 1, List.drop_succ_cons]
 have e : us.flatten = (us.take j).flatten ++ (us[j] ++ (us.drop (j + 1)).flatten) := by
  conv => lhs; rw [<- List.take_append_drop j us, List.drop_eq_getElem_cons hj]
  rw [List.flatten_append, List.flatten_cons]
 rw [e, List.drop_left]
theorem z5x {a : q7} : ∀ {k : Nat} {r : q7}, Wf a k r -> ∃ us : Ty1, us.length = k /\ r = us.flatten /\ ∀ u ∈ us, Wf a 1 u
 | 0, r, h => ⟨[], rfl, by rw [h.zero]; rfl, by simp⟩
 | k + 1, r, h => by
  rw [show k + 1 = 1 + k by omega] at h
  obtain ⟨u, v, rfl, h1, h2⟩ := h.split
  obtain ⟨us, h3, rfl, h4⟩ := z5x h2
  exact ⟨u :: us, by simp [h3], rfl, by simpa using ⟨h1, h4⟩⟩
theorem e8q {t : q7} (hs : t.length <= 60) {i : Int} : u7q t i = some (decide (0 <= i /\ i < t.length)) := by
 unfold u7q
 rw [u6q, obz, e7 (by omega) (by omega)]
 congr 1
 rw [Bool.decide_and]
 congr 1
 exact decide_eq_decide.2 (by omega)
theorem j3x {us : Ty1} {u : q7} (h : u ∈ us) : u.length <= us.flatten.length := by
 induction us with
 | nil => cases h
 | cons v us ih =>
  rw [List.flatten_cons, lap]
  rcases List.mem_cons.1 h with rfl | h
  ·omega
  ·have := ih h; omega
theorem k8a {a : q7} {x : Int} {us : Ty1} (ht : z8 a (x :: us.flatten) = true) (hu : ∀ u ∈ us, Wf a 1 u) {u : q7} (h : u ∈ us) : z8 a u = true := by
 obtain ⟨ha, h1, h2, h3⟩ := j4.1 ht
 have := j3x h
 simp only [List.length_cons] at h2
 exact j4.2 ⟨ha, (hu u h).len, by omega, hu u h⟩
def y1w : q7 -> List Mvv -> q7
 | t, [] => t
 | _, m :: ms => y1w m.2.2.2 ms
theorem z6o : ∀ {ms : List Mvv} {t : q7}, (if ms.length = 0 then t else (ms.getD (ms.length - 1) default).2.2.2) = y1w t ms
 | [], _ => rfl
 | [m], t => rfl
 | m :: m' :: ms, t => by
  have := z6o (ms := m' :: ms) (t := m.2.2.2)
  simpa [y1w] using this
theorem x0d (c : Chn) : k1m c = y1w c.1 c.2 := z6o
theorem q6c {w : q7 × List Stp} (h : SmW w) : r4q w = some (k1m (chW w)) := by
 unfold r4q k1m chW
 have hl := h.len
 simp only [List.length_map]
 by_cases h0 : w.2.length = 0
 ·simp only [h0, Int.ofNat_zero, beq_self_eq_true, if_true]
  rw [b7 (show w.1.length < _ by have := h.from'; omega), obz]
 ·have : ((w.2.length : Int) == 0) = false := beq_eq_false_iff_ne.2 (by omega)
  simp only [this, bft, if_false, h0, e7 (n := (w.2.length : Int) - 1) (by omega) (by omega)]
  rw [if_pos (by omega), show ((w.2.length : Int) - 1).toNat = w.2.length - 1 by omega]
  have hlt : w.2.length - 1 < w.2.length := by omega
  have e : ((w.2.map fun s => (s.2.1, s.1, false, s.2.2)).getD (w.2.length - 1) default) = ((w.2.getD (w.2.length - 1) default).2.1, (w.2.getD (w.2.length - 1) default).1, false, (w.2.getD (w.2.length - 1) default).2.2) := by
   rw [y9 (by simpa using hlt), y9 hlt, List.getElem_map]
  rw [e, b7 (show List.length _ < _ by have := h.to _ (u4 hlt); omega), obz]
def k7l {α : Type} (p : α -> Bool) (xs : List α) : Int := match xs.findIdx? p with | some j => (j : Int) | none => -1
theorem k7r {α : Type} [Inhabited α] {xs : List α} {p : α -> Bool} {f : Int -> Option (Int ⊕ Int)}
 (h : ∀ (i : Nat) (x : α), i < xs.length -> x ∈ xs -> xs.getD i default = x -> f (i : Int) = some (if p x = true then .inr (i : Int) else .inl ((i : Int) + 1)))
 (he : f xs.length = some (.inr (-1))) : loopC f 0 = some (k7l p xs) := by
 have key : ∀ (k i : Nat), i + k = xs.length -> loopC f (i : Int) = some (match (xs.drop i).findIdx? p with | some j => ((i + j : Nat) : Int) | none => -1) := by
  intro k
  induction k with
  | zero =>
   intro i hi
   obtain rfl : i = xs.length := by omega
   rw [x8 he, List.drop_length]; rfl
  | succ k ih =>
   intro i hi
   have hlt : i < xs.length := by omega
   have e := h i _ hlt (List.getElem_mem hlt) (y9 hlt)
   rw [List.drop_eq_getElem_cons hlt, List.findIdx?_cons]
   cases hp : p (xs[i]) with
   | true => rw [hp] at e; rw [x8 e]; simp
   | false =>
    rw [hp] at e
    rw [p9 e, show ((i : Int) + 1) = ((i + 1 : Nat) : Int) by omega, ih (i + 1) (by omega)]
    cases hf : (xs.drop (i + 1)).findIdx? p with
    | none => simp
    | some j =>
     simp only [bft, if_false, Option.map_some]
     show some (((i + 1 + j : Nat) : Int)) = some (((i + (j + 1) : Nat) : Int))
     rw [show i + 1 + j = i + (j + 1) by omega]
 have := key xs.length 0 (by omega)
 simp only [List.drop_zero, Nat.zero_add] at this
 exact this
theorem z4s {α : Type} {p : α -> Bool} {xs : List α} (h : ∀ x ∈ xs, p x = false) : k7l p xs = -1 := by
 unfold k7l
 rw [List.findIdx?_eq_none_iff.2 h]
theorem j3w {α : Type} {p : α -> Bool} {xs : List α} {x : α} (hx : x ∈ xs) (hp : p x = true) : 0 <= k7l p xs := by
 unfold k7l
 cases h : xs.findIdx? p with
 | none => have := List.findIdx?_eq_none_iff.1 h x hx; rw [hp] at this; cases this
 | some j => simp only; omega
theorem g8q {w : q7 × List Stp} (h : SmW w) : b8 w = some (k1m (chW w)) := by
 unfold b8 k1m chW
 have hl := h.len
 simp only [List.length_map]
 by_cases h0 : w.2.length = 0
 ·simp [h0]
 ·simp only [show (0 : Int) < w.2.length by omega, decide_true, if_true, h0, if_false, e7 (n := (w.2.length : Int) - 1) (by omega) (by omega)]
  rw [if_pos (by omega), show ((w.2.length : Int) - 1).toNat = w.2.length - 1 by omega]
  have hlt : w.2.length - 1 < w.2.length := by omega
  rw [y9 (xs := w.2.map _) (by simpa using hlt), y9 hlt, List.getElem_map]
theorem k2u {a : q7} {x : Int} {us : Ty1} (ha : w7q a = true) (hs : (x :: us.flatten).length <= 60) (ho : okx a x) (hl : us.length = ari a x)
 (hu : ∀ u ∈ us, Wf a 1 u) : l0q a (x :: us.flatten) 0 = some (z4a 1 us) := by
 have h3 := z6d ha x
 have key : Okk True (l0q a (x :: us.flatten) 0) (· = z4a 1 us) := by
  unfold l0q
  rw [if_pos (by simp only [List.length_cons]; omega)]
  simp only [Int.toNat_zero, List.getD_cons_zero]
  rw [q3u ha, if_pos ho, obz, e7 (n := (0 : Int) + 1) (by omega) (by omega)]
  refine Okk.loop (fun q : q7 × Int × Int => ∃ j : Nat, j <= us.length /\ q.1 = z4a 1 (us.take j) /\ q.2.1 = 1 + ((us.take j).flatten.length : Int) /\ q.2.2 = (us.length : Int) - j) (fun q : q7 × Int × Int => q.2.2.toNat)
   ⟨0, by omega, by simp [z4a], by simp, by simp [hl]⟩ ?_
  rintro ⟨_, _, _⟩ ⟨j, h4, rfl, rfl, rfl⟩
  simp only [q0r]
  by_cases hj : j < us.length
  ·have hd := x7e (x := x) hj
   have hw := hu _ (List.getElem_mem hj)
   have hpl := k9x (us.take j) 1
   rw [List.length_take] at hpl
   have hdl := congrArg List.length hd
   have hwl := hw.len
   simp only [List.length_drop, lap] at hdl
   have he := b9q ha (show o4q (x :: us.flatten) by show List.length _ < _; omega) (i := 1 + (us.take j).flatten.length) (by omega)
   rw [q3c hd hw] at he
   rw [show ((1 + (us.take j).flatten.length : Nat) : Int) = 1 + ((us.take j).flatten.length : Int) by omega] at he
   simp only [show (0 : Int) < (us.length : Int) - j by omega, decide_true, if_true, show ((z4a 1 (us.take j)).length + 1) * 8 <= 140737488355328 by omega, he, obz, e7 (n := (us.length : Int) - j - 1) (by omega) (by omega)]
   refine .some ⟨⟨j + 1, by omega, (z2t us _ j hj).symm, ?_, by simp only; omega⟩, by simp only; omega⟩
   simp only [z9z hj, lap]
   omega
  ·obtain rfl : j = us.length := by omega
   simp only [show ¬ (0 : Int) < (us.length : Int) - (us.length : Int) by omega, decide_false, bft, if_false, Option.map_some]
   refine .some ?_
   simp only [Rnd, List.take_length]
 exact key.eq
theorem q5j {a : q7} {x : Int} {us : Ty1} (ht : z8 a (x :: us.flatten) = true) (hl : us.length = ari a x) (hu : ∀ u ∈ us, Wf a 1 u) : n9q a (x :: us.flatten) 0 = some (z4a 1 us) := by
 obtain ⟨ha, h1, h2, h3⟩ := j4.1 ht
 unfold n9q
 rw [k4q, obz, if_pos ht, e8q h2, obz, if_pos (by simp only [decide_eq_true_eq]; omega), k2u ha h2 (Wf.cons_iff.1 h3).1 hl hu, obz]
theorem q6a {a t u r : q7} (ht : z8 a t = true) {i : Nat} (h : t.drop i = u ++ r) (hu : Wf a 1 u) : r3q a t i = some u := by
 obtain ⟨ha, h1, h2, h3⟩ := j4.1 ht
 have hul := hu.len
 have hd := congrArg List.length h
 simp only [List.length_drop, lap] at hd
 unfold r3q
 rw [k4q, obz, if_pos ht, e8q h2, obz, if_pos (by simp only [decide_eq_true_eq]; omega), n1q ha (show List.length _ < _ by omega) h hu, obz]
theorem q2z {a : q7} : ∀ (fu : Nat) {p t : q7} {b0 : Bd}, z8 a p = true -> z8 a t = true -> b0.length = 24 -> (∀ u ∈ b0, u.length <= 60) ->
 Okk (p.length + 1 <= fu) (x3q fu a b0 p t) fun r => z3z (mat a p t b0) r
 | 0, p, t, b0, _, _, _, _ => ⟨fun _ h => by simp [x3q] at h, fun h => by omega⟩
 | fu + 1, p, t, b0, hp, ht, hb, hbs => by
  obtain ⟨ha, p1, p2, p3⟩ := j4.1 hp
  obtain ⟨_, t1, t2, t3⟩ := j4.1 ht
  obtain ⟨x, r, rfl, hx, hr⟩ := p3.pos
  obtain ⟨y, s, rfl, hy, hsw⟩ := t3.pos
  have ep : ((((x :: r).length : Nat) : Int) == 0) = false := beq_eq_false_iff_ne.2 (by simp only [List.length_cons]; omega)
  have et : ((((y :: s).length : Nat) : Int) == 0) = false := beq_eq_false_iff_ne.2 (by simp only [List.length_cons]; omega)
  have lp : (0 : Int) < (((x :: r).length : Nat) : Int) := by simp only [List.length_cons]; omega
  have lt : (0 : Int) < (((y :: s).length : Nat) : Int) := by simp only [List.length_cons]; omega
  simp only [x3q, ep, et, bft, if_false, lp, lt, Int.le_refl, and_self, if_true, List.getD_cons_zero]
  by_cases hn : x < 0
  ·have ha0 : ari a x = 0 := by simp [ari, hn]
   rw [ha0] at hr
   have hr0 := hr.zero
   subst hr0
   have hx1 := hx.1
   have e := k1u (a := a) (p := []) (r := []) (b := b0) hn t3
   rw [List.append_nil] at e
   rw [e]
   simp only [q6r]
   have hg : b0.getD (-1 - x).toNat default = r5 b0 x := rfl
   have hbl := q6y (n := x) hbs
   simp only [hn, decide_true, if_true, e7 (n := -1 - x) (by omega) (by omega), show 0 <= -1 - x by omega, show -1 - x < (b0.length : Int) by omega, and_self, hg, show (0 + b0.length) * 24 <= 140737488355328 by omega]
   by_cases h0 : r5 b0 x = []
   ·simp only [h0, if_true, List.length_nil, show ¬ (0 : Int) < ((0 : Nat) : Int) by omega, decide_false, bft, if_false]
    exact .some rfl
   ·have h0' : 0 < (r5 b0 x).length := List.length_pos_iff.2 h0
    simp only [h0, if_false, show (0 : Int) < ((r5 b0 x).length : Int) by omega, decide_true, if_true]
    rw [q2y (show List.length _ < _ by omega), obz]
    by_cases he : r5 b0 x = y :: s
    ·simp only [he, beq_self_eq_true, if_true]
     exact .some rfl
    ·have : (r5 b0 x == y :: s) = false := by simpa using he
     simp only [he, this, if_false]
     exact .some rfl
  ·simp only [hn, decide_false, bft, if_false, q8m hn]
   by_cases hxy : y = x
   ·subst hxy
    simp only [bne_self_eq_false, bft, if_false, if_true]
    obtain ⟨us, ul, rfl, hus⟩ := z5x (show Wf a (ari a y) r by simpa using hr)
    obtain ⟨vs, vl, rfl, hvs⟩ := z5x (show Wf a (ari a y) s by simpa using hsw)
    rw [q5j hp ul hus, obz, q5j ht vl hvs, obz, z7k (by omega) hus hvs]
    have h3 := z6d ha y
    refine Okk.loop (fun q : Bd × Int => ∃ j : Nat, q.2 = j /\ j <= us.length /\ q.1.length = 24 /\ (∀ u ∈ q.1, u.length <= 60) /\ x4u a us vs b0 = x4u a (us.drop j) (vs.drop j) q.1) (fun q : Bd × Int => us.length - q.2.toNat)
     ⟨0, rfl, by omega, hb, hbs, by simp⟩ ?_
    rintro ⟨b, _⟩ ⟨j, rfl, h4, h5, h6, h7⟩
    simp only at h5 h6 h7
    simp only [s1q, k9x]
    by_cases hj : j < us.length
    ·have hjv : j < vs.length := by omega
     have hpu := q6a (i := 1 + (us.take j).flatten.length) hp (x7e hj) (hus _ (List.getElem_mem hj))
     have hpv := q6a (i := 1 + (vs.take j).flatten.length) ht (x7e hjv) (hvs _ (List.getElem_mem hjv))
     rw [show ((1 + (us.take j).flatten.length : Nat) : Int) = 1 + ((us.take j).flatten.length : Int) by omega] at hpu
     rw [show ((1 + (vs.take j).flatten.length : Nat) : Int) = 1 + ((vs.take j).flatten.length : Int) by omega] at hpv
     simp only [show (j : Int) < (us.length : Int) by omega, show (j : Int) < (vs.length : Int) by omega, decide_true, if_true, show (0 : Int) <= j by omega, and_self, itn, k9w us 1 j hj, k9w vs 1 j hjv, hpu, hpv, obz]
     have htu := k8a hp hus (List.getElem_mem hj)
     have htv := k8a ht hvs (List.getElem_mem hjv)
     have hul := j3x (List.getElem_mem hj)
     simp only [List.length_cons] at p2
     rw [List.drop_eq_getElem_cons hj, List.drop_eq_getElem_cons hjv, x4u] at h7
     refine Okk.bind ((q2z fu htu htv h5 h6).weak (fun h => by simp only [List.length_cons] at h; omega)) ?_
     rintro ⟨b', ok⟩ h8
     cases hm : mat a us[j] vs[j] b with
     | none =>
      rw [hm] at h7 h8
      simp only [z3z] at h8
      subst h8
      simp only [bft, if_false, Option.map_some]
      refine .some ?_
      simp only [Rnd, h7, Option.bind_none, z3z]
     | some b1 =>
      rw [hm] at h7 h8
      simp only [z3z, Prod.mk.injEq] at h8
      obtain ⟨rfl, rfl⟩ := h8
      obtain ⟨h9, h10⟩ := q0h hm h6 (j4.1 htv).2.2.1 h5
      simp only [if_true, e7 (n := (j : Int) + 1) (by omega) (by omega)]
      refine .some ⟨⟨j + 1, by simp, hj, h9, h10, ?_⟩, by simp only; omega⟩
      rw [h7, obz]
    ·obtain rfl : j = us.length := by omega
     simp only [Int.lt_irrefl, decide_false, bft, if_false, Option.map_some]
     refine .some ?_
     simp only [Rnd]
     rw [h7, List.drop_length]
     simp only [x4u, z3z]
   ·have : (x != y) = true := by simpa using fun e => hxy e.symm
    simp only [this, if_true, hxy, if_false]
    exact .some rfl
theorem q5n {a p t : q7} {b0 : Bd} (hp : z8 a p = true) (ht : z8 a t = true) (hb : b0.length = 24) (hbs : ∀ u ∈ b0, u.length <= 60) :
 Okk True (m7 a b0 p t) fun r => z3z (mat a p t b0) r := Okk.lim (p.length + 1) fun n => q2z n hp ht hb hbs
end Go.Proofs.YtklfjpilhbkekaaGreat
