/- Plain theory of terms and what the equations of the functions come to; Functions of the program and the equations that they compute; The layer of data and running functions, and its rules; The law lifted to the statement; What the tool asks of the program for the law, by computation; nothing is assumed. -/
import Derived.Test.YtcbfefbocpikoaaGreatIne
import Derived.Carry
import Derived.Test.YtcbfefbocpikoaaGreatRows
import Derived.ProofKit
import Derived.JoinedOf
import Derived.KernelRfl
set_option linter.unusedSimpArgs false
set_option linter.unusedVariables false
set_option linter.unusedSectionVars false
set_option linter.unnecessarySimpa false
namespace Go.Proofs.YtcbfefbocpikoaaGreat
open Go Abx Tm
def firstI {α : Type} (p : α → Bool) (xs : List α) : Int := match xs.findIdx? p with | some j => (j : Int) | none => -1
theorem loop_first {α : Type} [Inhabited α] {xs : List α} {p : α → Bool} {f : Int → Option (Int ⊕ Int)}
    (h : ∀ (i : Nat) (x : α), i < xs.length → x ∈ xs → xs.getD i default = x → f (i : Int) = some (if p x = true then .inr (i : Int) else .inl ((i : Int) + 1)))
    (he : f xs.length = some (.inr (-1))) : loopC f 0 = some (firstI p xs) := by
  have key : ∀ (k i : Nat), i + k = xs.length → loopC f (i : Int) = some (match (xs.drop i).findIdx? p with | some j => ((i + j : Nat) : Int) | none => -1) := by
    intro k
    induction k with
    | zero =>
      intro i hi
      obtain rfl : i = xs.length := by omega
      rw [loopC_inr he, List.drop_length]; rfl
    | succ k ih =>
      intro i hi
      have hlt : i < xs.length := by omega
      have e := h i _ hlt (List.getElem_mem hlt) (getD_get hlt)
      rw [List.drop_eq_getElem_cons hlt, List.findIdx?_cons]
      cases hp : p (xs[i]) with
      | true => rw [hp] at e; rw [loopC_inr e]; simp
      | false =>
        rw [hp] at e
        rw [loopC_inl e, show ((i : Int) + 1) = ((i + 1 : Nat) : Int) by omega, ih (i + 1) (by omega)]
        cases hf : (xs.drop (i + 1)).findIdx? p with
        | none => simp
        | some j =>
          simp only [Bool.false_eq_true, if_false, Option.map_some]
          show some (((i + 1 + j : Nat) : Int)) = some (((i + (j + 1) : Nat) : Int))
          rw [show i + 1 + j = i + (j + 1) by omega]
  have := key xs.length 0 (by omega)
  simp only [List.drop_zero, Nat.zero_add] at this
  exact this
theorem loop_filter {γ : Type} {n : Nat} {p : Nat → Bool} {g : Nat → Int} {c : γ} {f : List Int × Int → Option ((List Int × Int) ⊕ γ)}
    (h : ∀ (i : Nat) (out : List Int), i < n → out.length ≤ i → f (out, (i : Int)) = some (.inl (if p i = true then out ++ [g i] else out, (i : Int) + 1)))
    (he : f (((List.range n).filter p).map g, (n : Int)) = some (.inr c)) : loopC f ([], 0) = some c := by
  have key : ∀ (k i : Nat), i + k = n → loopC f (((List.range i).filter p).map g, (i : Int)) = some c := by
    intro k
    induction k with
    | zero => intro i hi; obtain rfl : i = n := (by omega); exact loopC_inr he
    | succ k ih =>
      intro i hi
      have hl : (((List.range i).filter p).map g).length ≤ i := by
        rw [List.length_map]
        exact Nat.le_trans (List.length_filter_le _ _) (by simp)
      rw [loopC_inl (h i _ (by omega) hl), show ((i : Int) + 1) = ((i + 1 : Nat) : Int) by omega]
      have e : (if p i = true then ((List.range i).filter p).map g ++ [g i] else ((List.range i).filter p).map g) = ((List.range (i + 1)).filter p).map g := by
        rw [List.range_succ, List.filter_append, List.map_append]
        cases hp : p i <;> simp [hp]
      rw [e]
      exact ih (i + 1) (by omega)
  exact key n 0 (by omega)
def ruleI (s : Sys) (u : List Int) : Int := firstI (fun r => (mat s.1 r.1 u none24).isSome) s.2
theorem firstI_lt {α : Type} {p : α → Bool} {xs : List α} : -1 ≤ firstI p xs ∧ firstI p xs < xs.length := by
  unfold firstI
  cases h : xs.findIdx? p with
  | none => simp only; omega
  | some j => have := (List.findIdx?_eq_some_iff_getElem.1 h).1; simp only; omega
theorem firstI_none {α : Type} {p : α → Bool} {xs : List α} (h : ∀ x ∈ xs, p x = false) : firstI p xs = -1 := by
  unfold firstI
  rw [List.findIdx?_eq_none_iff.2 h]
theorem firstI_at {α : Type} {p : α → Bool} {xs : List α} {x : α} (hx : x ∈ xs) (hp : p x = true) : 0 ≤ firstI p xs := by
  unfold firstI
  cases h : xs.findIdx? p with
  | none => have := List.findIdx?_eq_none_iff.1 h x hx; rw [hp] at this; cases this
  | some j => simp only; omega
theorem ruleI_var {s : Sys} (hs : sysOk s = true) {y : Int} {u : List Int} (hy : y < 0) : ruleI s (y :: u) = -1 := by
  obtain ⟨_, _, hr⟩ := sysOk_iff.1 hs
  refine firstI_none fun r hm => ?_
  obtain ⟨hL, _, h0, _⟩ := ruleOk_iff.1 (hr r hm)
  obtain ⟨_, _, _, w⟩ := termOk_iff.1 hL
  obtain ⟨n, p, e, _, _⟩ := w.pos
  rw [e] at h0 ⊢
  simp only [List.headD_cons] at h0
  rw [mat_sym (by omega), if_neg (by omega)]; rfl
theorem at_place {a t : List Int} (ht : termOk a t = true) {i : Nat} (hi : i < t.length) : ∃ q, t.drop i = at' a t i ++ q ∧ Wf a 1 (at' a t i) ∧ (at' a t i).length ≤ 60 ∧ ∃ u, at' a t i = t[i] :: u := by
  obtain ⟨_, _, t2, t3⟩ := termOk_iff.1 ht
  obtain ⟨p, u, q, e, hp, hu⟩ := t3.place hi
  have ha : at' a t i = u := by rw [e, ← hp]; exact at_eq hu
  have hd : t.drop i = u ++ q := by rw [e, ← hp]; exact List.drop_left
  rw [ha]
  refine ⟨q, hd, hu, ?_, ?_⟩
  · have := congrArg List.length e; simp only [List.length_append] at this; omega
  · obtain ⟨y, r, e2, _, _⟩ := hu.pos
    subst e2
    rw [List.drop_eq_getElem_cons hi, List.cons_append] at hd
    exact ⟨r, by rw [(List.cons.inj hd).1]⟩
theorem match_isSome {a p t : List Int} {r : Bd × Bool} (h : MRes (mat a p t none24) r) : r.2 = (mat a p t none24).isSome := by
  cases hm : mat a p t none24 with
  | none => rw [hm] at h; exact h
  | some b => rw [hm] at h; exact h.1
theorem F_impl_ruleAt_eq {s : Sys} {t : List Int} (hs : sysOk s = true) (ht : termOk s.1 t = true) {i : Nat} (hi : i < t.length) : F_impl_ruleAt s t i = some (ruleI s (at' s.1 t i)) := by
  obtain ⟨ha, hl, hr⟩ := sysOk_iff.1 hs
  obtain ⟨_, t1, t2, t3⟩ := termOk_iff.1 ht
  obtain ⟨q, hd, hu, hul, _⟩ := at_place ht hi
  unfold F_impl_ruleAt
  refine loop_first (fun j r hj hm hg => ?_) (by simp [F_impl_ruleAt_l1])
  obtain ⟨hL, _⟩ := ruleOk_iff.1 (hr r hm)
  obtain ⟨_, _, l2, l3⟩ := termOk_iff.1 hL
  obtain ⟨r5, e1, e2⟩ := (F_impl_match_ok ha l3 hu l2 hul).get
  have e3 := match_isSome e2
  simp only [F_impl_ruleAt_l1, F_impl_redex, F_impl_instance, show (j : Int) < s.2.length by omega, decide_true, if_true, show (0 : Int) ≤ j by omega, and_self, Int.toNat_natCast, hg, w64 (n := (j : Int) + 1) (by omega) (by omega)]
  rw [F_impl_subAt_eq ha (show List.length _ < _ by omega) (fun x hx => (t3.all x hx).1) hd hu, Option.bind_some, e1]
  simp only [Option.bind_some, e3]
  cases (mat s.1 r.1 (at' s.1 t i) none24).isSome <;> simp
theorem F_spec_l8Redex_eq {s : Sys} {t : List Int} (hs : sysOk s = true) (ht : termOk s.1 t = true) {i : Nat} (hi : i < t.length) : F_spec_l8Redex s t i = some (ruleI s (at' s.1 t i)) := by
  obtain ⟨ha, hl, hr⟩ := sysOk_iff.1 hs
  obtain ⟨_, t1, t2, t3⟩ := termOk_iff.1 ht
  obtain ⟨q, hd, hu, hul, _⟩ := at_place ht hi
  unfold F_spec_l8Redex
  rw [F_spec_l1Sub_eq ha (show List.length _ < _ by omega) hd hu, Option.bind_some]
  refine loop_first (fun j r hj hm hg => ?_) (by simp [F_spec_l8Redex_l1])
  obtain ⟨hL, _⟩ := ruleOk_iff.1 (hr r hm)
  obtain ⟨_, _, l2, l3⟩ := termOk_iff.1 hL
  obtain ⟨r5, e1, e2⟩ := (F_spec_l4Match_ok ha l3 hu l2 hul).get
  have e3 := match_isSome e2
  simp only [F_spec_l8Redex_l1, show (j : Int) < s.2.length by omega, decide_true, if_true, show (0 : Int) ≤ j by omega, and_self, Int.toNat_natCast, hg, w64 (n := (j : Int) + 1) (by omega) (by omega)]
  rw [e1, Option.bind_some, e3]
  cases (mat s.1 r.1 (at' s.1 t i) none24).isSome <;> simp
def isR (s : Sys) (t : List Int) (i : Nat) : Bool := decide (0 ≤ ruleI s (at' s.1 t i))
def posR (s : Sys) (t : List Int) : List Int := ((List.range t.length).filter (isR s t)).map (fun i : Nat => (i : Int))
theorem posR_mem {s : Sys} {t : List Int} {x : Int} (h : x ∈ posR s t) : ∃ i : Nat, x = i ∧ i < t.length ∧ 0 ≤ ruleI s (at' s.1 t i) := by
  obtain ⟨i, hi, rfl⟩ := List.mem_map.1 h
  obtain ⟨h1, h2⟩ := List.mem_filter.1 hi
  exact ⟨i, rfl, List.mem_range.1 h1, of_decide_eq_true h2⟩
theorem posR_len {s : Sys} {t : List Int} : (posR s t).length ≤ t.length := by
  unfold posR
  rw [List.length_map]
  exact Nat.le_trans (List.length_filter_le _ _) (by simp)
theorem posR_sorted (s : Sys) (t : List Int) : (posR s t).Pairwise (· < ·) := by
  unfold posR
  rw [List.pairwise_map]
  exact (List.pairwise_lt_range.filter _).imp fun h => by omega
theorem posR_nil {s : Sys} {t : List Int} : posR s t = [] ↔ ∀ i, i < t.length → ruleI s (at' s.1 t i) = -1 := by
  constructor
  · intro h i hi
    have h1 := (firstI_lt (p := fun r : List Int × List Int => (mat s.1 r.1 (at' s.1 t i) none24).isSome) (xs := s.2)).1
    by_cases h0 : 0 ≤ ruleI s (at' s.1 t i)
    · have : (i : Int) ∈ posR s t := List.mem_map.2 ⟨i, List.mem_filter.2 ⟨List.mem_range.2 hi, decide_eq_true h0⟩, rfl⟩
      rw [h] at this; cases this
    · have h1' : -1 ≤ ruleI s (at' s.1 t i) := h1
      omega
  · intro h
    refine List.eq_nil_iff_forall_not_mem.2 fun x hx => ?_
    obtain ⟨i, rfl, hi, h0⟩ := posR_mem hx
    rw [h i hi] at h0; omega
theorem F_impl_redexes_eq {s : Sys} {t : List Int} (hs : sysOk s = true) (ht : termOk s.1 t = true) : F_impl_redexes s t = some (posR s t) := by
  obtain ⟨_, t1, t2, t3⟩ := termOk_iff.1 ht
  unfold F_impl_redexes
  refine loop_filter (n := t.length) (p := isR s t) (g := fun i => (i : Int)) (fun i out hi ho => ?_) (by simp [F_impl_redexes_l1, posR])
  simp only [F_impl_redexes_l1, show (i : Int) < t.length by omega, decide_true, if_true, show (0 : Int) ≤ i by omega, and_self, Int.toNat_natCast, getD_get hi, w64 (n := (i : Int) + 1) (by omega) (by omega)]
  by_cases h0 : 0 ≤ t[i]
  · simp only [h0, decide_true, if_true]
    rw [F_impl_ruleAt_eq hs ht hi, Option.bind_some, if_pos (show (out.length + 1) * 8 ≤ 140737488355328 by omega)]
    unfold isR
    by_cases h1 : 0 ≤ ruleI s (at' s.1 t i)
    · simp [h1]
    · simp [h1]
  · obtain ⟨_, _, _, _, u, e⟩ := at_place ht hi
    have : isR s t i = false := by
      unfold isR
      rw [e, ruleI_var hs (by omega)]; rfl
    simp [h0, this]
theorem F_spec_RedexesIn_eq {s : Sys} {t : List Int} (hs : sysOk s = true) (ht : termOk s.1 t = true) : F_spec_RedexesIn s t = some (posR s t) := by
  obtain ⟨_, t1, t2, t3⟩ := termOk_iff.1 ht
  unfold F_spec_RedexesIn
  refine loop_filter (n := t.length) (p := isR s t) (g := fun i => (i : Int)) (fun i out hi ho => ?_) (by simp [F_spec_RedexesIn_l1, posR])
  simp only [F_spec_RedexesIn_l1, show (i : Int) < t.length by omega, decide_true, if_true, F_spec_l7Right_eq, hs, ht, Bool.and_self, Option.bind_some, w64 (n := (i : Int) + 1) (by omega) (by omega)]
  rw [F_spec_l8Redex_eq hs ht hi, Option.bind_some, if_pos (show (out.length + 1) * 8 ≤ 140737488355328 by omega)]
  unfold isR
  by_cases h1 : 0 ≤ ruleI s (at' s.1 t i)
  · simp [h1]
  · simp [h1]
def keepB (s : Sys) (t r : List Int) (k : Nat) : Bool := decide (k + 1 = r.length) || decide (endI s.1 t (r.getD k default).toNat ≤ r.getD (k + 1) default)
def inmL (s : Sys) (t : List Int) : List Int := ((List.range (posR s t).length).filter (keepB s t (posR s t))).map fun k => (posR s t).getD k default
theorem inmL_ne {s : Sys} {t : List Int} (h : posR s t ≠ []) : 0 < (inmL s t).length := by
  have h0 : 0 < (posR s t).length := List.length_pos_iff.2 h
  have : (posR s t).getD ((posR s t).length - 1) default ∈ inmL s t :=
    List.mem_map.2 ⟨(posR s t).length - 1, List.mem_filter.2 ⟨List.mem_range.2 (by omega), by unfold keepB; rw [decide_eq_true (by omega)]; rfl⟩, rfl⟩
  exact List.length_pos_iff.2 fun e => by rw [e] at this; cases this
theorem inmL_mem {s : Sys} {t : List Int} {x : Int} (h : x ∈ inmL s t) : x ∈ posR s t := by
  obtain ⟨k, hk, rfl⟩ := List.mem_map.1 h
  exact getD_mem (List.mem_range.1 (List.mem_filter.1 hk).1)
theorem F_impl_inmost_eq {s : Sys} {t : List Int} (hs : sysOk s = true) (ht : termOk s.1 t = true) : F_impl_inmost s t = some (inmL s t) := by
  obtain ⟨ha, t1, t2, t3⟩ := termOk_iff.1 ht
  have hl := posR_len (s := s) (t := t)
  unfold F_impl_inmost
  rw [F_impl_redexes_eq hs ht, Option.bind_some]
  refine loop_filter (n := (posR s t).length) (p := keepB s t (posR s t)) (g := fun k => (posR s t).getD k default) (fun k out hk ho => ?_) (by simp [F_impl_inmost_l1, inmL])
  obtain ⟨i, e, hi, _⟩ := posR_mem (getD_mem hk)
  simp only [F_impl_inmost_l1, show (k : Int) < (posR s t).length by omega, decide_true, if_true, show (0 : Int) ≤ k by omega, and_self, Int.toNat_natCast, w64 (n := (k : Int) + 1) (by omega) (by omega), show (out.length + 1) * 8 ≤ 140737488355328 by omega]
  unfold keepB
  by_cases hlast : k + 1 = (posR s t).length
  · have h1 : (((k : Int) + 1) == (((posR s t).length : Nat) : Int)) = true := by rw [beq_iff_eq]; omega
    simp [h1, hlast]
  · have h1 : (((k : Int) + 1) == (((posR s t).length : Nat) : Int)) = false := by rw [beq_eq_false_iff_ne]; omega
    have hk1 : k + 1 < (posR s t).length := by omega
    have hlt : (posR s t).getD k default ≤ (posR s t).getD (k + 1) default := by
      rw [getD_get hk, getD_get hk1]
      exact Int.le_of_lt (List.pairwise_iff_getElem.1 (posR_sorted s t) k (k + 1) hk hk1 (by omega))
    simp only [h1, Bool.false_eq_true, if_false, show (0 : Int) ≤ (k : Int) + 1 by omega, show (k : Int) + 1 < (posR s t).length by omega, and_self, if_true, show ((k : Int) + 1).toNat = k + 1 by omega, hlast, decide_false, Bool.false_or]
    unfold F_impl_inside
    simp only [hlt, decide_true, if_true]
    have he := F_impl_endAt_eq ha (show Small t by show List.length _ < _; omega) (fun x hx => (t3.all x hx).1) (i := i) (by omega)
    rw [← e] at he
    rw [he, Option.bind_some, Option.bind_some, show i = ((posR s t).getD k default).toNat by omega]
    by_cases hc : endI s.1 t ((posR s t).getD k default).toNat ≤ (posR s t).getD (k + 1) default
    · simp only [hc, show ¬ (posR s t).getD (k + 1) default < endI s.1 t ((posR s t).getD k default).toNat by omega, decide_true, decide_false, Bool.false_eq_true, if_false, if_true]
    · simp only [hc, show (posR s t).getD (k + 1) default < endI s.1 t ((posR s t).getD k default).toNat by omega, decide_true, decide_false, Bool.false_eq_true, if_false, if_true]
theorem F_spec_InmostIn_eq {s : Sys} {t : List Int} (hs : sysOk s = true) (ht : termOk s.1 t = true) : F_spec_InmostIn s t = some (inmL s t) := by
  obtain ⟨ha, t1, t2, t3⟩ := termOk_iff.1 ht
  have hl := posR_len (s := s) (t := t)
  unfold F_spec_InmostIn
  rw [F_spec_RedexesIn_eq hs ht, Option.bind_some]
  refine loop_filter (n := (posR s t).length) (p := keepB s t (posR s t)) (g := fun k => (posR s t).getD k default) (fun k out hk ho => ?_) (by simp [F_spec_InmostIn_l1, inmL])
  obtain ⟨i, e, hi, _⟩ := posR_mem (getD_mem hk)
  have he := F_spec_l1End_eq ha (show Small t by show List.length _ < _; omega) (i := i) (by omega)
  rw [← e] at he
  simp only [F_spec_InmostIn_l1, show (k : Int) < (posR s t).length by omega, decide_true, if_true, show (0 : Int) ≤ k by omega, and_self, Int.toNat_natCast, w64 (n := (k : Int) + 1) (by omega) (by omega), show (out.length + 1) * 8 ≤ 140737488355328 by omega, he, Option.bind_some]
  unfold keepB
  by_cases hlast : k + 1 = (posR s t).length
  · have h1 : (((k : Int) + 1) == (((posR s t).length : Nat) : Int)) = true := by rw [beq_iff_eq]; omega
    simp [h1, hlast]
  · have h1 : (((k : Int) + 1) == (((posR s t).length : Nat) : Int)) = false := by rw [beq_eq_false_iff_ne]; omega
    simp only [h1, Bool.false_eq_true, if_false, show (0 : Int) ≤ (k : Int) + 1 by omega, show (k : Int) + 1 < (posR s t).length by omega, and_self, if_true, show ((k : Int) + 1).toNat = k + 1 by omega, hlast, decide_false, Bool.false_or]
    rw [show i = ((posR s t).getD k default).toNat by omega]
    by_cases hc : endI s.1 t ((posR s t).getD k default).toNat ≤ (posR s t).getD (k + 1) default
    · simp only [hc, decide_true, if_true]
    · simp only [hc, decide_false, Bool.false_eq_true, if_false]
def pickI (s : Sys) (t : List Int) : Int := if posR s t = [] then -1 else (inmL s t).getD 0 default
theorem pickI_at {s : Sys} {t : List Int} (h : posR s t ≠ []) : ∃ i : Nat, pickI s t = i ∧ i < t.length ∧ 0 ≤ ruleI s (at' s.1 t i) := by
  unfold pickI
  rw [if_neg h]
  exact posR_mem (inmL_mem (getD_mem (inmL_ne h)))
theorem ruleI_lt (s : Sys) (u : List Int) : ruleI s u < s.2.length := firstI_lt.2
theorem F_impl_pick_eq {s : Sys} {t : List Int} (hs : sysOk s = true) (ht : termOk s.1 t = true) : F_impl_pick s t 1 = some (pickI s t) := by
  unfold F_impl_pick pickI
  rw [F_impl_redexes_eq hs ht, Option.bind_some, w64 (n := (1 : Int) - 1) (by omega) (by omega)]
  by_cases h : posR s t = []
  · rw [if_pos h, h]; rfl
  · have h0 := List.length_pos_iff.2 h
    have h1 : (((posR s t).length : Int) == 0) = false := beq_eq_false_iff_ne.2 (by omega)
    have h2 : (((1 : Int) - 1) == 0) = true := rfl
    have h3 := inmL_ne h
    simp only [h1, Bool.false_eq_true, if_false, h2, if_true, h]
    unfold F_impl_choice_inmost
    have e : F_impl_inmost (s.1, s.2) t = some (inmL s t) := F_impl_inmost_eq hs ht
    simp only [e, Option.bind_some]
    rw [if_pos (by omega), Option.bind_some]
theorem F_spec_l8Right_eq {s : Sys} {t : List Int} (hs : sysOk s = true) (ht : termOk s.1 t = true) : F_spec_l8Right s t 1 = some true := by
  unfold F_spec_l8Right
  rw [F_spec_l7Right_eq, Option.bind_some, hs, ht]
  simp only [Bool.and_self, if_true]
  rw [F_spec_l1In_eq, Option.bind_some]; rfl
theorem F_spec_PickBy_eq {s : Sys} {t : List Int} (hs : sysOk s = true) (ht : termOk s.1 t = true) :
    F_spec_PickBy s t 1 = some (if posR s t = [] then (0, 0, false) else (pickI s t, ruleI s (at' s.1 t (pickI s t).toNat), true)) := by
  unfold F_spec_PickBy F_spec_l8Places
  have h2 : ((1 : Int) == 1) = true := rfl
  rw [F_spec_l8Right_eq hs ht, Option.bind_some, if_pos rfl, if_pos h2, F_spec_InmostIn_eq hs ht, Option.bind_some, Option.bind_some]
  by_cases h : posR s t = []
  · have : inmL s t = [] := List.eq_nil_iff_forall_not_mem.2 fun x hx => by have := inmL_mem hx; rw [h] at this; cases this
    rw [if_pos h, this]; rfl
  · have h3 := inmL_ne h
    have h1 : (((inmL s t).length : Int) == 0) = false := beq_eq_false_iff_ne.2 (by omega)
    obtain ⟨i, e, hi, _⟩ := pickI_at h
    have e' : (inmL s t).getD 0 default = pickI s t := by unfold pickI; rw [if_neg h]
    simp only [h1, Bool.false_eq_true, if_false, h, e']
    rw [if_pos (by omega), if_pos (by omega), e, F_spec_l8Redex_eq hs ht hi, Option.bind_some, Int.toNat_natCast]
theorem F_spec_NormalIn_eq {s : Sys} {t : List Int} (hs : sysOk s = true) (ht : termOk s.1 t = true) : F_spec_NormalIn s t = some (decide (posR s t = [])) := by
  obtain ⟨ha, hl, hr⟩ := sysOk_iff.1 hs
  obtain ⟨_, t1, t2, t3⟩ := termOk_iff.1 ht
  unfold F_spec_NormalIn
  rw [F_spec_l7Right_eq, Option.bind_some, hs, ht]
  simp only [Bool.and_self, if_true]
  have key : Okk True (F_spec_l7Redexes s t) fun m => (m = 0 ↔ posR s t = []) := by
    unfold F_spec_l7Redexes
    refine Okk.loop (fun q : Int × Int => ∃ i : Nat, q.2 = i ∧ i ≤ t.length ∧ 0 ≤ q.1 ∧ q.1 ≤ 12 * i ∧ (q.1 = 0 ↔ ∀ j, j < i → ruleI s (at' s.1 t j) = -1)) (fun q : Int × Int => t.length - q.2.toNat) ⟨0, rfl, by omega, by omega, by simp, by simp⟩ ?_
    rintro ⟨many, _⟩ ⟨i, rfl, h1, h2, h3, h4⟩
    simp only at h2 h3 h4
    simp only [F_spec_l7Redexes_l1]
    by_cases hi : i < t.length
    · obtain ⟨q, hd, hu, hul, _⟩ := at_place ht hi
      simp only [show (i : Int) < t.length by omega, decide_true, if_true]
      refine Okk.loop (fun q : Int × Int => ∃ j : Nat, q.2 = j ∧ j ≤ s.2.length ∧ many ≤ q.1 ∧ q.1 ≤ many + j ∧ (q.1 = many ↔ ∀ r ∈ s.2.take j, (mat s.1 r.1 (at' s.1 t i) none24).isSome = false)) (fun q : Int × Int => s.2.length - q.2.toNat) ⟨0, rfl, by omega, by simp, by simp, by simp⟩ ?_
      rintro ⟨m2, _⟩ ⟨j, rfl, hj, h5, h6, h7⟩
      simp only at h5 h6 h7
      simp only [F_spec_l7Redexes_l2]
      by_cases hlt : j < s.2.length
      · obtain ⟨hL, _⟩ := ruleOk_iff.1 (hr _ (getD_mem hlt))
        obtain ⟨_, _, l2, l3⟩ := termOk_iff.1 hL
        simp only [show (j : Int) < s.2.length by omega, decide_true, if_true, show (0 : Int) ≤ j by omega, and_self, Int.toNat_natCast, w64 (n := (j : Int) + 1) (by omega) (by omega), w64 (n := m2 + 1) (by omega) (by omega)]
        rw [F_spec_l1Sub_eq ha (show List.length _ < _ by omega) hd hu, Option.bind_some]
        have ht1 : s.2.take (j + 1) = s.2.take j ++ [s.2[j]] := by rw [List.take_add_one, List.getElem?_eq_getElem hlt]; rfl
        refine Okk.bind (F_spec_l4Match_ok ha l3 hu l2 hul) fun r1 hr1 => ?_
        have e3 := match_isSome hr1
        rw [getD_get hlt] at e3
        refine Okk.ite (fun hc => .some ⟨⟨j + 1, by simp, hlt, by simp only; omega, by simp only; omega, ?_⟩, by simp; omega⟩) fun hc => .some ⟨⟨j + 1, by simp, hlt, h5, by simp only; omega, ?_⟩, by simp; omega⟩
        · simp only
          rw [hc] at e3
          constructor
          · intro h; omega
          · intro h
            have := h (s.2[j]) (by rw [ht1]; exact List.mem_append_right _ (List.mem_singleton.2 rfl))
            rw [← e3] at this; cases this
        · simp only
          rw [hc] at e3
          rw [h7, ht1]
          constructor
          · intro h r hm
            rcases List.mem_append.1 hm with hm | hm
            · exact h r hm
            · rw [List.mem_singleton.1 hm]; exact e3.symm
          · intro h r hm; exact h r (List.mem_append_left _ hm)
      · obtain rfl : j = s.2.length := by omega
        rw [List.take_length] at h7
        simp only [Int.lt_irrefl, decide_false, Bool.false_eq_true, if_false, Option.map_some, w64 (n := (i : Int) + 1) (by omega) (by omega)]
        refine .some ⟨⟨i + 1, by simp, hi, by simp only; omega, by simp only; omega, ?_⟩, by simp; omega⟩
        simp only
        constructor
        · intro h k hk
          by_cases hki : k < i
          · exact h4.1 (by omega) k hki
          · obtain rfl : k = i := by omega
            exact firstI_none (h7.1 (by omega))
        · intro h
          have e1 : many = 0 := h4.2 fun k hk => h k (by omega)
          have e2 : m2 = many := h7.2 fun r hm => by
            cases hp : (mat s.1 r.1 (at' s.1 t i) none24).isSome with
            | false => rfl
            | true =>
              have := firstI_at (p := fun r : List Int × List Int => (mat s.1 r.1 (at' s.1 t i) none24).isSome) hm hp
              have h0 := h i (by omega)
              unfold ruleI at h0
              omega
          omega
    · obtain rfl : i = t.length := by omega
      simp only [Int.lt_irrefl, decide_false, Bool.false_eq_true, if_false, Option.map_some]
      refine .some ?_
      simp only [Rnd]
      rw [h4, posR_nil]
  obtain ⟨m, e1, e2⟩ := key.get
  rw [e1, Option.bind_some]
  congr 1
  by_cases h : posR s t = []
  · rw [decide_eq_true h, e2.2 h]; rfl
  · rw [decide_eq_false h]
    exact beq_eq_false_iff_ne.2 fun e => h (e2.1 e)
theorem stepO_sm {s : Sys} {t u : List Int} {i rule : Nat} (h : stepO s t i rule = some u) : u.length ≤ 60 := by
  unfold stepO stepp at h
  obtain ⟨b, _, h⟩ := Option.bind_eq_some_iff.1 h
  split at h
  · rename_i hc; cases h; exact hc.2
  · cases h
def wlk (s : Sys) : Nat → List Int → List Stp × Bool
  | 0, t => ([], decide (posR s t = []))
  | n + 1, t => if posR s t = [] then ([], true) else
    match stepO s t (pickI s t).toNat (ruleI s (at' s.1 t (pickI s t).toNat)).toNat with
    | none => ([], false)
    | some u => ((pickI s t, ruleI s (at' s.1 t (pickI s t).toNat), u) :: (wlk s n u).1, (wlk s n u).2)
theorem pick_step {s : Sys} {t u : List Int} (hs : sysOk s = true) (ht : termOk s.1 t = true) (h : posR s t ≠ []) (hu : stepO s t (pickI s t).toNat (ruleI s (at' s.1 t (pickI s t).toNat)).toNat = some u) :
    stepAtO s t (pickI s t) (ruleI s (at' s.1 t (pickI s t).toNat)) = some u ∧ termOk s.1 u = true := by
  obtain ⟨i, e, hi, h0⟩ := pickI_at h
  have h1 := ruleI_lt s (at' s.1 t (pickI s t).toNat)
  have h0' : 0 ≤ ruleI s (at' s.1 t (pickI s t).toNat) := by rw [e, Int.toNat_natCast]; exact h0
  have hst : stepAtO s t (pickI s t) (ruleI s (at' s.1 t (pickI s t).toNat)) = some u := by
    unfold stepAtO
    rw [if_pos ⟨⟨hs, ht⟩, ⟨by omega, by omega⟩, h0', h1⟩, hu]
  exact ⟨hst, moveB_to (m := (ruleI s (at' s.1 t (pickI s t).toNat), pickI s t, false, u)) (stepAt_move (x := (pickI s t, ruleI s (at' s.1 t (pickI s t).toNat), u)) hst (by simp))⟩
theorem impl_walk_loop {s : Sys} (hs : sysOk s = true) {fuel : Int} (hf : fuel ≤ 60) {r : List Int} : ∀ (n : Nat) {t : List Int} {w : List Stp}, termOk s.1 t = true → (w.length : Int) + n = fuel →
    loopC (F_impl_walkBy_l1 s 1 fuel r) (t, w) = some ((r, w ++ (wlk s n t).1), (wlk s n t).2) := by
  intro n
  induction n with
  | zero =>
    intro t w ht hn
    refine loopC_inr ?_
    simp only [F_impl_walkBy_l1, F_impl_pick_eq hs ht, Option.bind_some, wlk]
    by_cases h : posR s t = []
    · have : pickI s t = -1 := by unfold pickI; rw [if_pos h]
      simp [this, h]
    · obtain ⟨i, e, hi, h0⟩ := pickI_at h
      simp [e, h, show ¬ (i : Int) < 0 by omega, show (w.length : Int) = fuel by omega]
  | succ n ih =>
    intro t w ht hn
    by_cases h : posR s t = []
    · refine loopC_inr ?_
      have : pickI s t = -1 := by unfold pickI; rw [if_pos h]
      simp [F_impl_walkBy_l1, F_impl_pick_eq hs ht, wlk, this, h]
    · obtain ⟨i, e, hi, h0⟩ := pickI_at h
      have h1 := ruleI_lt s (at' s.1 t i)
      have hne : ((w.length : Int) == fuel) = false := beq_eq_false_iff_ne.2 (by omega)
      have hst := F_impl_step_eq hs ht hi (rule := (ruleI s (at' s.1 t i)).toNat) (by omega)
      rw [show (((ruleI s (at' s.1 t i)).toNat : Nat) : Int) = ruleI s (at' s.1 t i) by omega] at hst
      have step : F_impl_walkBy_l1 s 1 fuel r (t, w) = (match stepO s t i (ruleI s (at' s.1 t i)).toNat with
          | none => some (.inr ((r, w), false))
          | some u => some (.inl (u, w ++ [((i : Int), ruleI s (at' s.1 t i), u)]))) := by
        simp only [F_impl_walkBy_l1, F_impl_pick_eq hs ht, Option.bind_some, e, show ¬ (i : Int) < 0 by omega, decide_false, Bool.false_eq_true, if_false, hne, F_impl_ruleAt_eq hs ht hi, hst]
        cases stepO s t i (ruleI s (at' s.1 t i)).toNat with
        | none => simp [encO]
        | some u => simp only [encO, if_true]; rw [if_pos (by omega)]
      simp only [wlk, h, if_false, e, Int.toNat_natCast]
      cases hu : stepO s t i (ruleI s (at' s.1 t i)).toNat with
      | none =>
        rw [hu] at step
        rw [loopC_inr step]; simp
      | some u =>
        rw [hu] at step
        rw [loopC_inl step]
        have h2 := (pick_step hs ht h (u := u) (by rw [e, Int.toNat_natCast]; exact hu)).2
        rw [ih h2 (by simp; omega)]
        simp
theorem F_impl_walkBy_eq {s : Sys} {t : List Int} (hs : sysOk s = true) (ht : termOk s.1 t = true) {fuel : Int} (h0 : 0 ≤ fuel) (h60 : fuel ≤ 60) : F_impl_walkBy s t 1 fuel = some ((t, (wlk s fuel.toNat t).1), (wlk s fuel.toNat t).2) := by
  unfold F_impl_walkBy
  rw [F_slices_Clone_eq (show List.length _ < _ by have := (termOk_iff.1 ht).2.2.1; omega), Option.bind_some, impl_walk_loop hs h60 fuel.toNat ht (by simp; omega)]
  simp
theorem spec_walk_loop {s : Sys} (hs : sysOk s = true) {fuel : Int} (hf : fuel ≤ 60) {r : List Int} : ∀ (n : Nat) {t : List Int} {w : List Stp}, termOk s.1 t = true → (w.length : Int) + n = fuel →
    loopC (F_spec_WalkBy_l1 s 1 fuel r) (t, w) = some ((r, w ++ (wlk s n t).1), (wlk s n t).2) := by
  intro n
  induction n with
  | zero =>
    intro t w ht hn
    refine loopC_inr ?_
    simp [F_spec_WalkBy_l1, F_spec_NormalIn_eq hs ht, wlk, show ¬ (w.length : Int) < fuel by omega]
  | succ n ih =>
    intro t w ht hn
    have hlt : (w.length : Int) < fuel := by omega
    by_cases h : posR s t = []
    · refine loopC_inr ?_
      simp [F_spec_WalkBy_l1, F_spec_PickBy_eq hs ht, F_spec_NormalIn_eq hs ht, wlk, h, hlt]
    · obtain ⟨i, e, hi, h0⟩ := pickI_at h
      have h1 := ruleI_lt s (at' s.1 t i)
      have hst := F_spec_l7Step_eq hs ht hi (rule := (ruleI s (at' s.1 t i)).toNat) (by omega)
      rw [show (((ruleI s (at' s.1 t i)).toNat : Nat) : Int) = ruleI s (at' s.1 t i) by omega] at hst
      have step : F_spec_WalkBy_l1 s 1 fuel r (t, w) = (match stepO s t i (ruleI s (at' s.1 t i)).toNat with
          | none => some (.inr ((r, w), false))
          | some u => some (.inl (u, w ++ [((i : Int), ruleI s (at' s.1 t i), u)]))) := by
        simp only [F_spec_WalkBy_l1, hlt, decide_true, if_true, F_spec_PickBy_eq hs ht, h, if_false, Option.bind_some, e, Int.toNat_natCast, hst]
        cases hu : stepO s t i (ruleI s (at' s.1 t i)).toNat with
        | none => simp [encO, F_spec_NormalIn_eq hs ht, h]
        | some u =>
          have := stepO_sm hu
          simp only [encO, if_true]
          rw [if_pos (by omega), F_spec_l1Copy_eq (show List.length _ < _ by omega), Option.bind_some]
      simp only [wlk, h, if_false, e, Int.toNat_natCast]
      cases hu : stepO s t i (ruleI s (at' s.1 t i)).toNat with
      | none =>
        rw [hu] at step
        rw [loopC_inr step]; simp
      | some u =>
        rw [hu] at step
        rw [loopC_inl step]
        have h2 := (pick_step hs ht h (u := u) (by rw [e, Int.toNat_natCast]; exact hu)).2
        rw [ih h2 (by simp; omega)]
        simp
theorem F_spec_WalkBy_eq {s : Sys} {t : List Int} (hs : sysOk s = true) (ht : termOk s.1 t = true) {fuel : Int} (h0 : 0 ≤ fuel) (h60 : fuel ≤ 60) : F_spec_WalkBy s t 1 fuel = some ((t, (wlk s fuel.toNat t).1), (wlk s fuel.toNat t).2) := by
  have hl := (termOk_iff.1 ht).2.2.1
  unfold F_spec_WalkBy
  rw [F_spec_l8Right_eq hs ht, Option.bind_some, if_pos rfl, F_spec_l1In_eq, Option.bind_some, if_pos (by simp [h0, h60]), F_spec_l1Copy_eq (show List.length _ < _ by omega), Option.bind_some, Option.bind_some, spec_walk_loop hs h60 fuel.toNat ht (by simp; omega)]
  simp
end Go.Proofs.YtcbfefbocpikoaaGreat
namespace Go.Proofs.YtcbfefbocpikoaaGreat
open Go Abx Tm
theorem loop_st {σ γ : Type} {n : Nat} (st : Nat → σ) {c : γ} {f : σ → Option (σ ⊕ γ)} (h : ∀ i, i < n → f (st i) = some (.inl (st (i + 1)))) (he : f (st n) = some (.inr c)) : loopC f (st 0) = some c := by
  have key : ∀ k i, i + k = n → loopC f (st i) = some c := by
    intro k
    induction k with
    | zero => intro i hi; obtain rfl : i = n := by omega
              exact loopC_inr he
    | succ k ih => intro i hi; rw [loopC_inl (h i (by omega))]; exact ih (i + 1) (by omega)
  exact key n 0 (by omega)
theorem drop_cons {α : Type} [Inhabited α] {a : List α} {i : Nat} {x : α} {r : List α} (h : a.drop i = x :: r) : i < a.length ∧ a.getD i default = x ∧ a.drop (i + 1) = r := by
  have hlt : i < a.length := Nat.lt_of_not_le fun hn => by rw [List.drop_of_length_le hn] at h; cases h
  rw [List.drop_eq_getElem_cons hlt] at h
  simp only [List.cons.injEq] at h
  exact ⟨hlt, by rw [getD_get hlt, h.1], h.2⟩
theorem loop_to {α β : Type} [Inhabited α] {a : List α} {z : List β} {g : α → β} (hl : z.length = a.length) {f : Int × List β → Option ((Int × List β) ⊕ List β)}
    (h : ∀ (i : Nat) (out : List β), i < a.length → out.length = a.length → a.getD i default ∈ a → f ((i : Int), out) = some (.inl ((i : Int) + 1, out.set i (g (a.getD i default)))))
    (he : ∀ out, f ((a.length : Int), out) = some (.inr out)) : loopC f (0, z) = some (a.map g) := by
  have hz : (a.take 0).map g ++ z.drop 0 = z := by simp
  refine Eq.trans ?_ (loop_st (n := a.length) (fun i => ((i : Int), (a.take i).map g ++ z.drop i)) (fun i hi => ?_) ((he _).trans (by rw [List.take_length, ← hl, List.drop_length, List.append_nil])))
  · simp
  · rw [h i _ hi (by simp; omega) (getD_mem hi)]
    refine congrArg (fun x => some (Sum.inl x)) (Prod.ext (by simp) ?_)
    show ((a.take i).map g ++ z.drop i).set i _ = _
    rw [List.set_append_right _ _ (by simp; omega)]
    have hm : i - ((a.take i).map g).length = 0 := by simp; omega
    have hzl : i < z.length := by omega
    rw [hm, List.drop_eq_getElem_cons hzl, List.set_cons_zero, List.take_succ_eq_append_getElem hi, List.map_append, List.append_assoc, getD_get hi]
    simp
theorem loop_self {α : Type} {a : List α} {f : Int → Option (Int ⊕ Bool)} (h : ∀ i : Nat, i < a.length → f (i : Int) = some (.inl ((i : Int) + 1))) (he : f a.length = some (.inr true)) : loopC f 0 = some true :=
  loop_st (n := a.length) (fun i => (i : Int)) (fun i hi => h i hi) he
end Go.Proofs.YtcbfefbocpikoaaGreat
namespace Go.Proofs.YtcbfefbocpikoaaGreat
open Go Abx
attribute [local irreducible] vcm vgo vdr vrun vdrun MWp GhostQ BrC BrO BrG BrD BrH AmbO callR callD drQ EnvLe StoLe
set_option maxHeartbeats 4000000
def D_laws_Sig (x : (List Int)) : D := .agg [(slD 1 iD) x]
def D_laws_Rule (x : ((List Int) × (List Int))) : D := .agg [(slD 1 iD) x.1, (slD 1 iD) x.2]
def D_laws_System (x : ((List Int) × (List ((List Int) × (List Int))))) : D := .agg [(slD 1 iD) x.1, (slD 2 D_laws_Rule) x.2]
instance : Cel D_laws_Sig 1 := ⟨fun _ => rfl⟩
instance : Cel D_laws_Rule 2 := ⟨fun _ => rfl⟩
instance : Cel D_laws_System 2 := ⟨fun _ => rfl⟩
attribute [go_sem] D_laws_Sig D_laws_Rule D_laws_System
def mc42 : MCode :=
 (.seq (.reg (sq 4 [mi 0])) (.seq (.reg (sq 5 [mv 1, mv 0, ln 6, bn .sub 5 7] ++ sq 1 [mv 8])) (.seq (.seq (.reg (sq 9 [mv 1, bi .lss 9 0])) (.cond (t0 10) (.seq (.reg (sq 4 [mi (-1)])) .ret) .skip)) (.seq (.reg (sq 11 [mv 1] ++ sq 4 [mv 11])) .ret))))
theorem fn42 : MFn Tryz.prog 42 mc42 12 [.tmp 4] := ⟨_, Tryz.func42, by kernel_rfl, Tryz.ntmps42, by kernel_rfl⟩
noncomputable def F_laws_szInt64S (a : (List Int)) (left : Int) : Option Int :=
 if (decide ((IntKind.i64.wrap (left - (a.length : Int))) < 0)) = true then
  some (-1)
 else
  some (IntKind.i64.wrap (left - (a.length : Int)))
instance c_laws_szInt64S {a : (List Int)} {left : Int} : HasC (F_laws_szInt64S a left) fun rr => PFun Tryz.prog 42 [(slD 1 iD) a, iD left] (iD rr) := ⟨@fun rr h => by
  delta F_laws_szInt64S at h
  refine fn42.pureL (vcm_sound ?_)
  delta mc42
  refine stp ?_
  exact aut⟩
def mc17 : MCode :=
 (.seq (.reg (sq 2 [bo 2 24 0] ++ sq 4 [mi 0])) (.seq (.reg (sq 5 [fa 0 2, ld 5, mv 1, cf 42 [6, 7]] ++ sq 1 [mv 8])) (.seq (.seq (.reg (sq 9 [mv 1, bi .lss 9 0])) (.cond (t0 10) (.seq (.reg (sq 4 [mi (-1)])) .ret) .skip)) (.seq (.reg (sq 11 [mv 1] ++ sq 4 [mv 11])) .ret))))
theorem fn17 : MFn Tryz.prog 17 mc17 12 [.tmp 4] := ⟨_, Tryz.func17, by kernel_rfl, Tryz.ntmps17, by kernel_rfl⟩
noncomputable def F_laws_szSig (a : (List Int)) (left : Int) : Option Int :=
 (F_laws_szInt64S a left).bind fun r =>
 if (decide (r < 0)) = true then
  some (-1)
 else
  some r
instance c_laws_szSig {a : (List Int)} {left : Int} : HasC (F_laws_szSig a left) fun rr => PFun Tryz.prog 17 [D_laws_Sig a, iD left] (iD rr) := ⟨@fun rr h => by
  delta F_laws_szSig at h
  refine fn17.pureL (vcm_sound ?_)
  delta mc17
  refine stp ?_
  exact aut⟩
def mc43 : MCode :=
 (.seq (.reg (sq 2 [bo 2 66 0] ++ sq 4 [mi 0])) (.seq (.reg (sq 5 [fa 0 2, ld 5, mv 1, cf 42 [6, 7]] ++ sq 1 [mv 8])) (.seq (.seq (.reg (sq 9 [mv 1, bi .lss 9 0])) (.cond (t0 10) (.seq (.reg (sq 4 [mi (-1)])) .ret) .skip)) (.seq (.reg (sq 11 [fa 1 2, ld 11, mv 1, cf 42 [12, 13]] ++ sq 1 [mv 14])) (.seq (.seq (.reg (sq 15 [mv 1, bi .lss 15 0])) (.cond (t0 16) (.seq (.reg (sq 4 [mi (-1)])) .ret) .skip)) (.seq (.reg (sq 17 [mv 1] ++ sq 4 [mv 17])) .ret))))))
theorem fn43 : MFn Tryz.prog 43 mc43 18 [.tmp 4] := ⟨_, Tryz.func43, by kernel_rfl, Tryz.ntmps43, by kernel_rfl⟩
noncomputable def F_laws_szRule (a : ((List Int) × (List Int))) (left : Int) : Option Int :=
 (F_laws_szInt64S a.1 left).bind fun r =>
 if (decide (r < 0)) = true then
  some (-1)
 else
  (F_laws_szInt64S a.2 r).bind fun r_1 =>
  if (decide (r_1 < 0)) = true then
   some (-1)
  else
   some r_1
instance c_laws_szRule {a : ((List Int) × (List Int))} {left : Int} : HasC (F_laws_szRule a left) fun rr => PFun Tryz.prog 43 [D_laws_Rule a, iD left] (iD rr) := ⟨@fun rr h => by
  delta F_laws_szRule at h
  refine fn43.pureL (vcm_sound ?_)
  delta mc43
  refine stp ?_
  exact aut⟩
def mc18 : MCode :=
 (.seq (.reg (sq 4 [mi 0])) (.seq (.reg (sq 6 [mv 1, mv 0, ln 7, bn .sub 6 8] ++ sq 1 [mv 9])) (.seq (.seq (.reg (sq 10 [mv 1, bi .lss 10 0])) (.cond (t0 11) (.seq (.reg (sq 4 [mi (-1)])) .ret) .skip)) (.seq (.seq (.reg (sq 5 [mi 0])) (.block 0 (.loop (.seq (.seq (.reg (sq 12 [mv 5, mv 0, ln 13, bn .lss 12 14])) (.cond (t0 15) .skip (.exit 0))) (.seq (.block 1 (.seq (.reg (sq 18 [mv 0, mv 5, ix 2 18 19, la 2 20, mv 1, cf 43 [21, 22]] ++ sq 1 [mv 23])) (.seq (.reg (sq 24 [mv 1, bi .lss 24 0])) (.cond (t0 25) (.seq (.reg (sq 4 [mi (-1)])) .ret) .skip)))) (.reg (sq 16 [mv 5, bi .add 16 1] ++ sq 5 [mv 17]))))))) (.seq (.reg (sq 26 [mv 1] ++ sq 4 [mv 26])) .ret)))))
theorem fn18 : MFn Tryz.prog 18 mc18 27 [.tmp 4] := ⟨_, Tryz.func18, by kernel_rfl, Tryz.ntmps18, by kernel_rfl⟩
noncomputable def F_laws_szRuleS_l1 (a : (List ((List Int) × (List Int)))) : (Int × Int) → Option ((Int × Int) ⊕ Int)
 | (left_1, i) =>
  if (decide (i < (a.length : Int))) = true then
   if 0 ≤ i ∧ i < (a.length : Int) then
    (F_laws_szRule ((a.getD i.toNat default).1, (a.getD i.toNat default).2) left_1).bind fun r =>
    if (decide (r < 0)) = true then
     Option.map Sum.inr (
      some (-1))
    else
     some (.inl (r, (IntKind.i64.wrap (i + 1))))
   else none
  else
   Option.map Sum.inr (
    some left_1)
noncomputable def F_laws_szRuleS (a : (List ((List Int) × (List Int)))) (left : Int) : Option Int :=
 if (decide ((IntKind.i64.wrap (left - (a.length : Int))) < 0)) = true then
  some (-1)
 else
  loopC (F_laws_szRuleS_l1 a) ((IntKind.i64.wrap (left - (a.length : Int))), 0)
instance c_laws_szRuleS {a : (List ((List Int) × (List Int)))} {left : Int} : HasC (F_laws_szRuleS a left) fun rr => PFun Tryz.prog 18 [(slD 2 D_laws_Rule) a, iD left] (iD rr) := ⟨@fun rr h => by
  delta F_laws_szRuleS at h
  refine fn18.pureL (vcm_sound ?_)
  delta mc18
  refine stp ?_
  refine iF h fun hc h => ?_
  refine m_lW h [1, 4, 5, 12, 13, 14, 15, 16, 17, 18, 19, 20, 21, 22, 23, 24, 25] (fun pp => [(1, .d (iD pp.1)), (5, .d (iD pp.2))]) (fun pp => []) ?_
  rintro ⟨left_1, i⟩ t1 h hb1
  unfold F_laws_szRuleS_l1 at h
  try dsimp only at h
  refine vcm_sound (stp ?_)
  exact aut⟩
def mc5 : MCode :=
 (.seq (.reg (sq 2 [bo 2 27 0] ++ sq 4 [mi 0])) (.seq (.reg (sq 5 [fa 0 2, la 1 5, mv 1, cf 17 [6, 7]] ++ sq 1 [mv 8])) (.seq (.seq (.reg (sq 9 [mv 1, bi .lss 9 0])) (.cond (t0 10) (.seq (.reg (sq 4 [mi (-1)])) .ret) .skip)) (.seq (.reg (sq 11 [fa 1 2, ld 11, mv 1, cf 18 [12, 13]] ++ sq 1 [mv 14])) (.seq (.seq (.reg (sq 15 [mv 1, bi .lss 15 0])) (.cond (t0 16) (.seq (.reg (sq 4 [mi (-1)])) .ret) .skip)) (.seq (.reg (sq 17 [mv 1] ++ sq 4 [mv 17])) .ret))))))
theorem fn5 : MFn Tryz.prog 5 mc5 18 [.tmp 4] := ⟨_, Tryz.func5, by kernel_rfl, Tryz.ntmps5, by kernel_rfl⟩
noncomputable def F_laws_szSystem (a : ((List Int) × (List ((List Int) × (List Int))))) (left : Int) : Option Int :=
 (F_laws_szSig a.1 left).bind fun r =>
 if (decide (r < 0)) = true then
  some (-1)
 else
  (F_laws_szRuleS a.2 r).bind fun r_1 =>
  if (decide (r_1 < 0)) = true then
   some (-1)
  else
   some r_1
instance c_laws_szSystem {a : ((List Int) × (List ((List Int) × (List Int))))} {left : Int} : HasC (F_laws_szSystem a left) fun rr => PFun Tryz.prog 5 [D_laws_System a, iD left] (iD rr) := ⟨@fun rr h => by
  delta F_laws_szSystem at h
  refine fn5.pureL (vcm_sound ?_)
  delta mc5
  refine stp ?_
  exact aut⟩
def mc10 : MCode :=
 (.seq (.reg (sq 4 [mb false])) (.seq (.seq (.reg (sq 6 [mv 0, ln 6, mv 1, ln 8, bn .neq 7 9])) (.cond (t0 10) (.seq (.reg (sq 4 [mb false])) .ret) .skip)) (.seq (.seq (.reg (sq 5 [mi 0])) (.block 0 (.loop (.seq (.seq (.reg (sq 11 [mv 5, mv 0, ln 12, bn .lss 11 13])) (.cond (t0 14) .skip (.exit 0))) (.seq (.block 1 (.seq (.draw (sq 17 [mv 0, mv 5, ix 1 17 18, ld 19, mv 1, mv 5, ix 1 21 22, ld 23, bn .neq 20 24]) [[], [], [0, 1], [2], [], [], [4, 5], [6], [3, 7]]) (.cond (t0 25) (.seq (.reg (sq 4 [mb false])) .ret) .skip))) (.reg (sq 15 [mv 5, bi .add 15 1] ++ sq 5 [mv 16]))))))) (.seq (.reg (sq 4 [mb true])) .ret))))
theorem fn10 : MFn Tryz.prog 10 mc10 26 [.tmp 4] := ⟨_, Tryz.func10, by kernel_rfl, Tryz.ntmps10, by kernel_rfl⟩
noncomputable def F_laws_eqInt64S_l1 (a : (List Int)) (b : (List Int)) : Int → Option (Int ⊕ Bool)
 | i =>
  if (decide (i < (a.length : Int))) = true then
   if 0 ≤ i ∧ i < (a.length : Int) then
    if 0 ≤ i ∧ i < (b.length : Int) then
     if ((a.getD i.toNat default) != (b.getD i.toNat default)) = true then
      Option.map Sum.inr (
       some false)
     else
      some (.inl (IntKind.i64.wrap (i + 1)))
    else none
   else none
  else
   Option.map Sum.inr (
    some true)
noncomputable def F_laws_eqInt64S (a : (List Int)) (b : (List Int)) : Option Bool :=
 if ((a.length : Int) != (b.length : Int)) = true then
  some false
 else
  loopC (F_laws_eqInt64S_l1 a b) 0
instance c_laws_eqInt64S {a : (List Int)} {b : (List Int)} : HasC (F_laws_eqInt64S a b) fun rr => PFun Tryz.prog 10 [(slD 1 iD) a, (slD 1 iD) b] (bD rr) := ⟨@fun rr h => by
  delta F_laws_eqInt64S at h
  refine fn10.pureL (vcm_sound ?_)
  delta mc10
  refine stp ?_
  refine iF h fun hc h => ?_
  refine m_lW h [4, 5, 11, 12, 13, 14, 15, 16, 17, 18, 19, 20, 21, 22, 23, 24, 25] (fun pp => [(5, .d (iD pp))]) (fun pp => []) ?_
  rintro i t1 h hb1
  unfold F_laws_eqInt64S_l1 at h
  try dsimp only at h
  refine vcm_sound (stp ?_)
  exact aut⟩
def mc30 : MCode :=
 (.seq (.reg (sq 2 [bo 2 30 0, bo 3 30 1, mb false])) (.seq (.seq (.reg (sq 5 [fa 0 2, ld 5, fa 0 3, ld 7, cf 10 [6, 8], nt 9])) (.cond (t0 10) (.seq (.reg (sq 4 [mb false])) .ret) .skip)) (.seq (.reg (sq 4 [mb true])) .ret)))
theorem fn30 : MFn Tryz.prog 30 mc30 11 [.tmp 4] := ⟨_, Tryz.func30, by kernel_rfl, Tryz.ntmps30, by kernel_rfl⟩
noncomputable def F_laws_eqSig (a : (List Int)) (b : (List Int)) : Option Bool :=
 (F_laws_eqInt64S a b).bind fun r =>
 if r = true then
  some true
 else
  some false
instance c_laws_eqSig {a : (List Int)} {b : (List Int)} : HasC (F_laws_eqSig a b) fun rr => PFun Tryz.prog 30 [D_impl_Sig a, D_impl_Sig b] (bD rr) := ⟨@fun rr h => by
  delta F_laws_eqSig at h
  refine fn30.pureL (vcm_sound ?_)
  delta mc30
  refine stp ?_
  exact aut⟩
def mc61 : MCode :=
 (.seq (.reg (sq 2 [bo 2 70 0, bo 3 70 1, mb false])) (.seq (.seq (.reg (sq 5 [fa 0 2, ld 5, fa 0 3, ld 7, cf 10 [6, 8], nt 9])) (.cond (t0 10) (.seq (.reg (sq 4 [mb false])) .ret) .skip)) (.seq (.seq (.reg (sq 11 [fa 1 2, ld 11, fa 1 3, ld 13, cf 10 [12, 14], nt 15])) (.cond (t0 16) (.seq (.reg (sq 4 [mb false])) .ret) .skip)) (.seq (.reg (sq 4 [mb true])) .ret))))
theorem fn61 : MFn Tryz.prog 61 mc61 17 [.tmp 4] := ⟨_, Tryz.func61, by kernel_rfl, Tryz.ntmps61, by kernel_rfl⟩
noncomputable def F_laws_eqRule (a : ((List Int) × (List Int))) (b : ((List Int) × (List Int))) : Option Bool :=
 (F_laws_eqInt64S a.1 b.1).bind fun r =>
 if r = true then
  (F_laws_eqInt64S a.2 b.2).bind fun r_1 =>
  if r_1 = true then
   some true
  else
   some false
 else
  some false
instance c_laws_eqRule {a : ((List Int) × (List Int))} {b : ((List Int) × (List Int))} : HasC (F_laws_eqRule a b) fun rr => PFun Tryz.prog 61 [D_impl_Rule a, D_impl_Rule b] (bD rr) := ⟨@fun rr h => by
  delta F_laws_eqRule at h
  refine fn61.pureL (vcm_sound ?_)
  delta mc61
  refine stp ?_
  exact aut⟩
def mc31 : MCode :=
 (.seq (.reg (sq 4 [mb false])) (.seq (.seq (.reg (sq 6 [mv 0, ln 6, mv 1, ln 8, bn .neq 7 9])) (.cond (t0 10) (.seq (.reg (sq 4 [mb false])) .ret) .skip)) (.seq (.seq (.reg (sq 5 [mi 0])) (.block 0 (.loop (.seq (.seq (.reg (sq 11 [mv 5, mv 0, ln 12, bn .lss 11 13])) (.cond (t0 14) .skip (.exit 0))) (.seq (.block 1 (.seq (.draw (sq 17 [mv 0, mv 5, ix 2 17 18, la 2 19, mv 1, mv 5, ix 2 21 22, la 2 23, cf 61 [20, 24], nt 25]) [[], [], [0, 1], [2], [], [], [4, 5], [6], [3, 7], [8]]) (.cond (t0 26) (.seq (.reg (sq 4 [mb false])) .ret) .skip))) (.reg (sq 15 [mv 5, bi .add 15 1] ++ sq 5 [mv 16]))))))) (.seq (.reg (sq 4 [mb true])) .ret))))
theorem fn31 : MFn Tryz.prog 31 mc31 27 [.tmp 4] := ⟨_, Tryz.func31, by kernel_rfl, Tryz.ntmps31, by kernel_rfl⟩
noncomputable def F_laws_eqRuleS_l1 (a : (List ((List Int) × (List Int)))) (b : (List ((List Int) × (List Int)))) : Int → Option (Int ⊕ Bool)
 | i =>
  if (decide (i < (a.length : Int))) = true then
   if 0 ≤ i ∧ i < (a.length : Int) then
    if 0 ≤ i ∧ i < (b.length : Int) then
     (F_laws_eqRule ((a.getD i.toNat default).1, (a.getD i.toNat default).2) ((b.getD i.toNat default).1, (b.getD i.toNat default).2)).bind fun r =>
     if r = true then
      some (.inl (IntKind.i64.wrap (i + 1)))
     else
      Option.map Sum.inr (
       some false)
    else none
   else none
  else
   Option.map Sum.inr (
    some true)
noncomputable def F_laws_eqRuleS (a : (List ((List Int) × (List Int)))) (b : (List ((List Int) × (List Int)))) : Option Bool :=
 if ((a.length : Int) != (b.length : Int)) = true then
  some false
 else
  loopC (F_laws_eqRuleS_l1 a b) 0
instance c_laws_eqRuleS {a : (List ((List Int) × (List Int)))} {b : (List ((List Int) × (List Int)))} : HasC (F_laws_eqRuleS a b) fun rr => PFun Tryz.prog 31 [(slD 2 D_impl_Rule) a, (slD 2 D_impl_Rule) b] (bD rr) := ⟨@fun rr h => by
  delta F_laws_eqRuleS at h
  refine fn31.pureL (vcm_sound ?_)
  delta mc31
  refine stp ?_
  refine iF h fun hc h => ?_
  refine m_lW h [4, 5, 11, 12, 13, 14, 15, 16, 17, 18, 19, 20, 21, 22, 23, 24, 25, 26] (fun pp => [(5, .d (iD pp))]) (fun pp => []) ?_
  rintro i t1 h hb1
  unfold F_laws_eqRuleS_l1 at h
  try dsimp only at h
  refine vcm_sound (stp ?_)
  exact aut⟩
def mc11 : MCode :=
 (.seq (.reg (sq 2 [bo 2 33 0, bo 3 33 1, mb false])) (.seq (.seq (.reg (sq 5 [fa 0 2, la 1 5, fa 0 3, la 1 7, cf 30 [6, 8], nt 9])) (.cond (t0 10) (.seq (.reg (sq 4 [mb false])) .ret) .skip)) (.seq (.seq (.reg (sq 11 [fa 1 2, ld 11, fa 1 3, ld 13, cf 31 [12, 14], nt 15])) (.cond (t0 16) (.seq (.reg (sq 4 [mb false])) .ret) .skip)) (.seq (.reg (sq 4 [mb true])) .ret))))
theorem fn11 : MFn Tryz.prog 11 mc11 17 [.tmp 4] := ⟨_, Tryz.func11, by kernel_rfl, Tryz.ntmps11, by kernel_rfl⟩
noncomputable def F_laws_eqSystem (a : ((List Int) × (List ((List Int) × (List Int))))) (b : ((List Int) × (List ((List Int) × (List Int))))) : Option Bool :=
 (F_laws_eqSig a.1 b.1).bind fun r =>
 if r = true then
  (F_laws_eqRuleS a.2 b.2).bind fun r_1 =>
  if r_1 = true then
   some true
  else
   some false
 else
  some false
instance c_laws_eqSystem {a : ((List Int) × (List ((List Int) × (List Int))))} {b : ((List Int) × (List ((List Int) × (List Int))))} : HasC (F_laws_eqSystem a b) fun rr => PFun Tryz.prog 11 [D_impl_System a, D_impl_System b] (bD rr) := ⟨@fun rr h => by
  delta F_laws_eqSystem at h
  refine fn11.pureL (vcm_sound ?_)
  delta mc11
  refine stp ?_
  exact aut⟩
end Go.Proofs.YtcbfefbocpikoaaGreat
namespace Abx
open Go
mutual
inductive Pub (tl : List (Nat × Nat × List D)) : AV → D → Prop
  | lit {u : Value} : Pub tl (.d (.lit u)) (.lit u)
  | gow {e id n : Nat} {ds : List D} (h : WholeP (toks tl) id e ds) (hn : n = ds.length) : Pub tl (.gow e id n) (.sl e none ds)
  | agg {xs : List AV} {ds : List D} (h : Pubs tl xs ds) : Pub tl (.agg xs) (.agg ds)
inductive Pubs (tl : List (Nat × Nat × List D)) : List AV → List D → Prop
  | nil : Pubs tl [] []
  | cons {x : AV} {a : D} {xs : List AV} {ds : List D} (h : Pub tl x a) (hs : Pubs tl xs ds) : Pubs tl (x :: xs) (a :: ds)
end
mutual
theorem Pub.ok {C : Ctx} {β β2 : Beta} {tl : List (Nat × Nat × List D)} {w : World} (h : Inv C β (toks tl) w) : ∀ {x : AV} {a : D} {v : Value}, Pub tl x a → AV.ok β (C.forb β (toks tl)) w x v → D.ok C.O w a v
  | _, _, v, .lit, hv => by simp only [AV.ok, D.ok] at hv ⊢; exact hv
  | _, _, v, .gow hw hn, hv => lent_tok h hw hn hv
  | _, _, v, .agg hl, hv => by
    simp only [AV.ok] at hv
    obtain ⟨vs, rfl, h1, h2⟩ := hv
    simp only [D.ok]
    exact ⟨vs, rfl, Pubs.oks (β2 := β2) h hl h1 h2⟩
theorem Pubs.oks {C : Ctx} {β β2 : Beta} {tl : List (Nat × Nat × List D)} {w : World} (h : Inv C β (toks tl) w) : ∀ {xs : List AV} {ds : List D} {vs : List Value}, Pubs tl xs ds → (∀ u ∈ vs, one u = true) → AV.oks β (C.forb β (toks tl)) w xs vs → D.oks C.O w ds vs
  | _, _, vs, .nil, _, hv => by simpa [AV.oks, D.oks] using hv
  | _, _, vs, .cons hl hs, h1, hv => by
    simp only [AV.oks] at hv
    obtain ⟨v, r, rfl, h2, h3⟩ := hv
    simp only [D.oks]
    exact ⟨v, r, rfl, h1 v (by simp), Pub.ok (β2 := β2) h hl h2, Pubs.oks (β2 := β2) h hs (fun u hu => h1 u (by simp [hu])) h3⟩
end
theorem ACalls.pub {P : Program} {f : Nat} {dz : List D} {y : AV} {t : Sto} {tl : List (Nat × Nat × List D)} {r : D} (hc : ACalls P f (dz.map .d) [] 0 fun x s' => x = y ∧ s' = t) (ht : t = toks tl) (hp : Pub tl y r) : PFun P f dz r := fun C vs hs hk hinv hargs => by
  subst ht
  refine (hc C vs hs hk hinv hargs).mono ?_
  rintro e w' ⟨v, x, β', s', rfl, hi, hx, rfl, rfl⟩
  refine ⟨v, .d r, fun _ => .no, [], rfl, ⟨hi.size, hi.io, hi.keep, hi.blks, fun b o ⟨id, h⟩ => h.elim, fun id b h => h.elim, fun id hid => by omega, hi.low, fun id => rfl, fun i j b h => h.elim⟩, ?_, rfl⟩
  have h1 := Pub.ok (β2 := β') hi hp hx
  simp only [AV.ok]
  exact D.ok_mono (fun b o v hc hn => ⟨hc, fun h => hn (h.elim (fun h => h) fun ⟨_, h⟩ => h.elim)⟩) r v h1
theorem Pub.tok {α : Type} {f : α → D} {e n id : Nat} {xs : List α} {tl : List (Nat × Nat × List D)} [Cel f e] [Cl f] (h : sat (toks tl) id = .prv e n (tolds (xs.map f))) (hn : n = xs.length) : Pub tl (.gow e id n) (slD e f xs) :=
  .gow (WholeP.of h hn) (by rw [hn, List.length_map])
theorem told_flat {α : Type} {f : α → D} [LitF f] : ∀ xs : List α, List.map (aD f) xs = tolds (xs.map f)
  | [] => rfl
  | x :: xs => by
    rw [List.map_cons, List.map_cons, tolds_cons, told_flat xs]
    have := LitF.lit (f := f) x
    cases h : f x with
    | lit u => simp only [dcells, List.map_cons, List.map_nil, toldC, aD, h]; rfl
    | _ => rw [h] at this; cases this
theorem sat_hit {i : Nat} {o : Ob} {s : Sto} : sat ((i, o) :: s) i = o := by simp [sat]
theorem sat_miss {i j : Nat} {o : Ob} {s : Sto} (h : j ≠ i) : sat ((i, o) :: s) j = sat s j := by simp [sat, h]
theorem sat_nil {j : Nat} : sat [] j = .dead := rfl
theorem sset_hit {i : Nat} {o x : Ob} {s : Sto} : sset ((i, o) :: s) i x = (i, x) :: s := by simp [sset]
theorem sset_lt {i j : Nat} {o x : Ob} {s : Sto} (h : i < j) : sset ((j, o) :: s) i x = (i, x) :: (j, o) :: s := by simp [sset, h, Nat.ne_of_lt h]
theorem sset_gt {i j : Nat} {o x : Ob} {s : Sto} (h : j < i) : sset ((j, o) :: s) i x = (j, o) :: sset s i x := by simp [sset, Nat.ne_of_gt h, Nat.not_lt_of_gt h]
theorem sset_nil {i : Nat} {x : Ob} : sset [] i x = [(i, x)] := rfl
attribute [go_sem] sat_hit sat_miss sat_nil sset_hit sset_lt sset_gt sset_nil
end Abx
namespace Go.Proofs.YtcbfefbocpikoaaGreat
open Go Abx
attribute [local irreducible] vcm vgo vdr vrun vdrun MWp GhostQ BrC BrO BrG BrD BrH AmbO callR callD drQ EnvLe StoLe
set_option maxHeartbeats 4000000
instance : Cl D_laws_Rule := Cl.agg _ (fun _ => rfl) (fun _ => rfl)
instance : Cl D_laws_System := Cl.agg _ (fun _ => rfl) (fun _ => rfl)
def mcT8 : MCode :=
 (.seq (.reg (sq 2 [.mv (.const (.slice none 0 0))])) (.seq (.reg (sq 5 [mv 0, ln 5, .mkslp 7 2 1 8 [.lit (.int .i64 0)] false (t0 6) (t0 6)] ++ sq 3 [mv 7])) (.seq (.seq (.reg (sq 4 [mi 0])) (.block 0 (.loop (.seq (.seq (.reg (sq 8 [mv 4, mv 0, ln 9, bn .lss 8 10])) (.cond (t0 11) .skip (.exit 0))) (.seq (.block 1 (.reg (sq 14 [mv 3, mv 4, mv 0, mv 4, ix 1 16 17, ld 18, ix 1 14 15] ++ s0 (sr 1 20 19)))) (.reg (sq 12 [mv 4, bi .add 12 1] ++ sq 4 [mv 13]))))))) (.seq (.reg (sq 21 [mv 3] ++ sq 2 [mv 21])) .ret))))
theorem fnT8 : MFn Tryz.prog 8 mcT8 22 [.tmp 2] := ⟨_, Tryz.func8, by kernel_rfl, Tryz.ntmps8, by kernel_rfl⟩
noncomputable def F_to_Int64S_l (a : List Int) : (Int × List Int) → Option ((Int × List Int) ⊕ List Int)
 | (i, out) =>
  if (decide (i < (a.length : Int))) = true then
   if 0 ≤ i ∧ i < (a.length : Int) ∧ i < (out.length : Int) then
    some (.inl ((IntKind.i64.wrap (i + 1)), out.set i.toNat (a.getD i.toNat default)))
   else none
  else
   Option.map Sum.inr (some out)
noncomputable def F_to_Int64S (a : List Int) : Option (List Int) :=
 if 0 ≤ (a.length : Int) ∧ 8 * (a.length : Int) ≤ 281474976710656 ∧ (a.length : Int) < 4611686018427387904 then
  loopC (F_to_Int64S_l a) (0, List.replicate a.length 0)
 else none
instance c_to_Int64S {a : List Int} : HasC (F_to_Int64S a) fun rr => ACalls Tryz.prog 8 [.d ((slD 1 iD) a)] [] 0 fun xx ss => xx = .gow 1 900000 a.length ∧ ss = [(900000, .prv 1 a.length (tolds (List.map iD rr)))] := ⟨@fun rr h => by
  delta F_to_Int64S at h
  refine fnT8.callsD (vcm_sound ?_)
  delta mcT8
  refine stp ?_
  refine ndI h fun hp h => ?_
  refine m_loopF h [4, 8, 9, 10, 11, 12, 13, 14, 15, 16, 17, 18, 19, 20] (fun pp => [(4, .d (iD pp.1))]) (fun pp => [(7, .prv 1 a.length (tolds (List.map iD pp.2)))]) ?_ ?_
  · try dsimp only
    refine (Weak.prvE 7 (tolds (List.map iD (List.replicate a.length 0))) rfl (told_flat _)).trans ?_
    exact wk
  rintro ⟨i, out⟩ t1 h hb1
  unfold F_to_Int64S_l at h
  try dsimp only at h
  refine vcm_sound (stp ?_)
  refine it h (fun hc h => ?_) fun hc h => ?_
  · refine ndI h fun hp h => ?_
    cases h
    refine ⟨_, rfl, ?_⟩
    refine (Weak.prvE 7 (tolds (List.map iD (out.set i.toNat (a.getD i.toNat default)))) rfl (by (try simp only [go_sem, rens_take, rens_drop, rens_tolds, AV.rens, AV.ren]); exact told_segE (i := i.toNat) (by omega) (by omega) (by omega) rfl)).trans ?_
    exact wk
  replace h := inr_some h hb1
  cases h
  exact Done.trans (Done.move 7 900000 (ob := .prv 1 a.length (tolds (List.map iD rr))) (by omega) (by omega) (by omega) rfl (by first | rfl | (simp [sat, smove, Ob.ren, rens_tolds]; done))) (Done.told frd don)⟩
def mcT24 : MCode :=
 (.seq (.reg (sq 1 [bo 1 24 0, .alloc 2 30 [.sl 0 (some true) []]])) (.seq (.reg (sq 3 [.alloc 3 30 [.sl 0 (some true) []]])) (.seq (.reg (sq 4 [fa 0 1, ld 4, cf 8 [5], fa 0 3] ++ s0 (sr 1 7 6))) (.seq (.reg (sq 8 [la 1 3] ++ s0 (sr 1 2 8))) .ret))))
theorem fnT24 : MFn Tryz.prog 24 mcT24 9 [.cell 2 1 true] := ⟨_, Tryz.func24, by kernel_rfl, Tryz.ntmps24, by kernel_rfl⟩
noncomputable def F_to_Sig (x : (List Int)) : Option (List Int) :=
 (F_to_Int64S x).bind fun r0 =>
 some r0
instance c_to_Sig {x : (List Int)} : HasC (F_to_Sig x) fun rr => ACalls Tryz.prog 24 [.d (.agg [(slD 1 iD) x])] [] 0 fun xx ss => xx = .agg [.gow 1 900000 x.length] ∧ ss = [(900000, .prv 1 x.length (tolds (List.map iD rr)))] := ⟨@fun rr h => by
  delta F_to_Sig at h
  refine fnT24.callsD (vcm_sound ?_)
  delta mcT24
  refine stp ?_
  refine rCo [] [(900000, 6)] h fun r0 hr0 h => ?_
  refine nds ?_
  cases h
  exact Done.trans ((Done.trans (Done.move 6 900000 (ob := .prv 1 x.length (tolds (List.map iD rr))) (by omega) (by omega) (by omega) rfl (by first | rfl | (simp [sat, smove, Ob.ren, rens_tolds]; done))) (Done.drops [1, 2, 3] (by simp)))) (Done.told frd don)⟩
def mcT53 : MCode :=
 (.seq (.reg (sq 1 [bo 1 66 0, .alloc 2 70 [.sl 0 (some true) [], .sl 0 (some true) []]])) (.seq (.reg (sq 3 [.alloc 3 70 [.sl 0 (some true) [], .sl 0 (some true) []]])) (.seq (.reg (sq 4 [fa 0 1, ld 4, cf 8 [5], fa 0 3] ++ s0 (sr 1 7 6))) (.seq (.reg (sq 8 [fa 1 1, ld 8, cf 8 [9], fa 1 3] ++ s0 (sr 1 11 10))) (.seq (.reg (sq 12 [la 2 3] ++ s0 (sr 2 2 12))) .ret)))))
theorem fnT53 : MFn Tryz.prog 53 mcT53 13 [.cell 2 2 true] := ⟨_, Tryz.func53, by kernel_rfl, Tryz.ntmps53, by kernel_rfl⟩
noncomputable def F_to_Rule (x : ((List Int) × (List Int))) : Option ((List Int) × (List Int)) :=
 (F_to_Int64S x.1).bind fun r0 =>
 (F_to_Int64S x.2).bind fun r1 =>
 some (r0, r1)
instance c_to_Rule {x : ((List Int) × (List Int))} : HasC (F_to_Rule x) fun rr => ACalls Tryz.prog 53 [.d (.agg [(slD 1 iD) x.1, (slD 1 iD) x.2])] [] 0 fun xx ss => xx = .agg [.gow 1 900000 x.1.length, .gow 1 900001 x.2.length] ∧ ss = [(900000, .prv 1 x.1.length (tolds (List.map iD rr.1))), (900001, .prv 1 x.2.length (tolds (List.map iD rr.2)))] := ⟨@fun rr h => by
  delta F_to_Rule at h
  refine fnT53.callsD (vcm_sound ?_)
  delta mcT53
  refine stp ?_
  refine rCo [] [(900000, 6)] h fun r0 hr0 h => ?_
  refine nds ?_
  refine rCo [] [(900000, 10)] h fun r1 hr1 h => ?_
  refine nds ?_
  cases h
  exact Done.trans ((Done.trans (Done.move 6 900000 (ob := .prv 1 x.1.length (tolds (List.map iD r0))) (by omega) (by omega) (by omega) rfl (by first | rfl | (simp [sat, smove, Ob.ren, rens_tolds]; done))) (Done.trans (Done.move 10 900001 (ob := .prv 1 x.2.length (tolds (List.map iD r1))) (by omega) (by omega) (by omega) rfl (by first | rfl | (simp [sat, smove, Ob.ren, rens_tolds]; done))) (Done.drops [1, 2, 3] (by simp))))) (Done.told frd don)⟩
def mcT25 : MCode :=
 (.seq (.reg (sq 2 [.mv (.const (.slice none 0 0))])) (.seq (.reg (sq 5 [mv 0, ln 5, .mkslp 7 70 2 48 [.sl 0 (some true) [], .sl 0 (some true) []] false (t0 6) (t0 6)] ++ sq 3 [mv 7])) (.seq (.seq (.reg (sq 4 [mi 0])) (.block 0 (.loop (.seq (.seq (.reg (sq 8 [mv 4, mv 0, ln 9, bn .lss 8 10])) (.cond (t0 11) .skip (.exit 0))) (.seq (.block 1 (.reg (sq 14 [mv 3, mv 4, mv 0, mv 4, ix 2 16 17, la 2 18, cf 53 [19], ix 2 14 15] ++ s0 (sr 2 21 20)))) (.reg (sq 12 [mv 4, bi .add 12 1] ++ sq 4 [mv 13]))))))) (.seq (.reg (sq 22 [mv 3] ++ sq 2 [mv 22])) .ret))))
theorem fnT25 : MFn Tryz.prog 25 mcT25 23 [.tmp 2] := ⟨_, Tryz.func25, by kernel_rfl, Tryz.ntmps25, by kernel_rfl⟩
noncomputable def F_to_RuleS_l (a : List ((List Int) × (List Int))) : (Int × List ((List Int) × (List Int))) → Option ((Int × List ((List Int) × (List Int))) ⊕ List ((List Int) × (List Int)))
 | (i, out) =>
  if (decide (i < (a.length : Int))) = true then
   if 0 ≤ i ∧ i < (a.length : Int) ∧ i < (out.length : Int) then
    (F_to_Rule (a.getD i.toNat default)).bind fun r =>
    some (.inl ((IntKind.i64.wrap (i + 1)), out.set i.toNat r))
   else none
  else
   Option.map Sum.inr (some out)
noncomputable def F_to_RuleS (a : List ((List Int) × (List Int))) : Option (List ((List Int) × (List Int))) :=
 if 0 ≤ (a.length : Int) ∧ 48 * (a.length : Int) ≤ 281474976710656 ∧ (a.length : Int) < 4611686018427387904 then
  loopC (F_to_RuleS_l a) (0, List.replicate a.length ([], []))
 else none
instance c_to_RuleS {a : List ((List Int) × (List Int))} : HasC (F_to_RuleS a) fun rr => ACalls Tryz.prog 25 [.d ((slD 2 D_laws_Rule) a)] [] 0 fun xx ss => xx = .gow 2 900000 a.length ∧ ss = [(900000, .prv 2 a.length (tolds (List.map D_impl_Rule rr)))] := ⟨@fun rr h => by
  delta F_to_RuleS at h
  refine fnT25.callsD (vcm_sound ?_)
  delta mcT25
  refine stp ?_
  refine ndI h fun hp h => ?_
  refine m_loopF h [4, 8, 9, 10, 11, 12, 13, 14, 15, 16, 17, 18, 19, 20, 21] (fun pp => [(4, .d (iD pp.1))]) (fun pp => [(7, .prv 2 a.length (tolds (List.map D_impl_Rule pp.2)))]) ?_ ?_
  · try dsimp only
    refine (Weak.prvZ (id := 7) (f := D_impl_Rule) ([], []) rfl (by exact ⟨NLe.nilz, ⟨NLe.nilz, trivial⟩⟩)).trans ?_
    exact wk
  rintro ⟨i, out⟩ t1 h hb1
  unfold F_to_RuleS_l at h
  try dsimp only at h
  refine vcm_sound (stp ?_)
  refine it h (fun hc h => ?_) fun hc h => ?_
  · refine ndI h fun hp h => ?_
    refine rCo [] [(900000, 20), (900001, 200001)] h fun r hr h => ?_
    refine nds ?_
    cases h
    refine ⟨_, rfl, ?_⟩
    refine (Weak.absSeg (f' := iD) (ys := r.1) (m := (a.getD i.toNat default).1.length) (m' := (a.getD i.toNat default).1.length) 7 20 0 rfl rfl (by first | rfl | (simp [sat, sdel, sset, skill, Ob.kill, Ob.ren, rens_tolds]; done)) rfl (by decide) (by omega) (by decide)).trans ?_
    refine (Weak.absSeg (f' := iD) (ys := r.2) (m := (a.getD i.toNat default).2.length) (m' := (a.getD i.toNat default).2.length) 7 200001 1 rfl rfl (by first | rfl | (simp [sat, sdel, sset, skill, Ob.kill, Ob.ren, rens_tolds]; done)) rfl (by decide) (by omega) (by decide)).trans ?_
    refine (Weak.drop 20 (by omega)).trans ?_
    refine (Weak.drop 200001 (by omega)).trans ?_
    refine (Weak.prvE 7 (tolds (List.map D_impl_Rule (out.set i.toNat r))) rfl (by (try simp only [go_sem, rens_take, rens_drop, rens_tolds, AV.rens, AV.ren]); exact told_segE (i := i.toNat) (by omega) (by omega) (by omega) rfl)).trans ?_
    exact wk
  replace h := inr_some h hb1
  cases h
  exact Done.trans (Done.move 7 900000 (ob := .prv 2 a.length (tolds (List.map D_impl_Rule rr))) (by omega) (by omega) (by omega) rfl (by first | rfl | (simp [sat, smove, Ob.ren, rens_tolds]; done))) (Done.told frd don)⟩
def mcT7 : MCode :=
 (.seq (.reg (sq 1 [bo 1 27 0, .alloc 2 33 [.sl 0 (some true) [], .sl 0 (some true) []]])) (.seq (.reg (sq 3 [.alloc 3 33 [.sl 0 (some true) [], .sl 0 (some true) []]])) (.seq (.reg (sq 4 [fa 0 1, la 1 4, cf 24 [5], fa 0 3] ++ s0 (sr 1 7 6))) (.seq (.reg (sq 8 [fa 1 1, ld 8, cf 25 [9], fa 1 3] ++ s0 (sr 1 11 10))) (.seq (.reg (sq 12 [la 2 3] ++ s0 (sr 2 2 12))) .ret)))))
theorem fnT7 : MFn Tryz.prog 7 mcT7 13 [.cell 2 2 true] := ⟨_, Tryz.func7, by kernel_rfl, Tryz.ntmps7, by kernel_rfl⟩
noncomputable def F_to_System (x : ((List Int) × (List ((List Int) × (List Int))))) : Option ((List Int) × (List ((List Int) × (List Int)))) :=
 (F_to_Sig x.1).bind fun r0 =>
 (F_to_RuleS x.2).bind fun r1 =>
 some (r0, r1)
instance c_to_System {x : ((List Int) × (List ((List Int) × (List Int))))} : HasC (F_to_System x) fun rr => ACalls Tryz.prog 7 [.d (.agg [(slD 1 iD) x.1, (slD 2 D_laws_Rule) x.2])] [] 0 fun xx ss => xx = .agg [.gow 1 900000 x.1.length, .gow 2 900001 x.2.length] ∧ ss = [(900000, .prv 1 x.1.length (tolds (List.map iD rr.1))), (900001, .prv 2 x.2.length (tolds (List.map D_impl_Rule rr.2)))] := ⟨@fun rr h => by
  delta F_to_System at h
  refine fnT7.callsD (vcm_sound ?_)
  delta mcT7
  refine stp ?_
  refine rCo [] [(900000, 6)] h fun r0 hr0 h => ?_
  refine nds ?_
  refine rCo [] [(900000, 10)] h fun r1 hr1 h => ?_
  refine nds ?_
  cases h
  exact Done.trans ((Done.trans (Done.move 6 900000 (ob := .prv 1 x.1.length (tolds (List.map iD r0))) (by omega) (by omega) (by omega) rfl (by first | rfl | (simp [sat, smove, Ob.ren, rens_tolds]; done))) (Done.trans (Done.move 10 900001 (ob := .prv 2 x.2.length (tolds (List.map D_impl_Rule r1))) (by omega) (by omega) (by omega) rfl (by first | rfl | (simp [sat, smove, Ob.ren, rens_tolds]; done))) (Done.drops [1, 2, 3] (by simp))))) (Done.told frd don)⟩
noncomputable def F_pub_System (x : ((List Int) × (List ((List Int) × (List Int))))) : Option ((List Int) × (List ((List Int) × (List Int)))) := (F_to_System x).bind fun r => if x.1.length = r.1.length ∧ x.2.length = r.2.length then some r else none
instance c_pub_System {x : ((List Int) × (List ((List Int) × (List Int))))} : HasC (F_pub_System x) fun rr => PFun Tryz.prog 7 [(.agg [(slD 1 iD) x.1, (slD 2 D_laws_Rule) x.2])] (.agg [(slD 1 iD) rr.1, (slD 2 D_impl_Rule) rr.2]) := ⟨@fun rr h => by
  obtain ⟨r, h1, h2⟩ := bind_some h
  obtain ⟨hp, h2⟩ := need_some h2
  cases h2
  exact ACalls.pub (dz := [(.agg [(slD 1 iD) x.1, (slD 2 D_laws_Rule) x.2])]) (tl := [(900000, 1, List.map iD rr.1), (900001, 2, List.map D_impl_Rule rr.2)]) ((c_to_System).c h1) (by simp [toks]; try omega) (.agg (.cons (Pub.tok (f := iD) (by simp [toks, sat]; try omega) (by omega)) (.cons (Pub.tok (f := D_impl_Rule) (by simp [toks, sat]; try omega) (by omega)) .nil)))⟩
noncomputable def F_le_eqSystem_ll (n0 : Nat) (n1 : Nat) (n2 : Nat) (n3 : Nat) (x0 : ((List Int) × (List ((List Int) × (List Int))))) (x1 : ((List Int) × (List ((List Int) × (List Int))))) : Option Bool := if n0 = x0.1.length ∧ n1 = x0.2.length ∧ n2 = x1.1.length ∧ n3 = x1.2.length then F_laws_eqSystem x0 x1 else none
instance c_F_le_eqSystem_ll {n0 : Nat} {n1 : Nat} {n2 : Nat} {n3 : Nat} {x0 : ((List Int) × (List ((List Int) × (List Int))))} {x1 : ((List Int) × (List ((List Int) × (List Int))))} : HasC (F_le_eqSystem_ll n0 n1 n2 n3 x0 x1) fun rr => ACalls Tryz.prog 11 [.agg [.gow 1 0 n0, .gow 2 1 n1], .agg [.gow 1 2 n2, .gow 2 3 n3]] [(0, .prv 1 n0 (tolds (List.map iD x0.1))), (1, .prv 2 n1 (tolds (List.map D_impl_Rule x0.2))), (2, .prv 1 n2 (tolds (List.map iD x1.1))), (3, .prv 2 n3 (tolds (List.map D_impl_Rule x1.2)))] 4 fun xx ss => xx = .d (bD rr) ∧ ss = [(0, .prv 1 n0 (tolds (List.map iD x0.1))), (1, .prv 2 n1 (tolds (List.map D_impl_Rule x0.2))), (2, .prv 1 n2 (tolds (List.map iD x1.1))), (3, .prv 2 n3 (tolds (List.map D_impl_Rule x1.2)))] := ⟨@fun rr h => by
  obtain ⟨hp, h⟩ := need_some h
  exact ACalls.lent ((c_laws_eqSystem).c h) (.cons (.agg (.cons (Lent.tok (f := iD) rfl (by omega)) (.cons (Lent.tok (f := D_impl_Rule) rfl (by omega)) .nil))) (.cons (.agg (.cons (Lent.tok (f := iD) rfl (by omega)) (.cons (Lent.tok (f := D_impl_Rule) rfl (by omega)) .nil))) .nil))⟩
end Go.Proofs.YtcbfefbocpikoaaGreat
namespace Go.Proofs.YtcbfefbocpikoaaGreat
open Go Abx
attribute [local irreducible] vcm vgo vdr vrun vdrun MWp GhostQ BrC BrO BrG BrD BrH AmbO callR callD drQ EnvLe StoLe
set_option maxHeartbeats 4000000
attribute [-go_sem] sat sset
end Go.Proofs.YtcbfefbocpikoaaGreat
namespace Go.Proofs.YtcbfefbocpikoaaGreat
open Go Abx Tm
abbrev Mx : Nat := 1048576
abbrev Big {α : Type} (xs : List α) : Prop := xs.length < 9223372036854775808
theorem szI {a : List Int} (ha : Big a) {left : Int} (h0 : 0 ≤ left) (hM : left ≤ Mx) : ∃ r, F_laws_szInt64S a left = some r ∧ -1 ≤ r ∧ r ≤ left ∧ (0 ≤ r → a.length ≤ Mx) := by
  unfold F_laws_szInt64S
  have ha' : a.length < 9223372036854775808 := ha
  have hM' : left ≤ 1048576 := hM
  rw [w64 (n := left - (a.length : Int)) (by omega) (by omega)]
  by_cases h : left - (a.length : Int) < 0
  · exact ⟨-1, by simp [h], by omega, by omega, by omega⟩
  · exact ⟨left - a.length, by simp [h], by omega, by omega, fun _ => by show a.length ≤ 1048576; omega⟩
theorem loop_sz {α : Type} [Inhabited α] {a : List α} {Q : α → Prop} {f : Int × Int → Option ((Int × Int) ⊕ Int)}
    (h : ∀ (i : Nat) (left : Int) (x : α), i < a.length → x ∈ a → a.getD i default = x → 0 ≤ left → left ≤ Mx → (∃ r, 0 ≤ r ∧ r ≤ left ∧ Q x ∧ f (left, (i : Int)) = some (.inl (r, (i : Int) + 1))) ∨ f (left, (i : Int)) = some (.inr (-1)))
    (he : ∀ left, f (left, (a.length : Int)) = some (.inr left)) {left : Int} (h0 : 0 ≤ left) (hM : left ≤ Mx) : ∃ r, loopC f (left, 0) = some r ∧ -1 ≤ r ∧ r ≤ left ∧ (0 ≤ r → ∀ x ∈ a, Q x) := by
  have key : ∀ (rs : List α) (i : Nat) (left : Int), a.drop i = rs → i + rs.length = a.length → 0 ≤ left → left ≤ Mx → ∃ r, loopC f (left, (i : Int)) = some r ∧ -1 ≤ r ∧ r ≤ left ∧ (0 ≤ r → ∀ x ∈ rs, Q x) := by
    intro rs
    induction rs with
    | nil =>
      intro i left hd hl h0 hM
      obtain rfl : i = a.length := by simpa using hl
      exact ⟨left, loopC_inr (he _), by omega, by omega, fun _ x hx => by cases hx⟩
    | cons x rs ih =>
      intro i left hd hl h0 hM
      simp only [List.length_cons] at hl
      obtain ⟨g1, g2, g3⟩ := drop_cons hd
      rcases h i left x g1 (by rw [← g2]; exact getD_mem g1) g2 h0 hM with ⟨r, r0, r1, r2, r3⟩ | hx
      · obtain ⟨r', e1, e2, e3, e4⟩ := ih (i + 1) r g3 (by omega) r0 (by omega)
        rw [loopC_inl r3, show ((i : Int) + 1) = ((i + 1 : Nat) : Int) by omega]
        refine ⟨r', e1, e2, by omega, fun hr y hy => ?_⟩
        rcases List.mem_cons.1 hy with rfl | hy
        · exact r2
        · exact e4 hr y hy
      · exact ⟨-1, loopC_inr hx, by omega, by omega, by omega⟩
  exact key a 0 left (by simp) (by simp) h0 hM
theorem szRule {x : List Int × List Int} (h1 : Big x.1) (h2 : Big x.2) {left : Int} (h0 : 0 ≤ left) (hM : left ≤ Mx) : ∃ r, F_laws_szRule x left = some r ∧ -1 ≤ r ∧ r ≤ left ∧ (0 ≤ r → x.1.length ≤ Mx ∧ x.2.length ≤ Mx) := by
  obtain ⟨r, e1, e2, e3, e4⟩ := szI h1 h0 hM
  unfold F_laws_szRule
  rw [e1, Option.bind_some]
  by_cases hr : r < 0
  · exact ⟨-1, by simp [hr], by omega, by omega, by omega⟩
  · obtain ⟨r', g1, g2, g3, g4⟩ := szI h2 (left := r) (by omega) (by omega)
    rw [g1]
    by_cases hr' : r' < 0
    · exact ⟨-1, by simp [hr, hr'], by omega, by omega, by omega⟩
    · exact ⟨r', by simp [hr, hr'], by omega, by omega, fun _ => ⟨e4 (by omega), g4 (by omega)⟩⟩
structure BigS (s : Sys) : Prop where
  sig : Big s.1
  rules : Big s.2
  to : ∀ r ∈ s.2, Big r.1 ∧ Big r.2
structure SmS (s : Sys) : Prop where
  sig : s.1.length ≤ Mx
  rules : s.2.length ≤ Mx
  to : ∀ r ∈ s.2, r.1.length ≤ Mx ∧ r.2.length ≤ Mx
theorem szRuleS {a : List (List Int × List Int)} (ha : Big a) (ht : ∀ r ∈ a, Big r.1 ∧ Big r.2) {left : Int} (h0 : 0 ≤ left) (hM : left ≤ Mx) :
    ∃ r, F_laws_szRuleS a left = some r ∧ -1 ≤ r ∧ r ≤ left ∧ (0 ≤ r → a.length ≤ Mx ∧ ∀ x ∈ a, x.1.length ≤ Mx ∧ x.2.length ≤ Mx) := by
  unfold F_laws_szRuleS
  have ha' : a.length < 9223372036854775808 := ha
  have hM' : left ≤ 1048576 := hM
  rw [w64 (n := left - (a.length : Int)) (by omega) (by omega)]
  by_cases h : left - (a.length : Int) < 0
  · exact ⟨-1, by simp [h], by omega, by omega, by omega⟩
  · obtain ⟨r, e1, e2, e3, e4⟩ := loop_sz (a := a) (Q := fun x => x.1.length ≤ Mx ∧ x.2.length ≤ Mx) (f := F_laws_szRuleS_l1 a) (left := left - a.length) (fun i left x hi hx hg h0 hM => by
      obtain ⟨r, e1, e2, e3, e4⟩ := szRule (ht x hx).1 (ht x hx).2 h0 hM
      simp only [F_laws_szRuleS_l1, show (i : Int) < a.length by omega, decide_true, if_true, show (0 : Int) ≤ i by omega, and_self, Int.toNat_natCast, hg, e1, Option.bind_some, w64 (n := (i : Int) + 1) (by omega) (by omega)]
      by_cases hr : r < 0
      · exact .inr (by simp [hr])
      · exact .inl ⟨r, by omega, e3, e4 (by omega), by simp [hr]⟩) (fun left => by simp [F_laws_szRuleS_l1]) (by omega) (by show left - a.length ≤ 1048576; omega)
    refine ⟨r, by rw [if_neg (by simpa using h)]; exact e1, e2, by omega, fun hr => ⟨?_, e4 hr⟩⟩
    show a.length ≤ 1048576
    omega
theorem szSystem {s : Sys} (hs : BigS s) : ∃ r, F_laws_szSystem s 1048576 = some r ∧ (0 ≤ r → SmS s) := by
  obtain ⟨r, e1, e2, e3, e4⟩ := szI hs.sig (left := 1048576) (by omega) (by decide)
  unfold F_laws_szSystem F_laws_szSig
  rw [e1, Option.bind_some]
  by_cases hr : r < 0
  · exact ⟨-1, by simp [hr], by omega⟩
  · obtain ⟨r', g1, g2, g3, g4⟩ := szRuleS hs.rules hs.to (left := r) (by omega) (Int.le_trans e3 (by decide))
    simp only [hr, decide_false, Bool.false_eq_true, if_false, Option.bind_some, g1]
    by_cases hr' : r' < 0
    · exact ⟨-1, by simp [hr'], by omega⟩
    · exact ⟨r', by simp [hr'], fun h => ⟨e4 (by omega), (g4 h).1, (g4 h).2⟩⟩
theorem F_to_Int64S_eq {a : List Int} (h : a.length ≤ Mx) : F_to_Int64S a = some a := by
  have h' : a.length ≤ 1048576 := h
  unfold F_to_Int64S
  rw [if_pos ⟨by omega, by omega, by omega⟩]
  have := loop_to (a := a) (z := List.replicate a.length 0) (g := id) (f := F_to_Int64S_l a) (by simp) (fun i out hi ho hm => by
    simp only [F_to_Int64S_l, show (i : Int) < a.length by omega, show (i : Int) < out.length by omega, decide_true, if_true, show (0 : Int) ≤ i by omega, and_self, Int.toNat_natCast, w64 (n := (i : Int) + 1) (by omega) (by omega), id]) (fun out => by simp [F_to_Int64S_l])
  simpa using this
theorem F_to_Rule_eq {x : List Int × List Int} (h : x.1.length ≤ Mx ∧ x.2.length ≤ Mx) : F_to_Rule x = some x := by
  unfold F_to_Rule
  rw [F_to_Int64S_eq h.1, Option.bind_some, F_to_Int64S_eq h.2, Option.bind_some]
theorem F_to_RuleS_eq {a : List (List Int × List Int)} (h : a.length ≤ Mx) (ht : ∀ x ∈ a, x.1.length ≤ Mx ∧ x.2.length ≤ Mx) : F_to_RuleS a = some a := by
  have h' : a.length ≤ 1048576 := h
  unfold F_to_RuleS
  rw [if_pos ⟨by omega, by omega, by omega⟩]
  have := loop_to (a := a) (z := List.replicate a.length ([], [])) (g := id) (f := F_to_RuleS_l a) (by simp) (fun i out hi ho hm => by
    simp only [F_to_RuleS_l, show (i : Int) < a.length by omega, show (i : Int) < out.length by omega, decide_true, if_true, show (0 : Int) ≤ i by omega, and_self, Int.toNat_natCast, F_to_Rule_eq (ht _ hm), Option.bind_some, w64 (n := (i : Int) + 1) (by omega) (by omega), id]) (fun out => by simp [F_to_RuleS_l])
  simpa using this
theorem F_to_System_eq {s : Sys} (h : SmS s) : F_to_System s = some s := by
  unfold F_to_System F_to_Sig
  rw [F_to_Int64S_eq h.sig, Option.bind_some, Option.bind_some, F_to_RuleS_eq h.rules h.to, Option.bind_some]
theorem F_pub_System_eq {s : Sys} (h : SmS s) : F_pub_System s = some s := by
  unfold F_pub_System
  rw [F_to_System_eq h, Option.bind_some, if_pos ⟨rfl, rfl⟩]
theorem eqI_self {a : List Int} (h : Small a) : F_laws_eqInt64S a a = some true := by
  have h' : a.length < 1099511627776 := h
  unfold F_laws_eqInt64S
  rw [if_neg (by simp)]
  refine loop_self (a := a) (fun i hi => ?_) (by simp [F_laws_eqInt64S_l1])
  simp [F_laws_eqInt64S_l1, show (i : Int) < a.length by omega, w64 (n := (i : Int) + 1) (by omega) (by omega)]
theorem eqRule_self {x : List Int × List Int} (h : x.1.length ≤ Mx ∧ x.2.length ≤ Mx) : F_laws_eqRule x x = some true := by
  have h1 : x.1.length ≤ 1048576 := h.1
  have h2 : x.2.length ≤ 1048576 := h.2
  unfold F_laws_eqRule
  rw [eqI_self (show x.1.length < _ by omega), Option.bind_some, if_pos rfl, eqI_self (show x.2.length < _ by omega), Option.bind_some, if_pos rfl]
theorem eqSystem_self {s : Sys} (h : SmS s) : F_laws_eqSystem s s = some true := by
  have h1 : s.1.length ≤ 1048576 := h.sig
  have h2 : s.2.length ≤ 1048576 := h.rules
  have e : F_laws_eqRuleS s.2 s.2 = some true := by
    unfold F_laws_eqRuleS
    rw [if_neg (by simp)]
    refine loop_self (a := s.2) (fun i hi => ?_) (by simp [F_laws_eqRuleS_l1])
    simp only [F_laws_eqRuleS_l1, show (i : Int) < s.2.length by omega, decide_true, if_true, show (0 : Int) ≤ i by omega, and_self, Int.toNat_natCast, eqRule_self (h.to _ (getD_mem hi)), Option.bind_some, w64 (n := (i : Int) + 1) (by omega) (by omega)]
  unfold F_laws_eqSystem F_laws_eqSig
  rw [eqI_self (show s.1.length < _ by omega)]
  simp [e]
end Go.Proofs.YtcbfefbocpikoaaGreat
namespace Go.Proofs.YtcbfefbocpikoaaGreat
open Go Abx Tm
theorem F_spec_LessTerm_eq {a b : List Int} (ha : Small a) : F_spec_LessTerm a b = some (decide (cmpT a b < 0)) := by
  have ha' : a.length < 1099511627776 := ha
  unfold F_spec_LessTerm cmpT
  by_cases hl : a.length = b.length
  · rw [if_neg (by simp [hl]), if_pos hl]
    have := loopC_is (f := F_spec_LessTerm_l1 a b) (fun k => some (decide (lexI (a.drop k.toNat) (b.drop k.toNat) < 0))) (fun k : Int => ∃ i : Nat, k = (i : Int) ∧ i ≤ a.length) (fun k : Int => a.length - k.toNat) ?_ 0 ⟨0, rfl, by omega⟩
    · simpa using this
    · rintro _ ⟨i, rfl, hi⟩
      by_cases hlt : i < a.length
      · have hb : i < b.length := by omega
        simp only [F_spec_LessTerm_l1, show (i : Int) < a.length by omega, show (i : Int) < b.length by omega, decide_true, if_true, show (0 : Int) ≤ i by omega, and_self, Int.toNat_natCast, getD_get hlt, getD_get hb, w64 (n := (i : Int) + 1) (by omega) (by omega), Option.map_some]
        simp only [List.drop_eq_getElem_cons hlt, List.drop_eq_getElem_cons hb]
        by_cases he : a[i] = b[i]
        · refine .inl ⟨((i + 1 : Nat) : Int), by simp [he], ⟨i + 1, rfl, by omega⟩, by simp; omega, ?_⟩
          simp [lexI, he]
        · refine .inr ⟨_, by simp [he]; rfl, ?_⟩
          simp only [lexI]
          rcases Int.lt_or_gt_of_ne he with h | h
          · simp [h]
          · simp [h, show ¬ a[i] < b[i] by omega]
      · obtain rfl : i = a.length := by omega
        refine .inr ⟨false, by simp [F_spec_LessTerm_l1], ?_⟩
        simp only [Int.toNat_natCast, List.drop_length, show b.drop a.length = [] by rw [hl]; exact List.drop_length, lexI_self]
        rfl
  · rw [if_pos (by simp; omega), if_neg hl]
    refine congrArg some (decide_eq_decide.2 ?_)
    omega
abbrev Srt (l : List (List Int)) : Prop := l.Pairwise fun a b => cmpT a b ≤ 0
theorem insert_ok {l : List (List Int)} {t : List Int} (hl : l.length < 1099511627776) (ht : Small t) (hs : Srt l) : Okk True (F_spec_l28Insert l t) fun o => o.Perm (t :: l) ∧ Srt o := by
  unfold F_spec_l28Insert
  refine Okk.loop (fun k : Int => ∃ i : Nat, k = (i : Int) ∧ i ≤ l.length ∧ ∀ x ∈ l.drop i, cmpT t x ≤ 0) (fun k : Int => k.toNat) ⟨l.length, rfl, by omega, by simp⟩ ?_
  rintro _ ⟨i, rfl, hi, hd⟩
  have fin : (∀ x ∈ l.take i, cmpT x t ≤ 0) → (l.take i ++ [t] ++ l.drop i).Perm (t :: l) ∧ Srt (l.take i ++ [t] ++ l.drop i) := fun h => by
    constructor
    · rw [List.append_assoc, List.singleton_append]
      refine List.perm_middle.trans ?_
      rw [List.take_append_drop]
    · have hs' := hs
      rw [← List.take_append_drop i l, Srt, List.pairwise_append] at hs'
      rw [Srt, List.append_assoc, List.singleton_append, List.pairwise_append]
      refine ⟨hs'.1, List.pairwise_cons.2 ⟨hd, hs'.2.1⟩, fun x hx y hy => ?_⟩
      rcases List.mem_cons.1 hy with rfl | hy
      · exact h x hx
      · exact hs'.2.2 x hx y hy
  have hm : min i l.length = i := by omega
  have b1 : (0 + i) * 24 ≤ 140737488355328 := by omega
  have b2 : (i + 1) * 24 ≤ 140737488355328 := by omega
  have b3 : (i + 1 + (l.length - i)) * 24 ≤ 140737488355328 := by omega
  unfold F_spec_l28Insert_l1
  have h0 : (0 : Int) ≤ i := by omega
  have h1 : (i : Int) ≤ l.length := by omega
  simp only [h0, h1, and_self, if_true, Int.toNat_natCast, List.length_append, List.length_take, List.length_drop, List.length_singleton, hm, b1, b2, b3]
  by_cases hz : (0 : Int) < i
  · have hw : IntKind.i64.wrap ((i : Int) - 1) = ((i - 1 : Nat) : Int) := by rw [w64 (by omega) (by omega)]; omega
    have hlt : i - 1 < l.length := by omega
    simp only [hz, decide_true, if_true, hw, show (0 : Int) ≤ ((i - 1 : Nat) : Int) by omega, show ((i - 1 : Nat) : Int) < l.length by omega, and_self, Int.toNat_natCast, getD_get hlt, F_spec_LessTerm_eq ht, Option.bind_some]
    by_cases hc : cmpT t l[i - 1] < 0
    · simp only [hc, decide_true, if_true]
      refine .some ⟨⟨i - 1, rfl, by omega, fun x hx => ?_⟩, by simp; omega⟩
      rw [List.drop_eq_getElem_cons hlt, show i - 1 + 1 = i by omega] at hx
      rcases List.mem_cons.1 hx with rfl | hx
      · omega
      · exact hd x hx
    · simp only [hc, decide_false, Bool.false_eq_true, if_false, Option.map_some]
      refine .some (fin fun x hx => ?_)
      have h2 : cmpT l[i - 1] t ≤ 0 := by have := cmpT_neg t l[i - 1]; omega
      rw [show i = i - 1 + 1 by omega, List.take_succ_eq_append_getElem hlt] at hx
      rcases List.mem_append.1 hx with hx | hx
      · have hs' := hs
        rw [← List.take_append_drop (i - 1) l, Srt, List.pairwise_append] at hs'
        exact (cmpT_trans (hs'.2.2 x hx l[i - 1] (by rw [List.drop_eq_getElem_cons hlt]; exact List.mem_cons_self)) h2).1
      · rw [List.mem_singleton.1 hx]; exact h2
  · simp only [hz, decide_false, Bool.false_eq_true, if_false, Option.map_some]
    refine .some (fin fun x hx => ?_)
    obtain rfl : i = 0 := by omega
    simp at hx
theorem insert_sort {g : List (List Int)} {t : List Int} (hl : g.length < 1099511627776) (ht : Small t) : F_spec_l28Insert (sortT g) t = some (sortT (g ++ [t])) := by
  obtain ⟨o, e⟩ := (insert_ok (l := sortT g) (t := t) (by rw [sortT_len]; exact hl) ht (sortT_sorted g)).2 trivial
  obtain ⟨h1, h2⟩ := (insert_ok (l := sortT g) (t := t) (by rw [sortT_len]; exact hl) ht (sortT_sorted g)).1 o e
  rw [e]
  refine congrArg some (sorted_uniq ?_ h2 (sortT_sorted _))
  refine h1.trans (List.Perm.trans ?_ (sortT_perm _).symm)
  refine ((sortT_perm g).cons t).trans ?_
  exact (List.perm_append_comm (l₁ := [t]) (l₂ := g))
end Go.Proofs.YtcbfefbocpikoaaGreat
namespace Go.Proofs.YtcbfefbocpikoaaGreat
open Go Abx
attribute [local irreducible] vcm vgo vdr vrun vdrun MWp GhostQ BrC BrO BrG BrD BrH AmbO callR callD drQ EnvLe StoLe
set_option maxHeartbeats 4000000
def mc40 : MCode :=
 (.seq (.reg (sq 4 [mi 0])) (.seq (.reg (sq 5 [la 2 1, mv 0, ld 2, .callf 41 [(t0 5), (t0 6), (i0 1), (t0 7)]] ++ sq 4 [mv 8])) .ret))
theorem fn40 : MFn Tryz.prog 40 mc40 9 [.tmp 4] := ⟨_, Tryz.func40, by kernel_rfl, Tryz.ntmps40, by kernel_rfl⟩
noncomputable def F_impl_InmostTime_1 (t : (List Int)) (o00 : (List Int)) (o01 : (List ((List Int) × (List Int)))) (o1 : Int) : Option Int :=
 (F_impl_CountBy (o00, o01) t 1 o1).bind fun r =>
 some r
instance c_impl_InmostTime_1 {t : (List Int)} {o00 : (List Int)} {o01 : (List ((List Int) × (List Int)))} {o1 : Int} : HasC (F_impl_InmostTime_1 t o00 o01 o1) fun rr => ACalls Tryz.prog 40 [.d (slD 1 iD t), .ptr 0 0, .ptr 1 0] [(0, .obj 33 [.d (slD 1 iD o00), .d (slD 2 D_impl_Rule o01)]), (1, .obj 2 [.d (iD o1)])] 2 fun xx ss => xx = .d (iD rr) ∧ ss = [(0, .obj 33 [.d (slD 1 iD o00), .d (slD 2 D_impl_Rule o01)]), (1, .obj 2 [.d (iD o1)])] := ⟨@fun rr h => by
  delta F_impl_InmostTime_1 at h
  refine fn40.callsO (vcm_sound ?_)
  delta mc40
  refine stp ?_
  exact aut⟩
def mc39 : MCode :=
 (.seq (.reg (sq 4 [mi 0])) (.seq (.reg (sq 5 [mi 0])) (.seq (.seq (.reg (sq 9 [mv 0, ln 9, mi 0])) (.block 0 (.loop (.seq (.reg (sq 12 [bn .lss 11 10])) (.seq (.cond (t0 12) .skip (.exit 0)) (.seq (.block 1 (.seq (.reg (sq 13 [ix 1 9 11, ld 13] ++ sq 7 [mv 14])) (.seq (.reg (sq 15 [mv 1, mv 7, .callv (t0 15) [(t0 16)]] ++ sq 8 [mv 17])) (.seq (.seq (.reg (sq 18 [mv 8, bi .lss 18 0])) (.cond (t0 19) (.seq (.reg (sq 4 [mi (-1)])) .ret) .skip)) (.reg (sq 20 [mv 5, mv 8, .max (t0 20) (t0 21)] ++ sq 5 [mv 22])))))) (.reg (sq 23 [bi .add 11 1] ++ sq 11 [mv 23])))))))) (.seq (.reg (sq 24 [mv 5] ++ sq 4 [mv 24])) .ret))))
theorem fn39 : MFn Tryz.prog 39 mc39 25 [.tmp 4] := ⟨_, Tryz.func39, by kernel_rfl, Tryz.ntmps39, by kernel_rfl⟩
noncomputable def F_impl_greatest_l1 (ts : (List (List Int))) (o00 : (List Int)) (o01 : (List ((List Int) × (List Int)))) (o1 : Int) : (Int × Int) → Option ((Int × Int) ⊕ Int)
 | (out, v11) =>
  if (decide (v11 < (ts.length : Int))) = true then
   if 0 ≤ v11 ∧ v11 < (ts.length : Int) then
    (F_impl_InmostTime_1 (ts.getD v11.toNat default) o00 o01 o1).bind fun r =>
    if (decide (r < 0)) = true then
     Option.map Sum.inr (
      some (-1))
    else
     some (.inl ((if r > out then r else out), (IntKind.i64.wrap (v11 + 1))))
   else none
  else
   Option.map Sum.inr (
    some out)
noncomputable def F_impl_greatest (ts : (List (List Int))) (o00 : (List Int)) (o01 : (List ((List Int) × (List Int)))) (o1 : Int) : Option Int :=
 loopC (F_impl_greatest_l1 ts o00 o01 o1) (0, 0)
instance c_impl_greatest {ts : (List (List Int))} {o00 : (List Int)} {o01 : (List ((List Int) × (List Int)))} {o1 : Int} : HasC (F_impl_greatest ts o00 o01 o1) fun rr => ACalls Tryz.prog 39 [.d (slD 1 (slD 1 iD) ts), .fn 40 [] [.ptr 0 0, .ptr 1 0]] [(0, .obj 33 [.d (slD 1 iD o00), .d (slD 2 D_impl_Rule o01)]), (1, .obj 2 [.d (iD o1)])] 2 fun xx ss => xx = .d (iD rr) ∧ ss = [(0, .obj 33 [.d (slD 1 iD o00), .d (slD 2 D_impl_Rule o01)]), (1, .obj 2 [.d (iD o1)])] := ⟨@fun rr h => by
  delta F_impl_greatest at h
  refine fn39.callsO (vcm_sound ?_)
  delta mc39
  refine stp ?_
  refine m_lW h [4, 5, 7, 8, 11, 12, 13, 14, 15, 16, 17, 18, 19, 20, 21, 22, 23] (fun pp => [(5, .d (iD pp.1)), (11, .d (iD pp.2))]) (fun pp => [(0, .obj 33 [.d (slD 1 iD o00), .d (slD 2 D_impl_Rule o01)]), (1, .obj 2 [.d (iD o1)])]) ?_
  rintro ⟨out, v11⟩ t1 h hb1
  unfold F_impl_greatest_l1 at h
  try dsimp only at h
  refine vcm_sound (stp ?_)
  refine iT h fun hc h => ?_
  refine ndI h fun hp h => ?_
  refine need_i (by kernel_rfl) ?_
  refine rCo [(0, 0), (1, 1)] [] h fun r hr h => ?_
  exact aut⟩
def mc16 : MCode :=
 (.seq (.reg (sq 3 [bo 3 33 0] ++ sq 5 [bo 5 2 2, mi 0])) (.seq (.reg (sq 10 [la 2 3, mv 1, cf 38 [10, 11]] ++ sq 9 [mv 12] ++ sq 13 [ex 9 0, ex 9 1] ++ sq 7 [mv 13, mv 14])) (.seq (.seq (.reg (sq 15 [mv 8, nt 15, mv 16] ++ sg 17 false 18 [ld 5, bi .lss 18 0] ++ sq 20 [po 17 19, mv 20] ++ sg 21 false 22 [ld 5, bi .gtr 22 60] ++ sq 24 [po 21 23])) (.cond (t0 24) (.seq (.reg (sq 6 [mi (-1)])) .ret) .skip)) (.seq (.reg (sq 25 [mv 7, .mkfn 40 [] [(t0 3), (t0 5)], cf 39 [25, 26]] ++ sq 6 [mv 27])) .ret))))
theorem fn16 : MFn Tryz.prog 16 mc16 28 [.tmp 6] := ⟨_, Tryz.func16, by kernel_rfl, Tryz.ntmps16, by kernel_rfl⟩
noncomputable def F_impl_InmostTime (sys : ((List Int) × (List ((List Int) × (List Int))))) (n : Int) (fuel : Int) : Option Int :=
 (F_impl_BasicsOf sys n).bind fun r =>
 if r.2 = true then
  if (decide (fuel < 0)) = true then
   some (-1)
  else
   if (decide (60 < fuel)) = true then
    some (-1)
   else
    (F_impl_greatest r.1 sys.1 sys.2 fuel).bind fun r_1 =>
    some r_1
 else
  some (-1)
instance c_impl_InmostTime {sys : ((List Int) × (List ((List Int) × (List Int))))} {n : Int} {fuel : Int} : HasC (F_impl_InmostTime sys n fuel) fun rr => PFun Tryz.prog 16 [D_impl_System sys, iD n, iD fuel] (iD rr) := ⟨@fun rr h => by
  delta F_impl_InmostTime at h
  refine fn16.pureL (vcm_sound ?_)
  delta mc16
  refine stp ?_
  refine rCN h fun r hr h => ?_
  refine iT h fun hc h => ?_
  refine iF h fun hc h => ?_
  refine iF h fun hc h => ?_
  refine rCo [(0, 3), (1, 5)] [] h fun r_1 hr_1 h => ?_
  exact aut⟩
end Go.Proofs.YtcbfefbocpikoaaGreat
namespace Go.Proofs.YtcbfefbocpikoaaGreat
open Go Abx Tm
def lst (g : List LL) : Nat → Nat → LL
  | 0, l => if l = 0 then [[]] else []
  | m + 1, l => (List.range' 1 l).flatMap fun j => (g.getD j default).flatMap fun t => (lst g m (l - j)).map (t ++ ·)
def pce (g : List LL) (m l j : Nat) : LL := (g.getD j default).flatMap fun t => (lst g m (l - j)).map (t ++ ·)
def seg (g : List LL) (m l k : Nat) : LL := (List.range' 1 k).flatMap (pce g m l)
theorem lst_succ (g : List LL) (m l : Nat) : lst g (m + 1) l = seg g m l l := rfl
theorem seg_succ (g : List LL) (m l k : Nat) : seg g m l (k + 1) = seg g m l k ++ pce g m l (k + 1) := by
  unfold seg
  rw [List.range'_concat, List.flatMap_append, show 1 + 1 * k = k + 1 by omega]; simp
theorem fm_nil {α β : Type} : ∀ {xs : List α} {f : α → List β}, (∀ x ∈ xs, f x = []) → xs.flatMap f = []
  | [], _, _ => rfl
  | x :: xs, f, h => by rw [List.flatMap_cons, h x (by simp), fm_nil fun y hy => h y (by simp [hy])]; rfl
theorem lst_short (g : List LL) : ∀ {m l : Nat}, l < m → lst g m l = []
  | 0, l, h => by omega
  | m + 1, l, h => by
    refine fm_nil fun j hj => fm_nil fun t ht => ?_
    rw [List.mem_range'_1] at hj
    rw [lst_short g (m := m) (by omega)]; rfl
theorem seg_full (g : List LL) {m l : Nat} : ∀ (d : Nat), l - m + d ≤ l → seg g m l (l - m + d) = seg g m l (l - m)
  | 0, _ => rfl
  | d + 1, h => by
    rw [← Nat.add_assoc, seg_succ, seg_full g d (by omega)]
    have : pce g m l (l - m + d + 1) = [] := fm_nil fun t ht => by rw [lst_short g (by omega)]; rfl
    rw [this, List.append_nil]
theorem lst_seg (g : List LL) (m l : Nat) : lst g (m + 1) l = seg g m l (l - m) := by
  rw [lst_succ, ← seg_full g (m := m) (l := l) (l - (l - m)) (by omega)]
  congr 1; omega
theorem fm_len {xs : LL} {r : LL} : (xs.flatMap fun t => r.map (t ++ ·)).length = xs.length * r.length := by
  induction xs with
  | nil => simp
  | cons x xs ih => rw [List.flatMap_cons, List.length_append, ih, List.length_map, List.length_cons, Nat.succ_mul, Nat.add_comm]
theorem pce_len (g : List LL) (m l j : Nat) : (pce g m l j).length = (g.getD j default).length * (lst g m (l - j)).length := fm_len
structure GI (g : List LL) : Prop where
  len : g.length ≤ 61
  sz : ∀ k, (g.getD k default).length ≤ 200
  el : ∀ k, ∀ t ∈ g.getD k default, t.length = k
theorem lst_el {g : List LL} (h : GI g) : ∀ {m l : Nat}, ∀ u ∈ lst g m l, u.length = l
  | 0, l, u, hu => by
    unfold lst at hu
    split at hu
    · rw [List.mem_singleton.1 hu]; rename_i h0; simp [h0]
    · cases hu
  | m + 1, l, u, hu => by
    unfold lst at hu
    obtain ⟨j, hj, hu⟩ := List.mem_flatMap.1 hu
    obtain ⟨t, ht, hu⟩ := List.mem_flatMap.1 hu
    obtain ⟨v, hv, rfl⟩ := List.mem_map.1 hu
    have := h.el j t ht
    have := lst_el h v hv
    rw [List.mem_range'_1] at hj
    rw [List.length_append]; omega
theorem lst_bnd {g : List LL} (h : GI g) : ∀ {m : Nat}, m ≤ 3 → ∀ l, l ≤ 60 → (lst g m l).length ≤ 12000 ^ m := by
  intro m
  induction m with
  | zero => intro _ l _; unfold lst; split <;> simp
  | succ m ih =>
    intro hm l hl
    rw [lst_succ]
    have key : ∀ k, k ≤ l → (seg g m l k).length ≤ k * (200 * 12000 ^ m) := by
      intro k
      induction k with
      | zero => intro _; simp [seg]
      | succ k ihk =>
        intro hk
        rw [seg_succ, List.length_append, pce_len, Nat.succ_mul]
        exact Nat.add_le_add (ihk (by omega)) (Nat.mul_le_mul (h.sz _) (ih (by omega) _ (by omega)))
    refine Nat.le_trans (key l (Nat.le_refl _)) ?_
    rw [Nat.pow_succ]
    have : l * (200 * 12000 ^ m) ≤ 60 * (200 * 12000 ^ m) := Nat.mul_le_mul_right _ hl
    omega
theorem seg_le {g : List LL} {m l : Nat} : ∀ {k j : Nat}, k ≤ j → (seg g m l k).length ≤ (seg g m l j).length := by
  intro k j h
  induction j with
  | zero => obtain rfl : k = 0 := by omega
            exact Nat.le_refl _
  | succ j ih =>
    rcases Nat.lt_or_ge j k with h' | h'
    · obtain rfl : k = j + 1 := by omega
      exact Nat.le_refl _
    · refine Nat.le_trans (ih h') ?_
      rw [seg_succ, List.length_append]; omega
def cap (n : Nat) : Nat := min n 201
theorem cap_step {a c b : Nat} : cap (cap a + c * cap b) = cap (a + c * b) := by
  unfold cap
  rcases Nat.lt_or_ge 201 b with hb | hb
  · rw [show min b 201 = 201 by omega]
    rcases Nat.eq_zero_or_pos c with rfl | hc
    · simp
    · have h1 : b ≤ c * b := Nat.le_mul_of_pos_left b hc
      have h2 : 201 ≤ c * 201 := Nat.le_mul_of_pos_left 201 hc
      omega
  · rw [show min b 201 = b by omega]; omega
theorem F_count_ok {g : List LL} (h : GI g) : ∀ (fu : Nat) {m l : Nat}, m ≤ 3 → l < g.length → Okk (m + 1 ≤ fu) (F_impl_grounds_count fu g m l) (· = (cap (lst g m l).length : Int))
  | 0, m, l, _, _ => ⟨fun a ha => (by cases ha), fun hx => (by omega)⟩
  | fu + 1, 0, l, _, _ => by
    unfold F_impl_grounds_count lst
    by_cases hl : l = 0
    · subst hl; exact .some rfl
    · have : ((l : Int) == 0) = false := beq_eq_false_iff_ne.2 (by omega)
      simp only [this, hl, if_false, Bool.false_eq_true, Int.natCast_zero, beq_self_eq_true, if_true]
      exact .some rfl
  | fu + 1, m + 1, l, hm, hl => by
    unfold F_impl_grounds_count
    have hg := h.len
    rw [if_neg (by simp; omega), lst_seg]
    refine Okk.loop (fun s : Int × Int => ∃ k : Nat, s.2 = ((k + 1 : Nat) : Int) ∧ k ≤ l - m ∧ s.1 = (cap (seg g m l k).length : Int)) (fun s : Int × Int => l + 1 - s.2.toNat) ⟨0, rfl, by omega, by simp [seg, cap]⟩ ?_
    rintro ⟨sm, n⟩ ⟨k, h1, h2, h3⟩
    simp only at h1 h3
    subst h1 h3
    have hw : IntKind.i64.wrap (IntKind.i64.wrap ((l : Int) - ((m + 1 : Nat) : Int)) + 1) = (l : Int) - m := by rw [w64 (n := (l : Int) - ((m + 1 : Nat) : Int)) (by omega) (by omega), w64 (by omega) (by omega)]; omega
    simp only [F_impl_grounds_count_l1, hw]
    by_cases hk : k < l - m
    · have c1 : ((k + 1 : Nat) : Int) ≤ (l : Int) - m := by omega
      have c2 : (0 : Int) ≤ ((k + 1 : Nat) : Int) ∧ ((k + 1 : Nat) : Int) < 61 ∧ ((k + 1 : Nat) : Int) < (g.length : Int) := by omega
      simp only [c1, c2, decide_true, if_true, and_self, Int.toNat_natCast, w64 (n := ((k + 1 : Nat) : Int) + 1) (by omega) (by omega)]
      have hseg : (seg g m l (k + 1)).length = (seg g m l k).length + (g.getD (k + 1) default).length * (lst g m (l - (k + 1))).length := by rw [seg_succ, List.length_append, pce_len]
      by_cases hp : 0 < (g.getD (k + 1) default).length
      · have hp' : (0 : Int) < ((g.getD (k + 1) default).length : Int) := by omega
        simp only [hp', decide_true, if_true]
        have e1 : IntKind.i64.wrap (((m + 1 : Nat) : Int) - 1) = (m : Int) := by rw [w64 (by omega) (by omega)]; omega
        have e2 : IntKind.i64.wrap ((l : Int) - ((k + 1 : Nat) : Int)) = ((l - (k + 1) : Nat) : Int) := by rw [w64 (by omega) (by omega)]; omega
        rw [e1, e2]
        refine .bind ((F_count_ok h fu (m := m) (l := l - (k + 1)) (by omega) (by omega)).weak (by omega)) ?_
        rintro r rfl
        refine .some ⟨⟨k + 1, by simp, by omega, ?_⟩, by simp; omega⟩
        have hb : cap (lst g m (l - (k + 1))).length ≤ 201 := Nat.min_le_right _ _
        have hb2 : cap (seg g m l k).length ≤ 201 := Nat.min_le_right _ _
        have hsz := h.sz (k + 1)
        have hmul : (g.getD (k + 1) default).length * cap (lst g m (l - (k + 1))).length ≤ 200 * 201 := Nat.mul_le_mul hsz hb
        have hcast : ((g.getD (k + 1) default).length : Int) * (cap (lst g m (l - (k + 1))).length : Int) = (((g.getD (k + 1) default).length * cap (lst g m (l - (k + 1))).length : Nat) : Int) := by simp
        have hst := cap_step (a := (seg g m l k).length) (c := (g.getD (k + 1) default).length) (b := (lst g m (l - (k + 1))).length)
        rw [← hseg] at hst
        simp only [hcast]
        generalize (g.getD (k + 1) default).length * cap (lst g m (l - (k + 1))).length = q at *
        rw [w64 (n := (q : Int)) (by omega) (by omega), w64 (n := (cap (seg g m l k).length : Int) + (q : Int)) (by omega) (by omega)]
        rw [← hst]
        generalize cap (seg g m l k).length = a at *
        unfold cap
        split <;> omega
      · have hp' : ¬ (0 : Int) < ((g.getD (k + 1) default).length : Int) := by omega
        simp only [hp', decide_false, Bool.false_eq_true, if_false]
        refine .some ⟨⟨k + 1, by simp, by omega, ?_⟩, by simp; omega⟩
        rw [hseg, show (g.getD (k + 1) default).length = 0 by omega, Nat.zero_mul]
        rfl
    · have c1 : ¬ ((k + 1 : Nat) : Int) ≤ (l : Int) - m := by omega
      simp only [c1, decide_false, Bool.false_eq_true, if_false, Option.map_some]
      refine .some ?_
      rw [show k = l - m by omega]
      show _ = _
      rfl
theorem F_count_eq {g : List LL} (h : GI g) {m l : Nat} (hm : m ≤ 3) (hl : l < g.length) : F_impl_grounds_count_all g m l = some (cap (lst g m l).length : Int) :=
  (Okk.lim (t := True) (m + 1) fun n => F_count_ok h n hm hl).eq
end Go.Proofs.YtcbfefbocpikoaaGreat
namespace Go.Proofs.YtcbfefbocpikoaaGreat
open Go Abx Tm
theorem concat2 {a b : List Int} (ha : a.length ≤ 60) (hb : b.length ≤ 60) : F_slices_Concat_int64_int64 [a, b] = some (a ++ b) := by
  rw [F_slices_Concat_eq (by simp) (by simp [ha, hb])]; simp
theorem lists_l3 {g : List LL} {l : Int} {n : Nat} {r o : LL} {i : Nat} (hi : i < (g.getD n default).length) (hx : ((g.getD n default).getD i default).length ≤ 60) (hr : ∀ u ∈ r, u.length ≤ 60) (hb : o.length + r.length < 5000000000000) (hi2 : i < 1000) :
    loopC (F_impl_grounds_lists_l3 g l (n : Int) r (i : Int)) (o, 0) = some (.inl (o ++ r.map ((g.getD n default).getD i default ++ ·), (i : Int) + 1)) := by
  have h0 : (o ++ (r.take 0).map ((g.getD n default).getD i default ++ ·), ((0 : Nat) : Int)) = (o, (0 : Int)) := by simp
  rw [← h0]
  refine loop_st (n := r.length) (fun j => (o ++ (r.take j).map ((g.getD n default).getD i default ++ ·), (j : Int))) (fun j hj => ?_) ?_
  · have hl : (o ++ (r.take j).map ((g.getD n default).getD i default ++ ·)).length = o.length + j := by simp; omega
    simp only [F_impl_grounds_lists_l3, show (j : Int) < r.length by omega, decide_true, if_true, show (0 : Int) ≤ j by omega, and_self, Int.toNat_natCast, w64 (n := (j : Int) + 1) (by omega) (by omega), concat2 hx (hr _ (getD_mem hj)), Option.bind_some, hl, show (o.length + j + 1) * 24 ≤ 140737488355328 by omega]
    rw [List.take_succ_eq_append_getElem hj, List.map_append, ← List.append_assoc, getD_get hj]
    rfl
  · simp only [F_impl_grounds_lists_l3, show ¬ (r.length : Int) < r.length by omega, decide_false, Bool.false_eq_true, if_false, Option.map_some, List.take_length, w64 (n := (i : Int) + 1) (by omega) (by omega)]
theorem lists_l2 {g : List LL} {l : Int} {n : Nat} {r o : LL} (hg : GI g) (hn60 : n ≤ 60) (hr : ∀ u ∈ r, u.length ≤ 60) (hb : o.length + (g.getD n default).length * r.length < 5000000000000) :
    loopC (F_impl_grounds_lists_l2 g l (n : Int) r) (o, 0) = some (.inl (o ++ (g.getD n default).flatMap fun t => r.map (t ++ ·), (n : Int) + 1)) := by
  have h0 : (o ++ ((g.getD n default).take 0).flatMap (fun t => r.map (t ++ ·)), ((0 : Nat) : Int)) = (o, (0 : Int)) := by simp
  rw [← h0]
  have hsz := hg.sz n
  refine loop_st (n := (g.getD n default).length) (fun i => (o ++ ((g.getD n default).take i).flatMap (fun t => r.map (t ++ ·)), (i : Int))) (fun i hi => ?_) ?_
  · have hl : (o ++ ((g.getD n default).take i).flatMap (fun t => r.map (t ++ ·))).length = o.length + i * r.length := by rw [List.length_append, fm_len, List.length_take]; congr 2; omega
    have hm : (i + 1) * r.length ≤ (g.getD n default).length * r.length := Nat.mul_le_mul_right _ hi
    rw [Nat.succ_mul] at hm
    have hx : ((g.getD n default).getD i default).length ≤ 60 := by have := hg.el n _ (getD_mem hi); omega
    have h3 := lists_l3 (g := g) (l := l) (n := n) (r := r) (o := o ++ ((g.getD n default).take i).flatMap (fun t => r.map (t ++ ·))) hi hx hr (by rw [hl]; omega) (by omega)
    simp only [F_impl_grounds_lists_l2, Int.toNat_natCast, show (i : Int) < (g.getD n default).length by omega, decide_true, if_true, show (0 : Int) ≤ i by omega, and_self, h3]
    rw [List.take_succ_eq_append_getElem hi, List.flatMap_append, ← List.append_assoc, getD_get hi]
    simp
  · simp only [F_impl_grounds_lists_l2, Int.toNat_natCast, show ¬ ((g.getD n default).length : Int) < (g.getD n default).length by omega, decide_false, Bool.false_eq_true, if_false, Option.map_some, List.take_length, w64 (n := (n : Int) + 1) (by omega) (by omega)]
theorem F_lists_ok {g : List LL} (h : GI g) : ∀ (fu : Nat) {m l : Nat}, m ≤ 3 → l < g.length → Okk (m + 1 ≤ fu) (F_impl_grounds_lists fu g m l) (· = lst g m l)
  | 0, m, l, _, _ => ⟨fun a ha => (by cases ha), fun hx => (by omega)⟩
  | fu + 1, 0, l, _, _ => by
    unfold F_impl_grounds_lists lst
    by_cases hl : l = 0
    · subst hl; exact .some rfl
    · have : ((l : Int) == 0) = false := beq_eq_false_iff_ne.2 (by omega)
      simp only [this, hl, if_false, Bool.false_eq_true, Int.natCast_zero, beq_self_eq_true, if_true]
      exact .some rfl
  | fu + 1, m + 1, l, hm, hl => by
    unfold F_impl_grounds_lists
    have hg := h.len
    have hT := lst_bnd h hm l (by omega)
    have hT2 : 12000 ^ (m + 1) ≤ 1728000000000 := by
      have : m = 0 ∨ m = 1 ∨ m = 2 := by omega
      rcases this with rfl | rfl | rfl <;> decide
    rw [if_neg (by simp; omega), lst_seg]
    rw [lst_succ] at hT
    refine Okk.loop (fun s : LL × Int => ∃ k : Nat, s.2 = ((k + 1 : Nat) : Int) ∧ k ≤ l - m ∧ s.1 = seg g m l k) (fun s : LL × Int => l + 1 - s.2.toNat) ⟨0, rfl, by omega, by simp [seg]⟩ ?_
    rintro ⟨out, n⟩ ⟨k, h1, h2, h3⟩
    simp only at h1 h3
    subst h1 h3
    have hw : IntKind.i64.wrap (IntKind.i64.wrap ((l : Int) - ((m + 1 : Nat) : Int)) + 1) = (l : Int) - m := by rw [w64 (n := (l : Int) - ((m + 1 : Nat) : Int)) (by omega) (by omega), w64 (by omega) (by omega)]; omega
    simp only [F_impl_grounds_lists_l1, hw]
    by_cases hk : k < l - m
    · have c1 : ((k + 1 : Nat) : Int) ≤ (l : Int) - m := by omega
      have c2 : (0 : Int) ≤ ((k + 1 : Nat) : Int) ∧ ((k + 1 : Nat) : Int) < 61 ∧ ((k + 1 : Nat) : Int) < (g.length : Int) := by omega
      simp only [c1, c2, decide_true, if_true, and_self, Int.toNat_natCast, w64 (n := ((k + 1 : Nat) : Int) + 1) (by omega) (by omega)]
      have hlen : (seg g m l k).length + (g.getD (k + 1) default).length * (lst g m (l - (k + 1))).length ≤ 1728000000000 := by
        have e : (seg g m l (k + 1)).length = (seg g m l k).length + (g.getD (k + 1) default).length * (lst g m (l - (k + 1))).length := by rw [seg_succ, List.length_append, pce_len]
        have := seg_le (g := g) (m := m) (l := l) (k := k + 1) (j := l) (by omega)
        omega
      by_cases hp : (g.getD (k + 1) default).length = 0
      · have hp' : (((g.getD (k + 1) default).length : Int) == 0) = true := by rw [hp]; rfl
        simp only [hp', if_true]
        refine .some ⟨⟨k + 1, by simp, by omega, ?_⟩, by simp; omega⟩
        have : pce g m l (k + 1) = [] := by rw [pce, List.length_eq_zero_iff.1 hp]; rfl
        rw [seg_succ, this, List.append_nil]
      · have hp' : (((g.getD (k + 1) default).length : Int) == 0) = false := beq_eq_false_iff_ne.2 (by omega)
        simp only [hp', Bool.false_eq_true, if_false]
        have e1 : IntKind.i64.wrap (((m + 1 : Nat) : Int) - 1) = (m : Int) := by rw [w64 (by omega) (by omega)]; omega
        have e2 : IntKind.i64.wrap ((l : Int) - ((k + 1 : Nat) : Int)) = ((l - (k + 1) : Nat) : Int) := by rw [w64 (by omega) (by omega)]; omega
        rw [e1, e2]
        refine .bind ((F_lists_ok h fu (m := m) (l := l - (k + 1)) (by omega) (by omega)).weak (by omega)) ?_
        rintro r rfl
        have h2 := lists_l2 (g := g) (l := (l : Int)) (n := k + 1) (r := lst g m (l - (k + 1))) (o := seg g m l k) h (by omega) (fun u hu => by have := lst_el h u hu; omega) (by omega)
        refine .of h2 ⟨⟨k + 1, by simp, by omega, ?_⟩, by simp; omega⟩
        rw [seg_succ]; rfl
    · have c1 : ¬ ((k + 1 : Nat) : Int) ≤ (l : Int) - m := by omega
      simp only [c1, decide_false, Bool.false_eq_true, if_false, Option.map_some]
      refine .some ?_
      rw [show k = l - m by omega]
      show _ = _
      rfl
theorem F_lists_eq {g : List LL} (h : GI g) {m l : Nat} (hm : m ≤ 3) (hl : l < g.length) : F_impl_grounds_lists_all g m l = some (lst g m l) :=
  (Okk.lim (t := True) (m + 1) fun n => F_lists_ok h n hm hl).eq
theorem take_app {α : Type} {N : Nat} {A B : List α} : (A.take N ++ B).take N = (A ++ B).take N := by
  rcases Nat.le_total A.length N with h | h
  · rw [List.take_of_length_le h]
  · rw [List.take_append_of_le_length (by simp; omega), List.take_append_of_le_length h, List.take_take]; simp
theorem cut_fm {α β γ : Type} {N : Nat} {f : α → β → γ} {r : List β} : ∀ {xs : List α} {o : List γ}, (o ++ xs.flatMap fun t => (r.take N).map (f t)).take N = (o ++ xs.flatMap fun t => r.map (f t)).take N
  | [], o => rfl
  | x :: xs, o => by
    rw [List.flatMap_cons, List.flatMap_cons, ← List.append_assoc, cut_fm (xs := xs), ← List.append_assoc]
    rcases Nat.le_total r.length N with h | h
    · rw [List.take_of_length_le h]
    · have e : r.map (f x) = (r.take N).map (f x) ++ (r.drop N).map (f x) := by rw [← List.map_append, List.take_append_drop]
      have hA : ((r.take N).map (f x)).length = N := by rw [List.length_map, List.length_take]; omega
      rw [e]
      generalize (r.take N).map (f x) = A at *
      generalize xs.flatMap (fun t => r.map (f t)) = X
      rw [← List.append_assoc o A, List.append_assoc (o ++ A) _ X, List.take_append_of_le_length (l₁ := o ++ A) (by rw [List.length_append]; omega), List.take_append_of_le_length (l₁ := o ++ A) (by rw [List.length_append]; omega)]
theorem rows_l3 {g : List LL} {k i : Nat} {r o : LL} (hk : k < g.length) (hk60 : k ≤ 60) (hi : i < (g.getD k default).length) (hx : ((g.getD k default).getD i default).length ≤ 60) (hr : ∀ u ∈ r, u.length ≤ 60) (hrl : r.length ≤ 201) (ho : o.length ≤ 201) (hi2 : i < 1000) :
    loopC (F_spec_l25Rows_l3 g (k : Int) r (i : Int)) (o, 0) = some (.inl ((o ++ r.map ((g.getD k default).getD i default ++ ·)).take 201, (i : Int) + 1)) := by
  have := loopC_is (f := F_spec_l25Rows_l3 g (k : Int) r (i : Int)) (fun s => some (.inl ((s.1 ++ (r.drop s.2.toNat).map ((g.getD k default).getD i default ++ ·)).take 201, (i : Int) + 1))) (fun s : LL × Int => ∃ x : Nat, s.2 = (x : Int) ∧ x ≤ r.length ∧ s.1.length ≤ 201) (fun s : LL × Int => r.length - s.2.toNat) ?_ (o, 0) ⟨0, rfl, by omega, ho⟩
  · simpa using this
  · rintro ⟨q, x'⟩ ⟨x, h1, h2, h3⟩
    simp only at h1 h3
    subst h1
    have hw : IntKind.i64.wrap ((i : Int) + 1) = (i : Int) + 1 := w64 (by omega) (by omega)
    by_cases hlt : x < r.length
    · have cp := F_spec_l1Copy_eq (l := (g.getD k default).getD i default) (by show List.length _ < _; omega)
      have hu := hr _ (getD_mem hlt)
      by_cases hq : q.length ≤ 200
      · refine .inl ⟨(q ++ [(g.getD k default).getD i default ++ r.getD x default], ((x + 1 : Nat) : Int)), ?_, ⟨x + 1, rfl, by omega, by simp; omega⟩, by simp; omega, ?_⟩
        · simp only [F_spec_l25Rows_l3, show (x : Int) < r.length by omega, decide_true, if_true, show (q.length : Int) ≤ 200 by omega, show (0 : Int) ≤ k by omega, show (k : Int) < g.length by omega, show (0 : Int) ≤ i by omega, show (i : Int) < (g.getD k default).length by omega, show (0 : Int) ≤ x by omega, and_self, Int.toNat_natCast, cp, Option.bind_some, w64 (n := (x : Int) + 1) (by omega) (by omega), show (((g.getD k default).getD i default).length + (r.getD x default).length) * 8 ≤ 140737488355328 by omega, show (q.length + 1) * 24 ≤ 140737488355328 by omega]
          rfl
        · simp only [Int.toNat_natCast]
          rw [List.drop_eq_getElem_cons hlt, List.map_cons, List.append_assoc, List.singleton_append, getD_get hlt]
      · refine .inr ⟨.inl (q, (i : Int) + 1), ?_, ?_⟩
        · simp only [F_spec_l25Rows_l3, show (x : Int) < r.length by omega, decide_true, if_true, show ¬ (q.length : Int) ≤ 200 by omega, decide_false, Bool.false_eq_true, if_false, Option.map_some, hw]
        · dsimp only
          rw [List.take_append_of_le_length (by omega), List.take_of_length_le (by omega)]
    · obtain rfl : x = r.length := by omega
      refine .inr ⟨.inl (q, (i : Int) + 1), ?_, ?_⟩
      · simp only [F_spec_l25Rows_l3, show ¬ (r.length : Int) < r.length by omega, decide_false, Bool.false_eq_true, if_false, Option.map_some, hw]
      · simp only [Int.toNat_natCast, List.drop_length, List.map_nil, List.append_nil]
        rw [List.take_of_length_le (by omega)]
theorem rows_l2 {g : List LL} {k : Nat} {r o : LL} (hg : GI g) (hk : k < g.length) (hr : ∀ u ∈ r, u.length ≤ 60) (hrl : r.length ≤ 201) (ho : o.length ≤ 201) :
    loopC (F_spec_l25Rows_l2 g (k : Int) r) (o, 0) = some (.inl ((o ++ (g.getD k default).flatMap fun t => r.map (t ++ ·)).take 201, (k : Int) + 1)) := by
  have hlen := hg.len
  have hsz := hg.sz k
  have := loopC_is (f := F_spec_l25Rows_l2 g (k : Int) r) (fun s => some (.inl ((s.1 ++ ((g.getD k default).drop s.2.toNat).flatMap fun t => r.map (t ++ ·)).take 201, (k : Int) + 1))) (fun s : LL × Int => ∃ i : Nat, s.2 = (i : Int) ∧ i ≤ (g.getD k default).length ∧ s.1.length ≤ 201) (fun s : LL × Int => (g.getD k default).length - s.2.toNat) ?_ (o, 0) ⟨0, rfl, by omega, ho⟩
  · simpa using this
  · rintro ⟨q, i'⟩ ⟨i, h1, h2, h3⟩
    simp only at h1 h3
    subst h1
    have hw : IntKind.i64.wrap ((k : Int) + 1) = (k : Int) + 1 := w64 (by omega) (by omega)
    have hk0 : (0 : Int) ≤ k := by omega
    have hk1 : (k : Int) < g.length := by omega
    by_cases hlt : i < (g.getD k default).length
    · by_cases hq : q.length ≤ 200
      · have hx : ((g.getD k default).getD i default).length ≤ 60 := by have := hg.el k _ (getD_mem hlt); omega
        have e3 := rows_l3 (g := g) (k := k) (i := i) (r := r) (o := q) hk (by omega) hlt hx hr hrl h3 (by omega)
        have hms : (g.getD k default).length - ((i : Int) + 1).toNat < (g.getD k default).length - (i : Int).toNat := by
          have e9 : ((i : Int) + 1).toNat = i + 1 := by omega
          rw [e9, Int.toNat_natCast]; omega
        refine .inl ⟨((q ++ r.map ((g.getD k default).getD i default ++ ·)).take 201, (i : Int) + 1), ?_, ⟨i + 1, by simp, by omega, by rw [List.length_take]; omega⟩, hms, ?_⟩
        · simp only [F_spec_l25Rows_l2, hk0, hk1, and_self, if_true, Int.toNat_natCast, show (i : Int) < (g.getD k default).length by omega, decide_true, show (q.length : Int) ≤ 200 by omega, e3]
        · have : ((i : Int) + 1).toNat = i + 1 := by omega
          simp only [Int.toNat_natCast, this]
          rw [take_app, List.drop_eq_getElem_cons hlt, List.flatMap_cons, List.append_assoc, getD_get hlt]
      · refine .inr ⟨.inl (q, (k : Int) + 1), ?_, ?_⟩
        · simp only [F_spec_l25Rows_l2, hk0, hk1, and_self, if_true, Int.toNat_natCast, show (i : Int) < (g.getD k default).length by omega, decide_true, show ¬ (q.length : Int) ≤ 200 by omega, decide_false, Bool.false_eq_true, if_false, Option.map_some, hw]
        · dsimp only
          rw [List.take_append_of_le_length (by omega), List.take_of_length_le (by omega)]
    · obtain rfl : i = (g.getD k default).length := by omega
      refine .inr ⟨.inl (q, (k : Int) + 1), ?_, ?_⟩
      · simp only [F_spec_l25Rows_l2, hk0, hk1, and_self, if_true, Int.toNat_natCast, show ¬ ((g.getD k default).length : Int) < (g.getD k default).length by omega, decide_false, Bool.false_eq_true, if_false, Option.map_some, hw]
      · simp only [Int.toNat_natCast, List.drop_length, List.flatMap_nil, List.append_nil]
        rw [List.take_of_length_le (by omega)]
theorem F_rows_ok {g : List LL} (h : GI g) : ∀ (fu : Nat) {m l : Nat}, m ≤ 3 → l < g.length → Okk (m + 1 ≤ fu) (F_spec_l25Rows fu g m l) (· = (lst g m l).take 201)
  | 0, m, l, _, _ => ⟨fun a ha => (by cases ha), fun hx => (by omega)⟩
  | fu + 1, 0, l, _, _ => by
    unfold F_spec_l25Rows lst
    by_cases hl : l = 0
    · subst hl; exact .some rfl
    · have : ((l : Int) == 0) = false := beq_eq_false_iff_ne.2 (by omega)
      simp only [this, hl, if_false, Bool.false_eq_true, Int.natCast_zero, beq_self_eq_true, if_true]
      exact .some rfl
  | fu + 1, m + 1, l, hm, hl => by
    unfold F_spec_l25Rows
    have hg := h.len
    rw [if_neg (by simp; omega), lst_succ]
    refine Okk.loop (fun s : LL × Int => ∃ k : Nat, s.2 = ((k + 1 : Nat) : Int) ∧ k ≤ l ∧ s.1 = (seg g m l k).take 201) (fun s : LL × Int => l + 1 - s.2.toNat) ⟨0, rfl, by omega, by simp [seg]⟩ ?_
    rintro ⟨out, n⟩ ⟨k, h1, h2, h3⟩
    simp only at h1 h3
    subst h1 h3
    simp only [F_spec_l25Rows_l1]
    by_cases hk : k < l
    · have c1 : ((k + 1 : Nat) : Int) ≤ (l : Int) := by omega
      have c2 : (0 : Int) ≤ ((k + 1 : Nat) : Int) ∧ ((k + 1 : Nat) : Int) < (g.length : Int) := by omega
      simp only [c1, c2, decide_true, if_true, and_self, Int.toNat_natCast, w64 (n := ((k + 1 : Nat) : Int) + 1) (by omega) (by omega)]
      by_cases hp : (g.getD (k + 1) default).length = 0
      · have hp' : (((g.getD (k + 1) default).length : Int) == 0) = true := by rw [hp]; rfl
        simp only [hp', if_true]
        refine .some ⟨⟨k + 1, by simp, by omega, ?_⟩, by simp; omega⟩
        have : pce g m l (k + 1) = [] := by rw [pce, List.length_eq_zero_iff.1 hp]; rfl
        rw [seg_succ, this, List.append_nil]
      · have hp' : (((g.getD (k + 1) default).length : Int) == 0) = false := beq_eq_false_iff_ne.2 (by omega)
        simp only [hp', Bool.false_eq_true, if_false]
        have e1 : IntKind.i64.wrap (((m + 1 : Nat) : Int) - 1) = (m : Int) := by rw [w64 (by omega) (by omega)]; omega
        have e2 : IntKind.i64.wrap ((l : Int) - ((k + 1 : Nat) : Int)) = ((l - (k + 1) : Nat) : Int) := by rw [w64 (by omega) (by omega)]; omega
        rw [e1, e2]
        refine .bind ((F_rows_ok h fu (m := m) (l := l - (k + 1)) (by omega) (by omega)).weak (by omega)) ?_
        rintro r rfl
        have h2 := rows_l2 (g := g) (k := k + 1) (r := (lst g m (l - (k + 1))).take 201) (o := (seg g m l k).take 201) h (by omega) (fun u hu => by have := lst_el h u (List.mem_of_mem_take hu); omega) (by simp; omega) (by simp; omega)
        refine .of h2 ⟨⟨k + 1, by simp, by omega, ?_⟩, by simp; omega⟩
        show _ = (seg g m l (k + 1)).take 201
        rw [seg_succ, take_app, cut_fm]; rfl
    · have c1 : ¬ ((k + 1 : Nat) : Int) ≤ (l : Int) := by omega
      simp only [c1, decide_false, Bool.false_eq_true, if_false, Option.map_some]
      refine .some ?_
      rw [show k = l by omega]
      show _ = _
      rfl
theorem F_rows_eq {g : List LL} (h : GI g) {m l : Nat} (hm : m ≤ 3) (hl : l < g.length) : F_spec_l25Rows_all g m l = some ((lst g m l).take 201) :=
  (Okk.lim (t := True) (m + 1) fun n => F_rows_ok h n hm hl).eq
end Go.Proofs.YtcbfefbocpikoaaGreat
namespace Go.Proofs.YtcbfefbocpikoaaGreat
open Go Abx Tm
def pl (a : List Int) (g : List LL) (f : Nat) : LL := ((lst g (a.getD f default).toNat (g.length - 1)).take 201).map fun t => (f : Int) :: t
def lvs (a : List Int) (g : List LL) (k : Nat) : LL := (List.range k).flatMap (pl a g)
def lev (a : List Int) (g : List LL) : LL := sortT (lvs a g a.length)
def gr (a : List Int) : Nat → List LL → LL → LL × Bool
  | 0, _, out => (out, true)
  | r + 1, g, out => if 200 < out.length + (lvs a g a.length).length then ([], false) else gr a r (g ++ [lev a g]) (out ++ lev a g)
theorem lvs_succ (a : List Int) (g : List LL) (k : Nat) : lvs a g (k + 1) = lvs a g k ++ pl a g k := by unfold lvs; rw [List.range_succ, List.flatMap_append]; simp
theorem pl_len (a : List Int) (g : List LL) (f : Nat) : (pl a g f).length = cap (lst g (a.getD f default).toNat (g.length - 1)).length := by
  unfold pl cap; rw [List.length_map, List.length_take]; omega
theorem lvs_le {a : List Int} {g : List LL} : ∀ {k j : Nat}, k ≤ j → (lvs a g k).length ≤ (lvs a g j).length := by
  intro k j h
  induction j with
  | zero => obtain rfl : k = 0 := by omega
            exact Nat.le_refl _
  | succ j ih =>
    rcases Nat.lt_or_ge j k with h' | h'
    · obtain rfl : k = j + 1 := by omega
      exact Nat.le_refl _
    · refine Nat.le_trans (ih h') ?_
      rw [lvs_succ, List.length_append]; omega
theorem lvs_bnd {a : List Int} {g : List LL} : ∀ k, (lvs a g k).length ≤ 201 * k
  | 0 => by simp [lvs]
  | k + 1 => by
    rw [lvs_succ, List.length_append, pl_len]
    have := lvs_bnd (a := a) (g := g) k
    have : cap (lst g (a.getD k default).toNat (g.length - 1)).length ≤ 201 := Nat.min_le_right _ _
    omega
theorem pl_el {a : List Int} {g : List LL} (h : GI g) (h1 : 1 ≤ g.length) {f : Nat} : ∀ t ∈ pl a g f, t.length = g.length := fun t ht => by
  obtain ⟨u, hu, rfl⟩ := List.mem_map.1 ht
  have := lst_el h u (List.mem_of_mem_take hu)
  rw [List.length_cons]; omega
theorem lvs_el {a : List Int} {g : List LL} (h : GI g) (h1 : 1 ≤ g.length) {k : Nat} : ∀ t ∈ lvs a g k, t.length = g.length := fun t ht => by
  obtain ⟨f, _, hf⟩ := List.mem_flatMap.1 ht
  exact pl_el h h1 t hf
theorem GI.next {a : List Int} {g : List LL} (h : GI g) (h1 : 1 ≤ g.length) (h60 : g.length ≤ 60) (hs : (lvs a g a.length).length ≤ 200) : GI (g ++ [lev a g]) := by
  have key : ∀ k, (g ++ [lev a g]).getD k default = if k = g.length then lev a g else g.getD k default := fun k => by
    rw [List.getD_eq_getElem?_getD, List.getD_eq_getElem?_getD]
    split
    · rename_i hk; subst hk; rw [List.getElem?_append_right (Nat.le_refl _)]; simp
    · rename_i hk
      rcases Nat.lt_or_ge k g.length with hk' | hk'
      · rw [List.getElem?_append_left hk']
      · rw [List.getElem?_eq_none (by simp; omega), List.getElem?_eq_none hk']
  refine ⟨by simp; omega, fun k => ?_, fun k t ht => ?_⟩
  · rw [key]; split
    · unfold lev; rw [sortT_len]; exact hs
    · exact h.sz k
  · rw [key] at ht
    split at ht
    · rename_i hk
      rw [hk]
      exact lvs_el h h1 t ((sortT_perm _).mem_iff.1 ht)
    · exact h.el k t ht
theorem ar3 {a : List Int} (ha : sigOk a = true) {f : Nat} (hf : f < a.length) : (a.getD f default).toNat ≤ 3 ∧ (a.getD f default) = ((a.getD f default).toNat : Int) := by
  have := (sigOk_iff.1 ha).2.2 _ (getD_mem hf)
  omega
theorem fg_l6 {f : Nat} {r h : LL} (hf : f < 8) (hr : r.length ≤ 201) (hu : ∀ u ∈ r, u.length ≤ 60) (hh : h.length ≤ 2000) :
    loopC (FG_l6 (f : Int) r (f : Int)) (h, 0) = some (.inl (h ++ r.map fun t => (f : Int) :: t, (f : Int) + 1)) := by
  have h0 : (h ++ (r.take 0).map (fun t => (f : Int) :: t), ((0 : Nat) : Int)) = (h, (0 : Int)) := by simp
  rw [← h0]
  refine loop_st (n := r.length) (fun j => (h ++ (r.take j).map (fun t => (f : Int) :: t), (j : Int))) (fun j hj => ?_) ?_
  · have hl : (h ++ (r.take j).map (fun t => (f : Int) :: t)).length = h.length + j := by simp; omega
    simp only [FG_l6, show (j : Int) < r.length by omega, decide_true, if_true, show (0 : Int) ≤ j by omega, and_self, Int.toNat_natCast, w64 (n := (j : Int) + 1) (by omega) (by omega), concat2 (a := [(f : Int)]) (by simp) (hu _ (getD_mem hj)), Option.bind_some, hl, show (h.length + j + 1) * 24 ≤ 140737488355328 by omega]
    rw [List.take_succ_eq_append_getElem hj, List.map_append, ← List.append_assoc, getD_get hj]
    rfl
  · simp only [FG_l6, show ¬ (r.length : Int) < r.length by omega, decide_false, Bool.false_eq_true, if_false, Option.map_some, List.take_length, w64 (n := (f : Int) + 1) (by omega) (by omega)]
def nxt (a : List Int) (g : List LL) (out : LL) : GSt ⊕ (LL × Bool) := if 200 < out.length + (lvs a g a.length).length then .inr ([], false) else .inl (g ++ [lev a g], out ++ lev a g)
theorem fg_l4 {a : List Int} {g : List LL} {out : LL} (ha : sigOk a = true) (h : GI g) (h1 : 1 ≤ g.length) (hs : out.length + (lvs a g a.length).length ≤ 200) :
    loopC (FG_l4 a g out) ([], 0) = some (.inl (g ++ [lev a g], out ++ lev a g)) := by
  have ha8 := (sigOk_iff.1 ha).2.1
  have hg := h.len
  have hw : IntKind.i64.wrap ((g.length : Int) - 1) = ((g.length - 1 : Nat) : Int) := by rw [w64 (by omega) (by omega)]; omega
  refine loop_st (n := a.length) (fun k => (lvs a g k, (k : Int))) (fun k hk => ?_) ?_
  · obtain ⟨m3, me⟩ := ar3 ha hk
    have el := F_lists_eq h (m := (a.getD k default).toNat) (l := g.length - 1) m3 (by omega)
    have hpl : (pl a g k).length ≤ 200 := by
      have := lvs_le (a := a) (g := g) (k := k + 1) (j := a.length) (by omega)
      rw [lvs_succ, List.length_append] at this; omega
    have hll : (lst g (a.getD k default).toNat (g.length - 1)).length ≤ 200 := by
      rw [pl_len] at hpl; unfold cap at hpl; omega
    have hlk := lvs_le (a := a) (g := g) (k := k) (j := a.length) (by omega)
    have e6 := fg_l6 (f := k) (r := lst g (a.getD k default).toNat (g.length - 1)) (h := lvs a g k) (by omega) (by omega) (fun u hu => by have := lst_el h u hu; omega) (by omega)
    simp only [FG_l4, show (k : Int) < a.length by omega, decide_true, if_true, show (0 : Int) ≤ k by omega, and_self, Int.toNat_natCast, hw]
    rw [me, el, Option.bind_some, e6, lvs_succ]
    unfold pl
    rw [List.take_of_length_le (by omega)]
    rfl
  · have es : F_sortT (lvs a g a.length) = some () := by
      unfold F_sortT
      refine if_pos ⟨by omega, fun x hx => by have := lvs_el h h1 x hx; omega⟩
    have hb : (out.length + (sortT (lvs a g a.length)).length) * 24 ≤ 140737488355328 := by rw [sortT_len]; omega
    simp only [FG_l4, show ¬ (a.length : Int) < a.length by omega, decide_false, Bool.false_eq_true, if_false, es, Option.bind_some, hb, if_true, Option.map_some]
    rfl
theorem fg_l2 {a : List Int} {g : List LL} {out : LL} (ha : sigOk a = true) (h : GI g) (h1 : 1 ≤ g.length) (ho : out.length ≤ 200) :
    loopC (FG_l2 a g out) ((out.length : Int), 0) = some (nxt a g out) := by
  have ha8 := (sigOk_iff.1 ha).2.1
  have hg := h.len
  have hw : IntKind.i64.wrap ((g.length : Int) - 1) = ((g.length - 1 : Nat) : Int) := by rw [w64 (by omega) (by omega)]; omega
  have h0 : (((out.length + (lvs a g 0).length : Nat) : Int), ((0 : Nat) : Int)) = ((out.length : Int), (0 : Int)) := by simp [lvs]
  rw [← h0]
  refine loop_st (n := a.length) (fun k => (((out.length + (lvs a g k).length : Nat) : Int), (k : Int))) (fun k hk => ?_) ?_
  · obtain ⟨m3, me⟩ := ar3 ha hk
    have ec := F_count_eq h (m := (a.getD k default).toNat) (l := g.length - 1) m3 (by omega)
    have hb := lvs_bnd (a := a) (g := g) (k + 1)
    have hs : (lvs a g (k + 1)).length = (lvs a g k).length + cap (lst g (a.getD k default).toNat (g.length - 1)).length := by rw [lvs_succ, List.length_append, pl_len]
    simp only [FG_l2, show (k : Int) < a.length by omega, decide_true, if_true, show (0 : Int) ≤ k by omega, and_self, Int.toNat_natCast, hw]
    rw [me, ec, Option.bind_some, hs]
    rw [w64 (n := (k : Int) + 1) (by omega) (by omega), w64 (by omega) (by omega)]
    refine congrArg (fun x => some (Sum.inl x)) (Prod.ext ?_ (by simp))
    show ((out.length + (lvs a g k).length : Nat) : Int) + _ = _
    omega
  · simp only [FG_l2, show ¬ (a.length : Int) < a.length by omega, decide_false, Bool.false_eq_true, if_false]
    unfold nxt
    by_cases hq : 200 < out.length + (lvs a g a.length).length
    · rw [if_pos (by simpa using (by omega : (200 : Int) < ((out.length + (lvs a g a.length).length : Nat) : Int))), if_pos hq]; rfl
    · rw [if_neg (by simpa using (by omega : ((out.length + (lvs a g a.length).length : Nat) : Int) ≤ 200)), if_neg hq, fg_l4 ha h h1 (by omega)]; rfl
theorem gr_step {a : List Int} {r : Nat} {g : List LL} {out : LL} : gr a (r + 1) g out = match nxt a g out with | .inl s => gr a r s.1 s.2 | .inr b => b := by
  rw [gr]; unfold nxt; split <;> rfl
theorem fg_l1 {a : List Int} {n : Nat} (ha : sigOk a = true) (hn : n ≤ 60) : ∀ (r : Nat) {g : List LL} {out : LL}, GI g → 1 ≤ g.length → out.length ≤ 200 → g.length + r = n + 1 → loopC (FG_l1 a n) (g, out) = some (gr a r g out)
  | 0, g, out, h, h1, ho, hr => by
    refine loopC_inr ?_
    simp only [FG_l1, show ¬ (g.length : Int) ≤ n by omega, decide_false, Bool.false_eq_true, if_false, Option.map_some, gr]
  | r + 1, g, out, h, h1, ho, hr => by
    have e : FG_l1 a n (g, out) = some (nxt a g out) := by
      simp only [FG_l1, show (g.length : Int) ≤ n by omega, decide_true, if_true, show g.length < 61 by omega, fg_l2 ha h h1 ho]
    rw [gr_step]
    unfold nxt at e ⊢
    split at e
    · rename_i hq
      rw [if_pos hq]
      exact loopC_inr e
    · rename_i hq
      rw [if_neg hq, loopC_inl e]
      refine fg_l1 ha hn r (h.next h1 (by omega) (by omega)) (by simp) ?_ (by simp; omega)
      rw [List.length_append]; unfold lev; rw [sortT_len]; omega
def grds (a : List Int) (n : Int) : LL × Bool := if sigOk a = true ∧ 1 ≤ n ∧ n ≤ 60 then gr a n.toNat [[]] [] else ([], false)
theorem gi0 : GI [[]] := ⟨by simp, fun k => by
    cases k with
    | zero => simp
    | succ k => exact Nat.zero_le _, fun k t ht => by
    cases k with
    | zero => simp at ht
    | succ k => exact absurd (show t ∈ ([] : LL) from ht) (by simp)⟩
theorem F_impl_GroundsOf_eq (a : List Int) (n : Int) : F_impl_GroundsOf a n = some (grds a n) := by
  unfold F_impl_GroundsOf grds
  rw [F_impl_SigOk_eq, Option.bind_some]
  cases ha : sigOk a with
  | false => simp
  | true =>
    by_cases h1 : n < 1
    · simp [h1, show ¬ 1 ≤ n by omega]
    · by_cases h2 : 60 < n
      · simp [h1, h2, show ¬ n ≤ 60 by omega]
      · obtain ⟨k, rfl⟩ := Int.eq_ofNat_of_zero_le (show 0 ≤ n by omega)
        have := fg_l1 (a := a) (n := k) ha (by omega) k (g := [[]]) (out := []) gi0 (by simp) (by simp) (by simp; omega)
        simp only [if_true, h1, h2, decide_false, Bool.false_eq_true, if_false, Int.toNat_natCast, this]
        rw [if_pos ⟨trivial, by omega, by omega⟩]
theorem sg_l3 {f : Nat} {r h : LL} (hf : f < 8) (hr : r.length ≤ 201) (hu : ∀ u ∈ r, u.length ≤ 60) (hh : h.length ≤ 2000) :
    loopC (F_spec_GroundsOf_l3 (f : Int) r) (sortT h, 0) = some (.inl (sortT (h ++ r.map fun t => (f : Int) :: t), (f : Int) + 1)) := by
  have h0 : (sortT (h ++ (r.take 0).map (fun t => (f : Int) :: t)), ((0 : Nat) : Int)) = (sortT h, (0 : Int)) := by simp
  rw [← h0]
  refine loop_st (n := r.length) (fun j => (sortT (h ++ (r.take j).map (fun t => (f : Int) :: t)), (j : Int))) (fun j hj => ?_) ?_
  · have hl : (h ++ (r.take j).map (fun t => (f : Int) :: t)).length = h.length + j := by simp; omega
    have hu' := hu _ (getD_mem hj)
    have ei := insert_sort (g := h ++ (r.take j).map (fun t => (f : Int) :: t)) (t := [(f : Int)] ++ r.getD j default) (by omega) (by show List.length _ < _; simp only [List.length_append, List.length_singleton]; omega)
    simp only [F_spec_GroundsOf_l3, show (j : Int) < r.length by omega, decide_true, if_true, show (0 : Int) ≤ j by omega, and_self, Int.toNat_natCast, w64 (n := (j : Int) + 1) (by omega) (by omega), show (1 + (r.getD j default).length) * 8 ≤ 140737488355328 by omega, ei, Option.bind_some]
    rw [List.take_succ_eq_append_getElem hj, List.map_append, ← List.append_assoc, getD_get hj]
    rfl
  · simp only [F_spec_GroundsOf_l3, show ¬ (r.length : Int) < r.length by omega, decide_false, Bool.false_eq_true, if_false, Option.map_some, List.take_length, w64 (n := (f : Int) + 1) (by omega) (by omega)]
theorem sg_l2 {a : List Int} {g : List LL} {out : LL} (ha : sigOk a = true) (h : GI g) (h1 : 1 ≤ g.length) (h60 : g.length ≤ 60) (ho : out.length ≤ 200) :
    loopC (F_spec_GroundsOf_l2 a g out (g.length : Int)) ([], 0) = some (match nxt a g out with | .inl s => .inl (s.1, s.2, (g.length : Int) + 1) | .inr b => .inr b) := by
  have ha8 := (sigOk_iff.1 ha).2.1
  have hg := h.len
  have hw : IntKind.i64.wrap ((g.length : Int) - 1) = ((g.length - 1 : Nat) : Int) := by rw [w64 (by omega) (by omega)]; omega
  have h0 : (sortT (lvs a g 0), ((0 : Nat) : Int)) = (([] : LL), (0 : Int)) := by simp [lvs, sortT]
  rw [← h0]
  refine loop_st (n := a.length) (fun k => (sortT (lvs a g k), (k : Int))) (fun k hk => ?_) ?_
  · obtain ⟨m3, me⟩ := ar3 ha hk
    have el := F_rows_eq h (m := (a.getD k default).toNat) (l := g.length - 1) m3 (by omega)
    have hb := lvs_bnd (a := a) (g := g) k
    have e6 := sg_l3 (f := k) (r := (lst g (a.getD k default).toNat (g.length - 1)).take 201) (h := lvs a g k) (by omega) (by simp; omega) (fun u hu => by have := lst_el h u (List.mem_of_mem_take hu); omega) (by omega)
    simp only [F_spec_GroundsOf_l2, show (k : Int) < a.length by omega, decide_true, if_true, show (0 : Int) ≤ k by omega, and_self, Int.toNat_natCast, hw]
    rw [me, el, Option.bind_some, e6, lvs_succ]
    rfl
  · have hb := lvs_bnd (a := a) (g := g) a.length
    have hl : (sortT (lvs a g a.length)).length = (lvs a g a.length).length := sortT_len
    have hl2 : (out ++ sortT (lvs a g a.length)).length = out.length + (lvs a g a.length).length := by rw [List.length_append, hl]
    simp only [F_spec_GroundsOf_l2, show ¬ (a.length : Int) < a.length by omega, decide_false, Bool.false_eq_true, if_false, show (g.length + 1) * 24 ≤ 140737488355328 by omega, hl, hl2, show (out.length + (lvs a g a.length).length) * 24 ≤ 140737488355328 by omega, if_true, w64 (n := (g.length : Int) + 1) (by omega) (by omega)]
    unfold nxt
    by_cases hq : 200 < out.length + (lvs a g a.length).length
    · rw [if_pos (by simpa using (by omega : (200 : Int) < ((out.length + (lvs a g a.length).length : Nat) : Int))), if_pos hq]; rfl
    · rw [if_neg (by simpa using (by omega : ((out.length + (lvs a g a.length).length : Nat) : Int) ≤ 200)), if_neg hq]; rfl
theorem sg_l1 {a : List Int} {n : Nat} (ha : sigOk a = true) (hn : n ≤ 60) : ∀ (r : Nat) {g : List LL} {out : LL}, GI g → 1 ≤ g.length → out.length ≤ 200 → g.length + r = n + 1 → loopC (F_spec_GroundsOf_l1 a n) (g, out, (g.length : Int)) = some (gr a r g out)
  | 0, g, out, h, h1, ho, hr => by
    refine loopC_inr ?_
    simp only [F_spec_GroundsOf_l1, show ¬ (g.length : Int) ≤ n by omega, decide_false, Bool.false_eq_true, if_false, Option.map_some, gr]
  | r + 1, g, out, h, h1, ho, hr => by
    have e : F_spec_GroundsOf_l1 a n (g, out, (g.length : Int)) = some (match nxt a g out with | .inl s => .inl (s.1, s.2, (g.length : Int) + 1) | .inr b => .inr b) := by
      simp only [F_spec_GroundsOf_l1, show (g.length : Int) ≤ n by omega, decide_true, if_true, sg_l2 ha h h1 (by omega) ho]
    rw [gr_step]
    unfold nxt at e ⊢
    by_cases hq : 200 < out.length + (lvs a g a.length).length
    · rw [if_pos hq] at e ⊢
      exact loopC_inr e
    · rw [if_neg hq] at e ⊢
      rw [loopC_inl e]
      have hl : (g.length : Int) + 1 = ((g ++ [lev a g]).length : Int) := by simp
      dsimp only
      rw [hl]
      refine sg_l1 ha hn r (h.next h1 (by omega) (by omega)) (by simp) ?_ (by simp; omega)
      rw [List.length_append]; unfold lev; rw [sortT_len]; omega
theorem F_spec_GroundsOf_eq (a : List Int) (n : Int) : F_spec_GroundsOf a n = some (grds a n) := by
  unfold F_spec_GroundsOf grds
  rw [F_spec_SigOk_eq, Option.bind_some]
  cases ha : sigOk a with
  | false => simp
  | true =>
    simp only [if_true, F_spec_l1In_eq, Option.bind_some, true_and]
    by_cases h1 : 1 ≤ n ∧ n ≤ 60
    · obtain ⟨k, rfl⟩ := Int.eq_ofNat_of_zero_le (show 0 ≤ n by omega)
      have := sg_l1 (a := a) (n := k) ha (by omega) k (g := [[]]) (out := []) gi0 (by simp) (by simp) (by simp; omega)
      rw [if_pos h1, if_pos (by simpa using h1), Int.toNat_natCast]
      exact this
    · rw [if_neg h1, if_neg (by simpa using h1)]
theorem gr_el {a : List Int} : ∀ (r : Nat) {g : List LL} {out : LL}, GI g → 1 ≤ g.length → g.length + r ≤ 61 → out.length ≤ 200 → (∀ t ∈ out, 1 ≤ t.length ∧ t.length ≤ 60) → (gr a r g out).1.length ≤ 200 ∧ ∀ t ∈ (gr a r g out).1, 1 ≤ t.length ∧ t.length ≤ 60
  | 0, g, out, h, h1, h2, h3, h4 => ⟨h3, h4⟩
  | r + 1, g, out, h, h1, h2, h3, h4 => by
    rw [gr]
    split
    · exact ⟨by simp, by simp⟩
    · rename_i hq
      refine gr_el r (h.next h1 (by omega) (by omega)) (by simp) (by simp; omega) ?_ fun t ht => ?_
      · rw [List.length_append]; unfold lev; rw [sortT_len]; omega
      · rcases List.mem_append.1 ht with ht | ht
        · exact h4 t ht
        · have := lvs_el h h1 t ((sortT_perm _).mem_iff.1 ht)
          omega
theorem grds_el (a : List Int) (n : Int) : (grds a n).1.length ≤ 200 ∧ ∀ t ∈ (grds a n).1, 1 ≤ t.length ∧ t.length ≤ 60 := by
  unfold grds
  split
  · rename_i h
    exact gr_el _ gi0 (by simp) (by simp; omega) (by simp) (by simp)
  · exact ⟨by simp, by simp⟩
end Go.Proofs.YtcbfefbocpikoaaGreat
namespace Go.Proofs.YtcbfefbocpikoaaGreat
open Go Abx Tm
theorem into_mem {l : List Int} (hs : Small l) (n : Int) : Okk True (F_spec_l1Into l n) fun o => (∀ y, y ∈ o ↔ y ∈ l ∨ y = n) ∧ o.length ≤ l.length + 1 := by
  have hs' : l.length < 1099511627776 := hs
  unfold F_spec_l1Into
  refine Okk.loop (fun k : Int => ∃ i : Nat, k = (i : Int) ∧ i ≤ l.length) (fun k : Int => l.length - k.toNat) ⟨0, rfl, by omega⟩ ?_
  rintro _ ⟨i, rfl, hi⟩
  have cp := F_spec_l1Copy_eq (l := l.take i) (by show (l.take i).length < _; simp; omega)
  have ins : (∀ y, y ∈ l.take i ++ [n] ++ l.drop i ↔ y ∈ l ∨ y = n) := fun y => by
    have : y ∈ l ↔ y ∈ l.take i ∨ y ∈ l.drop i := by rw [← List.mem_append, List.take_append_drop]
    rw [this]
    simp only [List.mem_append, List.mem_singleton]
    constructor
    · rintro ((h | h) | h)
      · exact .inl (.inl h)
      · exact .inr h
      · exact .inl (.inr h)
    · rintro ((h | h) | h)
      · exact .inl (.inl h)
      · exact .inr h
      · exact .inl (.inr h)
  have insl : (l.take i ++ [n] ++ l.drop i).length ≤ l.length + 1 := by simp; omega
  unfold F_spec_l1Into_l1
  have h1 : (0 : Int) ≤ i := by omega
  have h2 : (i : Int) ≤ l.length := by omega
  have hm : min i l.length = i := by omega
  have b1 : (i + 1) * 8 ≤ 140737488355328 := by omega
  have b2 : (i + 1 + (l.length - i)) * 8 ≤ 140737488355328 := by omega
  by_cases hlt : i < l.length
  · have hlt' : (i : Int) < l.length := by omega
    simp only [hlt', decide_true, if_true, h1, h2, and_self, Int.toNat_natCast, cp, Option.bind_some, w64 (n := (i : Int) + 1) (by omega) (by omega), List.length_append, List.length_take, List.length_drop, List.length_singleton, hm, b1, b2]
    by_cases hn : l.getD i default < n
    · simp only [hn, decide_true, if_true]
      exact .some ⟨⟨i + 1, by simp, by omega⟩, by simp; omega⟩
    · simp only [hn, decide_false, Bool.false_eq_true, if_false]
      by_cases he : (l.getD i default == n) = true
      · simp only [he, if_true, Option.map_some]
        refine .some ⟨fun y => ⟨.inl, ?_⟩, by omega⟩
        rintro (h | rfl)
        · exact h
        · rw [← beq_iff_eq.1 he]; exact getD_mem hlt
      · simp only [he, if_false, Option.map_some]
        exact .some ⟨ins, insl⟩
  · have hlt' : ¬ (i : Int) < l.length := by omega
    simp only [hlt', decide_false, Bool.false_eq_true, if_false, if_true, h1, h2, and_self, Int.toNat_natCast, cp, Option.bind_some, List.length_append, List.length_take, List.length_drop, List.length_singleton, hm, b1, b2, Option.map_some]
    exact .some ⟨ins, insl⟩
def dfB (s : Sys) (f : Int) : Bool := s.2.any fun r => r.1.getD 0 default == f
theorem any_first {α : Type} {p : α → Bool} {xs : List α} : decide (0 ≤ firstI p xs) = xs.any p := by
  cases h : xs.any p with
  | true =>
    obtain ⟨x, hx, hp⟩ := List.any_eq_true.1 h
    exact decide_eq_true (firstI_at hx hp)
  | false =>
    rw [firstI_none (fun x hx => by have := List.any_eq_false.1 h x hx; simpa using this)]
    rfl
theorem lhs_pos {s : Sys} (hs : sysOk s = true) {r : List Int × List Int} (hr : r ∈ s.2) : 1 ≤ r.1.length := (termOk_iff.1 (ruleOk_iff.1 ((sysOk_iff.1 hs).2.2 r hr)).1).2.1
theorem F_impl_isDefined_eq {s : Sys} (hs : sysOk s = true) (f : Int) : F_impl_isDefined s f = some (dfB s f) := by
  have hl := (sysOk_iff.1 hs).2.1
  unfold F_impl_isDefined F_slices_ContainsFunc_impl_Rule_impl_Rule
  suffices h : F_slices_IndexFunc_impl_Rule_impl_Rule s.2 f = some (firstI (fun r => r.1.getD 0 default == f) s.2) by
    rw [h, Option.bind_some, Option.bind_some, any_first]; rfl
  unfold F_slices_IndexFunc_impl_Rule_impl_Rule
  refine loop_first (fun i x hi hx hg => ?_) (by simp [F_slices_IndexFunc_impl_Rule_impl_Rule_l1])
  have hp := lhs_pos hs hx
  simp only [F_slices_IndexFunc_impl_Rule_impl_Rule_l1, show (i : Int) < s.2.length by omega, decide_true, if_true, show (0 : Int) ≤ i by omega, and_self, Int.toNat_natCast, hg, w64 (n := (i : Int) + 1) (by omega) (by omega), Option.map_some, F_impl_isDefined_1, Int.le_refl, show (0 : Int) < x.1.length by omega, Option.bind_some]
  cases x.1.getD 0 default == f <;> rfl
theorem F_contains_def {s : Sys} (hs : sysOk s = true) {t : List Int} (ht : t.length ≤ 60) : F_slices_ContainsFunc_int64_int64_s2 t s.1 s.2 = some (t.any (dfB s)) := by
  unfold F_slices_ContainsFunc_int64_int64_s2
  suffices h : F_slices_IndexFunc_int64_int64_s2 t s.1 s.2 = some (firstI (dfB s) t) by
    rw [h, Option.bind_some, any_first]
  unfold F_slices_IndexFunc_int64_int64_s2
  refine loop_first (fun i x hi hx hg => ?_) (by simp [F_slices_IndexFunc_int64_int64_s2_l1])
  have e : F_impl_isDefined (s.1, s.2) x = some (dfB s x) := F_impl_isDefined_eq hs x
  simp only [F_slices_IndexFunc_int64_int64_s2_l1, show (i : Int) < t.length by omega, decide_true, if_true, show (0 : Int) ≤ i by omega, and_self, Int.toNat_natCast, hg, w64 (n := (i : Int) + 1) (by omega) (by omega), Option.map_some, F_impl_BasicsOf_1, e, Option.bind_some]
  cases dfB s x <;> rfl
def basic (s : Sys) (t : List Int) : Bool := dfB s (t.getD 0 default) && !((t.drop 1).any (dfB s))
def bsc (s : Sys) (n : Int) : LL × Bool := if sysOk s = true ∧ (grds s.1 n).2 = true then ((grds s.1 n).1.filter (basic s), true) else ([], false)
theorem filter_take {α : Type} {p : α → Bool} {xs : List α} {i : Nat} (hi : i < xs.length) : (xs.take (i + 1)).filter p = if p xs[i] = true then (xs.take i).filter p ++ [xs[i]] else (xs.take i).filter p := by
  rw [List.take_succ_eq_append_getElem hi, List.filter_append]
  cases hp : p xs[i] <;> simp [hp]
theorem F_impl_BasicsOf_eq (s : Sys) (n : Int) : F_impl_BasicsOf s n = some (bsc s n) := by
  unfold F_impl_BasicsOf bsc
  rw [F_impl_SystemOk_eq, Option.bind_some]
  cases hs : sysOk s with
  | false => simp
  | true =>
    simp only [if_true, F_impl_GroundsOf_eq, Option.bind_some, true_and]
    have hel := grds_el s.1 n
    generalize grds s.1 n = q at *
    cases hq : q.2 with
    | false => simp
    | true =>
      simp only [if_true]
      refine loop_st (n := q.1.length) (fun i => ((q.1.take i).filter (basic s), (i : Int))) (fun i hi => ?_) (by simp [F_impl_BasicsOf_l1])
      obtain ⟨t1, t2⟩ := hel.2 _ (List.getElem_mem hi)
      have hfl : ((q.1.take i).filter (basic s)).length ≤ 200 := by
        have := List.length_filter_le (basic s) (q.1.take i)
        rw [List.length_take] at this
        have := hel.1; omega
      rw [filter_take hi]
      simp only [F_impl_BasicsOf_l1, show (i : Int) < q.1.length by omega, decide_true, if_true, show (0 : Int) ≤ i by omega, and_self, Int.toNat_natCast, getD_get hi, Int.le_refl, show (0 : Int) < (q.1[i]).length by omega, show (0 : Int) ≤ 1 by decide, show (1 : Int) ≤ (q.1[i]).length by omega, F_impl_isDefined_eq hs, F_contains_def hs (t := (q.1[i]).drop 1) (by simp; omega), Option.bind_some, w64 (n := (i : Int) + 1) (by have := hel.1; omega) (by have := hel.1; omega), show (((q.1.take i).filter (basic s)).length + 1) * 24 ≤ 140737488355328 by omega]
      unfold basic
      cases dfB s ((q.1[i]).getD 0 default) <;> cases ((q.1[i]).drop 1).any (dfB s) <;> simp
theorem F_spec_l6Defined_ok {s : Sys} (hs : sysOk s = true) : Okk True (F_spec_l6Defined s) fun o => Small o ∧ ∀ f, decide (f ∈ o) = dfB s f := by
  have hl := (sysOk_iff.1 hs).2.1
  unfold F_spec_l6Defined
  refine Okk.loop (fun q : List Int × Int => ∃ i : Nat, q.2 = (i : Int) ∧ i ≤ s.2.length ∧ q.1.length ≤ i ∧ ∀ f, f ∈ q.1 ↔ (s.2.take i).any (fun r => r.1.getD 0 default == f) = true) (fun q : List Int × Int => s.2.length - q.2.toNat) ⟨0, rfl, by omega, by simp, by simp⟩ ?_
  rintro ⟨o, i'⟩ ⟨i, h1, h2, h3, h4⟩
  simp only at h1 h3 h4
  subst h1
  unfold F_spec_l6Defined_l1
  by_cases hi : i < s.2.length
  · have hp := lhs_pos hs (List.getElem_mem hi)
    simp only [show (i : Int) < s.2.length by omega, decide_true, if_true, show (0 : Int) ≤ i by omega, and_self, Int.toNat_natCast, getD_get hi, Int.le_refl, show (0 : Int) < (s.2[i]).1.length by omega, w64 (n := (i : Int) + 1) (by omega) (by omega)]
    refine .bind (into_mem (by show o.length < _; omega) _) fun r hr => ?_
    refine .some ⟨⟨i + 1, by simp, by omega, by simp; omega, fun f => ?_⟩, by simp; omega⟩
    show f ∈ r ↔ _
    rw [hr.1, h4, List.take_succ_eq_append_getElem hi, List.any_append]
    simp only [List.any_cons, List.any_nil, Bool.or_false, Bool.or_eq_true, beq_iff_eq]
    exact ⟨fun h => h.imp id Eq.symm, fun h => h.imp id Eq.symm⟩
  · simp only [show ¬ (i : Int) < s.2.length by omega, decide_false, Bool.false_eq_true, if_false, Option.map_some]
    refine .some ⟨by show o.length < _; omega, fun f => ?_⟩
    rw [List.take_of_length_le (by omega)] at h4
    rw [Bool.eq_iff_iff, decide_eq_true_iff, h4]
    rfl
theorem F_spec_BasicsOf_eq (s : Sys) (n : Int) : F_spec_BasicsOf s n = some (bsc s n) := by
  unfold F_spec_BasicsOf bsc
  rw [F_spec_GroundsOf_eq, Option.bind_some, F_spec_SystemOk_eq, Option.bind_some]
  cases hs : sysOk s with
  | false => simp
  | true =>
    simp only [if_true, true_and]
    have hel := grds_el s.1 n
    generalize grds s.1 n = q at *
    cases hq : q.2 with
    | false => simp
    | true =>
      simp only [if_true]
      obtain ⟨D, hD⟩ := (F_spec_l6Defined_ok hs).2 trivial
      obtain ⟨dS, dM⟩ := (F_spec_l6Defined_ok hs).1 D hD
      have hh : ∀ f, F_spec_l1Has D f = some (dfB s f) := fun f => by rw [F_spec_l1Has_eq dS, dM]
      rw [hD, Option.bind_some]
      refine loop_st (n := q.1.length) (fun i => ((q.1.take i).filter (basic s), (i : Int))) (fun i hi => ?_) (by simp [F_spec_BasicsOf_l1])
      obtain ⟨t1, t2⟩ := hel.2 _ (List.getElem_mem hi)
      have hq1 := hel.1
      have hfl : ((q.1.take i).filter (basic s)).length ≤ 200 := by
        have := List.length_filter_le (basic s) (q.1.take i)
        rw [List.length_take] at this
        omega
      rw [filter_take hi]
      have hi' : (i : Int) < q.1.length := by omega
      have h0 : (0 : Int) ≤ i := by omega
      simp only [F_spec_BasicsOf_l1, hi', decide_true, if_true, h0, and_self, Int.toNat_natCast, getD_get hi, Int.le_refl, show (0 : Int) < (q.1[i]).length by omega, hh, Option.bind_some]
      have hz : (dfB s ((q.1[i]).getD 0 default) && !((((q.1[i]).drop 1).take 0).any (dfB s)), ((0 + 1 : Nat) : Int)) = (dfB s ((q.1[i]).getD 0 default), (1 : Int)) := by simp
      rw [← hz]
      refine loop_st (n := (q.1[i]).length - 1) (fun j => (dfB s ((q.1[i]).getD 0 default) && !((((q.1[i]).drop 1).take j).any (dfB s)), ((j + 1 : Nat) : Int))) (fun j hj => ?_) ?_
      · have hj' : j < ((q.1[i]).drop 1).length := by rw [List.length_drop]; omega
        have e1 : (q.1[i]).getD (j + 1) default = ((q.1[i]).drop 1)[j] := by rw [getD_get (by omega), List.getElem_drop]; congr 1; omega
        have e2 : ((((q.1[i]).drop 1).take (j + 1)).any (dfB s)) = ((((q.1[i]).drop 1).take j).any (dfB s) || dfB s (((q.1[i]).drop 1)[j])) := by rw [List.take_succ_eq_append_getElem hj', List.any_append]; simp
        rw [e2]
        simp only [F_spec_BasicsOf_l2, hi', h0, and_self, if_true, Int.toNat_natCast, getD_get hi, show ((j + 1 : Nat) : Int) < (q.1[i]).length by omega, decide_true, show (0 : Int) ≤ ((j + 1 : Nat) : Int) by omega, hh, Option.bind_some, e1, w64 (n := ((j + 1 : Nat) : Int) + 1) (by omega) (by omega)]
        cases dfB s ((q.1[i]).getD 0 default) <;> cases (((q.1[i]).drop 1).take j).any (dfB s) <;> simp
      · have e : (((q.1[i]).length - 1 + 1 : Nat) : Int) = (q.1[i]).length := by omega
        have e3 : ((q.1[i]).drop 1).take ((q.1[i]).length - 1) = (q.1[i]).drop 1 := List.take_of_length_le (by rw [List.length_drop]; omega)
        rw [e3]
        simp only [F_spec_BasicsOf_l2, hi', h0, and_self, if_true, Int.toNat_natCast, getD_get hi, e, show ¬ ((q.1[i]).length : Int) < (q.1[i]).length by omega, decide_false, Bool.false_eq_true, if_false, show (((q.1.take i).filter (basic s)).length + 1) * 24 ≤ 140737488355328 by omega, w64 (n := (i : Int) + 1) (by omega) (by omega)]
        unfold basic
        cases dfB s ((q.1[i]).getD 0 default) <;> cases ((q.1[i]).drop 1).any (dfB s) <;> simp
def cntB (s : Sys) (t : List Int) (fuel : Int) : Int := if (sysOk s = true ∧ termOk s.1 t = true) ∧ 0 ≤ fuel ∧ fuel ≤ 60 then (if (wlk s fuel.toNat t).2 = true then ((wlk s fuel.toNat t).1.length : Int) else -1) else -1
theorem F_impl_CountBy_eq (s : Sys) (t : List Int) (fuel : Int) : F_impl_CountBy s t 1 fuel = some (cntB s t fuel) := by
  unfold F_impl_CountBy F_impl_WalkBy F_impl_strategyOk cntB
  rw [F_impl_SystemOk_eq, Option.bind_some]
  cases hs : sysOk s with
  | false => simp
  | true =>
    simp only [if_true, F_impl_TermOk_eq, Option.bind_some]
    cases ht : termOk s.1 t with
    | false => simp
    | true =>
      simp only [if_true, show (1 : Int) ≤ 1 by decide, show (1 : Int) ≤ 3 by decide, decide_true, and_self, true_and]
      by_cases h0 : fuel < 0
      · simp [h0, show ¬ 0 ≤ fuel by omega]
      · by_cases h6 : 60 < fuel
        · simp [h0, h6, show ¬ fuel ≤ 60 by omega]
        · simp only [h0, h6, decide_false, Bool.false_eq_true, if_false, F_impl_walkBy_eq hs ht (show 0 ≤ fuel by omega) (show fuel ≤ 60 by omega), Option.bind_some, show 0 ≤ fuel by omega, show fuel ≤ 60 by omega, and_self, if_true]
          cases (wlk s fuel.toNat t).2 <;> simp
theorem F_spec_CountBy_eq (s : Sys) (t : List Int) (fuel : Int) : F_spec_CountBy s t 1 fuel = some (cntB s t fuel) := by
  unfold F_spec_CountBy cntB
  by_cases h : (sysOk s = true ∧ termOk s.1 t = true) ∧ 0 ≤ fuel ∧ fuel ≤ 60
  · rw [if_pos h, F_spec_WalkBy_eq h.1.1 h.1.2 h.2.1 h.2.2, Option.bind_some]
    simp only
    cases (wlk s fuel.toNat t).2 <;> simp
  · rw [if_neg h]
    have e : F_spec_WalkBy s t 1 fuel = some (([], []), false) := by
      unfold F_spec_WalkBy F_spec_l8Right
      rw [F_spec_l7Right_eq, Option.bind_some]
      cases hs : sysOk s with
      | false => simp
      | true =>
        cases ht : termOk s.1 t with
        | false => simp
        | true =>
          simp only [Bool.and_self, if_true, F_spec_l1In_eq, Option.bind_some]
          have hf : ¬ (0 ≤ fuel ∧ fuel ≤ 60) := fun hf => h ⟨⟨hs, ht⟩, hf⟩
          rw [if_pos (by decide), if_neg (by simpa using hf)]
    rw [e]; rfl
def gmx (c : List Int → Int) : LL → Int → Int
  | [], m => m
  | t :: ts, m => if c t < 0 then -1 else gmx c ts (max m (c t))
def inm (s : Sys) (n fuel : Int) : Int := if (bsc s n).2 = true ∧ 0 ≤ fuel ∧ fuel ≤ 60 then gmx (fun t => cntB s t fuel) (bsc s n).1 0 else -1
theorem bsc_len (s : Sys) (n : Int) : (bsc s n).1.length ≤ 200 := by
  unfold bsc
  split
  · exact Nat.le_trans (List.length_filter_le _ _) (grds_el s.1 n).1
  · simp
theorem F_impl_InmostTime_eq (s : Sys) (n fuel : Int) : F_impl_InmostTime s n fuel = some (inm s n fuel) := by
  unfold F_impl_InmostTime inm
  rw [F_impl_BasicsOf_eq, Option.bind_some]
  have hl := bsc_len s n
  generalize bsc s n = q at *
  cases hq : q.2 with
  | false => simp
  | true =>
    by_cases h0 : fuel < 0
    · simp [h0, show ¬ 0 ≤ fuel by omega]
    · by_cases h6 : 60 < fuel
      · simp [h0, h6, show ¬ fuel ≤ 60 by omega]
      · simp only [if_true, h0, h6, decide_false, Bool.false_eq_true, if_false, show 0 ≤ fuel by omega, show fuel ≤ 60 by omega, and_self]
        suffices h : F_impl_greatest q.1 s.1 s.2 fuel = some (gmx (fun t => cntB s t fuel) q.1 0) by rw [h]; rfl
        unfold F_impl_greatest
        have := loopC_is (f := F_impl_greatest_l1 q.1 s.1 s.2 fuel) (fun x => some (gmx (fun t => cntB s t fuel) (q.1.drop x.2.toNat) x.1)) (fun x : Int × Int => ∃ i : Nat, x.2 = (i : Int) ∧ i ≤ q.1.length) (fun x : Int × Int => q.1.length - x.2.toNat) ?_ (0, 0) ⟨0, rfl, by omega⟩
        · simpa using this
        · rintro ⟨m, i'⟩ ⟨i, h1, h2⟩
          simp only at h1
          subst h1
          by_cases hi : i < q.1.length
          · have e : F_impl_CountBy (s.1, s.2) q.1[i] 1 fuel = some (cntB s q.1[i] fuel) := F_impl_CountBy_eq s _ fuel
            by_cases hc : cntB s q.1[i] fuel < 0
            · refine .inr ⟨-1, ?_, ?_⟩
              · simp only [F_impl_greatest_l1, show (i : Int) < q.1.length by omega, decide_true, if_true, show (0 : Int) ≤ i by omega, and_self, Int.toNat_natCast, getD_get hi, F_impl_InmostTime_1, e, Option.bind_some, hc, Option.map_some]
              · simp only [Int.toNat_natCast]
                rw [List.drop_eq_getElem_cons hi, gmx, if_pos hc]
            · refine .inl ⟨(max m (cntB s q.1[i] fuel), ((i + 1 : Nat) : Int)), ?_, ⟨i + 1, rfl, by omega⟩, by simp; omega, ?_⟩
              · simp only [F_impl_greatest_l1, show (i : Int) < q.1.length by omega, decide_true, if_true, show (0 : Int) ≤ i by omega, and_self, Int.toNat_natCast, getD_get hi, F_impl_InmostTime_1, e, Option.bind_some, hc, decide_false, Bool.false_eq_true, if_false, w64 (n := (i : Int) + 1) (by omega) (by omega)]
                refine congrArg (fun x => some (Sum.inl x)) (Prod.ext ?_ (by simp))
                show (if cntB s q.1[i] fuel > m then _ else _) = _
                split <;> omega
              · simp only [Int.toNat_natCast]
                rw [List.drop_eq_getElem_cons hi, gmx, if_neg hc]
          · obtain rfl : i = q.1.length := by omega
            exact .inr ⟨m, by simp [F_impl_greatest_l1], by simp [gmx]⟩
theorem F_spec_l1Max_eq (a b : Int) : F_spec_l1Max a b = some (max a b) := by
  unfold F_spec_l1Max
  by_cases h : b < a
  · simp [h]; omega
  · simp [h]; omega
theorem F_spec_InmostTime_eq (s : Sys) (n fuel : Int) : F_spec_InmostTime s n fuel = some (inm s n fuel) := by
  unfold F_spec_InmostTime inm
  rw [F_spec_BasicsOf_eq, Option.bind_some]
  have hl := bsc_len s n
  generalize bsc s n = q at *
  cases hq : q.2 with
  | false => simp
  | true =>
    simp only [if_true, F_spec_l1In_eq, Option.bind_some, true_and]
    by_cases h0 : 0 ≤ fuel ∧ fuel ≤ 60
    · rw [if_pos h0, if_pos (by simpa using h0)]
      have := loopC_is (f := F_spec_InmostTime_l1 s fuel q) (fun x => some (gmx (fun t => cntB s t fuel) (q.1.drop x.2.toNat) x.1)) (fun x : Int × Int => ∃ i : Nat, x.2 = (i : Int) ∧ i ≤ q.1.length) (fun x : Int × Int => q.1.length - x.2.toNat) ?_ (0, 0) ⟨0, rfl, by omega⟩
      · simpa using this
      · rintro ⟨m, i'⟩ ⟨i, h1, h2⟩
        simp only at h1
        subst h1
        by_cases hi : i < q.1.length
        · by_cases hc : cntB s q.1[i] fuel < 0
          · refine .inr ⟨-1, ?_, ?_⟩
            · simp only [F_spec_InmostTime_l1, show (i : Int) < q.1.length by omega, decide_true, if_true, show (0 : Int) ≤ i by omega, and_self, Int.toNat_natCast, getD_get hi, F_spec_CountBy_eq, Option.bind_some, hc, Option.map_some]
            · simp only [Int.toNat_natCast]
              rw [List.drop_eq_getElem_cons hi, gmx, if_pos hc]
          · refine .inl ⟨(max m (cntB s q.1[i] fuel), ((i + 1 : Nat) : Int)), ?_, ⟨i + 1, rfl, by omega⟩, by simp; omega, ?_⟩
            · simp only [F_spec_InmostTime_l1, show (i : Int) < q.1.length by omega, decide_true, if_true, show (0 : Int) ≤ i by omega, and_self, Int.toNat_natCast, getD_get hi, F_spec_CountBy_eq, Option.bind_some, hc, decide_false, Bool.false_eq_true, if_false, w64 (n := (i : Int) + 1) (by omega) (by omega), F_spec_l1Max_eq]
              rfl
            · simp only [Int.toNat_natCast]
              rw [List.drop_eq_getElem_cons hi, gmx, if_neg hc]
        · obtain rfl : i = q.1.length := by omega
          exact .inr ⟨m, by simp [F_spec_InmostTime_l1], by simp [gmx]⟩
    · rw [if_neg h0, if_neg (by simpa using h0)]
end Go.Proofs.YtcbfefbocpikoaaGreat
namespace Go.Proofs.YtcbfefbocpikoaaGreat
open Go Abx
attribute [local irreducible] vcm vgo vdr vrun vdrun MWp GhostQ BrC BrO BrG BrD BrH AmbO callR callD drQ EnvLe StoLe
set_option maxHeartbeats 4000000
noncomputable def F_le_InmostTime_ldd (n0 : Nat) (n1 : Nat) (x0 : ((List Int) × (List ((List Int) × (List Int))))) (x1 : Int) (x2 : Int) : Option Int := if n0 = x0.1.length ∧ n1 = x0.2.length then F_impl_InmostTime x0 x1 x2 else none
instance c_F_le_InmostTime_ldd {n0 : Nat} {n1 : Nat} {x0 : ((List Int) × (List ((List Int) × (List Int))))} {x1 : Int} {x2 : Int} : HasC (F_le_InmostTime_ldd n0 n1 x0 x1 x2) fun rr => ACalls Tryz.prog 16 [.agg [.gow 1 0 n0, .gow 2 1 n1], .d (iD x1), .d (iD x2)] [(0, .prv 1 n0 (tolds (List.map iD x0.1))), (1, .prv 2 n1 (tolds (List.map D_impl_Rule x0.2)))] 2 fun xx ss => xx = .d (iD rr) ∧ ss = [(0, .prv 1 n0 (tolds (List.map iD x0.1))), (1, .prv 2 n1 (tolds (List.map D_impl_Rule x0.2)))] := ⟨@fun rr h => by
  obtain ⟨hp, h⟩ := need_some h
  exact ACalls.lent ((c_impl_InmostTime).c h) (.cons (.agg (.cons (Lent.tok (f := iD) rfl (by omega)) (.cons (Lent.tok (f := D_impl_Rule) rfl (by omega)) .nil))) (.cons (.le (AV.le_refl _)) (.cons (.le (AV.le_refl _)) .nil)))⟩
end Go.Proofs.YtcbfefbocpikoaaGreat
namespace Go.Proofs.YtcbfefbocpikoaaGreat
open Go Abx
attribute [local irreducible] vcm vgo vdr vrun vdrun MWp GhostQ BrC BrO BrG BrD BrH AmbO callR callD drQ EnvLe StoLe
set_option maxHeartbeats 4000000
attribute [-go_sem] sat sset
def mc4 : MCode :=
 (.seq (.reg (sq 3 [bo 3 27 0] ++ sq 6 [mb false])) (.seq (.reg (sq 7 [mi 1048576])) (.seq (.reg (sq 11 [la 2 3, mv 7, cf 5 [11, 12]] ++ sq 7 [mv 13])) (.seq (.seq (.reg (sq 14 [mv 7, bi .lss 14 0])) (.cond (t0 15) (.seq (.reg (sq 6 [mb true])) .ret) .skip)) (.seq (.reg (sq 16 [la 2 3, cf 7 [16], mv 1, mv 2, cf 15 [17, 18, 19]] ++ sq 8 [mv 20])) (.seq (.reg (sq 21 [la 2 3, cf 7 [21]] ++ sq 9 [.alloc 9 33 [.sl 0 (some true) [], .sl 0 (some true) []]] ++ s0 (sr 2 9 22))) (.seq (.reg (sq 23 [la 2 9, mv 1, mv 2, cf 16 [23, 24, 25]] ++ sq 10 [mv 26])) (.seq (.seq (.reg (sq 27 [mv 10, mv 8, bn .neq 27 28])) (.cond (t0 29) (.seq (.reg (sq 6 [mb false])) .ret) .skip)) (.seq (.seq (.draw (sq 30 [la 2 9, la 2 3, cf 7 [31], cf 11 [30, 32], nt 33]) [[], [], [1], [0, 2, 2], [3]]) (.cond (t0 34) (.seq (.reg (sq 6 [mb false])) .ret) .skip)) (.seq (.reg (sq 6 [mb true])) .ret))))))))))
theorem fn4 : MFn Tryz.prog 4 mc4 35 [.tmp 6] := ⟨_, Tryz.func4, by kernel_rfl, Tryz.ntmps4, by kernel_rfl⟩
noncomputable def F_laws_FnExactInmostTime (aSys : ((List Int) × (List ((List Int) × (List Int))))) (aN : Int) (aFuel : Int) : Option Bool :=
 (F_laws_szSystem aSys 1048576).bind fun r =>
 if (decide (r < 0)) = true then
  some true
 else
  (F_pub_System aSys).bind fun v =>
  (F_spec_InmostTime v aN aFuel).bind fun r_1 =>
  (F_to_System aSys).bind fun v_1 =>
  (F_le_InmostTime_ldd aSys.1.length aSys.2.length v_1 aN aFuel).bind fun q =>
  if (q != r_1) = true then
   some false
  else
   (F_to_System aSys).bind fun v_2 =>
   (F_le_eqSystem_ll aSys.1.length aSys.2.length aSys.1.length aSys.2.length v_1 v_2).bind fun q_1 =>
   if q_1 = true then
    some true
   else
    some false
instance c_laws_FnExactInmostTime {aSys : ((List Int) × (List ((List Int) × (List Int))))} {aN : Int} {aFuel : Int} : HasC (F_laws_FnExactInmostTime aSys aN aFuel) fun rr => PFun Tryz.prog 4 [D_laws_System aSys, iD aN, iD aFuel] (bD rr) := ⟨@fun rr h => by
  delta F_laws_FnExactInmostTime at h
  refine fn4.pureL (vcm_sound ?_)
  delta mc4
  refine stp ?_
  refine rC h fun r hr h => ?_
  refine iF h fun hc h => ?_
  refine rC h fun v hv h => ?_
  refine rC h fun r_1 hr_1 h => ?_
  refine rCo [] [(900000, 22), (900001, 200000)] h fun v_1 hv_1 h => ?_
  refine rCo [(0, 22), (1, 200000)] [] h fun q hq h => ?_
  refine iF h fun hc h => ?_
  refine dCo [] [(900000, 32), (900001, 200001)] h fun v_2 hv_2 h => ?_
  refine dCo [(0, 22), (1, 200000), (2, 32), (3, 200001)] [] h fun q_1 hq_1 h => ?_
  exact aut⟩
end Go.Proofs.YtcbfefbocpikoaaGreat
namespace Go.Proofs.YtcbfefbocpikoaaGreat
open Go Abx Tm
theorem law_inmost {s : Sys} {n fuel : Int} (hs : BigS s) : F_laws_FnExactInmostTime s n fuel = some true := by
  unfold F_laws_FnExactInmostTime
  obtain ⟨r, e1, e2⟩ := szSystem hs
  rw [e1, Option.bind_some]
  by_cases hr : r < 0
  · rw [if_pos (by simpa using hr)]
  rw [if_neg (by simpa using hr)]
  have sm := e2 (by omega)
  have h2 := F_spec_InmostTime_eq s n fuel
  have l1 : F_le_InmostTime_ldd s.1.length s.2.length s n fuel = some (inm s n fuel) := by
    unfold F_le_InmostTime_ldd; rw [if_pos ⟨rfl, rfl⟩]; exact F_impl_InmostTime_eq s n fuel
  have l3 : F_le_eqSystem_ll s.1.length s.2.length s.1.length s.2.length s s = some true := by
    unfold F_le_eqSystem_ll; rw [if_pos ⟨rfl, rfl, rfl, rfl⟩]; exact eqSystem_self sm
  simp only [F_pub_System_eq sm, h2, F_to_System_eq sm, Option.bind_some, l1, l3, bne_self_eq_false, Bool.false_eq_true, if_false, if_true]
theorem law_inmost_pure {s : Sys} {n fuel : Int} (hs : BigS s) : PFun Tryz.prog 4 [D_laws_System s, iD n, iD fuel] (bD true) := c_laws_FnExactInmostTime.c (law_inmost hs)
end Go.Proofs.YtcbfefbocpikoaaGreat
namespace Go.Proofs.YtcbfefbocpikoaaGreat
open Go Abx Go.ChangeShapes Go.WideShapes Go.ChangeAt Go.RowKit
theorem ownZ : ownKnob Tryz.prog.godebug = none := by kernel_rfl
theorem laidZ : laidOutB Tryz.prog = true := by kernel_rfl
theorem cel_agg {α : Type} {f : α → D} (hf : ∀ y, ∃ cs, f y = .agg cs) : ∀ y O w vs, D.oks O w (dcells (f y)) vs → D.cel O w (f y) vs := fun y O w vs h => by
  obtain ⟨cs, e⟩ := hf y
  rw [e] at h ⊢
  exact h
theorem cel_one {α : Type} {f : α → D} (hf : ∀ y, dcells (f y) = [f y]) (ha : ∀ y cs, f y ≠ .agg cs) : ∀ y O w vs, D.oks O w (dcells (f y)) vs → D.cel O w (f y) vs := fun y O w vs h => by
  rw [hf] at h
  obtain ⟨v, r, e, _, h2, h3⟩ := h
  have h3' : r = [] := h3
  subst h3'
  have := ha y
  cases hy : f y with
  | agg cs => exact absurd hy (this cs)
  | _ => rw [hy] at h2; exact ⟨v, e, h2⟩
theorem rd2 : Rd Tryz.prog 2 1 iD (fun _ => True) := Rd.int Tryz.underlying2 (by kernel_rfl)
theorem rd22 : Rd Tryz.prog 22 1 (slD 1 iD) (fun x : (List Int) => (BigL x ∧ ∀ y0 : Int, y0 ∈ x → True)) := Rd.slice Tryz.underlying22 (by kernel_rfl) (by decide) rd2 (cel_one (fun _ => rfl) (fun _ _ h => nomatch h))
theorem rd24 : Rd Tryz.prog 24 1 D_laws_Sig (fun x : (List Int) => ((BigL x ∧ ∀ y0 : Int, y0 ∈ x → True))) := by
  have h := RdF.cons (P := Tryz.prog) (f := { name := "Arity", type := 22, offset := 0, embedded := false, tag := "", pkgPath := "", byteOffset := 0 }) (m := 1) rfl rd22 rfl (RdF.nil)
  exact Rd.struct (fun y : (List Int) × Unit => y.1) Tryz.underlying24 (by kernel_rfl) h (fun _ => rfl) (fun _ h => h.1)
theorem rd66 : Rd Tryz.prog 66 2 D_laws_Rule (fun x : ((List Int) × (List Int)) => ((BigL x.1 ∧ ∀ y0 : Int, y0 ∈ x.1 → True) ∧ (BigL x.2 ∧ ∀ y0 : Int, y0 ∈ x.2 → True))) := by
  have h := RdF.cons (P := Tryz.prog) (f := { name := "L", type := 22, offset := 0, embedded := false, tag := "", pkgPath := "", byteOffset := 0 }) (m := 2) rfl rd22 rfl (RdF.cons (f := { name := "R", type := 22, offset := 1, embedded := false, tag := "", pkgPath := "", byteOffset := 24 }) rfl rd22 rfl (RdF.nil))
  exact Rd.struct (fun y : (List Int) × (List Int) × Unit => (y.1, y.2.1)) Tryz.underlying66 (by kernel_rfl) h (fun _ => rfl) (fun _ h => ⟨h.1, h.2.1⟩)
theorem rd25 : Rd Tryz.prog 25 1 (slD 2 D_laws_Rule) (fun x : (List ((List Int) × (List Int))) => (BigL x ∧ ∀ y0 : ((List Int) × (List Int)), y0 ∈ x → ((BigL y0.1 ∧ ∀ y1 : Int, y1 ∈ y0.1 → True) ∧ (BigL y0.2 ∧ ∀ y1 : Int, y1 ∈ y0.2 → True)))) := Rd.slice Tryz.underlying25 (by kernel_rfl) (by decide) rd66 (cel_agg fun _ => ⟨_, rfl⟩)
theorem rd27 : Rd Tryz.prog 27 2 D_laws_System (fun x : ((List Int) × (List ((List Int) × (List Int)))) => (((BigL x.1 ∧ ∀ y0 : Int, y0 ∈ x.1 → True)) ∧ (BigL x.2 ∧ ∀ y0 : ((List Int) × (List Int)), y0 ∈ x.2 → ((BigL y0.1 ∧ ∀ y1 : Int, y1 ∈ y0.1 → True) ∧ (BigL y0.2 ∧ ∀ y1 : Int, y1 ∈ y0.2 → True))))) := by
  have h := RdF.cons (P := Tryz.prog) (f := { name := "Sig", type := 24, offset := 0, embedded := false, tag := "", pkgPath := "", byteOffset := 0 }) (m := 2) rfl rd24 rfl (RdF.cons (f := { name := "Rules", type := 25, offset := 1, embedded := false, tag := "", pkgPath := "", byteOffset := 24 }) rfl rd25 rfl (RdF.nil))
  exact Rd.struct (fun y : (List Int) × (List ((List Int) × (List Int))) × Unit => (y.1, y.2.1)) Tryz.underlying27 (by kernel_rfl) h (fun _ => rfl) (fun _ h => ⟨h.1, h.2.1⟩)
end Go.Proofs.YtcbfefbocpikoaaGreat
namespace Go.Proofs.YtcbfefbocpikoaaGreat
open Go Abx Go.ChangeShapes Go.WideShapes Go.ChangeAt Go.RowKit
section
variable {H : Type} {enc : TypeId × Value → H} {P : Program} {w : World} {base : Nat} {spare : Nat → Bool} {held : Bool}
theorem trodAll_4x {t0 t1 t2 : TypeId} {args : Array Value} {ds : List (DataW H)} {ps : List MemPlace} (h : DataW.TrodAll enc P w base spare held [t0, t1, t2] args.toList ds ps) :
    ∃ v0 v1 v2 d0 d1 d2 p0 p1 p2, args = #[v0, v1, v2] ∧ ds = [d0, d1, d2] ∧ ps = p0 ++ p1 ++ p2 ∧ DataW.Trod enc P w base spare held t0 v0 d0 p0 ∧ DataW.Trod enc P w base spare held t1 v1 d1 p1 ∧ DataW.Trod enc P w base spare held t2 v2 d2 p2 := by
  obtain ⟨v0, vs0, d0, ds0, p0, q0, hargs, rfl, rfl, k0, h0⟩ := trodAll_cons h
  obtain ⟨v1, vs1, d1, ds1, p1, q1, rfl, rfl, rfl, k1, h1⟩ := trodAll_cons h0
  obtain ⟨v2, vs2, d2, ds2, p2, q2, rfl, rfl, rfl, k2, h2⟩ := trodAll_cons h1
  obtain ⟨rfl, rfl, rfl⟩ := trodAll_nil h2
  exact ⟨v0, v1, v2, d0, d1, d2, p0, p1, p2, by cases args; simp_all, rfl, by simp, k0, k1, k2⟩
end
theorem law_walk4 {W : World} {v0 v1 v2 : Value} {x0 : ((List Int) × (List ((List Int) × (List Int))))} {x1 : Int} {x2 : Int} (g0 : (((BigL x0.1 ∧ ∀ y0 : Int, y0 ∈ x0.1 → True)) ∧ (BigL x0.2 ∧ ∀ y0 : ((List Int) × (List Int)), y0 ∈ x0.2 → ((BigL y0.1 ∧ ∀ y1 : Int, y1 ∈ y0.1 → True) ∧ (BigL y0.2 ∧ ∀ y1 : Int, y1 ∈ y0.2 → True))))) (g1 : True) (g2 : True) (h0 : D.ok NoO W (D_laws_System x0) v0) (h1 : D.ok NoO W (iD x1) v1) (h2 : D.ok NoO W (iD x2) v2) :
    Calls Tryz.prog 4 #[v0, v1, v2] W fun e W' => e = .returned (.bool true) ∧ Below W.heap.size W W' :=
  (pure_belowN (show PFun Tryz.prog 4 [D_laws_System x0, iD x1, iD x2] (bD true) from law_inmost_pure (hs := ⟨g0.1.1, g0.2.1, fun r hr => ⟨(g0.2.2 r hr).1.1, (g0.2.2 r hr).2.1⟩⟩)) (vs := #[v0, v1, v2]) (fun _ _ => trivial) ⟨v0, _, rfl, h0, v1, _, rfl, h1, v2, _, rfl, h2, rfl⟩).mono fun _ _ ⟨⟨_, h1, h2⟩, h3⟩ => by
    simp only [D.ok] at h2
    exact ⟨by rw [h1, h2.1], h3⟩
set_option maxRecDepth 100000 in
theorem fnExactInmostTime_lifted (os : Os) (started : os.Started) (H : Type) (enc : TypeId × Value → H) :
    ReturnsInHanded {} Tryz.checked os 4 .any (Rows.fnExactInmostTimeSpec.pre6 enc Tryz.prog Tryz.f4 Rows.fnExactInmostTimeRow.domain false) (Rows.fnExactInmostTimeSpec.post enc Tryz.prog Tryz.f4 false true false false) := by
  refine returnsInHanded_of_change (C := Tryz.checked) ownZ started (by kernel_rfl) Tryz.func4
    (ChangeSpec.witness6 (enc := enc) (C := Tryz.checked) false ⟨#[], #[.agg #[.slice none 0 0, .slice none 0 0], .int .i64 0, .int .i64 0], []⟩ 8 (by kernel_rfl) (by kernel_rfl) (by kernel_rfl) (by kernel_rfl)) ?_
  intro W base args ds gs before hval0 hW hcnd _
  have hval : ∀ (j : Nat) t v, Tryz.f4.params[j]? = some t → args[j]? = some v → Value.okWide Tryz.prog W .any base t v := hval0
  have hW' := hW
  obtain ⟨p, q, hA0, hV, rfl, hfz, hnd⟩ := hW
  have hA : DataW.TrodAll enc Tryz.prog W 0 (fun _ => true) true Tryz.f4.params.toList args.toList ds p := hA0
  rw [Tryz.params4] at hA hval
  obtain ⟨v0, v1, v2, d0, d1, d2, p0, p1, p2, rfl, rfl, rfl, t0, t1, t2⟩ := trodAll_4x hA
  obtain ⟨rfl, rfl⟩ := trodVars_none hV
  have k0 := t0
  have lt0 : ∀ x ∈ p0, x.block < W.heap.size := by obtain ⟨m, hm⟩ := t0; exact DataW.trod_lt m _ _ _ hm
  have k1 := t1
  have lt1 : ∀ x ∈ p1, x.block < W.heap.size := by obtain ⟨m, hm⟩ := t1; exact DataW.trod_lt m _ _ _ hm
  have k2 := t2
  have lt2 : ∀ x ∈ p2, x.block < W.heap.size := by obtain ⟨m, hm⟩ := t2; exact DataW.trod_lt m _ _ _ hm
  obtain ⟨x0, g0, h0⟩ := rd27.agg Tryz.underlying27 (fun _ => ⟨_, rfl⟩) (hval 0 _ v0 rfl rfl) t0
  obtain ⟨n1, rfl⟩ := okWide_int Tryz.underlying2 (hval 1 _ v1 rfl rfl)
  obtain ⟨x1, g1, h1⟩ := rd2.cell (fun _ => rfl) rfl t1
  obtain ⟨n2, rfl⟩ := okWide_int Tryz.underlying2 (hval 2 _ v2 rfl rfl)
  obtain ⟨x2, g2, h2⟩ := rd2.cell (fun _ => rfl) rfl t2
  clear hA0 hval0
  refine (law_walk4 g0 g1 g2 h0 h1 h2).mono fun e W' ⟨he, bel⟩ => ?_
  subst he
  have s0 := Below.trod laidZ (by kernel_rfl) (of_decide_eq_true (by kernel_rfl)) k0 bel lt0
  have s1 := Below.trod laidZ (by kernel_rfl) (of_decide_eq_true (by kernel_rfl)) k1 bel lt1
  have s2 := Below.trod laidZ (by kernel_rfl) (of_decide_eq_true (by kernel_rfl)) k2 bel lt2
  exact ⟨_, rfl, _, _, _, [], _, [], hW', trodAll_mk1 (shut_bool Tryz.underlying4 _), trodAll_cons_mk s0 (trodAll_cons_mk s1 (trodAll_mk1 s2)), rfl, bel.frame _, fun h => by cases h⟩
end Go.Proofs.YtcbfefbocpikoaaGreat
namespace Go.Proofs.YtcbfefbocpikoaaGreat
open Go Go.ChangeShapes Go.WideShapes Go.ChangeAt Go.RowKit
theorem and2b4 {a b : Bool} (ha : a = true) (hb : b = true) : (a && b) = true := by rw [ha, hb]; rfl
set_option maxRecDepth 100000 in
set_option maxHeartbeats 4000000 in
theorem closed4 : joinedFacts Tryz.prog 4 Tryz.f4 Rows.fnExactInmostTimeSpec Rows.fnExactInmostTimeRow = true := by
  unfold joinedFacts
  with_reducible repeat' refine and2b4 ?_ ?_
  all_goals as_aux_lemma => kernel_rfl
end Go.Proofs.YtcbfefbocpikoaaGreat
