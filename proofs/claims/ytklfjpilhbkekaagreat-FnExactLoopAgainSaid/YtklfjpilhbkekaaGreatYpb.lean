/- What the equations of both sides come to: chains of equations, walks; nothing is assumed. -/
import Derived.Test.YtklfjpilhbkekaaGreatYb
import Derived.Test.YtklfjpilhbkekaaGreatYpa
set_option linter.unusedSimpArgs false
set_option linter.unusedVariables false
set_option linter.unusedSectionVars false
set_option linter.unnecessarySimpa false
namespace Go.Proofs.YtklfjpilhbkekaaGreat
open Go Abx Tm
theorem loop_map {α β γ σ : Type} [Inhabited α] (mk : Int → List β → σ) {xs : List α} {g : α → β} {out0 : List β} {c : γ} {f : σ → Option (σ ⊕ γ)}
    (h : ∀ (i : Nat) (out : List β) (x : α), i < xs.length → x ∈ xs → xs.getD i default = x → out.length = out0.length + i → f (mk i out) = some (.inl (mk ((i : Int) + 1) (out ++ [g x]))))
    (he : f (mk xs.length (out0 ++ xs.map g)) = some (.inr c)) : loopC f (mk 0 out0) = some c := by
  have key : ∀ (k i : Nat) (out : List β), i + k = xs.length → out.length = out0.length + i → out ++ (xs.drop i).map g = out0 ++ xs.map g → loopC f (mk i out) = some c := by
    intro k
    induction k with
    | zero =>
      intro i out hi _ ho
      obtain rfl : i = xs.length := by omega
      rw [List.drop_length] at ho
      simp at ho; subst ho
      exact loopC_inr he
    | succ k ih =>
      intro i out hi hl ho
      have hlt : i < xs.length := by omega
      rw [loopC_inl (h i out _ hlt (List.getElem_mem hlt) (getD_get hlt) hl), show ((i : Int) + 1) = ((i + 1 : Nat) : Int) by omega]
      refine ih (i + 1) _ (by omega) (by simp; omega) ?_
      rw [List.drop_eq_getElem_cons hlt, List.map_cons] at ho
      rw [List.append_assoc, List.singleton_append]
      exact ho
  exact key xs.length 0 out0 (by omega) (by omega) (by simp)
abbrev Mvv := Int × Int × Bool × List Int
abbrev Chn := List Int × List Mvv
def chW (w : List Int × List Stp) : Chn := (w.1, w.2.map fun s => (s.2.1, s.1, false, s.2.2))
def chEnd (c : Chn) : List Int := if c.2.length = 0 then c.1 else (c.2.getD (c.2.length - 1) default).2.2.2
structure SmC (c : Chn) : Prop where
  from' : c.1.length ≤ 60
  len : c.2.length ≤ 60
  to : ∀ m ∈ c.2, m.2.2.2.length ≤ 60
structure SmW (w : List Int × List Stp) : Prop where
  from' : w.1.length ≤ 60
  len : w.2.length ≤ 60
  to : ∀ m ∈ w.2, m.2.2.length ≤ 60
theorem SmW.ch {w : List Int × List Stp} (h : SmW w) : SmC (chW w) :=
  ⟨h.from', by simpa [chW] using h.len, fun m hm => by obtain ⟨s, hs, rfl⟩ := List.mem_map.1 hm; exact h.to s hs⟩
theorem SmC.at {c : Chn} (h : SmC c) {i : Nat} (hi : i < c.2.length) : (c.2.getD i default).2.2.2.length ≤ 60 := h.to _ (getD_mem hi)
theorem SmC.end' {c : Chn} (h : SmC c) : (chEnd c).length ≤ 60 := by
  unfold chEnd
  split
  · exact h.from'
  · exact h.at (by omega)
theorem F_impl_Chain_add_eq {m : Mvv} {c0 : List Int} {c1 : List Mvv} (hm : m.2.2.2.length ≤ 60) (hc : c1.length ≤ 1000) : F_impl_Chain_add m c0 c1 = some (c1 ++ [m]) := by
  unfold F_impl_Chain_add
  rw [F_slices_Clone_eq (show m.2.2.2.length < _ by omega), Option.bind_some, if_pos (by omega)]
theorem F_impl_chainOfWalk_eq {w : List Int × List Stp} (h : SmW w) : F_impl_chainOfWalk w = some (chW w) := by
  unfold F_impl_chainOfWalk
  have hl := h.len
  rw [F_slices_Clone_eq (show w.1.length < _ by have := h.from'; omega), Option.bind_some]
  refine loop_map (mk := fun i out => (i, out)) (xs := w.2) (g := fun s => (s.2.1, s.1, false, s.2.2)) (fun i out x hi hx hg ho => ?_) ?_
  · simp only [F_impl_chainOfWalk_l1, show (i : Int) < w.2.length by omega, decide_true, if_true, show (0 : Int) ≤ i by omega, and_self, Int.toNat_natCast, hg]
    rw [F_impl_Chain_add_eq (h.to x hx) (by simp at ho; omega), Option.bind_some, w64 (by omega) (by omega)]
  · simp [F_impl_chainOfWalk_l1, chW]
abbrev Eqq := List Int × List Int
def eqOkB (a : List Int) (e : Eqq) : Bool := termOk a e.1 && termOk a e.2
def eqsOkB (a : List Int) (eqs : List Eqq) : Bool := sigOk a && (decide (eqs.length ≤ 12) && eqs.all (eqOkB a))
theorem eqOk_iff {a : List Int} {e : Eqq} : eqOkB a e = true ↔ termOk a e.1 = true ∧ termOk a e.2 = true := by simp [eqOkB]
theorem eqsOk_iff {a : List Int} {eqs : List Eqq} : eqsOkB a eqs = true ↔ sigOk a = true ∧ eqs.length ≤ 12 ∧ ∀ e ∈ eqs, eqOkB a e = true := by simp [eqsOkB]
def sideF (eqs : List Eqq) (m : Mvv) : List Int := if m.2.2.1 = true then (eqs.getD m.1.toNat default).2 else (eqs.getD m.1.toNat default).1
def sideO (eqs : List Eqq) (m : Mvv) : List Int := if m.2.2.1 = true then (eqs.getD m.1.toNat default).1 else (eqs.getD m.1.toNat default).2
def inB (eqs : List Eqq) (t : List Int) (m : Mvv) : Prop := (0 ≤ m.1 ∧ m.1 < eqs.length) ∧ (0 ≤ m.2.1 ∧ m.2.1 < t.length) ∧ m.2.1 < m.2.2.2.length
instance (eqs : List Eqq) (t : List Int) (m : Mvv) : Decidable (inB eqs t m) := by unfold inB; infer_instance
def moveB (a : List Int) (eqs : List Eqq) (t : List Int) (m : Mvv) : Bool := decide (inB eqs t m) && (termOk a m.2.2.2 && mvB a (sideF eqs m) (sideO eqs m) t m.2.2.2 m.2.1.toNat)
def chFrom (a : List Int) (eqs : List Eqq) : List Int → List Mvv → Bool
  | _, [] => true
  | t, m :: ms => moveB a eqs t m && chFrom a eqs m.2.2.2 ms
def chOk (a : List Int) (eqs : List Eqq) (c : Chn) : Bool := eqsOkB a eqs && (termOk a c.1 && (decide (c.2.length ≤ 60) && chFrom a eqs c.1 c.2))
theorem moveB_to {a : List Int} {eqs : List Eqq} {t : List Int} {m : Mvv} (h : moveB a eqs t m = true) : termOk a m.2.2.2 = true := by
  simp only [moveB, Bool.and_eq_true] at h; exact h.2.1
theorem F_spec_l1There_eq {t : List Int} (hs : t.length ≤ 60) {i : Int} : F_spec_l1There t i = some (decide (0 ≤ i ∧ i < t.length)) := by
  unfold F_spec_l1There
  rw [F_spec_l1In_eq, Option.bind_some, w64 (by omega) (by omega)]
  congr 1
  rw [Bool.decide_and]
  congr 1
  exact decide_eq_decide.2 (by omega)
def endR : List Int → List Mvv → List Int
  | t, [] => t
  | _, m :: ms => endR m.2.2.2 ms
theorem endR_get : ∀ {ms : List Mvv} {t : List Int}, (if ms.length = 0 then t else (ms.getD (ms.length - 1) default).2.2.2) = endR t ms
  | [], _ => rfl
  | [m], t => rfl
  | m :: m' :: ms, t => by
    have := endR_get (ms := m' :: ms) (t := m.2.2.2)
    simpa [endR] using this
theorem chEnd_eq (c : Chn) : chEnd c = endR c.1 c.2 := endR_get
theorem moveB_iff {a : List Int} {eqs : List Eqq} {t : List Int} {m : Mvv} (he : eqsOkB a eqs = true) (ht : termOk a t = true) :
    moveB a eqs t m = true ↔ (0 ≤ m.1 ∧ m.1 < eqs.length) ∧ 0 ≤ m.2.1 ∧ termOk a m.2.2.2 = true ∧ Mv a (sideF eqs m) (sideO eqs m) t m.2.2.2 m.2.1.toNat := by
  obtain ⟨ha, hel, hall⟩ := eqsOk_iff.1 he
  obtain ⟨_, t1, t2, t3⟩ := termOk_iff.1 ht
  have sides : (0 ≤ m.1 ∧ m.1 < eqs.length) → Wf a 1 (sideF eqs m) ∧ Wf a 1 (sideO eqs m) := fun h => by
    obtain ⟨hL, hR⟩ := eqOk_iff.1 (hall _ (getD_mem (show m.1.toNat < eqs.length by omega)))
    unfold sideF sideO
    cases m.2.2.1 with
    | true => exact ⟨(termOk_iff.1 hR).2.2.2, (termOk_iff.1 hL).2.2.2⟩
    | false => exact ⟨(termOk_iff.1 hL).2.2.2, (termOk_iff.1 hR).2.2.2⟩
  simp only [moveB, Bool.and_eq_true, decide_eq_true_eq]
  unfold inB
  constructor
  · rintro ⟨⟨h1, h2, h3⟩, h4, h5⟩
    exact ⟨h1, h2.1, h4, (mvB_iff (sides h1).1 (sides h1).2 t3 (termOk_iff.1 h4).2.2.2 (by omega) (by omega)).1 h5⟩
  · rintro ⟨h1, h2, h4, h5⟩
    have h5' := h5
    obtain ⟨p, s, σ, hp, e1, e2, hσ⟩ := h5'
    have l1 := ((sides h1).1.sub fun x _ hx => hσ x hx).len
    have l2 := ((sides h1).2.sub fun x _ hx => hσ x hx).len
    have e1 := congrArg List.length e1
    have e2 := congrArg List.length e2
    simp only [List.length_append] at e1 e2
    exact ⟨⟨h1, ⟨h2, by omega⟩, by omega⟩, h4, (mvB_iff (sides h1).1 (sides h1).2 t3 (termOk_iff.1 h4).2.2.2 (by omega) (by omega)).2 h5⟩
theorem chFrom_end {a : List Int} {eqs : List Eqq} : ∀ {ms : List Mvv} {t : List Int}, termOk a t = true → chFrom a eqs t ms = true → termOk a (endR t ms) = true
  | [], _, ht, _ => ht
  | m :: ms, t, ht, h => by
    rw [chFrom, Bool.and_eq_true] at h
    exact chFrom_end (ms := ms) (moveB_to h.1) h.2
theorem chOk_iff {a : List Int} {eqs : List Eqq} {c : Chn} : chOk a eqs c = true ↔ eqsOkB a eqs = true ∧ termOk a c.1 = true ∧ c.2.length ≤ 60 ∧ chFrom a eqs c.1 c.2 = true := by simp [chOk]
theorem sys_eqs {s : Sys} (h : sysOk s = true) : eqsOkB s.1 s.2 = true := by
  obtain ⟨h1, h2, h3⟩ := sysOk_iff.1 h
  exact eqsOk_iff.2 ⟨h1, h2, fun e he => let h := ruleOk_iff.1 (h3 e he); eqOk_iff.2 ⟨h.1, h.2.1⟩⟩
theorem stepAt_move {s : Sys} {t u : List Int} {x : Stp} (h : stepAtO s t x.1 x.2.1 = some u) (hu : (u == x.2.2) = true) : moveB s.1 s.2 t (x.2.1, x.1, false, x.2.2) = true := by
  have hl := stepAtO_small h
  unfold stepAtO at h
  split at h
  · rename_i hc
    obtain ⟨⟨hs, ht⟩, hi, hr⟩ := hc
    obtain rfl : u = x.2.2 := by simpa using hu
    obtain ⟨_, _, h3⟩ := sysOk_iff.1 hs
    obtain ⟨hL, hR, _, hv⟩ := ruleOk_iff.1 (h3 _ (getD_mem (show x.2.1.toNat < s.2.length by omega)))
    have wL := (termOk_iff.1 hL).2.2.2
    have wR := (termOk_iff.1 hR).2.2.2
    obtain ⟨ha, _, _, wt⟩ := termOk_iff.1 ht
    obtain ⟨hm, _⟩ := stepp_mv wL wR wt (show x.1.toNat < t.length by omega) hv h
    have wu := hm.wf wL wR wt
    exact (moveB_iff (sys_eqs hs) ht).2 ⟨hr, hi.1, termOk_iff.2 ⟨ha, wu.len, hl, wu⟩, hm⟩
  · cases h
theorem walk_ch {s : Sys} : ∀ {ms : List Stp} {t : List Int}, walkFrom s t ms = true → chFrom s.1 s.2 t (ms.map fun x => (x.2.1, x.1, false, x.2.2)) = true
  | [], _, _ => rfl
  | x :: ms, t, h => by
    rw [walkFrom] at h
    cases hs : stepAtO s t x.1 x.2.1 with
    | none => rw [hs] at h; cases h
    | some u =>
      rw [hs] at h
      simp only [Bool.and_eq_true] at h
      have hu : u = x.2.2 := by simpa using h.1
      rw [List.map_cons, chFrom, stepAt_move hs h.1, Bool.true_and]
      rw [hu] at h
      exact walk_ch h.2
theorem walk_small {s : Sys} : ∀ {ms : List Stp} {t : List Int}, walkFrom s t ms = true → ∀ m ∈ ms, m.2.2.length ≤ 60
  | [], _, _, m, hm => by cases hm
  | x :: ms, t, h, m, hm => by
    rw [walkFrom] at h
    cases hs : stepAtO s t x.1 x.2.1 with
    | none => rw [hs] at h; cases h
    | some u =>
      rw [hs] at h
      simp only [Bool.and_eq_true] at h
      have hu : u = x.2.2 := by simpa using h.1
      rcases List.mem_cons.1 hm with rfl | hm
      · rw [← hu]; exact stepAtO_small hs
      · exact walk_small h.2 m hm
theorem walkB_iff {s : Sys} {w : List Int × List Stp} : walkB s w = true ↔ sysOk s = true ∧ termOk s.1 w.1 = true ∧ w.2.length ≤ 60 ∧ walkFrom s w.1 w.2 = true := by simp [walkB]
theorem walkB_sm {s : Sys} {w : List Int × List Stp} (h : walkB s w = true) : SmW w := by
  obtain ⟨_, h2, h3, h4⟩ := walkB_iff.1 h
  exact ⟨(termOk_iff.1 h2).2.2.1, h3, walk_small h4⟩
theorem walkB_ch {s : Sys} {w : List Int × List Stp} (h : walkB s w = true) : chOk s.1 s.2 (chW w) = true := by
  obtain ⟨h1, h2, h3, h4⟩ := walkB_iff.1 h
  exact chOk_iff.2 ⟨sys_eqs h1, h2, by simpa [chW] using h3, walk_ch h4⟩
theorem F_spec_l7End_eq {w : List Int × List Stp} (h : SmW w) : F_spec_l7End w = some (chEnd (chW w)) := by
  unfold F_spec_l7End chEnd chW
  have hl := h.len
  simp only [List.length_map]
  by_cases h0 : w.2.length = 0
  · simp only [h0, Int.ofNat_zero, beq_self_eq_true, if_true]
    rw [F_spec_l1Copy_eq (show w.1.length < _ by have := h.from'; omega), Option.bind_some]
  · have : ((w.2.length : Int) == 0) = false := beq_eq_false_iff_ne.2 (by omega)
    simp only [this, Bool.false_eq_true, if_false, h0, w64 (n := (w.2.length : Int) - 1) (by omega) (by omega)]
    rw [if_pos (by omega), show ((w.2.length : Int) - 1).toNat = w.2.length - 1 by omega]
    have hlt : w.2.length - 1 < w.2.length := by omega
    have e : ((w.2.map fun s => (s.2.1, s.1, false, s.2.2)).getD (w.2.length - 1) default) = ((w.2.getD (w.2.length - 1) default).2.1, (w.2.getD (w.2.length - 1) default).1, false, (w.2.getD (w.2.length - 1) default).2.2) := by
      rw [getD_get (by simpa using hlt), getD_get hlt, List.getElem_map]
    rw [e, F_spec_l1Copy_eq (show List.length _ < _ by have := h.to _ (getD_mem hlt); omega), Option.bind_some]
theorem F_spec_EndTerm_eq {s : Sys} {w : List Int × List Stp} (h : walkB s w = true) : F_spec_EndTerm s w = some (chEnd (chW w)) := by
  unfold F_spec_EndTerm
  rw [F_spec_WalkOk_eq, Option.bind_some, if_pos h, F_spec_l7End_eq (walkB_sm h), Option.bind_some]
end Go.Proofs.YtklfjpilhbkekaaGreat
namespace Go.Proofs.YtklfjpilhbkekaaGreat
open Go Abx Tm
theorem F_impl_Walk_end_eq {w : List Int × List Stp} (h : SmW w) : F_impl_Walk_end w = some (chEnd (chW w)) := by
  unfold F_impl_Walk_end chEnd chW
  have hl := h.len
  simp only [List.length_map]
  by_cases h0 : w.2.length = 0
  · simp [h0]
  · simp only [show (0 : Int) < w.2.length by omega, decide_true, if_true, h0, if_false, w64 (n := (w.2.length : Int) - 1) (by omega) (by omega)]
    rw [if_pos (by omega), show ((w.2.length : Int) - 1).toNat = w.2.length - 1 by omega]
    have hlt : w.2.length - 1 < w.2.length := by omega
    rw [getD_get (xs := w.2.map _) (by simpa using hlt), getD_get hlt, List.getElem_map]
end Go.Proofs.YtklfjpilhbkekaaGreat
