/- What the equations of both sides come to: chains of equations, redexes, walks, equality by normal forms; nothing is assumed. -/
import Derived.Test.YtklfjpilhbkekaaGreatXb
import Derived.Test.YtklfjpilhbkekaaGreatXc
import Derived.Test.YtklfjpilhbkekaaGreatXpa
set_option linter.unusedSimpArgs false
set_option linter.unusedVariables false
set_option linter.unusedSectionVars false
set_option linter.unnecessarySimpa false
namespace Go.Proofs.YtklfjpilhbkekaaGreat
open Go Abx Tm
theorem loop_map {α β γ σ : Type} [Inhabited α] (mk : Int → List β → σ) {xs : List α} {g : α → β} {out0 : List β} {c : γ} {f : σ → Option (σ ⊕ γ)}
    (h : ∀ (i : Nat) (out : List β) (x : α), i < xs.length → x ∈ xs → xs.getD i default = x → out.length = out0.length + i → f (mk i out) = some (.inl (mk ((i : Int) + 1) (out ++ [g x]))))
    (he : f (mk xs.length (out0 ++ xs.map g)) = some (.inr c)) : loopC f (mk 0 out0) = some c := by
  have key : ∀ (k i : Nat) (out : List β), i + k = xs.length → out.length = out0.length + i → out ++ (xs.drop i).map g = out0 ++ xs.map g → loopC f (mk i out) = some c := by
    intro k
    induction k with
    | zero =>
      intro i out hi _ ho
      obtain rfl : i = xs.length := by omega
      rw [List.drop_length] at ho
      simp at ho; subst ho
      exact loopC_inr he
    | succ k ih =>
      intro i out hi hl ho
      have hlt : i < xs.length := by omega
      rw [loopC_inl (h i out _ hlt (List.getElem_mem hlt) (getD_get hlt) hl), show ((i : Int) + 1) = ((i + 1 : Nat) : Int) by omega]
      refine ih (i + 1) _ (by omega) (by simp; omega) ?_
      rw [List.drop_eq_getElem_cons hlt, List.map_cons] at ho
      rw [List.append_assoc, List.singleton_append]
      exact ho
  exact key xs.length 0 out0 (by omega) (by omega) (by simp)
theorem loop_mapN {β γ : Type} {n : Nat} {g : Nat → β} {c : γ} {f : Nat × List β → Option ((Nat × List β) ⊕ γ)}
    (h : ∀ (j : Nat) (out : List β), j < n → out.length = j → f (j, out) = some (.inl (j + 1, out ++ [g j])))
    (he : f (n, (List.range n).map g) = some (.inr c)) : loopC f (0, []) = some c := by
  have key : ∀ (k j : Nat), j + k = n → loopC f (j, (List.range j).map g) = some c := by
    intro k
    induction k with
    | zero => intro j hj; obtain rfl : j = n := (by omega); exact loopC_inr he
    | succ k ih =>
      intro j hj
      rw [loopC_inl (h j _ (by omega) (by simp))]
      have := ih (j + 1) (by omega)
      rw [List.range_succ] at this
      simpa using this
  exact key n 0 (by omega)
theorem loop_down {β γ : Type} {n : Nat} {g : Nat → β} {c : γ} {f : Int × List β → Option ((Int × List β) ⊕ γ)}
    (h : ∀ (i : Nat) (out : List β), i < n → out.length = n - 1 - i → f ((i : Int), out) = some (.inl ((i : Int) - 1, out ++ [g i])))
    (he : f (-1, (List.range n).map fun j => g (n - 1 - j)) = some (.inr c)) : loopC f ((n : Int) - 1, []) = some c := by
  have key : ∀ (k j : Nat), j + k = n → loopC f ((n : Int) - 1 - j, (List.range j).map fun j => g (n - 1 - j)) = some c := by
    intro k
    induction k with
    | zero => intro j hj; obtain rfl : j = n := (by omega); rw [show (j : Int) - 1 - j = -1 by omega]; exact loopC_inr he
    | succ k ih =>
      intro j hj
      rw [show (n : Int) - 1 - j = ((n - 1 - j : Nat) : Int) by omega, loopC_inl (h (n - 1 - j) _ (by omega) (by simp; omega))]
      have := ih (j + 1) (by omega)
      rw [List.range_succ] at this
      rw [show ((n - 1 - j : Nat) : Int) - 1 = (n : Int) - 1 - ((j + 1 : Nat) : Int) by omega]
      simpa using this
  simpa using key n 0 (by omega)
abbrev Mvv := Int × Int × Bool × List Int
abbrev Chn := List Int × List Mvv
def chW (w : List Int × List Stp) : Chn := (w.1, w.2.map fun s => (s.2.1, s.1, false, s.2.2))
def chEnd (c : Chn) : List Int := if c.2.length = 0 then c.1 else (c.2.getD (c.2.length - 1) default).2.2.2
def tmv (c : Chn) (i : Nat) : Mvv := ((c.2.getD i default).1, (c.2.getD i default).2.1, !(c.2.getD i default).2.2.1, if 0 < i then (c.2.getD (i - 1) default).2.2.2 else c.1)
def turnC (c : Chn) : Chn := (chEnd c, (List.range c.2.length).map fun j => tmv c (c.2.length - 1 - j))
def joinO (a b : Chn) : Option Chn := if a.2.length + b.2.length ≤ 60 then some (a.1, a.2 ++ b.2) else none
def encC (o : Option Chn) : Chn × Bool := match o with | some c => (c, true) | none => (([], []), false)
structure SmC (c : Chn) : Prop where
  from' : c.1.length ≤ 60
  len : c.2.length ≤ 60
  to : ∀ m ∈ c.2, m.2.2.2.length ≤ 60
structure SmW (w : List Int × List Stp) : Prop where
  from' : w.1.length ≤ 60
  len : w.2.length ≤ 60
  to : ∀ m ∈ w.2, m.2.2.length ≤ 60
theorem SmW.ch {w : List Int × List Stp} (h : SmW w) : SmC (chW w) :=
  ⟨h.from', by simpa [chW] using h.len, fun m hm => by obtain ⟨s, hs, rfl⟩ := List.mem_map.1 hm; exact h.to s hs⟩
theorem SmC.at {c : Chn} (h : SmC c) {i : Nat} (hi : i < c.2.length) : (c.2.getD i default).2.2.2.length ≤ 60 := h.to _ (getD_mem hi)
theorem SmC.end' {c : Chn} (h : SmC c) : (chEnd c).length ≤ 60 := by
  unfold chEnd
  split
  · exact h.from'
  · exact h.at (by omega)
theorem SmC.tmv {c : Chn} (h : SmC c) {i : Nat} (hi : i < c.2.length) : (tmv c i).2.2.2.length ≤ 60 := by
  unfold Proofs.YtklfjpilhbkekaaGreat.tmv
  split
  · exact h.at (by omega)
  · exact h.from'
theorem SmC.turn {c : Chn} (h : SmC c) : SmC (turnC c) :=
  ⟨h.end', by simpa [turnC] using h.len, fun m hm => by
    obtain ⟨j, hj, rfl⟩ := List.mem_map.1 hm
    rw [List.mem_range] at hj
    exact h.tmv (by omega)⟩
theorem F_impl_Chain_add_eq {m : Mvv} {c0 : List Int} {c1 : List Mvv} (hm : m.2.2.2.length ≤ 60) (hc : c1.length ≤ 1000) : F_impl_Chain_add m c0 c1 = some (c1 ++ [m]) := by
  unfold F_impl_Chain_add
  rw [F_slices_Clone_eq (show m.2.2.2.length < _ by omega), Option.bind_some, if_pos (by omega)]
theorem F_impl_chainOfWalk_eq {w : List Int × List Stp} (h : SmW w) : F_impl_chainOfWalk w = some (chW w) := by
  unfold F_impl_chainOfWalk
  have hl := h.len
  rw [F_slices_Clone_eq (show w.1.length < _ by have := h.from'; omega), Option.bind_some]
  refine loop_map (mk := fun i out => (i, out)) (xs := w.2) (g := fun s => (s.2.1, s.1, false, s.2.2)) (fun i out x hi hx hg ho => ?_) ?_
  · simp only [F_impl_chainOfWalk_l1, show (i : Int) < w.2.length by omega, decide_true, if_true, show (0 : Int) ≤ i by omega, and_self, Int.toNat_natCast, hg]
    rw [F_impl_Chain_add_eq (h.to x hx) (by simp at ho; omega), Option.bind_some, w64 (by omega) (by omega)]
  · simp [F_impl_chainOfWalk_l1, chW]
theorem F_impl_Chain_end_eq {c : Chn} (h : SmC c) : F_impl_Chain_end c = some (chEnd c) := by
  unfold F_impl_Chain_end chEnd
  have hl := h.len
  by_cases h0 : c.2.length = 0
  · simp [h0]
  · simp only [show (0 : Int) < c.2.length by omega, decide_true, if_true, h0, if_false, w64 (n := (c.2.length : Int) - 1) (by omega) (by omega)]
    rw [if_pos (by omega), show ((c.2.length : Int) - 1).toNat = c.2.length - 1 by omega]
theorem F_impl_turned_eq {c : Chn} (h : SmC c) : F_impl_turned c = some (turnC c) := by
  unfold F_impl_turned
  have hl := h.len
  rw [F_impl_Chain_end_eq h, Option.bind_some, F_slices_Clone_eq (show (chEnd c).length < _ by have := h.end'; omega), Option.bind_some]
  simp only [F_slices_Backward_impl_Move_impl_Move, Option.bind_some]
  refine loop_mapN (n := c.2.length) (g := fun j => tmv c (c.2.length - 1 - j)) (fun j out hj ho => ?_) ?_
  · have ht := h.tmv (i := c.2.length - 1 - j) (by omega)
    simp only [F_impl_turned_l1, hj, if_true]
    by_cases hp : 0 < c.2.length - 1 - j
    · simp only [show (0 : Int) < (c.2.length : Int) - 1 - j by omega, decide_true, if_true, w64 (n := (c.2.length : Int) - 1 - j - 1) (by omega) (by omega)]
      rw [if_pos (by omega), show ((c.2.length : Int) - 1 - j - 1).toNat = c.2.length - 1 - j - 1 by omega]
      simp only [tmv, hp, if_true] at ht ⊢
      rw [F_impl_Chain_add_eq (by simpa using ht) (by omega), Option.bind_some]
    · simp only [show ¬ (0 : Int) < (c.2.length : Int) - 1 - j by omega, decide_false, Bool.false_eq_true, if_false]
      simp only [tmv, hp, if_false] at ht ⊢
      rw [F_impl_Chain_add_eq (by simpa using ht) (by omega), Option.bind_some]
  · simp [F_impl_turned_l1, turnC]
theorem F_impl_joinChains_eq {a b : Chn} (ha : SmC a) (hb : SmC b) : F_impl_joinChains a b = some (encC (if chEnd a = b.1 then joinO a b else none)) := by
  unfold F_impl_joinChains joinO
  have hla := ha.len
  have hlb := hb.len
  rw [F_impl_Chain_end_eq ha, Option.bind_some, F_slices_Equal_eq (show (chEnd a).length < _ by have := ha.end'; omega), Option.bind_some]
  by_cases he : chEnd a = b.1
  · simp only [he, beq_self_eq_true, if_true, w64 (n := (a.2.length : Int) + b.2.length) (by omega) (by omega)]
    by_cases h60 : a.2.length + b.2.length ≤ 60
    · simp only [show ¬ (60 : Int) < (a.2.length : Int) + b.2.length by omega, decide_false, Bool.false_eq_true, if_false, h60, if_true, encC]
      rw [F_slices_Clone_eq (show a.1.length < _ by have := ha.from'; omega), Option.bind_some, if_pos (by omega), if_pos (by omega)]
      have hla2 : (a.2 ++ b.2).length ≤ 60 := by simp; omega
      refine loop_map (mk := fun i out => (i, out)) (xs := a.2 ++ b.2) (g := fun m => m) (fun i out x hi hx hg ho => ?_) ?_
      · simp only [F_impl_joinChains_l1, show (i : Int) < ((a.2 ++ b.2).length : Int) by omega, decide_true, if_true, show (0 : Int) ≤ i by omega, and_self, Int.toNat_natCast, hg]
        rw [F_impl_Chain_add_eq (m := x) ((List.mem_append.1 hx).elim (ha.to x) (hb.to x)) (by simp at ho; omega), Option.bind_some, w64 (by omega) (by omega)]
      · simp [F_impl_joinChains_l1]
    · simp only [show (60 : Int) < (a.2.length : Int) + b.2.length by omega, decide_true, if_true, h60, if_false, encC]
  · have : (chEnd a == b.1) = false := by simpa using he
    simp only [this, Bool.false_eq_true, if_false, he, encC]
theorem F_spec_l20Walk_eq {w : List Int × List Stp} (h : SmW w) : F_spec_l20Walk w = some (chW w) := by
  unfold F_spec_l20Walk
  have hl := h.len
  rw [F_spec_l1Copy_eq (show w.1.length < _ by have := h.from'; omega), Option.bind_some]
  refine loop_map (mk := fun i out => (i, out)) (xs := w.2) (g := fun s => (s.2.1, s.1, false, s.2.2)) (fun i out x hi hx hg ho => ?_) ?_
  · simp only [F_spec_l20Walk_l1, show (i : Int) < w.2.length by omega, decide_true, if_true, show (0 : Int) ≤ i by omega, and_self, Int.toNat_natCast, hg]
    rw [F_spec_l1Copy_eq (show x.2.2.length < _ by have := h.to x hx; omega), Option.bind_some, if_pos (by simp at ho; omega), w64 (by omega) (by omega)]
  · simp [F_spec_l20Walk_l1, chW]
theorem F_spec_l20End_eq {c : Chn} (h : SmC c) : F_spec_l20End c = some (chEnd c) := by
  unfold F_spec_l20End chEnd
  have hl := h.len
  by_cases h0 : c.2.length = 0
  · simp [h0]
  · have : ((c.2.length : Int) == 0) = false := beq_eq_false_iff_ne.2 (by omega)
    simp only [this, Bool.false_eq_true, if_false, h0, w64 (n := (c.2.length : Int) - 1) (by omega) (by omega)]
    rw [if_pos (by omega), show ((c.2.length : Int) - 1).toNat = c.2.length - 1 by omega]
theorem F_spec_l20CopyMove_eq {m : Mvv} (h : m.2.2.2.length ≤ 60) : F_spec_l20CopyMove m = some m := by
  unfold F_spec_l20CopyMove
  rw [F_spec_l1Copy_eq (show m.2.2.2.length < _ by omega), Option.bind_some]
theorem F_spec_l20Turn_eq {c : Chn} (h : SmC c) : F_spec_l20Turn c = some (turnC c) := by
  unfold F_spec_l20Turn
  have hl := h.len
  rw [F_spec_l20End_eq h, Option.bind_some, F_spec_l1Copy_eq (show (chEnd c).length < _ by have := h.end'; omega), Option.bind_some, w64 (by omega) (by omega)]
  refine loop_down (n := c.2.length) (g := fun i => tmv c i) (fun i out hi ho => ?_) ?_
  · have ht := h.tmv hi
    simp only [F_spec_l20Turn_l1, show (0 : Int) ≤ i by omega, decide_true, if_true, show (i : Int) < c.2.length by omega, and_self, Int.toNat_natCast]
    by_cases hp : 0 < i
    · simp only [show (0 : Int) < i by omega, decide_true, if_true, w64 (n := (i : Int) - 1) (by omega) (by omega)]
      rw [if_pos (by omega), show ((i : Int) - 1).toNat = i - 1 by omega]
      simp only [tmv, hp, if_true] at ht ⊢
      rw [F_spec_l20CopyMove_eq (by simpa using ht), Option.bind_some, if_pos (by omega)]
    · simp only [show ¬ (0 : Int) < i by omega, decide_false, Bool.false_eq_true, if_false]
      simp only [tmv, hp, if_false] at ht ⊢
      rw [F_spec_l20CopyMove_eq (by simpa using ht), Option.bind_some, if_pos (by omega), w64 (by omega) (by omega)]
  · simp [F_spec_l20Turn_l1, turnC]
theorem F_spec_l20Join_eq {a b : Chn} (ha : SmC a) (hb : SmC b) : F_spec_l20Join a b = some (encC (joinO a b)) := by
  unfold F_spec_l20Join joinO
  have hla := ha.len
  have hlb := hb.len
  rw [w64 (n := (a.2.length : Int) + b.2.length) (by omega) (by omega)]
  by_cases h60 : a.2.length + b.2.length ≤ 60
  · simp only [show ¬ (60 : Int) < (a.2.length : Int) + b.2.length by omega, decide_false, Bool.false_eq_true, if_false, h60, if_true, encC]
    rw [F_spec_l1Copy_eq (show a.1.length < _ by have := ha.from'; omega), Option.bind_some]
    refine loop_map (mk := fun i out => (i, out)) (xs := a.2) (g := fun m => m) (fun i out x hi hx hg ho => ?_) ?_
    · simp only [F_spec_l20Join_l1, show (i : Int) < (a.2.length : Int) by omega, decide_true, if_true, show (0 : Int) ≤ i by omega, and_self, Int.toNat_natCast, hg]
      rw [F_spec_l20CopyMove_eq (m := x) (ha.to x hx), Option.bind_some, if_pos (by simp at ho; omega), w64 (by omega) (by omega)]
    · simp only [F_spec_l20Join_l1, Int.lt_irrefl, decide_false, Bool.false_eq_true, if_false, List.map_id', List.nil_append]
      have : loopC (F_spec_l20Join_l2 b a.1) (0, a.2) = some ((a.1, a.2 ++ b.2), true) := by
        refine loop_map (mk := fun i out => (i, out)) (xs := b.2) (g := fun m => m) (fun i out x hi hx hg ho => ?_) ?_
        · simp only [F_spec_l20Join_l2, show (i : Int) < (b.2.length : Int) by omega, decide_true, if_true, show (0 : Int) ≤ i by omega, and_self, Int.toNat_natCast, hg]
          rw [F_spec_l20CopyMove_eq (m := x) (hb.to x hx), Option.bind_some, if_pos (by omega), w64 (by omega) (by omega)]
        · simp [F_spec_l20Join_l2]
      rw [this]; rfl
  · simp only [show (60 : Int) < (a.2.length : Int) + b.2.length by omega, decide_true, if_true, h60, if_false, encC]
abbrev Eqq := List Int × List Int
def eqOkB (a : List Int) (e : Eqq) : Bool := termOk a e.1 && termOk a e.2
def eqsOkB (a : List Int) (eqs : List Eqq) : Bool := sigOk a && (decide (eqs.length ≤ 12) && eqs.all (eqOkB a))
theorem eqOk_iff {a : List Int} {e : Eqq} : eqOkB a e = true ↔ termOk a e.1 = true ∧ termOk a e.2 = true := by simp [eqOkB]
theorem eqsOk_iff {a : List Int} {eqs : List Eqq} : eqsOkB a eqs = true ↔ sigOk a = true ∧ eqs.length ≤ 12 ∧ ∀ e ∈ eqs, eqOkB a e = true := by simp [eqsOkB]
def sideF (eqs : List Eqq) (m : Mvv) : List Int := if m.2.2.1 = true then (eqs.getD m.1.toNat default).2 else (eqs.getD m.1.toNat default).1
def sideO (eqs : List Eqq) (m : Mvv) : List Int := if m.2.2.1 = true then (eqs.getD m.1.toNat default).1 else (eqs.getD m.1.toNat default).2
def inB (eqs : List Eqq) (t : List Int) (m : Mvv) : Prop := (0 ≤ m.1 ∧ m.1 < eqs.length) ∧ (0 ≤ m.2.1 ∧ m.2.1 < t.length) ∧ m.2.1 < m.2.2.2.length
instance (eqs : List Eqq) (t : List Int) (m : Mvv) : Decidable (inB eqs t m) := by unfold inB; infer_instance
def moveB (a : List Int) (eqs : List Eqq) (t : List Int) (m : Mvv) : Bool := decide (inB eqs t m) && (termOk a m.2.2.2 && mvB a (sideF eqs m) (sideO eqs m) t m.2.2.2 m.2.1.toNat)
def chFrom (a : List Int) (eqs : List Eqq) : List Int → List Mvv → Bool
  | _, [] => true
  | t, m :: ms => moveB a eqs t m && chFrom a eqs m.2.2.2 ms
def chOk (a : List Int) (eqs : List Eqq) (c : Chn) : Bool := eqsOkB a eqs && (termOk a c.1 && (decide (c.2.length ≤ 60) && chFrom a eqs c.1 c.2))
theorem moveB_to {a : List Int} {eqs : List Eqq} {t : List Int} {m : Mvv} (h : moveB a eqs t m = true) : termOk a m.2.2.2 = true := by
  simp only [moveB, Bool.and_eq_true] at h; exact h.2.1
def endR : List Int → List Mvv → List Int
  | t, [] => t
  | _, m :: ms => endR m.2.2.2 ms
def revR : List Int → List Mvv → List Mvv
  | _, [] => []
  | t, m :: ms => revR m.2.2.2 ms ++ [(m.1, m.2.1, !m.2.2.1, t)]
theorem endR_app : ∀ {ms ns : List Mvv} {t : List Int}, endR t (ms ++ ns) = endR (endR t ms) ns
  | [], _, _ => rfl
  | m :: ms, ns, t => endR_app (ms := ms)
theorem endR_get : ∀ {ms : List Mvv} {t : List Int}, (if ms.length = 0 then t else (ms.getD (ms.length - 1) default).2.2.2) = endR t ms
  | [], _ => rfl
  | [m], t => rfl
  | m :: m' :: ms, t => by
    have := endR_get (ms := m' :: ms) (t := m.2.2.2)
    simpa [endR] using this
theorem chEnd_eq (c : Chn) : chEnd c = endR c.1 c.2 := endR_get
theorem revR_len : ∀ {ms : List Mvv} {t : List Int}, (revR t ms).length = ms.length
  | [], _ => rfl
  | m :: ms, t => by simp [revR, revR_len (ms := ms)]
theorem tmv_succ {t : List Int} {m : Mvv} {ms : List Mvv} {i : Nat} : tmv (t, m :: ms) (i + 1) = tmv (m.2.2.2, ms) i := by
  cases i <;> simp [tmv]
theorem revR_get : ∀ {ms : List Mvv} {t : List Int} {j : Nat}, j < ms.length → (revR t ms)[j]? = some (tmv (t, ms) (ms.length - 1 - j))
  | [], _, _, h => by simp at h
  | m :: ms, t, j, h => by
    simp only [List.length_cons] at h
    rw [revR]
    by_cases hj : j < ms.length
    · rw [List.getElem?_append_left (by rw [revR_len]; exact hj), revR_get hj, show (m :: ms).length - 1 - j = (ms.length - 1 - j) + 1 by simp only [List.length_cons]; omega, tmv_succ]
    · obtain rfl : j = ms.length := by omega
      rw [List.getElem?_append_right (by rw [revR_len]; exact Nat.le_refl _), revR_len]
      simp [tmv]
theorem turnC_eq (c : Chn) : turnC c = (endR c.1 c.2, revR c.1 c.2) := by
  unfold turnC
  rw [chEnd_eq]
  congr 1
  refine List.ext_getElem? fun j => ?_
  by_cases hj : j < c.2.length
  · rw [revR_get hj, List.getElem?_map, List.getElem?_range hj]; rfl
  · rw [List.getElem?_eq_none (by simp; omega), List.getElem?_eq_none (by rw [revR_len]; omega)]
theorem endR_snoc {ms : List Mvv} {m : Mvv} {t : List Int} : endR t (ms ++ [m]) = m.2.2.2 := by rw [endR_app]; rfl
theorem endR_rev {ms : List Mvv} {t : List Int} : endR (endR t ms) (revR t ms) = t := by
  cases ms with
  | nil => rfl
  | cons m ms => rw [revR, endR_snoc]
theorem chFrom_app {a : List Int} {eqs : List Eqq} : ∀ {ms ns : List Mvv} {t : List Int}, chFrom a eqs t (ms ++ ns) = (chFrom a eqs t ms && chFrom a eqs (endR t ms) ns)
  | [], _, _ => by simp [chFrom, endR]
  | m :: ms, ns, t => by
    rw [List.cons_append, chFrom, chFrom, chFrom_app (ms := ms), endR, Bool.and_assoc]
theorem moveB_iff {a : List Int} {eqs : List Eqq} {t : List Int} {m : Mvv} (he : eqsOkB a eqs = true) (ht : termOk a t = true) :
    moveB a eqs t m = true ↔ (0 ≤ m.1 ∧ m.1 < eqs.length) ∧ 0 ≤ m.2.1 ∧ termOk a m.2.2.2 = true ∧ Mv a (sideF eqs m) (sideO eqs m) t m.2.2.2 m.2.1.toNat := by
  obtain ⟨ha, hel, hall⟩ := eqsOk_iff.1 he
  obtain ⟨_, t1, t2, t3⟩ := termOk_iff.1 ht
  have sides : (0 ≤ m.1 ∧ m.1 < eqs.length) → Wf a 1 (sideF eqs m) ∧ Wf a 1 (sideO eqs m) := fun h => by
    obtain ⟨hL, hR⟩ := eqOk_iff.1 (hall _ (getD_mem (show m.1.toNat < eqs.length by omega)))
    unfold sideF sideO
    cases m.2.2.1 with
    | true => exact ⟨(termOk_iff.1 hR).2.2.2, (termOk_iff.1 hL).2.2.2⟩
    | false => exact ⟨(termOk_iff.1 hL).2.2.2, (termOk_iff.1 hR).2.2.2⟩
  simp only [moveB, Bool.and_eq_true, decide_eq_true_eq]
  unfold inB
  constructor
  · rintro ⟨⟨h1, h2, h3⟩, h4, h5⟩
    exact ⟨h1, h2.1, h4, (mvB_iff (sides h1).1 (sides h1).2 t3 (termOk_iff.1 h4).2.2.2 (by omega) (by omega)).1 h5⟩
  · rintro ⟨h1, h2, h4, h5⟩
    have h5' := h5
    obtain ⟨p, s, σ, hp, e1, e2, hσ⟩ := h5'
    have l1 := ((sides h1).1.sub fun x _ hx => hσ x hx).len
    have l2 := ((sides h1).2.sub fun x _ hx => hσ x hx).len
    have e1 := congrArg List.length e1
    have e2 := congrArg List.length e2
    simp only [List.length_append] at e1 e2
    exact ⟨⟨h1, ⟨h2, by omega⟩, by omega⟩, h4, (mvB_iff (sides h1).1 (sides h1).2 t3 (termOk_iff.1 h4).2.2.2 (by omega) (by omega)).2 h5⟩
theorem moveB_turn {a : List Int} {eqs : List Eqq} {t : List Int} {m : Mvv} (he : eqsOkB a eqs = true) (ht : termOk a t = true) (h : moveB a eqs t m = true) : moveB a eqs m.2.2.2 (m.1, m.2.1, !m.2.2.1, t) = true := by
  obtain ⟨h1, h2, h3, h4⟩ := (moveB_iff he ht).1 h
  refine (moveB_iff he h3).2 ⟨h1, h2, ht, ?_⟩
  have e1 : sideF eqs (m.1, m.2.1, !m.2.2.1, t) = sideO eqs m := by unfold sideF sideO; cases m.2.2.1 <;> rfl
  have e2 : sideO eqs (m.1, m.2.1, !m.2.2.1, t) = sideF eqs m := by unfold sideF sideO; cases m.2.2.1 <;> rfl
  rw [e1, e2]
  exact h4.symm
theorem chFrom_end {a : List Int} {eqs : List Eqq} : ∀ {ms : List Mvv} {t : List Int}, termOk a t = true → chFrom a eqs t ms = true → termOk a (endR t ms) = true
  | [], _, ht, _ => ht
  | m :: ms, t, ht, h => by
    rw [chFrom, Bool.and_eq_true] at h
    exact chFrom_end (ms := ms) (moveB_to h.1) h.2
theorem chFrom_rev {a : List Int} {eqs : List Eqq} (he : eqsOkB a eqs = true) : ∀ {ms : List Mvv} {t : List Int}, termOk a t = true → chFrom a eqs t ms = true → chFrom a eqs (endR t ms) (revR t ms) = true
  | [], _, _, _ => rfl
  | m :: ms, t, ht, h => by
    rw [chFrom, Bool.and_eq_true] at h
    have hm := moveB_to h.1
    rw [revR, endR, chFrom_app, chFrom_rev he (ms := ms) hm h.2, endR_rev, Bool.true_and, chFrom, moveB_turn he ht h.1]
    rfl
theorem chOk_iff {a : List Int} {eqs : List Eqq} {c : Chn} : chOk a eqs c = true ↔ eqsOkB a eqs = true ∧ termOk a c.1 = true ∧ c.2.length ≤ 60 ∧ chFrom a eqs c.1 c.2 = true := by simp [chOk]
theorem chOk_turn {a : List Int} {eqs : List Eqq} {c : Chn} (h : chOk a eqs c = true) : chOk a eqs (turnC c) = true := by
  obtain ⟨h1, h2, h3, h4⟩ := chOk_iff.1 h
  rw [turnC_eq]
  exact chOk_iff.2 ⟨h1, chFrom_end h2 h4, by simpa [revR_len] using h3, chFrom_rev h1 h2 h4⟩
theorem chOk_join {a : List Int} {eqs : List Eqq} {c d e : Chn} (h : chOk a eqs c = true) (h' : chOk a eqs d = true) (hj : chEnd c = d.1) (he : joinO c d = some e) : chOk a eqs e = true ∧ e.1 = c.1 ∧ chEnd e = chEnd d := by
  obtain ⟨h1, h2, h3, h4⟩ := chOk_iff.1 h
  obtain ⟨_, g2, g3, g4⟩ := chOk_iff.1 h'
  unfold joinO at he
  split at he
  · rename_i hl
    cases he
    rw [chEnd_eq] at hj
    refine ⟨chOk_iff.2 ⟨h1, h2, by simpa using hl, ?_⟩, rfl, ?_⟩
    · show chFrom a eqs c.1 (c.2 ++ d.2) = true
      rw [chFrom_app, h4, hj, g4]; rfl
    · rw [chEnd_eq, chEnd_eq]
      show endR c.1 (c.2 ++ d.2) = _
      rw [endR_app, hj]
  · cases he
theorem sys_eqs {s : Sys} (h : sysOk s = true) : eqsOkB s.1 s.2 = true := by
  obtain ⟨h1, h2, h3⟩ := sysOk_iff.1 h
  exact eqsOk_iff.2 ⟨h1, h2, fun e he => let h := ruleOk_iff.1 (h3 e he); eqOk_iff.2 ⟨h.1, h.2.1⟩⟩
theorem stepAt_move {s : Sys} {t u : List Int} {x : Stp} (h : stepAtO s t x.1 x.2.1 = some u) (hu : (u == x.2.2) = true) : moveB s.1 s.2 t (x.2.1, x.1, false, x.2.2) = true := by
  have hl := stepAtO_small h
  unfold stepAtO at h
  split at h
  · rename_i hc
    obtain ⟨⟨hs, ht⟩, hi, hr⟩ := hc
    obtain rfl : u = x.2.2 := by simpa using hu
    obtain ⟨_, _, h3⟩ := sysOk_iff.1 hs
    obtain ⟨hL, hR, _, hv⟩ := ruleOk_iff.1 (h3 _ (getD_mem (show x.2.1.toNat < s.2.length by omega)))
    have wL := (termOk_iff.1 hL).2.2.2
    have wR := (termOk_iff.1 hR).2.2.2
    obtain ⟨ha, _, _, wt⟩ := termOk_iff.1 ht
    obtain ⟨hm, _⟩ := stepp_mv wL wR wt (show x.1.toNat < t.length by omega) hv h
    have wu := hm.wf wL wR wt
    exact (moveB_iff (sys_eqs hs) ht).2 ⟨hr, hi.1, termOk_iff.2 ⟨ha, wu.len, hl, wu⟩, hm⟩
  · cases h
theorem walk_ch {s : Sys} : ∀ {ms : List Stp} {t : List Int}, walkFrom s t ms = true → chFrom s.1 s.2 t (ms.map fun x => (x.2.1, x.1, false, x.2.2)) = true
  | [], _, _ => rfl
  | x :: ms, t, h => by
    rw [walkFrom] at h
    cases hs : stepAtO s t x.1 x.2.1 with
    | none => rw [hs] at h; cases h
    | some u =>
      rw [hs] at h
      simp only [Bool.and_eq_true] at h
      have hu : u = x.2.2 := by simpa using h.1
      rw [List.map_cons, chFrom, stepAt_move hs h.1, Bool.true_and]
      rw [hu] at h
      exact walk_ch h.2
theorem walk_small {s : Sys} : ∀ {ms : List Stp} {t : List Int}, walkFrom s t ms = true → ∀ m ∈ ms, m.2.2.length ≤ 60
  | [], _, _, m, hm => by cases hm
  | x :: ms, t, h, m, hm => by
    rw [walkFrom] at h
    cases hs : stepAtO s t x.1 x.2.1 with
    | none => rw [hs] at h; cases h
    | some u =>
      rw [hs] at h
      simp only [Bool.and_eq_true] at h
      have hu : u = x.2.2 := by simpa using h.1
      rcases List.mem_cons.1 hm with rfl | hm
      · rw [← hu]; exact stepAtO_small hs
      · exact walk_small h.2 m hm
theorem walkB_iff {s : Sys} {w : List Int × List Stp} : walkB s w = true ↔ sysOk s = true ∧ termOk s.1 w.1 = true ∧ w.2.length ≤ 60 ∧ walkFrom s w.1 w.2 = true := by simp [walkB]
theorem walkB_sm {s : Sys} {w : List Int × List Stp} (h : walkB s w = true) : SmW w := by
  obtain ⟨_, h2, h3, h4⟩ := walkB_iff.1 h
  exact ⟨(termOk_iff.1 h2).2.2.1, h3, walk_small h4⟩
theorem walkB_ch {s : Sys} {w : List Int × List Stp} (h : walkB s w = true) : chOk s.1 s.2 (chW w) = true := by
  obtain ⟨h1, h2, h3, h4⟩ := walkB_iff.1 h
  exact chOk_iff.2 ⟨sys_eqs h1, h2, by simpa [chW] using h3, walk_ch h4⟩
theorem F_spec_l7End_eq {w : List Int × List Stp} (h : SmW w) : F_spec_l7End w = some (chEnd (chW w)) := by
  unfold F_spec_l7End chEnd chW
  have hl := h.len
  simp only [List.length_map]
  by_cases h0 : w.2.length = 0
  · simp only [h0, Int.ofNat_zero, beq_self_eq_true, if_true]
    rw [F_spec_l1Copy_eq (show w.1.length < _ by have := h.from'; omega), Option.bind_some]
  · have : ((w.2.length : Int) == 0) = false := beq_eq_false_iff_ne.2 (by omega)
    simp only [this, Bool.false_eq_true, if_false, h0, w64 (n := (w.2.length : Int) - 1) (by omega) (by omega)]
    rw [if_pos (by omega), show ((w.2.length : Int) - 1).toNat = w.2.length - 1 by omega]
    have hlt : w.2.length - 1 < w.2.length := by omega
    have e : ((w.2.map fun s => (s.2.1, s.1, false, s.2.2)).getD (w.2.length - 1) default) = ((w.2.getD (w.2.length - 1) default).2.1, (w.2.getD (w.2.length - 1) default).1, false, (w.2.getD (w.2.length - 1) default).2.2) := by
      rw [getD_get (by simpa using hlt), getD_get hlt, List.getElem_map]
    rw [e, F_spec_l1Copy_eq (show List.length _ < _ by have := h.to _ (getD_mem hlt); omega), Option.bind_some]
theorem F_spec_EndTerm_eq {s : Sys} {w : List Int × List Stp} (h : walkB s w = true) : F_spec_EndTerm s w = some (chEnd (chW w)) := by
  unfold F_spec_EndTerm
  rw [F_spec_WalkOk_eq, Option.bind_some, if_pos h, F_spec_l7End_eq (walkB_sm h), Option.bind_some]
def cjO (s : Sys) (v w : List Int × List Stp) : Option Chn :=
  if walkB s v = true then if walkB s w = true then if chEnd (chW v) = chEnd (chW w) then joinO (chW v) (turnC (chW w)) else none else none else none
theorem F_spec_ChainOfJoin_eq (s : Sys) (v w : List Int × List Stp) : F_spec_ChainOfJoin s v w = some (encC (cjO s v w)) := by
  unfold F_spec_ChainOfJoin cjO
  rw [F_spec_WalkOk_eq, Option.bind_some]
  cases hv : walkB s v with
  | false => simp [encC]
  | true =>
    simp only [if_true]
    rw [F_spec_WalkOk_eq, Option.bind_some]
    cases hw : walkB s w with
    | false => simp [encC]
    | true =>
      have sv := walkB_sm hv
      have sw := walkB_sm hw
      simp only [if_true]
      rw [F_spec_EndTerm_eq hv, Option.bind_some, F_spec_EndTerm_eq hw, Option.bind_some, F_spec_SameTerm_eq (show List.length _ < _ by have := sv.ch.end'; omega), Option.bind_some]
      by_cases he : chEnd (chW v) = chEnd (chW w)
      · simp only [he, beq_self_eq_true, if_true]
        rw [F_spec_l20Walk_eq sv, Option.bind_some, F_spec_l20Walk_eq sw, Option.bind_some, F_spec_l20Turn_eq sw.ch, Option.bind_some, F_spec_l20Join_eq sv.ch sw.ch.turn, Option.bind_some]
      · have : (chEnd (chW v) == chEnd (chW w)) = false := by simpa using he
        simp only [this, he, Bool.false_eq_true, if_false, encC]
end Go.Proofs.YtklfjpilhbkekaaGreat
namespace Go.Proofs.YtklfjpilhbkekaaGreat
open Go Abx Tm
def firstI {α : Type} (p : α → Bool) (xs : List α) : Int := match xs.findIdx? p with | some j => (j : Int) | none => -1
theorem loop_first {α : Type} [Inhabited α] {xs : List α} {p : α → Bool} {f : Int → Option (Int ⊕ Int)}
    (h : ∀ (i : Nat) (x : α), i < xs.length → x ∈ xs → xs.getD i default = x → f (i : Int) = some (if p x = true then .inr (i : Int) else .inl ((i : Int) + 1)))
    (he : f xs.length = some (.inr (-1))) : loopC f 0 = some (firstI p xs) := by
  have key : ∀ (k i : Nat), i + k = xs.length → loopC f (i : Int) = some (match (xs.drop i).findIdx? p with | some j => ((i + j : Nat) : Int) | none => -1) := by
    intro k
    induction k with
    | zero =>
      intro i hi
      obtain rfl : i = xs.length := by omega
      rw [loopC_inr he, List.drop_length]; rfl
    | succ k ih =>
      intro i hi
      have hlt : i < xs.length := by omega
      have e := h i _ hlt (List.getElem_mem hlt) (getD_get hlt)
      rw [List.drop_eq_getElem_cons hlt, List.findIdx?_cons]
      cases hp : p (xs[i]) with
      | true => rw [hp] at e; rw [loopC_inr e]; simp
      | false =>
        rw [hp] at e
        rw [loopC_inl e, show ((i : Int) + 1) = ((i + 1 : Nat) : Int) by omega, ih (i + 1) (by omega)]
        cases hf : (xs.drop (i + 1)).findIdx? p with
        | none => simp
        | some j =>
          simp only [Bool.false_eq_true, if_false, Option.map_some]
          show some (((i + 1 + j : Nat) : Int)) = some (((i + (j + 1) : Nat) : Int))
          rw [show i + 1 + j = i + (j + 1) by omega]
  have := key xs.length 0 (by omega)
  simp only [List.drop_zero, Nat.zero_add] at this
  exact this
theorem loop_filter {γ : Type} {n : Nat} {p : Nat → Bool} {g : Nat → Int} {c : γ} {f : List Int × Int → Option ((List Int × Int) ⊕ γ)}
    (h : ∀ (i : Nat) (out : List Int), i < n → out.length ≤ i → f (out, (i : Int)) = some (.inl (if p i = true then out ++ [g i] else out, (i : Int) + 1)))
    (he : f (((List.range n).filter p).map g, (n : Int)) = some (.inr c)) : loopC f ([], 0) = some c := by
  have key : ∀ (k i : Nat), i + k = n → loopC f (((List.range i).filter p).map g, (i : Int)) = some c := by
    intro k
    induction k with
    | zero => intro i hi; obtain rfl : i = n := (by omega); exact loopC_inr he
    | succ k ih =>
      intro i hi
      have hl : (((List.range i).filter p).map g).length ≤ i := by
        rw [List.length_map]
        exact Nat.le_trans (List.length_filter_le _ _) (by simp)
      rw [loopC_inl (h i _ (by omega) hl), show ((i : Int) + 1) = ((i + 1 : Nat) : Int) by omega]
      have e : (if p i = true then ((List.range i).filter p).map g ++ [g i] else ((List.range i).filter p).map g) = ((List.range (i + 1)).filter p).map g := by
        rw [List.range_succ, List.filter_append, List.map_append]
        cases hp : p i <;> simp [hp]
      rw [e]
      exact ih (i + 1) (by omega)
  exact key n 0 (by omega)
def ruleI (s : Sys) (u : List Int) : Int := firstI (fun r => (mat s.1 r.1 u none24).isSome) s.2
theorem firstI_lt {α : Type} {p : α → Bool} {xs : List α} : -1 ≤ firstI p xs ∧ firstI p xs < xs.length := by
  unfold firstI
  cases h : xs.findIdx? p with
  | none => simp only; omega
  | some j => have := (List.findIdx?_eq_some_iff_getElem.1 h).1; simp only; omega
theorem firstI_none {α : Type} {p : α → Bool} {xs : List α} (h : ∀ x ∈ xs, p x = false) : firstI p xs = -1 := by
  unfold firstI
  rw [List.findIdx?_eq_none_iff.2 h]
theorem firstI_at {α : Type} {p : α → Bool} {xs : List α} {x : α} (hx : x ∈ xs) (hp : p x = true) : 0 ≤ firstI p xs := by
  unfold firstI
  cases h : xs.findIdx? p with
  | none => have := List.findIdx?_eq_none_iff.1 h x hx; rw [hp] at this; cases this
  | some j => simp only; omega
theorem ruleI_var {s : Sys} (hs : sysOk s = true) {y : Int} {u : List Int} (hy : y < 0) : ruleI s (y :: u) = -1 := by
  obtain ⟨_, _, hr⟩ := sysOk_iff.1 hs
  refine firstI_none fun r hm => ?_
  obtain ⟨hL, _, h0, _⟩ := ruleOk_iff.1 (hr r hm)
  obtain ⟨_, _, _, w⟩ := termOk_iff.1 hL
  obtain ⟨n, p, e, _, _⟩ := w.pos
  rw [e] at h0 ⊢
  simp only [List.headD_cons] at h0
  rw [mat_sym (by omega), if_neg (by omega)]; rfl
theorem at_place {a t : List Int} (ht : termOk a t = true) {i : Nat} (hi : i < t.length) : ∃ q, t.drop i = at' a t i ++ q ∧ Wf a 1 (at' a t i) ∧ (at' a t i).length ≤ 60 ∧ ∃ u, at' a t i = t[i] :: u := by
  obtain ⟨_, _, t2, t3⟩ := termOk_iff.1 ht
  obtain ⟨p, u, q, e, hp, hu⟩ := t3.place hi
  have ha : at' a t i = u := by rw [e, ← hp]; exact at_eq hu
  have hd : t.drop i = u ++ q := by rw [e, ← hp]; exact List.drop_left
  rw [ha]
  refine ⟨q, hd, hu, ?_, ?_⟩
  · have := congrArg List.length e; simp only [List.length_append] at this; omega
  · obtain ⟨y, r, e2, _, _⟩ := hu.pos
    subst e2
    rw [List.drop_eq_getElem_cons hi, List.cons_append] at hd
    exact ⟨r, by rw [(List.cons.inj hd).1]⟩
theorem match_isSome {a p t : List Int} {r : Bd × Bool} (h : MRes (mat a p t none24) r) : r.2 = (mat a p t none24).isSome := by
  cases hm : mat a p t none24 with
  | none => rw [hm] at h; exact h
  | some b => rw [hm] at h; exact h.1
theorem F_impl_ruleAt_eq {s : Sys} {t : List Int} (hs : sysOk s = true) (ht : termOk s.1 t = true) {i : Nat} (hi : i < t.length) : F_impl_ruleAt s t i = some (ruleI s (at' s.1 t i)) := by
  obtain ⟨ha, hl, hr⟩ := sysOk_iff.1 hs
  obtain ⟨_, t1, t2, t3⟩ := termOk_iff.1 ht
  obtain ⟨q, hd, hu, hul, _⟩ := at_place ht hi
  unfold F_impl_ruleAt
  refine loop_first (fun j r hj hm hg => ?_) (by simp [F_impl_ruleAt_l1])
  obtain ⟨hL, _⟩ := ruleOk_iff.1 (hr r hm)
  obtain ⟨_, _, l2, l3⟩ := termOk_iff.1 hL
  obtain ⟨r5, e1, e2⟩ := (F_impl_match_ok ha l3 hu l2 hul).get
  have e3 := match_isSome e2
  simp only [F_impl_ruleAt_l1, F_impl_redex, F_impl_instance, show (j : Int) < s.2.length by omega, decide_true, if_true, show (0 : Int) ≤ j by omega, and_self, Int.toNat_natCast, hg, w64 (n := (j : Int) + 1) (by omega) (by omega)]
  rw [F_impl_subAt_eq ha (show List.length _ < _ by omega) (fun x hx => (t3.all x hx).1) hd hu, Option.bind_some, e1]
  simp only [Option.bind_some, e3]
  cases (mat s.1 r.1 (at' s.1 t i) none24).isSome <;> simp
theorem F_spec_l8Redex_eq {s : Sys} {t : List Int} (hs : sysOk s = true) (ht : termOk s.1 t = true) {i : Nat} (hi : i < t.length) : F_spec_l8Redex s t i = some (ruleI s (at' s.1 t i)) := by
  obtain ⟨ha, hl, hr⟩ := sysOk_iff.1 hs
  obtain ⟨_, t1, t2, t3⟩ := termOk_iff.1 ht
  obtain ⟨q, hd, hu, hul, _⟩ := at_place ht hi
  unfold F_spec_l8Redex
  rw [F_spec_l1Sub_eq ha (show List.length _ < _ by omega) hd hu, Option.bind_some]
  refine loop_first (fun j r hj hm hg => ?_) (by simp [F_spec_l8Redex_l1])
  obtain ⟨hL, _⟩ := ruleOk_iff.1 (hr r hm)
  obtain ⟨_, _, l2, l3⟩ := termOk_iff.1 hL
  obtain ⟨r5, e1, e2⟩ := (F_spec_l4Match_ok ha l3 hu l2 hul).get
  have e3 := match_isSome e2
  simp only [F_spec_l8Redex_l1, show (j : Int) < s.2.length by omega, decide_true, if_true, show (0 : Int) ≤ j by omega, and_self, Int.toNat_natCast, hg, w64 (n := (j : Int) + 1) (by omega) (by omega)]
  rw [e1, Option.bind_some, e3]
  cases (mat s.1 r.1 (at' s.1 t i) none24).isSome <;> simp
def isR (s : Sys) (t : List Int) (i : Nat) : Bool := decide (0 ≤ ruleI s (at' s.1 t i))
def posR (s : Sys) (t : List Int) : List Int := ((List.range t.length).filter (isR s t)).map (fun i : Nat => (i : Int))
theorem posR_mem {s : Sys} {t : List Int} {x : Int} (h : x ∈ posR s t) : ∃ i : Nat, x = i ∧ i < t.length ∧ 0 ≤ ruleI s (at' s.1 t i) := by
  obtain ⟨i, hi, rfl⟩ := List.mem_map.1 h
  obtain ⟨h1, h2⟩ := List.mem_filter.1 hi
  exact ⟨i, rfl, List.mem_range.1 h1, of_decide_eq_true h2⟩
theorem posR_len {s : Sys} {t : List Int} : (posR s t).length ≤ t.length := by
  unfold posR
  rw [List.length_map]
  exact Nat.le_trans (List.length_filter_le _ _) (by simp)
theorem posR_sorted (s : Sys) (t : List Int) : (posR s t).Pairwise (· < ·) := by
  unfold posR
  rw [List.pairwise_map]
  exact (List.pairwise_lt_range.filter _).imp fun h => by omega
theorem posR_nil {s : Sys} {t : List Int} : posR s t = [] ↔ ∀ i, i < t.length → ruleI s (at' s.1 t i) = -1 := by
  constructor
  · intro h i hi
    have h1 := (firstI_lt (p := fun r : List Int × List Int => (mat s.1 r.1 (at' s.1 t i) none24).isSome) (xs := s.2)).1
    by_cases h0 : 0 ≤ ruleI s (at' s.1 t i)
    · have : (i : Int) ∈ posR s t := List.mem_map.2 ⟨i, List.mem_filter.2 ⟨List.mem_range.2 hi, decide_eq_true h0⟩, rfl⟩
      rw [h] at this; cases this
    · have h1' : -1 ≤ ruleI s (at' s.1 t i) := h1
      omega
  · intro h
    refine List.eq_nil_iff_forall_not_mem.2 fun x hx => ?_
    obtain ⟨i, rfl, hi, h0⟩ := posR_mem hx
    rw [h i hi] at h0; omega
theorem F_impl_redexes_eq {s : Sys} {t : List Int} (hs : sysOk s = true) (ht : termOk s.1 t = true) : F_impl_redexes s t = some (posR s t) := by
  obtain ⟨_, t1, t2, t3⟩ := termOk_iff.1 ht
  unfold F_impl_redexes
  refine loop_filter (n := t.length) (p := isR s t) (g := fun i => (i : Int)) (fun i out hi ho => ?_) (by simp [F_impl_redexes_l1, posR])
  simp only [F_impl_redexes_l1, show (i : Int) < t.length by omega, decide_true, if_true, show (0 : Int) ≤ i by omega, and_self, Int.toNat_natCast, getD_get hi, w64 (n := (i : Int) + 1) (by omega) (by omega)]
  by_cases h0 : 0 ≤ t[i]
  · simp only [h0, decide_true, if_true]
    rw [F_impl_ruleAt_eq hs ht hi, Option.bind_some, if_pos (show (out.length + 1) * 8 ≤ 140737488355328 by omega)]
    unfold isR
    by_cases h1 : 0 ≤ ruleI s (at' s.1 t i)
    · simp [h1]
    · simp [h1]
  · obtain ⟨_, _, _, _, u, e⟩ := at_place ht hi
    have : isR s t i = false := by
      unfold isR
      rw [e, ruleI_var hs (by omega)]; rfl
    simp [h0, this]
theorem F_spec_RedexesIn_eq {s : Sys} {t : List Int} (hs : sysOk s = true) (ht : termOk s.1 t = true) : F_spec_RedexesIn s t = some (posR s t) := by
  obtain ⟨_, t1, t2, t3⟩ := termOk_iff.1 ht
  unfold F_spec_RedexesIn
  refine loop_filter (n := t.length) (p := isR s t) (g := fun i => (i : Int)) (fun i out hi ho => ?_) (by simp [F_spec_RedexesIn_l1, posR])
  simp only [F_spec_RedexesIn_l1, show (i : Int) < t.length by omega, decide_true, if_true, F_spec_l7Right_eq, hs, ht, Bool.and_self, Option.bind_some, w64 (n := (i : Int) + 1) (by omega) (by omega)]
  rw [F_spec_l8Redex_eq hs ht hi, Option.bind_some, if_pos (show (out.length + 1) * 8 ≤ 140737488355328 by omega)]
  unfold isR
  by_cases h1 : 0 ≤ ruleI s (at' s.1 t i)
  · simp [h1]
  · simp [h1]
def keepB (s : Sys) (t r : List Int) (k : Nat) : Bool := decide (k + 1 = r.length) || decide (endI s.1 t (r.getD k default).toNat ≤ r.getD (k + 1) default)
def inmL (s : Sys) (t : List Int) : List Int := ((List.range (posR s t).length).filter (keepB s t (posR s t))).map fun k => (posR s t).getD k default
theorem inmL_ne {s : Sys} {t : List Int} (h : posR s t ≠ []) : 0 < (inmL s t).length := by
  have h0 : 0 < (posR s t).length := List.length_pos_iff.2 h
  have : (posR s t).getD ((posR s t).length - 1) default ∈ inmL s t :=
    List.mem_map.2 ⟨(posR s t).length - 1, List.mem_filter.2 ⟨List.mem_range.2 (by omega), by unfold keepB; rw [decide_eq_true (by omega)]; rfl⟩, rfl⟩
  exact List.length_pos_iff.2 fun e => by rw [e] at this; cases this
theorem inmL_mem {s : Sys} {t : List Int} {x : Int} (h : x ∈ inmL s t) : x ∈ posR s t := by
  obtain ⟨k, hk, rfl⟩ := List.mem_map.1 h
  exact getD_mem (List.mem_range.1 (List.mem_filter.1 hk).1)
theorem F_impl_inmost_eq {s : Sys} {t : List Int} (hs : sysOk s = true) (ht : termOk s.1 t = true) : F_impl_inmost s t = some (inmL s t) := by
  obtain ⟨ha, t1, t2, t3⟩ := termOk_iff.1 ht
  have hl := posR_len (s := s) (t := t)
  unfold F_impl_inmost
  rw [F_impl_redexes_eq hs ht, Option.bind_some]
  refine loop_filter (n := (posR s t).length) (p := keepB s t (posR s t)) (g := fun k => (posR s t).getD k default) (fun k out hk ho => ?_) (by simp [F_impl_inmost_l1, inmL])
  obtain ⟨i, e, hi, _⟩ := posR_mem (getD_mem hk)
  simp only [F_impl_inmost_l1, show (k : Int) < (posR s t).length by omega, decide_true, if_true, show (0 : Int) ≤ k by omega, and_self, Int.toNat_natCast, w64 (n := (k : Int) + 1) (by omega) (by omega), show (out.length + 1) * 8 ≤ 140737488355328 by omega]
  unfold keepB
  by_cases hlast : k + 1 = (posR s t).length
  · have h1 : (((k : Int) + 1) == (((posR s t).length : Nat) : Int)) = true := by rw [beq_iff_eq]; omega
    simp [h1, hlast]
  · have h1 : (((k : Int) + 1) == (((posR s t).length : Nat) : Int)) = false := by rw [beq_eq_false_iff_ne]; omega
    have hk1 : k + 1 < (posR s t).length := by omega
    have hlt : (posR s t).getD k default ≤ (posR s t).getD (k + 1) default := by
      rw [getD_get hk, getD_get hk1]
      exact Int.le_of_lt (List.pairwise_iff_getElem.1 (posR_sorted s t) k (k + 1) hk hk1 (by omega))
    simp only [h1, Bool.false_eq_true, if_false, show (0 : Int) ≤ (k : Int) + 1 by omega, show (k : Int) + 1 < (posR s t).length by omega, and_self, if_true, show ((k : Int) + 1).toNat = k + 1 by omega, hlast, decide_false, Bool.false_or]
    unfold F_impl_inside
    simp only [hlt, decide_true, if_true]
    have he := F_impl_endAt_eq ha (show Small t by show List.length _ < _; omega) (fun x hx => (t3.all x hx).1) (i := i) (by omega)
    rw [← e] at he
    rw [he, Option.bind_some, Option.bind_some, show i = ((posR s t).getD k default).toNat by omega]
    by_cases hc : endI s.1 t ((posR s t).getD k default).toNat ≤ (posR s t).getD (k + 1) default
    · simp only [hc, show ¬ (posR s t).getD (k + 1) default < endI s.1 t ((posR s t).getD k default).toNat by omega, decide_true, decide_false, Bool.false_eq_true, if_false, if_true]
    · simp only [hc, show (posR s t).getD (k + 1) default < endI s.1 t ((posR s t).getD k default).toNat by omega, decide_true, decide_false, Bool.false_eq_true, if_false, if_true]
theorem F_spec_InmostIn_eq {s : Sys} {t : List Int} (hs : sysOk s = true) (ht : termOk s.1 t = true) : F_spec_InmostIn s t = some (inmL s t) := by
  obtain ⟨ha, t1, t2, t3⟩ := termOk_iff.1 ht
  have hl := posR_len (s := s) (t := t)
  unfold F_spec_InmostIn
  rw [F_spec_RedexesIn_eq hs ht, Option.bind_some]
  refine loop_filter (n := (posR s t).length) (p := keepB s t (posR s t)) (g := fun k => (posR s t).getD k default) (fun k out hk ho => ?_) (by simp [F_spec_InmostIn_l1, inmL])
  obtain ⟨i, e, hi, _⟩ := posR_mem (getD_mem hk)
  have he := F_spec_l1End_eq ha (show Small t by show List.length _ < _; omega) (i := i) (by omega)
  rw [← e] at he
  simp only [F_spec_InmostIn_l1, show (k : Int) < (posR s t).length by omega, decide_true, if_true, show (0 : Int) ≤ k by omega, and_self, Int.toNat_natCast, w64 (n := (k : Int) + 1) (by omega) (by omega), show (out.length + 1) * 8 ≤ 140737488355328 by omega, he, Option.bind_some]
  unfold keepB
  by_cases hlast : k + 1 = (posR s t).length
  · have h1 : (((k : Int) + 1) == (((posR s t).length : Nat) : Int)) = true := by rw [beq_iff_eq]; omega
    simp [h1, hlast]
  · have h1 : (((k : Int) + 1) == (((posR s t).length : Nat) : Int)) = false := by rw [beq_eq_false_iff_ne]; omega
    simp only [h1, Bool.false_eq_true, if_false, show (0 : Int) ≤ (k : Int) + 1 by omega, show (k : Int) + 1 < (posR s t).length by omega, and_self, if_true, show ((k : Int) + 1).toNat = k + 1 by omega, hlast, decide_false, Bool.false_or]
    rw [show i = ((posR s t).getD k default).toNat by omega]
    by_cases hc : endI s.1 t ((posR s t).getD k default).toNat ≤ (posR s t).getD (k + 1) default
    · simp only [hc, decide_true, if_true]
    · simp only [hc, decide_false, Bool.false_eq_true, if_false]
def pickI (s : Sys) (t : List Int) : Int := if posR s t = [] then -1 else (inmL s t).getD 0 default
theorem pickI_at {s : Sys} {t : List Int} (h : posR s t ≠ []) : ∃ i : Nat, pickI s t = i ∧ i < t.length ∧ 0 ≤ ruleI s (at' s.1 t i) := by
  unfold pickI
  rw [if_neg h]
  exact posR_mem (inmL_mem (getD_mem (inmL_ne h)))
theorem ruleI_lt (s : Sys) (u : List Int) : ruleI s u < s.2.length := firstI_lt.2
theorem F_impl_pick_eq {s : Sys} {t : List Int} (hs : sysOk s = true) (ht : termOk s.1 t = true) : F_impl_pick s t 1 = some (pickI s t) := by
  unfold F_impl_pick pickI
  rw [F_impl_redexes_eq hs ht, Option.bind_some, w64 (n := (1 : Int) - 1) (by omega) (by omega)]
  by_cases h : posR s t = []
  · rw [if_pos h, h]; rfl
  · have h0 := List.length_pos_iff.2 h
    have h1 : (((posR s t).length : Int) == 0) = false := beq_eq_false_iff_ne.2 (by omega)
    have h2 : (((1 : Int) - 1) == 0) = true := rfl
    have h3 := inmL_ne h
    simp only [h1, Bool.false_eq_true, if_false, h2, if_true, h]
    unfold F_impl_choice_inmost
    have e : F_impl_inmost (s.1, s.2) t = some (inmL s t) := F_impl_inmost_eq hs ht
    simp only [e, Option.bind_some]
    rw [if_pos (by omega), Option.bind_some]
theorem F_spec_l8Right_eq {s : Sys} {t : List Int} (hs : sysOk s = true) (ht : termOk s.1 t = true) : F_spec_l8Right s t 1 = some true := by
  unfold F_spec_l8Right
  rw [F_spec_l7Right_eq, Option.bind_some, hs, ht]
  simp only [Bool.and_self, if_true]
  rw [F_spec_l1In_eq, Option.bind_some]; rfl
theorem F_spec_PickBy_eq {s : Sys} {t : List Int} (hs : sysOk s = true) (ht : termOk s.1 t = true) :
    F_spec_PickBy s t 1 = some (if posR s t = [] then (0, 0, false) else (pickI s t, ruleI s (at' s.1 t (pickI s t).toNat), true)) := by
  unfold F_spec_PickBy F_spec_l8Places
  have h2 : ((1 : Int) == 1) = true := rfl
  rw [F_spec_l8Right_eq hs ht, Option.bind_some, if_pos rfl, if_pos h2, F_spec_InmostIn_eq hs ht, Option.bind_some, Option.bind_some]
  by_cases h : posR s t = []
  · have : inmL s t = [] := List.eq_nil_iff_forall_not_mem.2 fun x hx => by have := inmL_mem hx; rw [h] at this; cases this
    rw [if_pos h, this]; rfl
  · have h3 := inmL_ne h
    have h1 : (((inmL s t).length : Int) == 0) = false := beq_eq_false_iff_ne.2 (by omega)
    obtain ⟨i, e, hi, _⟩ := pickI_at h
    have e' : (inmL s t).getD 0 default = pickI s t := by unfold pickI; rw [if_neg h]
    simp only [h1, Bool.false_eq_true, if_false, h, e']
    rw [if_pos (by omega), if_pos (by omega), e, F_spec_l8Redex_eq hs ht hi, Option.bind_some, Int.toNat_natCast]
theorem F_spec_NormalIn_eq {s : Sys} {t : List Int} (hs : sysOk s = true) (ht : termOk s.1 t = true) : F_spec_NormalIn s t = some (decide (posR s t = [])) := by
  obtain ⟨ha, hl, hr⟩ := sysOk_iff.1 hs
  obtain ⟨_, t1, t2, t3⟩ := termOk_iff.1 ht
  unfold F_spec_NormalIn
  rw [F_spec_l7Right_eq, Option.bind_some, hs, ht]
  simp only [Bool.and_self, if_true]
  have key : Okk True (F_spec_l7Redexes s t) fun m => (m = 0 ↔ posR s t = []) := by
    unfold F_spec_l7Redexes
    refine Okk.loop (fun q : Int × Int => ∃ i : Nat, q.2 = i ∧ i ≤ t.length ∧ 0 ≤ q.1 ∧ q.1 ≤ 12 * i ∧ (q.1 = 0 ↔ ∀ j, j < i → ruleI s (at' s.1 t j) = -1)) (fun q : Int × Int => t.length - q.2.toNat) ⟨0, rfl, by omega, by omega, by simp, by simp⟩ ?_
    rintro ⟨many, _⟩ ⟨i, rfl, h1, h2, h3, h4⟩
    simp only at h2 h3 h4
    simp only [F_spec_l7Redexes_l1]
    by_cases hi : i < t.length
    · obtain ⟨q, hd, hu, hul, _⟩ := at_place ht hi
      simp only [show (i : Int) < t.length by omega, decide_true, if_true]
      refine Okk.loop (fun q : Int × Int => ∃ j : Nat, q.2 = j ∧ j ≤ s.2.length ∧ many ≤ q.1 ∧ q.1 ≤ many + j ∧ (q.1 = many ↔ ∀ r ∈ s.2.take j, (mat s.1 r.1 (at' s.1 t i) none24).isSome = false)) (fun q : Int × Int => s.2.length - q.2.toNat) ⟨0, rfl, by omega, by simp, by simp, by simp⟩ ?_
      rintro ⟨m2, _⟩ ⟨j, rfl, hj, h5, h6, h7⟩
      simp only at h5 h6 h7
      simp only [F_spec_l7Redexes_l2]
      by_cases hlt : j < s.2.length
      · obtain ⟨hL, _⟩ := ruleOk_iff.1 (hr _ (getD_mem hlt))
        obtain ⟨_, _, l2, l3⟩ := termOk_iff.1 hL
        simp only [show (j : Int) < s.2.length by omega, decide_true, if_true, show (0 : Int) ≤ j by omega, and_self, Int.toNat_natCast, w64 (n := (j : Int) + 1) (by omega) (by omega), w64 (n := m2 + 1) (by omega) (by omega)]
        rw [F_spec_l1Sub_eq ha (show List.length _ < _ by omega) hd hu, Option.bind_some]
        have ht1 : s.2.take (j + 1) = s.2.take j ++ [s.2[j]] := by rw [List.take_add_one, List.getElem?_eq_getElem hlt]; rfl
        refine Okk.bind (F_spec_l4Match_ok ha l3 hu l2 hul) fun r1 hr1 => ?_
        have e3 := match_isSome hr1
        rw [getD_get hlt] at e3
        refine Okk.ite (fun hc => .some ⟨⟨j + 1, by simp, hlt, by simp only; omega, by simp only; omega, ?_⟩, by simp; omega⟩) fun hc => .some ⟨⟨j + 1, by simp, hlt, h5, by simp only; omega, ?_⟩, by simp; omega⟩
        · simp only
          rw [hc] at e3
          constructor
          · intro h; omega
          · intro h
            have := h (s.2[j]) (by rw [ht1]; exact List.mem_append_right _ (List.mem_singleton.2 rfl))
            rw [← e3] at this; cases this
        · simp only
          rw [hc] at e3
          rw [h7, ht1]
          constructor
          · intro h r hm
            rcases List.mem_append.1 hm with hm | hm
            · exact h r hm
            · rw [List.mem_singleton.1 hm]; exact e3.symm
          · intro h r hm; exact h r (List.mem_append_left _ hm)
      · obtain rfl : j = s.2.length := by omega
        rw [List.take_length] at h7
        simp only [Int.lt_irrefl, decide_false, Bool.false_eq_true, if_false, Option.map_some, w64 (n := (i : Int) + 1) (by omega) (by omega)]
        refine .some ⟨⟨i + 1, by simp, hi, by simp only; omega, by simp only; omega, ?_⟩, by simp; omega⟩
        simp only
        constructor
        · intro h k hk
          by_cases hki : k < i
          · exact h4.1 (by omega) k hki
          · obtain rfl : k = i := by omega
            exact firstI_none (h7.1 (by omega))
        · intro h
          have e1 : many = 0 := h4.2 fun k hk => h k (by omega)
          have e2 : m2 = many := h7.2 fun r hm => by
            cases hp : (mat s.1 r.1 (at' s.1 t i) none24).isSome with
            | false => rfl
            | true =>
              have := firstI_at (p := fun r : List Int × List Int => (mat s.1 r.1 (at' s.1 t i) none24).isSome) hm hp
              have h0 := h i (by omega)
              unfold ruleI at h0
              omega
          omega
    · obtain rfl : i = t.length := by omega
      simp only [Int.lt_irrefl, decide_false, Bool.false_eq_true, if_false, Option.map_some]
      refine .some ?_
      simp only [Rnd]
      rw [h4, posR_nil]
  obtain ⟨m, e1, e2⟩ := key.get
  rw [e1, Option.bind_some]
  congr 1
  by_cases h : posR s t = []
  · rw [decide_eq_true h, e2.2 h]; rfl
  · rw [decide_eq_false h]
    exact beq_eq_false_iff_ne.2 fun e => h (e2.1 e)
theorem stepO_sm {s : Sys} {t u : List Int} {i rule : Nat} (h : stepO s t i rule = some u) : u.length ≤ 60 := by
  unfold stepO stepp at h
  obtain ⟨b, _, h⟩ := Option.bind_eq_some_iff.1 h
  split at h
  · rename_i hc; cases h; exact hc.2
  · cases h
def wlk (s : Sys) : Nat → List Int → List Stp × Bool
  | 0, t => ([], decide (posR s t = []))
  | n + 1, t => if posR s t = [] then ([], true) else
    match stepO s t (pickI s t).toNat (ruleI s (at' s.1 t (pickI s t).toNat)).toNat with
    | none => ([], false)
    | some u => ((pickI s t, ruleI s (at' s.1 t (pickI s t).toNat), u) :: (wlk s n u).1, (wlk s n u).2)
theorem pick_step {s : Sys} {t u : List Int} (hs : sysOk s = true) (ht : termOk s.1 t = true) (h : posR s t ≠ []) (hu : stepO s t (pickI s t).toNat (ruleI s (at' s.1 t (pickI s t).toNat)).toNat = some u) :
    stepAtO s t (pickI s t) (ruleI s (at' s.1 t (pickI s t).toNat)) = some u ∧ termOk s.1 u = true := by
  obtain ⟨i, e, hi, h0⟩ := pickI_at h
  have h1 := ruleI_lt s (at' s.1 t (pickI s t).toNat)
  have h0' : 0 ≤ ruleI s (at' s.1 t (pickI s t).toNat) := by rw [e, Int.toNat_natCast]; exact h0
  have hst : stepAtO s t (pickI s t) (ruleI s (at' s.1 t (pickI s t).toNat)) = some u := by
    unfold stepAtO
    rw [if_pos ⟨⟨hs, ht⟩, ⟨by omega, by omega⟩, h0', h1⟩, hu]
  exact ⟨hst, moveB_to (m := (ruleI s (at' s.1 t (pickI s t).toNat), pickI s t, false, u)) (stepAt_move (x := (pickI s t, ruleI s (at' s.1 t (pickI s t).toNat), u)) hst (by simp))⟩
theorem wlk_from {s : Sys} (hs : sysOk s = true) : ∀ (n : Nat) {t : List Int}, termOk s.1 t = true → walkFrom s t (wlk s n t).1 = true ∧ (wlk s n t).1.length ≤ n ∧ ((wlk s n t).2 = true → posR s (endR t ((wlk s n t).1.map fun x => (x.2.1, x.1, false, x.2.2))) = [])
  | 0, t, _ => ⟨rfl, Nat.le_refl _, fun h => of_decide_eq_true h⟩
  | n + 1, t, ht => by
    unfold wlk
    by_cases h : posR s t = []
    · rw [if_pos h]; exact ⟨rfl, Nat.zero_le _, fun _ => h⟩
    · rw [if_neg h]
      cases hu : stepO s t (pickI s t).toNat (ruleI s (at' s.1 t (pickI s t).toNat)).toNat with
      | none => exact ⟨rfl, Nat.zero_le _, fun h => by cases h⟩
      | some u =>
        obtain ⟨h1, h2⟩ := pick_step hs ht h hu
        obtain ⟨h3, h4, h5⟩ := wlk_from hs n h2
        refine ⟨?_, by simp only [List.length_cons]; omega, h5⟩
        simp only [walkFrom, h1, beq_self_eq_true, Bool.true_and]
        exact h3
theorem impl_walk_loop {s : Sys} (hs : sysOk s = true) {fuel : Int} (hf : fuel ≤ 60) {r : List Int} : ∀ (n : Nat) {t : List Int} {w : List Stp}, termOk s.1 t = true → (w.length : Int) + n = fuel →
    loopC (F_impl_walkBy_l1 s 1 fuel r) (t, w) = some ((r, w ++ (wlk s n t).1), (wlk s n t).2) := by
  intro n
  induction n with
  | zero =>
    intro t w ht hn
    refine loopC_inr ?_
    simp only [F_impl_walkBy_l1, F_impl_pick_eq hs ht, Option.bind_some, wlk]
    by_cases h : posR s t = []
    · have : pickI s t = -1 := by unfold pickI; rw [if_pos h]
      simp [this, h]
    · obtain ⟨i, e, hi, h0⟩ := pickI_at h
      simp [e, h, show ¬ (i : Int) < 0 by omega, show (w.length : Int) = fuel by omega]
  | succ n ih =>
    intro t w ht hn
    by_cases h : posR s t = []
    · refine loopC_inr ?_
      have : pickI s t = -1 := by unfold pickI; rw [if_pos h]
      simp [F_impl_walkBy_l1, F_impl_pick_eq hs ht, wlk, this, h]
    · obtain ⟨i, e, hi, h0⟩ := pickI_at h
      have h1 := ruleI_lt s (at' s.1 t i)
      have hne : ((w.length : Int) == fuel) = false := beq_eq_false_iff_ne.2 (by omega)
      have hst := F_impl_step_eq hs ht hi (rule := (ruleI s (at' s.1 t i)).toNat) (by omega)
      rw [show (((ruleI s (at' s.1 t i)).toNat : Nat) : Int) = ruleI s (at' s.1 t i) by omega] at hst
      have step : F_impl_walkBy_l1 s 1 fuel r (t, w) = (match stepO s t i (ruleI s (at' s.1 t i)).toNat with
          | none => some (.inr ((r, w), false))
          | some u => some (.inl (u, w ++ [((i : Int), ruleI s (at' s.1 t i), u)]))) := by
        simp only [F_impl_walkBy_l1, F_impl_pick_eq hs ht, Option.bind_some, e, show ¬ (i : Int) < 0 by omega, decide_false, Bool.false_eq_true, if_false, hne, F_impl_ruleAt_eq hs ht hi, hst]
        cases stepO s t i (ruleI s (at' s.1 t i)).toNat with
        | none => simp [encO]
        | some u => simp only [encO, if_true]; rw [if_pos (by omega)]
      simp only [wlk, h, if_false, e, Int.toNat_natCast]
      cases hu : stepO s t i (ruleI s (at' s.1 t i)).toNat with
      | none =>
        rw [hu] at step
        rw [loopC_inr step]; simp
      | some u =>
        rw [hu] at step
        rw [loopC_inl step]
        have h2 := (pick_step hs ht h (u := u) (by rw [e, Int.toNat_natCast]; exact hu)).2
        rw [ih h2 (by simp; omega)]
        simp
theorem F_impl_walkBy_eq {s : Sys} {t : List Int} (hs : sysOk s = true) (ht : termOk s.1 t = true) {fuel : Int} (h0 : 0 ≤ fuel) (h60 : fuel ≤ 60) : F_impl_walkBy s t 1 fuel = some ((t, (wlk s fuel.toNat t).1), (wlk s fuel.toNat t).2) := by
  unfold F_impl_walkBy
  rw [F_slices_Clone_eq (show List.length _ < _ by have := (termOk_iff.1 ht).2.2.1; omega), Option.bind_some, impl_walk_loop hs h60 fuel.toNat ht (by simp; omega)]
  simp
theorem spec_walk_loop {s : Sys} (hs : sysOk s = true) {fuel : Int} (hf : fuel ≤ 60) {r : List Int} : ∀ (n : Nat) {t : List Int} {w : List Stp}, termOk s.1 t = true → (w.length : Int) + n = fuel →
    loopC (F_spec_WalkBy_l1 s 1 fuel r) (t, w) = some ((r, w ++ (wlk s n t).1), (wlk s n t).2) := by
  intro n
  induction n with
  | zero =>
    intro t w ht hn
    refine loopC_inr ?_
    simp [F_spec_WalkBy_l1, F_spec_NormalIn_eq hs ht, wlk, show ¬ (w.length : Int) < fuel by omega]
  | succ n ih =>
    intro t w ht hn
    have hlt : (w.length : Int) < fuel := by omega
    by_cases h : posR s t = []
    · refine loopC_inr ?_
      simp [F_spec_WalkBy_l1, F_spec_PickBy_eq hs ht, F_spec_NormalIn_eq hs ht, wlk, h, hlt]
    · obtain ⟨i, e, hi, h0⟩ := pickI_at h
      have h1 := ruleI_lt s (at' s.1 t i)
      have hst := F_spec_l7Step_eq hs ht hi (rule := (ruleI s (at' s.1 t i)).toNat) (by omega)
      rw [show (((ruleI s (at' s.1 t i)).toNat : Nat) : Int) = ruleI s (at' s.1 t i) by omega] at hst
      have step : F_spec_WalkBy_l1 s 1 fuel r (t, w) = (match stepO s t i (ruleI s (at' s.1 t i)).toNat with
          | none => some (.inr ((r, w), false))
          | some u => some (.inl (u, w ++ [((i : Int), ruleI s (at' s.1 t i), u)]))) := by
        simp only [F_spec_WalkBy_l1, hlt, decide_true, if_true, F_spec_PickBy_eq hs ht, h, if_false, Option.bind_some, e, Int.toNat_natCast, hst]
        cases hu : stepO s t i (ruleI s (at' s.1 t i)).toNat with
        | none => simp [encO, F_spec_NormalIn_eq hs ht, h]
        | some u =>
          have := stepO_sm hu
          simp only [encO, if_true]
          rw [if_pos (by omega), F_spec_l1Copy_eq (show List.length _ < _ by omega), Option.bind_some]
      simp only [wlk, h, if_false, e, Int.toNat_natCast]
      cases hu : stepO s t i (ruleI s (at' s.1 t i)).toNat with
      | none =>
        rw [hu] at step
        rw [loopC_inr step]; simp
      | some u =>
        rw [hu] at step
        rw [loopC_inl step]
        have h2 := (pick_step hs ht h (u := u) (by rw [e, Int.toNat_natCast]; exact hu)).2
        rw [ih h2 (by simp; omega)]
        simp
theorem F_spec_WalkBy_eq {s : Sys} {t : List Int} (hs : sysOk s = true) (ht : termOk s.1 t = true) {fuel : Int} (h0 : 0 ≤ fuel) (h60 : fuel ≤ 60) : F_spec_WalkBy s t 1 fuel = some ((t, (wlk s fuel.toNat t).1), (wlk s fuel.toNat t).2) := by
  have hl := (termOk_iff.1 ht).2.2.1
  unfold F_spec_WalkBy
  rw [F_spec_l8Right_eq hs ht, Option.bind_some, if_pos rfl, F_spec_l1In_eq, Option.bind_some, if_pos (by simp [h0, h60]), F_spec_l1Copy_eq (show List.length _ < _ by omega), Option.bind_some, Option.bind_some, spec_walk_loop hs h60 fuel.toNat ht (by simp; omega)]
  simp
def wordB (s : Sys) (a b : List Int) (fuel : Int) : Bool := sysOk s && (decide (0 ≤ fuel ∧ fuel ≤ 60) && (termOk s.1 a && termOk s.1 b))
theorem wordB_iff {s : Sys} {a b : List Int} {fuel : Int} : wordB s a b fuel = true ↔ sysOk s = true ∧ (0 ≤ fuel ∧ fuel ≤ 60) ∧ termOk s.1 a = true ∧ termOk s.1 b = true := by simp [wordB]
theorem F_indexOk_eq {ts : List (List Int)} (hl : ts.length ≤ 1000) (g : List Int) (rs : List (List Int × List Int)) : F_slices_IndexFunc_int64_int64 ts g rs = some (firstI (fun t => !termOk g t) ts) := by
  unfold F_slices_IndexFunc_int64_int64
  refine loop_first (fun i t hi hm hg => ?_) (by simp [F_slices_IndexFunc_int64_int64_l1])
  simp only [F_slices_IndexFunc_int64_int64_l1, F_impl_wordOk_1, show (i : Int) < ts.length by omega, decide_true, if_true, show (0 : Int) ≤ i by omega, and_self, Int.toNat_natCast, hg, F_impl_TermOk_eq, Option.bind_some, w64 (n := (i : Int) + 1) (by omega) (by omega)]
  cases termOk g t <;> simp
theorem F_impl_wordOk_eq (s : Sys) (a b : List Int) (fuel : Int) : F_impl_wordOk s fuel [a, b] = some (wordB s a b fuel) := by
  unfold F_impl_wordOk wordB
  rw [F_impl_SystemOk_eq, Option.bind_some]
  cases hs : sysOk s with
  | false => simp
  | true =>
    by_cases h0 : fuel < 0
    · simp [h0, show ¬ (0 ≤ fuel ∧ fuel ≤ 60) by omega]
    · by_cases h60 : 60 < fuel
      · simp [h0, h60, show ¬ (0 ≤ fuel ∧ fuel ≤ 60) by omega]
      · simp only [if_true, h0, h60, decide_false, Bool.false_eq_true, if_false, show 0 ≤ fuel ∧ fuel ≤ 60 by omega, decide_true, Bool.true_and]
        unfold F_slices_ContainsFunc_int64_int64
        rw [F_indexOk_eq (by simp), Option.bind_some, Option.bind_some]
        congr 1
        cases ha : termOk s.1 a with
        | false => simp [firstI, List.findIdx?_cons, ha]
        | true =>
          cases hb : termOk s.1 b with
          | false => simp [firstI, List.findIdx?_cons, ha, hb]
          | true => simp [firstI, List.findIdx?_cons, ha, hb]
def vv (s : Sys) (fuel : Int) (t : List Int) : List Int × List Stp := (t, (wlk s fuel.toNat t).1)
theorem vv_ok {s : Sys} {t : List Int} {fuel : Int} (hs : sysOk s = true) (ht : termOk s.1 t = true) (h60 : fuel ≤ 60) : walkB s (vv s fuel t) = true := by
  obtain ⟨h1, h2, _⟩ := wlk_from hs fuel.toNat ht
  exact walkB_iff.2 ⟨hs, ht, by simp only [vv]; omega, h1⟩
theorem F_impl_Walk_end_eq {w : List Int × List Stp} (h : SmW w) : F_impl_Walk_end w = some (chEnd (chW w)) := by
  unfold F_impl_Walk_end chEnd chW
  have hl := h.len
  simp only [List.length_map]
  by_cases h0 : w.2.length = 0
  · simp [h0]
  · simp only [show (0 : Int) < w.2.length by omega, decide_true, if_true, h0, if_false, w64 (n := (w.2.length : Int) - 1) (by omega) (by omega)]
    rw [if_pos (by omega), show ((w.2.length : Int) - 1).toNat = w.2.length - 1 by omega]
    have hlt : w.2.length - 1 < w.2.length := by omega
    rw [getD_get (xs := w.2.map _) (by simpa using hlt), getD_get hlt, List.getElem_map]
theorem F_impl_normalOf_eq {s : Sys} {t : List Int} {fuel : Int} (hs : sysOk s = true) (ht : termOk s.1 t = true) (h0 : 0 ≤ fuel) (h60 : fuel ≤ 60) : F_impl_normalOf s t fuel = some (chEnd (chW (vv s fuel t)), (wlk s fuel.toNat t).2) := by
  unfold F_impl_normalOf
  rw [F_impl_walkBy_eq hs ht h0 h60, Option.bind_some]
  have := F_impl_Walk_end_eq (walkB_sm (vv_ok hs ht h60))
  simp only [vv] at this
  rw [this, Option.bind_some]; rfl
def eqV (s : Sys) (a b : List Int) (fuel : Int) : Int :=
  if wordB s a b fuel = true then if (wlk s fuel.toNat a).2 = true ∧ (wlk s fuel.toNat b).2 = true then if chEnd (chW (vv s fuel a)) = chEnd (chW (vv s fuel b)) then 1 else 0 else -1 else -1
theorem end_small {s : Sys} {t : List Int} {fuel : Int} (hs : sysOk s = true) (ht : termOk s.1 t = true) (h60 : fuel ≤ 60) : (chEnd (chW (vv s fuel t))).length ≤ 60 := (walkB_sm (vv_ok hs ht h60)).ch.end'
theorem F_impl_EqualBy_eq (s : Sys) (a b : List Int) (fuel : Int) : F_impl_EqualBy s a b fuel = some (eqV s a b fuel) := by
  unfold F_impl_EqualBy eqV
  rw [F_impl_wordOk_eq, Option.bind_some]
  cases hw : wordB s a b fuel with
  | false => simp
  | true =>
    obtain ⟨hs, ⟨h0, h60⟩, ha, hb⟩ := wordB_iff.1 hw
    simp only [if_true]
    unfold F_impl_equalBy F_impl_both_int64 F_impl_equalBy_1
    have ea : F_impl_normalOf (s.1, s.2) a fuel = some (chEnd (chW (vv s fuel a)), (wlk s fuel.toNat a).2) := F_impl_normalOf_eq hs ha h0 h60
    have eb : F_impl_normalOf (s.1, s.2) b fuel = some (chEnd (chW (vv s fuel b)), (wlk s fuel.toNat b).2) := F_impl_normalOf_eq hs hb h0 h60
    simp only [ea, eb, Option.bind_some]
    have hsm := end_small hs ha h60
    cases h1 : (wlk s fuel.toNat a).2 with
    | false => simp
    | true =>
      cases h2 : (wlk s fuel.toNat b).2 with
      | false => simp
      | true =>
        simp only [if_true, Option.bind_some, and_self]
        rw [F_slices_Equal_eq (show List.length _ < _ by omega), Option.bind_some]
        by_cases he : chEnd (chW (vv s fuel a)) = chEnd (chW (vv s fuel b))
        · simp [he]
        · have : (chEnd (chW (vv s fuel a)) == chEnd (chW (vv s fuel b))) = false := by simpa using he
          simp [he]
theorem F_spec_NormalBy_eq {s : Sys} {t : List Int} {fuel : Int} (hs : sysOk s = true) (ht : termOk s.1 t = true) (h0 : 0 ≤ fuel) (h60 : fuel ≤ 60) :
    F_spec_NormalBy s t 1 fuel = some (if (wlk s fuel.toNat t).2 = true then (chEnd (chW (vv s fuel t)), true) else ([], false)) := by
  unfold F_spec_NormalBy
  rw [F_spec_WalkBy_eq hs ht h0 h60, Option.bind_some]
  cases h : (wlk s fuel.toNat t).2 with
  | false => simp
  | true =>
    have := F_spec_l7End_eq (walkB_sm (vv_ok hs ht h60))
    simp only [vv] at this
    simp only [if_true, this, Option.bind_some]; rfl
theorem F_spec_l22Right_eq (s : Sys) (t : List Int) (fuel : Int) : F_spec_l22Right s t fuel = some (sysOk s && termOk s.1 t && decide (0 ≤ fuel ∧ fuel ≤ 60)) := by
  unfold F_spec_l22Right
  rw [F_spec_l7Right_eq, Option.bind_some]
  cases h : (sysOk s && termOk s.1 t) with
  | false => simp
  | true => simp [F_spec_l1In_eq]
theorem F_spec_EqualBy_eq (s : Sys) (a b : List Int) (fuel : Int) : F_spec_EqualBy s a b fuel = some (eqV s a b fuel) := by
  unfold F_spec_EqualBy eqV
  rw [F_spec_l22Right_eq, Option.bind_some, F_spec_l22Right_eq, Option.bind_some]
  cases hw : wordB s a b fuel with
  | false =>
    unfold wordB at hw
    cases hs : sysOk s with
    | false => simp
    | true =>
      rw [hs] at hw
      by_cases hf : 0 ≤ fuel ∧ fuel ≤ 60
      · cases ha : termOk s.1 a with
        | false => simp
        | true =>
          cases hb : termOk s.1 b with
          | false => simp
          | true => simp [hf, ha, hb] at hw
      · simp [hf]
  | true =>
    obtain ⟨hs, hf, ha, hb⟩ := wordB_iff.1 hw
    obtain ⟨h0, h60⟩ := hf
    have hsm := end_small hs ha h60
    simp only [hs, ha, hb, h0, h60, and_self, decide_true, Bool.and_self, if_true]
    rw [F_spec_NormalBy_eq hs ha h0 h60, Option.bind_some, F_spec_NormalBy_eq hs hb h0 h60, Option.bind_some]
    cases h1 : (wlk s fuel.toNat a).2 with
    | false => simp
    | true =>
      cases h2 : (wlk s fuel.toNat b).2 with
      | false => simp
      | true =>
        simp only [if_true, and_self]
        rw [F_spec_SameTerm_eq (show List.length _ < _ by omega), Option.bind_some]
        unfold F_spec_l1Flag
        by_cases he : chEnd (chW (vv s fuel a)) = chEnd (chW (vv s fuel b))
        · simp [he]
        · have : (chEnd (chW (vv s fuel a)) == chEnd (chW (vv s fuel b))) = false := by simpa using he
          simp [he]
theorem eqV_facts {s : Sys} {a b : List Int} {fuel : Int} (h : eqV s a b fuel = 1 ∨ eqV s a b fuel = 0) : wordB s a b fuel = true ∧ (wlk s fuel.toNat a).2 = true ∧ (wlk s fuel.toNat b).2 = true := by
  unfold eqV at h
  split at h
  · rename_i hw
    split at h
    · rename_i hk; exact ⟨hw, hk⟩
    · omega
  · omega
theorem F_impl_ShownBy_eq (s : Sys) (a b : List Int) (fuel : Int) : F_impl_ShownBy s a b fuel = some (encC (if eqV s a b fuel = 1 then joinO (chW (vv s fuel a)) (turnC (chW (vv s fuel b))) else none)) := by
  unfold F_impl_ShownBy
  rw [F_impl_EqualBy_eq, Option.bind_some]
  by_cases h : eqV s a b fuel = 1
  · obtain ⟨hw, h1, h2⟩ := eqV_facts (.inl h)
    obtain ⟨hs, ⟨h0, h60⟩, ha, hb⟩ := wordB_iff.1 hw
    have hend : chEnd (chW (vv s fuel a)) = chEnd (chW (vv s fuel b)) := by
      unfold eqV at h
      rw [if_pos hw, if_pos ⟨h1, h2⟩] at h
      split at h
      · assumption
      · omega
    have ea : F_impl_walkBy (s.1, s.2) a 1 fuel = some (vv s fuel a, (wlk s fuel.toNat a).2) := F_impl_walkBy_eq hs ha h0 h60
    have eb : F_impl_walkBy (s.1, s.2) b 1 fuel = some (vv s fuel b, (wlk s fuel.toNat b).2) := F_impl_walkBy_eq hs hb h0 h60
    have sa := walkB_sm (vv_ok hs ha h60)
    have sb := walkB_sm (vv_ok hs hb h60)
    unfold F_impl_both_impl_Walk F_impl_ShownBy_1
    simp only [h, bne_self_eq_false, Bool.false_eq_true, if_false, ea, eb, Option.bind_some, h1, if_true]
    rw [F_impl_chainOfWalk_eq sa, Option.bind_some, F_impl_chainOfWalk_eq sb, Option.bind_some, F_impl_turned_eq sb.ch, Option.bind_some, F_impl_joinChains_eq sa.ch sb.ch.turn, Option.bind_some]
    have hj : chEnd (chW (vv s fuel a)) = (turnC (chW (vv s fuel b))).1 := hend
    rw [if_pos hj]
  · have : (eqV s a b fuel != 1) = true := by simpa using h
    rw [if_pos this, if_neg h]; rfl
end Go.Proofs.YtklfjpilhbkekaaGreat
