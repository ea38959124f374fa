/- What the equations of both sides come to: chains of equations; nothing is assumed. -/
import Derived.Test.YtcaljngigbfadaaGreatWd
import Derived.Test.YtcaljngigbfadaaGreatWpa
import Derived.Test.YtcaljngigbfadaaGreatWe
set_option linter.unusedSimpArgs false
set_option linter.unusedVariables false
set_option linter.unusedSectionVars false
namespace Go.Proofs.YtcaljngigbfadaaGreat
open Go Abx Tm
theorem loop_map {α β γ σ : Type} [Inhabited α] (mk : Int → List β → σ) {xs : List α} {g : α → β} {out0 : List β} {c : γ} {f : σ → Option (σ ⊕ γ)}
    (h : ∀ (i : Nat) (out : List β) (x : α), i < xs.length → x ∈ xs → xs.getD i default = x → out.length = out0.length + i → f (mk i out) = some (.inl (mk ((i : Int) + 1) (out ++ [g x]))))
    (he : f (mk xs.length (out0 ++ xs.map g)) = some (.inr c)) : loopC f (mk 0 out0) = some c := by
  have key : ∀ (k i : Nat) (out : List β), i + k = xs.length → out.length = out0.length + i → out ++ (xs.drop i).map g = out0 ++ xs.map g → loopC f (mk i out) = some c := by
    intro k
    induction k with
    | zero =>
      intro i out hi _ ho
      obtain rfl : i = xs.length := by omega
      rw [List.drop_length] at ho
      simp at ho; subst ho
      exact loopC_inr he
    | succ k ih =>
      intro i out hi hl ho
      have hlt : i < xs.length := by omega
      rw [loopC_inl (h i out _ hlt (List.getElem_mem hlt) (getD_get hlt) hl), show ((i : Int) + 1) = ((i + 1 : Nat) : Int) by omega]
      refine ih (i + 1) _ (by omega) (by simp; omega) ?_
      rw [List.drop_eq_getElem_cons hlt, List.map_cons] at ho
      rw [List.append_assoc, List.singleton_append]
      exact ho
  exact key xs.length 0 out0 (by omega) (by omega) (by simp)
theorem loop_mapN {β γ : Type} {n : Nat} {g : Nat → β} {c : γ} {f : Nat × List β → Option ((Nat × List β) ⊕ γ)}
    (h : ∀ (j : Nat) (out : List β), j < n → out.length = j → f (j, out) = some (.inl (j + 1, out ++ [g j])))
    (he : f (n, (List.range n).map g) = some (.inr c)) : loopC f (0, []) = some c := by
  have key : ∀ (k j : Nat), j + k = n → loopC f (j, (List.range j).map g) = some c := by
    intro k
    induction k with
    | zero => intro j hj; obtain rfl : j = n := (by omega); exact loopC_inr he
    | succ k ih =>
      intro j hj
      rw [loopC_inl (h j _ (by omega) (by simp))]
      have := ih (j + 1) (by omega)
      rw [List.range_succ] at this
      simpa using this
  exact key n 0 (by omega)
abbrev Mvv := Int × Int × Bool × List Int
abbrev Chn := List Int × List Mvv
def chW (w : List Int × List Stp) : Chn := (w.1, w.2.map fun s => (s.2.1, s.1, false, s.2.2))
def chEnd (c : Chn) : List Int := if c.2.length = 0 then c.1 else (c.2.getD (c.2.length - 1) default).2.2.2
def tmv (c : Chn) (i : Nat) : Mvv := ((c.2.getD i default).1, (c.2.getD i default).2.1, !(c.2.getD i default).2.2.1, if 0 < i then (c.2.getD (i - 1) default).2.2.2 else c.1)
def turnC (c : Chn) : Chn := (chEnd c, (List.range c.2.length).map fun j => tmv c (c.2.length - 1 - j))
def joinO (a b : Chn) : Option Chn := if a.2.length + b.2.length ≤ 60 then some (a.1, a.2 ++ b.2) else none
def encC (o : Option Chn) : Chn × Bool := match o with | some c => (c, true) | none => (([], []), false)
structure SmC (c : Chn) : Prop where
  from' : c.1.length ≤ 60
  len : c.2.length ≤ 60
  to : ∀ m ∈ c.2, m.2.2.2.length ≤ 60
structure SmW (w : List Int × List Stp) : Prop where
  from' : w.1.length ≤ 60
  len : w.2.length ≤ 60
  to : ∀ m ∈ w.2, m.2.2.length ≤ 60
theorem SmW.ch {w : List Int × List Stp} (h : SmW w) : SmC (chW w) :=
  ⟨h.from', by simpa [chW] using h.len, fun m hm => by obtain ⟨s, hs, rfl⟩ := List.mem_map.1 hm; exact h.to s hs⟩
theorem SmC.at {c : Chn} (h : SmC c) {i : Nat} (hi : i < c.2.length) : (c.2.getD i default).2.2.2.length ≤ 60 := h.to _ (getD_mem hi)
theorem SmC.end' {c : Chn} (h : SmC c) : (chEnd c).length ≤ 60 := by
  unfold chEnd
  split
  · exact h.from'
  exact h.at (by omega)
theorem SmC.tmv {c : Chn} (h : SmC c) {i : Nat} (hi : i < c.2.length) : (tmv c i).2.2.2.length ≤ 60 := by
  unfold Proofs.YtcaljngigbfadaaGreat.tmv
  split
  · exact h.at (by omega)
  exact h.from'
theorem SmC.turn {c : Chn} (h : SmC c) : SmC (turnC c) :=
  ⟨h.end', by simpa [turnC] using h.len, fun m hm => by
    obtain ⟨j, hj, rfl⟩ := List.mem_map.1 hm
    rw [List.mem_range] at hj
    exact h.tmv (by omega)⟩
theorem F_impl_Chain_add_eq {m : Mvv} {c0 : List Int} {c1 : List Mvv} (hm : m.2.2.2.length ≤ 60) (hc : c1.length ≤ 1000) : F_impl_Chain_add m c0 c1 = some (c1 ++ [m]) := by
  unfold F_impl_Chain_add
  rw [F_slices_Clone_eq (show m.2.2.2.length < _ by omega), Option.bind_some, if_pos (by omega)]
theorem F_impl_chainOfWalk_eq {w : List Int × List Stp} (h : SmW w) : F_impl_chainOfWalk w = some (chW w) := by
  unfold F_impl_chainOfWalk
  have hl := h.len
  rw [F_slices_Clone_eq (show w.1.length < _ by have := h.from'; omega), Option.bind_some]
  refine loop_map (mk := fun i out => (i, out)) (xs := w.2) (g := fun s => (s.2.1, s.1, false, s.2.2)) (fun i out x hi hx hg ho => ?_) ?_
  · simp only [F_impl_chainOfWalk_l1, show (i : Int) < w.2.length by omega, decide_true, if_true, show (0 : Int) ≤ i by omega, and_self, Int.toNat_natCast, hg]
    rw [F_impl_Chain_add_eq (h.to x hx) (by simp at ho; omega), Option.bind_some, w64 (by omega) (by omega)]
  simp [F_impl_chainOfWalk_l1, chW]
theorem F_impl_Chain_end_eq {c : Chn} (h : SmC c) : F_impl_Chain_end c = some (chEnd c) := by
  unfold F_impl_Chain_end chEnd
  have hl := h.len
  by_cases h0 : c.2.length = 0
  · simp [h0]
  simp only [show (0 : Int) < c.2.length by omega, decide_true, if_true, h0, if_false, w64 (n := (c.2.length : Int) - 1) (by omega) (by omega)]
  rw [if_pos (by omega), show ((c.2.length : Int) - 1).toNat = c.2.length - 1 by omega]
theorem F_impl_turned_eq {c : Chn} (h : SmC c) : F_impl_turned c = some (turnC c) := by
  unfold F_impl_turned
  have hl := h.len
  rw [F_impl_Chain_end_eq h, Option.bind_some, F_slices_Clone_eq (show (chEnd c).length < _ by have := h.end'; omega), Option.bind_some]
  simp only [F_slices_Backward_impl_Move_impl_Move, Option.bind_some]
  refine loop_mapN (n := c.2.length) (g := fun j => tmv c (c.2.length - 1 - j)) (fun j out hj ho => ?_) ?_
  · have ht := h.tmv (i := c.2.length - 1 - j) (by omega)
    simp only [F_impl_turned_l1, hj, if_true]
    by_cases hp : 0 < c.2.length - 1 - j
    · simp only [show (0 : Int) < (c.2.length : Int) - 1 - j by omega, decide_true, if_true, w64 (n := (c.2.length : Int) - 1 - j - 1) (by omega) (by omega)]
      rw [if_pos (by omega), show ((c.2.length : Int) - 1 - j - 1).toNat = c.2.length - 1 - j - 1 by omega]
      simp only [tmv, hp, if_true] at ht ⊢
      rw [F_impl_Chain_add_eq (by simpa using ht) (by omega), Option.bind_some]
    simp only [show ¬ (0 : Int) < (c.2.length : Int) - 1 - j by omega, decide_false, Bool.false_eq_true, if_false]
    simp only [tmv, hp, if_false] at ht ⊢
    rw [F_impl_Chain_add_eq (by simpa using ht) (by omega), Option.bind_some]
  simp [F_impl_turned_l1, turnC]
theorem F_impl_joinChains_eq {a b : Chn} (ha : SmC a) (hb : SmC b) : F_impl_joinChains a b = some (encC (if chEnd a = b.1 then joinO a b else none)) := by
  unfold F_impl_joinChains joinO
  have hla := ha.len
  have hlb := hb.len
  rw [F_impl_Chain_end_eq ha, Option.bind_some, F_slices_Equal_eq (show (chEnd a).length < _ by have := ha.end'; omega), Option.bind_some]
  by_cases he : chEnd a = b.1
  · simp only [he, beq_self_eq_true, if_true, w64 (n := (a.2.length : Int) + b.2.length) (by omega) (by omega)]
    by_cases h60 : a.2.length + b.2.length ≤ 60
    · simp only [show ¬ (60 : Int) < (a.2.length : Int) + b.2.length by omega, decide_false, Bool.false_eq_true, if_false, h60, if_true, encC]
      rw [F_slices_Clone_eq (show a.1.length < _ by have := ha.from'; omega), Option.bind_some, if_pos (by omega), if_pos (by omega)]
      have hla2 : (a.2 ++ b.2).length ≤ 60 := by simp; omega
      refine loop_map (mk := fun i out => (i, out)) (xs := a.2 ++ b.2) (g := fun m => m) (fun i out x hi hx hg ho => ?_) ?_
      · simp only [F_impl_joinChains_l1, show (i : Int) < ((a.2 ++ b.2).length : Int) by omega, decide_true, if_true, show (0 : Int) ≤ i by omega, and_self, Int.toNat_natCast, hg]
        rw [F_impl_Chain_add_eq (m := x) ((List.mem_append.1 hx).elim (ha.to x) (hb.to x)) (by simp at ho; omega), Option.bind_some, w64 (by omega) (by omega)]
      simp [F_impl_joinChains_l1]
    simp only [show (60 : Int) < (a.2.length : Int) + b.2.length by omega, decide_true, if_true, h60, if_false, encC]
  have : (chEnd a == b.1) = false := by simpa using he
  simp only [this, Bool.false_eq_true, if_false, he, encC]
theorem F_spec_l20End_eq {c : Chn} (h : SmC c) : F_spec_l20End c = some (chEnd c) := by
  unfold F_spec_l20End chEnd
  have hl := h.len
  by_cases h0 : c.2.length = 0
  · simp [h0]
  have : ((c.2.length : Int) == 0) = false := beq_eq_false_iff_ne.2 (by omega)
  simp only [this, Bool.false_eq_true, if_false, h0, w64 (n := (c.2.length : Int) - 1) (by omega) (by omega)]
  rw [if_pos (by omega), show ((c.2.length : Int) - 1).toNat = c.2.length - 1 by omega]
end Go.Proofs.YtcaljngigbfadaaGreat
namespace Go.Proofs.YtcaljngigbfadaaGreat
open Go Abx Tm
abbrev Eqq := List Int × List Int
def eqOkB (a : List Int) (e : Eqq) : Bool := termOk a e.1 && termOk a e.2
def eqsOkB (a : List Int) (eqs : List Eqq) : Bool := sigOk a && (decide (eqs.length ≤ 12) && eqs.all (eqOkB a))
theorem eqOk_iff {a : List Int} {e : Eqq} : eqOkB a e = true ↔ termOk a e.1 = true ∧ termOk a e.2 = true := by simp [eqOkB]
theorem eqsOk_iff {a : List Int} {eqs : List Eqq} : eqsOkB a eqs = true ↔ sigOk a = true ∧ eqs.length ≤ 12 ∧ ∀ e ∈ eqs, eqOkB a e = true := by simp [eqsOkB]
theorem F_impl_EqOk_eq (a : List Int) (e : Eqq) : F_impl_EqOk a e = some (eqOkB a e) := by
  unfold F_impl_EqOk eqOkB
  rw [F_impl_TermOk_eq, Option.bind_some]
  cases h : termOk a e.1 with
  | false => simp
  | true => simp [F_impl_TermOk_eq]
theorem F_spec_EqOk_eq (a : List Int) (e : Eqq) : F_spec_EqOk a e = some (eqOkB a e) := by
  unfold F_spec_EqOk eqOkB
  rw [F_spec_TermOk_eq, Option.bind_some]
  cases h : termOk a e.1 with
  | false => simp
  | true => simp [F_spec_TermOk_eq]
theorem F_impl_EqsOk_eq (a : List Int) (eqs : List Eqq) : F_impl_EqsOk a eqs = some (eqsOkB a eqs) := by
  unfold F_impl_EqsOk eqsOkB
  rw [F_impl_SigOk_eq, Option.bind_some]
  cases h : sigOk a with
  | false => simp
  | true =>
    by_cases h12 : 12 < (eqs.length : Int)
    · simp [h12, show ¬ eqs.length ≤ 12 by omega]
    simp only [if_true, h12, decide_false, Bool.false_eq_true, if_false, show eqs.length ≤ 12 by omega, decide_true, Bool.true_and]
    unfold F_slices_ContainsFunc_impl_Eq_impl_Eq
    have key : Okk True (F_slices_IndexFunc_impl_Eq_impl_Eq eqs a) fun r => 0 ≤ r ↔ ∃ e ∈ eqs, eqOkB a e = false := by
      unfold F_slices_IndexFunc_impl_Eq_impl_Eq
      refine Okk.loop (fun i : Int => ∃ n : Nat, i = (n : Int) ∧ n ≤ eqs.length ∧ ∀ e ∈ eqs.take n, eqOkB a e = true) (fun i : Int => eqs.length - i.toNat) ⟨0, rfl, by omega, by simp⟩ ?_
      rintro _ ⟨n, rfl, hn, hall⟩
      simp only [F_slices_IndexFunc_impl_Eq_impl_Eq_l1, F_impl_EqsOk_1, F_impl_EqOk_eq, Option.bind_some]
      by_cases hlt : n < eqs.length
      · simp only [show (n : Int) < eqs.length by omega, decide_true, if_true, show (0 : Int) ≤ n by omega, and_self, Int.toNat_natCast, w64 (n := (n : Int) + 1) (by omega) (by omega)]
        cases hk : eqOkB a (eqs.getD n default) with
        | false =>
          have hk' : eqOkB a ((eqs.getD n default).1, (eqs.getD n default).2) = false := hk
          simp only [hk', Bool.not_false, if_true, Option.map_some]
          refine .some ?_
          simp only [Rnd]
          exact ⟨fun _ => ⟨_, getD_mem hlt, hk⟩, fun _ => by omega⟩
        | true =>
          have hk' : eqOkB a ((eqs.getD n default).1, (eqs.getD n default).2) = true := hk
          simp only [hk', Bool.not_true, Bool.false_eq_true, if_false]
          refine .some ?_
          simp only [Rnd]
          refine ⟨⟨n + 1, by omega, hlt, fun e he => ?_⟩, by omega⟩
          rw [List.take_succ_eq_append_getElem hlt] at he
          rcases List.mem_append.1 he with he | he
          · exact hall e he
          rw [List.mem_singleton.1 he, ← getD_get hlt]; exact hk
      simp only [show ¬ (n : Int) < eqs.length by omega, decide_false, Bool.false_eq_true, if_false, Option.map_some]
      refine .some ?_
      simp only [Rnd]
      refine ⟨fun h => by omega, fun ⟨e, he, hk⟩ => ?_⟩
      have := hall e (by rw [List.take_of_length_le (by omega)]; exact he)
      rw [hk] at this; cases this
    obtain ⟨r, e1, e2⟩ := key.get
    rw [e1, Option.bind_some, Option.bind_some]
    congr 1
    cases hall : eqs.all (eqOkB a) with
    | true =>
      have : ¬ 0 ≤ r := fun h => by
        obtain ⟨e, he, hk⟩ := e2.1 h
        have := List.all_eq_true.1 hall e he
        rw [hk] at this; cases this
      simp [this]
    | false =>
      have : 0 ≤ r := e2.2 (by
        rw [List.all_eq_false] at hall
        obtain ⟨e, he, hk⟩ := hall
        exact ⟨e, he, by simpa using hk⟩)
      simp [this]
theorem F_spec_EqsOk_eq (a : List Int) (eqs : List Eqq) : F_spec_EqsOk a eqs = some (eqsOkB a eqs) := by
  unfold F_spec_EqsOk eqsOkB
  rw [F_spec_SigOk_eq, Option.bind_some]
  cases h : sigOk a with
  | false => simp
  | true =>
    by_cases h12 : 12 < (eqs.length : Int)
    · simp [h12, show ¬ eqs.length ≤ 12 by omega]
    simp only [if_true, h12, decide_false, Bool.false_eq_true, if_false, show eqs.length ≤ 12 by omega, decide_true, Bool.true_and]
    refine loop_all (xs := eqs) (p := eqOkB a) (fun i x hi hi' hx hg => ?_) ?_
    · simp only [F_spec_EqsOk_l1, hi', decide_true, if_true, show (0 : Int) ≤ i by omega, and_self, Int.toNat_natCast, hg, w64 (n := (i : Int) + 1) (by omega) (by omega)]
      rw [F_spec_EqOk_eq, Option.bind_some]
      cases hk : eqOkB a x with
      | true => have hk' : eqOkB a (x.1, x.2) = true := hk; simp [hk']
      | false => have hk' : eqOkB a (x.1, x.2) = false := hk; simp [hk']
    simp [F_spec_EqsOk_l1]
def sideF (eqs : List Eqq) (m : Mvv) : List Int := if m.2.2.1 = true then (eqs.getD m.1.toNat default).2 else (eqs.getD m.1.toNat default).1
def sideO (eqs : List Eqq) (m : Mvv) : List Int := if m.2.2.1 = true then (eqs.getD m.1.toNat default).1 else (eqs.getD m.1.toNat default).2
def inB (eqs : List Eqq) (t : List Int) (m : Mvv) : Prop := (0 ≤ m.1 ∧ m.1 < eqs.length) ∧ (0 ≤ m.2.1 ∧ m.2.1 < t.length) ∧ m.2.1 < m.2.2.2.length
instance (eqs : List Eqq) (t : List Int) (m : Mvv) : Decidable (inB eqs t m) := by unfold inB; infer_instance
def moveB (a : List Int) (eqs : List Eqq) (t : List Int) (m : Mvv) : Bool := decide (inB eqs t m) && (termOk a m.2.2.2 && mvB a (sideF eqs m) (sideO eqs m) t m.2.2.2 m.2.1.toNat)
def chFrom (a : List Int) (eqs : List Eqq) : List Int → List Mvv → Bool
  | _, [] => true
  | t, m :: ms => moveB a eqs t m && chFrom a eqs m.2.2.2 ms
def chOk (a : List Int) (eqs : List Eqq) (c : Chn) : Bool := eqsOkB a eqs && (termOk a c.1 && (decide (c.2.length ≤ 60) && chFrom a eqs c.1 c.2))
theorem moveB_to {a : List Int} {eqs : List Eqq} {t : List Int} {m : Mvv} (h : moveB a eqs t m = true) : termOk a m.2.2.2 = true := by
  simp only [moveB, Bool.and_eq_true] at h; exact h.2.1
theorem ch_loop {a : List Int} {eqs : List Eqq} {c : Chn} {f : List Int × Int → Option ((List Int × Int) ⊕ Bool)} (hc : termOk a c.1 = true)
    (h : ∀ (t : List Int) (i : Nat) (x : Mvv), termOk a t = true → i < c.2.length → c.2.getD i default = x → f (t, i) = some (if moveB a eqs t x = true then .inl (x.2.2.2, (i : Int) + 1) else .inr false))
    (he : ∀ t, f (t, c.2.length) = some (.inr true)) : loopC f (c.1, 0) = some (chFrom a eqs c.1 c.2) := by
  have key : ∀ (k i : Nat) (t : List Int), termOk a t = true → i + k = c.2.length → loopC f (t, (i : Int)) = some (chFrom a eqs t (c.2.drop i)) := by
    intro k
    induction k with
    | zero =>
      intro i t _ hi
      obtain rfl : i = c.2.length := by omega
      rw [loopC_inr (he t)]; simp [chFrom]
    | succ k ih =>
      intro i t ht hi
      have hlt : i < c.2.length := by omega
      have e := h t i _ ht hlt (getD_get hlt)
      rw [List.drop_eq_getElem_cons hlt, chFrom]
      cases hs : moveB a eqs t (c.2[i]) with
      | false =>
        rw [hs] at e
        simp only [Bool.false_eq_true, if_false] at e
        rw [loopC_inr e]; rfl
      | true =>
        rw [hs] at e
        simp only [if_true] at e
        rw [loopC_inl e, show ((i : Int) + 1) = ((i + 1 : Nat) : Int) by omega, ih (i + 1) _ (moveB_to hs) (by omega)]
        simp
  simpa using key c.2.length 0 c.1 hc (by omega)
end Go.Proofs.YtcaljngigbfadaaGreat
namespace Go.Proofs.YtcaljngigbfadaaGreat
open Go Abx Tm
theorem mat_app {a p' t' : List Int} : ∀ {p t : List Int} {b : Bd} {k : Nat}, Wf a k p → Wf a k t → mat a (p ++ p') (t ++ t') b = (mat a p t b).bind fun b' => mat a p' t' b'
  | [], t, b, 0, _, ht => by rw [ht.zero]; simp [mat_nil]
  | [], t, b, k + 1, hp, _ => by simp [Wf, Tm.skip] at hp
  | n :: p, t, b, 0, hp, _ => by have := hp.zero; cases this
  | n :: p, t, b, k + 1, hp, ht => by
    obtain ⟨hx, hp⟩ := Wf.cons_iff.1 hp
    by_cases hn : n < 0
    · rw [show k + 1 = 1 + k by omega] at ht
      obtain ⟨u, r, rfl, hu, hr⟩ := ht.split
      have ha : ari a n = 0 := by simp [ari, hn]
      rw [ha, Nat.add_zero] at hp
      rw [List.cons_append, List.append_assoc, mat_var hn hu, mat_var hn hu]
      split
      · exact mat_app hp hr
      split
      · exact mat_app hp hr
      rfl
    obtain ⟨y, r, rfl, hy, hr⟩ := ht.pos
    rw [List.cons_append, List.cons_append, mat_sym hn, mat_sym hn]
    split
    · rename_i e; subst e; exact mat_app hp hr
    rfl
def matL (a : List Int) : List (List Int) → List (List Int) → Bd → Option Bd
  | p :: ps, t :: ts, b => (mat a p t b).bind fun b' => matL a ps ts b'
  | _, _, b => some b
theorem mat_flat {a : List Int} : ∀ {ps ts : List (List Int)} {b : Bd}, ps.length = ts.length → (∀ u ∈ ps, Wf a 1 u) → (∀ u ∈ ts, Wf a 1 u) → mat a ps.flatten ts.flatten b = matL a ps ts b
  | [], [], b, _, _, _ => by simp [mat_nil, matL]
  | p :: ps, t :: ts, b, hl, hp, ht => by
    rw [List.flatten_cons, List.flatten_cons, mat_app (hp p (by simp)) (ht t (by simp)), matL]
    cases mat a p t b with
    | none => rfl
    | some b' => exact mat_flat (by simpa using hl) (fun u hu => hp u (by simp [hu])) fun u hu => ht u (by simp [hu])
  | [], _ :: _, _, hl, _, _ => by simp at hl
  | _ :: _, [], _, hl, _, _ => by simp at hl
def posM (s : Int) : List (List Int) → List Int
  | [] => []
  | u :: us => s :: posM (s + u.length) us
theorem posM_len : ∀ (us : List (List Int)) (s : Int), (posM s us).length = us.length
  | [], _ => rfl
  | u :: us, s => by simp [posM, posM_len us]
theorem posM_take : ∀ (us : List (List Int)) (s : Int) (j : Nat) (_ : j < us.length), posM s (us.take (j + 1)) = posM s (us.take j) ++ [s + ((us.take j).flatten.length : Int)]
  | [], _, _, h => by simp at h
  | u :: us, s, 0, _ => by simp [posM]
  | u :: us, s, j + 1, h => by
    simp only [List.take_succ_cons, posM]
    rw [posM_take us _ j (by simpa using h)]
    simp; omega
theorem posM_get : ∀ (us : List (List Int)) (s : Int) (j : Nat) (_ : j < us.length), (posM s us).getD j default = s + ((us.take j).flatten.length : Int)
  | [], _, _, h => by simp at h
  | u :: us, s, 0, _ => by simp [posM]
  | u :: us, s, j + 1, h => by
    simp only [posM, List.getD_cons_succ, List.take_succ_cons]
    rw [posM_get us _ j (by simpa using h)]
    simp; omega
theorem flatM_take {us : List (List Int)} {j : Nat} (h : j < us.length) : (us.take (j + 1)).flatten = (us.take j).flatten ++ us[j] := by
  rw [List.take_add_one, List.getElem?_eq_getElem h, List.flatten_append]; simp
theorem dropM {x : Int} {us : List (List Int)} {j : Nat} (hj : j < us.length) : (x :: us.flatten).drop (1 + (us.take j).flatten.length) = us[j] ++ (us.drop (j + 1)).flatten := by
  rw [Nat.add_comm 1, List.drop_succ_cons]
  have e : us.flatten = (us.take j).flatten ++ (us[j] ++ (us.drop (j + 1)).flatten) := by
    conv => lhs; rw [← List.take_append_drop j us, List.drop_eq_getElem_cons hj]
    rw [List.flatten_append, List.flatten_cons]
  rw [e, List.drop_left]
theorem wf_args {a : List Int} : ∀ {k : Nat} {r : List Int}, Wf a k r → ∃ us : List (List Int), us.length = k ∧ r = us.flatten ∧ ∀ u ∈ us, Wf a 1 u
  | 0, r, h => ⟨[], rfl, by rw [h.zero]; rfl, by simp⟩
  | k + 1, r, h => by
    rw [show k + 1 = 1 + k by omega] at h
    obtain ⟨u, v, rfl, h1, h2⟩ := h.split
    obtain ⟨us, h3, rfl, h4⟩ := wf_args h2
    exact ⟨u :: us, by simp [h3], rfl, by simpa using ⟨h1, h4⟩⟩
theorem F_spec_l1Args_eq {a : List Int} {x : Int} {us : List (List Int)} (ha : sigOk a = true) (hs : (x :: us.flatten).length ≤ 60) (ho : okx a x) (hl : us.length = ari a x)
    (hu : ∀ u ∈ us, Wf a 1 u) : F_spec_l1Args a (x :: us.flatten) 0 = some (posM 1 us) := by
  have h3 := ari_le ha x
  have key : Okk True (F_spec_l1Args a (x :: us.flatten) 0) (· = posM 1 us) := by
    unfold F_spec_l1Args
    rw [if_pos (by simp only [List.length_cons]; omega)]
    simp only [Int.toNat_zero, List.getD_cons_zero]
    rw [F_spec_l1Arity_eq ha, if_pos ho, Option.bind_some, w64 (n := (0 : Int) + 1) (by omega) (by omega)]
    refine Okk.loop (fun q : List Int × Int × Int => ∃ j : Nat, j ≤ us.length ∧ q.1 = posM 1 (us.take j) ∧ q.2.1 = 1 + ((us.take j).flatten.length : Int) ∧ q.2.2 = (us.length : Int) - j) (fun q : List Int × Int × Int => q.2.2.toNat)
      ⟨0, by omega, by simp [posM], by simp, by simp [hl]⟩ ?_
    rintro ⟨_, _, _⟩ ⟨j, h4, rfl, rfl, rfl⟩
    simp only [F_spec_l1Args_l1]
    by_cases hj : j < us.length
    · have hd := dropM (x := x) hj
      have hw := hu _ (List.getElem_mem hj)
      have hpl := posM_len (us.take j) 1
      rw [List.length_take] at hpl
      have hdl := congrArg List.length hd
      have hwl := hw.len
      simp only [List.length_drop, List.length_append] at hdl
      have he := F_spec_l1End_eq ha (show Small (x :: us.flatten) by show List.length _ < _; omega) (i := 1 + (us.take j).flatten.length) (by omega)
      rw [endI_app hd hw] at he
      rw [show ((1 + (us.take j).flatten.length : Nat) : Int) = 1 + ((us.take j).flatten.length : Int) by omega] at he
      simp only [show (0 : Int) < (us.length : Int) - j by omega, decide_true, if_true, show ((posM 1 (us.take j)).length + 1) * 8 ≤ 140737488355328 by omega, he, Option.bind_some, w64 (n := (us.length : Int) - j - 1) (by omega) (by omega)]
      refine .some ⟨⟨j + 1, by omega, (posM_take us _ j hj).symm, ?_, by simp only; omega⟩, by simp only; omega⟩
      simp only [flatM_take hj, List.length_append]
      omega
    obtain rfl : j = us.length := by omega
    simp only [show ¬ (0 : Int) < (us.length : Int) - (us.length : Int) by omega, decide_false, Bool.false_eq_true, if_false, Option.map_some]
    refine .some ?_
    simp only [Rnd, List.take_length]
  exact key.eq
theorem F_spec_l1There_eq {t : List Int} (hs : t.length ≤ 60) {i : Int} : F_spec_l1There t i = some (decide (0 ≤ i ∧ i < t.length)) := by
  unfold F_spec_l1There
  rw [F_spec_l1In_eq, Option.bind_some, w64 (by omega) (by omega)]
  congr 1
  rw [Bool.decide_and]
  congr 1
  exact decide_eq_decide.2 (by omega)
theorem F_spec_ArgsAt_eq {a : List Int} {x : Int} {us : List (List Int)} (ht : termOk a (x :: us.flatten) = true) (hl : us.length = ari a x) (hu : ∀ u ∈ us, Wf a 1 u) : F_spec_ArgsAt a (x :: us.flatten) 0 = some (posM 1 us) := by
  obtain ⟨ha, h1, h2, h3⟩ := termOk_iff.1 ht
  unfold F_spec_ArgsAt
  rw [F_spec_TermOk_eq, Option.bind_some, if_pos ht, F_spec_l1There_eq h2, Option.bind_some, if_pos (by simp only [decide_eq_true_eq]; omega), F_spec_l1Args_eq ha h2 (Wf.cons_iff.1 h3).1 hl hu, Option.bind_some]
theorem F_spec_SubAt_eq {a t u r : List Int} (ht : termOk a t = true) {i : Nat} (h : t.drop i = u ++ r) (hu : Wf a 1 u) : F_spec_SubAt a t i = some u := by
  obtain ⟨ha, h1, h2, h3⟩ := termOk_iff.1 ht
  have hul := hu.len
  have hd := congrArg List.length h
  simp only [List.length_drop, List.length_append] at hd
  unfold F_spec_SubAt
  rw [F_spec_TermOk_eq, Option.bind_some, if_pos ht, F_spec_l1There_eq h2, Option.bind_some, if_pos (by simp only [decide_eq_true_eq]; omega), F_spec_l1Sub_eq ha (show List.length _ < _ by omega) h hu, Option.bind_some]
theorem flat_le {us : List (List Int)} {u : List Int} (h : u ∈ us) : u.length ≤ us.flatten.length := by
  induction us with
  | nil => cases h
  | cons v us ih =>
    rw [List.flatten_cons, List.length_append]
    rcases List.mem_cons.1 h with rfl | h
    · omega
    have := ih h; omega
theorem termOk_arg {a : List Int} {x : Int} {us : List (List Int)} (ht : termOk a (x :: us.flatten) = true) (hu : ∀ u ∈ us, Wf a 1 u) {u : List Int} (h : u ∈ us) : termOk a u = true := by
  obtain ⟨ha, h1, h2, h3⟩ := termOk_iff.1 ht
  have := flat_le h
  simp only [List.length_cons] at h2
  exact termOk_iff.2 ⟨ha, (hu u h).len, by omega, hu u h⟩
theorem F_spec_l20Match_ok {a : List Int} : ∀ (fu : Nat) {p t : List Int} {b0 : Bd}, termOk a p = true → termOk a t = true → b0.length = 24 → (∀ u ∈ b0, u.length ≤ 60) →
    Okk (p.length + 1 ≤ fu) (F_spec_l20Match fu a b0 p t) fun r => encB (mat a p t b0) r
  | 0, p, t, b0, _, _, _, _ => ⟨fun _ h => by simp [F_spec_l20Match] at h, fun h => by omega⟩
  | fu + 1, p, t, b0, hp, ht, hb, hbs => by
    obtain ⟨ha, p1, p2, p3⟩ := termOk_iff.1 hp
    obtain ⟨_, t1, t2, t3⟩ := termOk_iff.1 ht
    obtain ⟨x, r, rfl, hx, hr⟩ := p3.pos
    obtain ⟨y, s, rfl, hy, hsw⟩ := t3.pos
    have ep : ((((x :: r).length : Nat) : Int) == 0) = false := beq_eq_false_iff_ne.2 (by simp only [List.length_cons]; omega)
    have et : ((((y :: s).length : Nat) : Int) == 0) = false := beq_eq_false_iff_ne.2 (by simp only [List.length_cons]; omega)
    have lp : (0 : Int) < (((x :: r).length : Nat) : Int) := by simp only [List.length_cons]; omega
    have lt : (0 : Int) < (((y :: s).length : Nat) : Int) := by simp only [List.length_cons]; omega
    simp only [F_spec_l20Match, ep, et, Bool.false_eq_true, if_false, lp, lt, Int.le_refl, and_self, if_true, List.getD_cons_zero]
    by_cases hn : x < 0
    · have ha0 : ari a x = 0 := by simp [ari, hn]
      rw [ha0] at hr
      have hr0 := hr.zero
      subst hr0
      have hx1 := hx.1
      have e := mat_var (a := a) (p := []) (r := []) (b := b0) hn t3
      rw [List.append_nil] at e
      rw [e]
      simp only [mat_nil]
      have hg : b0.getD (-1 - x).toNat default = bget b0 x := rfl
      have hbl := bget_small (n := x) hbs
      simp only [hn, decide_true, if_true, w64 (n := -1 - x) (by omega) (by omega), show 0 ≤ -1 - x by omega, show -1 - x < (b0.length : Int) by omega, and_self, hg, show (0 + b0.length) * 24 ≤ 140737488355328 by omega]
      by_cases h0 : bget b0 x = []
      · simp only [h0, if_true, List.length_nil, show ¬ (0 : Int) < ((0 : Nat) : Int) by omega, decide_false, Bool.false_eq_true, if_false]
        exact .some rfl
      have h0' : 0 < (bget b0 x).length := List.length_pos_iff.2 h0
      simp only [h0, if_false, show (0 : Int) < ((bget b0 x).length : Int) by omega, decide_true, if_true]
      rw [F_spec_SameTerm_eq (show List.length _ < _ by omega), Option.bind_some]
      by_cases he : bget b0 x = y :: s
      · simp only [he, beq_self_eq_true, if_true]
        exact .some rfl
      have : (bget b0 x == y :: s) = false := by simpa using he
      simp only [he, this, if_false]
      exact .some rfl
    simp only [hn, decide_false, Bool.false_eq_true, if_false, mat_sym hn]
    by_cases hxy : y = x
    · subst hxy
      simp only [bne_self_eq_false, Bool.false_eq_true, if_false, if_true]
      obtain ⟨us, ul, rfl, hus⟩ := wf_args (show Wf a (ari a y) r by simpa using hr)
      obtain ⟨vs, vl, rfl, hvs⟩ := wf_args (show Wf a (ari a y) s by simpa using hsw)
      rw [F_spec_ArgsAt_eq hp ul hus, Option.bind_some, F_spec_ArgsAt_eq ht vl hvs, Option.bind_some, mat_flat (by omega) hus hvs]
      have h3 := ari_le ha y
      refine Okk.loop (fun q : Bd × Int => ∃ j : Nat, q.2 = j ∧ j ≤ us.length ∧ q.1.length = 24 ∧ (∀ u ∈ q.1, u.length ≤ 60) ∧ matL a us vs b0 = matL a (us.drop j) (vs.drop j) q.1) (fun q : Bd × Int => us.length - q.2.toNat)
        ⟨0, rfl, by omega, hb, hbs, by simp⟩ ?_
      rintro ⟨b, _⟩ ⟨j, rfl, h4, h5, h6, h7⟩
      simp only at h5 h6 h7
      simp only [F_spec_l20Match_l1, posM_len]
      by_cases hj : j < us.length
      · have hjv : j < vs.length := by omega
        have hpu := F_spec_SubAt_eq (i := 1 + (us.take j).flatten.length) hp (dropM hj) (hus _ (List.getElem_mem hj))
        have hpv := F_spec_SubAt_eq (i := 1 + (vs.take j).flatten.length) ht (dropM hjv) (hvs _ (List.getElem_mem hjv))
        rw [show ((1 + (us.take j).flatten.length : Nat) : Int) = 1 + ((us.take j).flatten.length : Int) by omega] at hpu
        rw [show ((1 + (vs.take j).flatten.length : Nat) : Int) = 1 + ((vs.take j).flatten.length : Int) by omega] at hpv
        simp only [show (j : Int) < (us.length : Int) by omega, show (j : Int) < (vs.length : Int) by omega, decide_true, if_true, show (0 : Int) ≤ j by omega, and_self, Int.toNat_natCast, posM_get us 1 j hj, posM_get vs 1 j hjv, hpu, hpv, Option.bind_some]
        have htu := termOk_arg hp hus (List.getElem_mem hj)
        have htv := termOk_arg ht hvs (List.getElem_mem hjv)
        have hul := flat_le (List.getElem_mem hj)
        simp only [List.length_cons] at p2
        rw [List.drop_eq_getElem_cons hj, List.drop_eq_getElem_cons hjv, matL] at h7
        refine Okk.bind ((F_spec_l20Match_ok fu htu htv h5 h6).weak (fun h => by simp only [List.length_cons] at h; omega)) ?_
        rintro ⟨b', ok⟩ h8
        cases hm : mat a us[j] vs[j] b with
        | none =>
          rw [hm] at h7 h8
          simp only [encB] at h8
          subst h8
          simp only [Bool.false_eq_true, if_false, Option.map_some]
          refine .some ?_
          simp only [Rnd, h7, Option.bind_none, encB]
        | some b1 =>
          rw [hm] at h7 h8
          simp only [encB, Prod.mk.injEq] at h8
          obtain ⟨rfl, rfl⟩ := h8
          obtain ⟨h9, h10⟩ := mat_small hm h6 (termOk_iff.1 htv).2.2.1 h5
          simp only [if_true, w64 (n := (j : Int) + 1) (by omega) (by omega)]
          refine .some ⟨⟨j + 1, by simp, hj, h9, h10, ?_⟩, by simp only; omega⟩
          rw [h7, Option.bind_some]
      obtain rfl : j = us.length := by omega
      simp only [Int.lt_irrefl, decide_false, Bool.false_eq_true, if_false, Option.map_some]
      refine .some ?_
      simp only [Rnd]
      rw [h7, List.drop_length]
      simp only [matL, encB]
    have : (x != y) = true := by simpa using fun e => hxy e.symm
    simp only [this, if_true, hxy, if_false]
    exact .some rfl
theorem F_spec_l20Match_all_ok {a p t : List Int} {b0 : Bd} (hp : termOk a p = true) (ht : termOk a t = true) (hb : b0.length = 24) (hbs : ∀ u ∈ b0, u.length ≤ 60) :
    Okk True (F_spec_l20Match_all a b0 p t) fun r => encB (mat a p t b0) r := Okk.lim (p.length + 1) fun n => F_spec_l20Match_ok n hp ht hb hbs
theorem F_spec_PutAt_eq {a p u s v : List Int} (ht : termOk a (p ++ (u ++ s)) = true) (hu : Wf a 1 u) (hv : termOk a v = true) : F_spec_PutAt a (p ++ (u ++ s)) p.length v = some (encO (putO a (p ++ (u ++ s)) p.length v)) := by
  obtain ⟨ha, t1, t2, t3⟩ := termOk_iff.1 ht
  have hul := hu.len
  unfold F_spec_PutAt F_spec_l3Right
  rw [F_spec_TermOk_eq, Option.bind_some, if_pos ht, F_spec_l1There_eq t2, Option.bind_some, Option.bind_some, if_pos (by simp only [decide_eq_true_eq, List.length_append]; omega), F_spec_TermOk_eq, Option.bind_some, if_pos hv,
    F_spec_l3Put_eq ha hu t2 (termOk_iff.1 hv).2.2.1, Option.bind_some]
theorem spec_move_core {a f o p u s p' u' s' : List Int} (ht : termOk a (p ++ (u ++ s)) = true) (hto : termOk a (p' ++ (u' ++ s')) = true) (hf : termOk a f = true) (ho : termOk a o = true) (hu : Wf a 1 u) (hu' : Wf a 1 u')
    (hp : p'.length = p.length) :
    ((F_spec_SubAt a (p' ++ (u' ++ s')) p.length).bind fun r_3 =>
      (F_spec_PutAt a (p ++ (u ++ s)) p.length r_3).bind fun r_4 =>
      if r_4.2 = true then
        (F_spec_SameTerm r_4.1 (p' ++ (u' ++ s'))).bind fun r_5 =>
        if r_5 = true then
          (F_spec_SubAt a (p ++ (u ++ s)) p.length).bind fun r_6 =>
          (F_spec_l20Match_all a (List.replicate 24 []) f r_6).bind fun r_7 =>
          if r_7.2 = true then
            (F_spec_l20Match_all a r_7.1 o r_3).bind fun r_8 =>
            some r_8.2
          else
            some false
        else
          some false
      else
        some false) = some (mvB a f o (p ++ (u ++ s)) (p' ++ (u' ++ s')) p.length) := by
  obtain ⟨ha, _, hl, _⟩ := termOk_iff.1 ht
  obtain ⟨_, _, hl', _⟩ := termOk_iff.1 hto
  have hul : u.length ≤ 60 := by simp at hl; omega
  have hul' : u'.length ≤ 60 := by simp at hl'; omega
  have hd' : (p' ++ (u' ++ s')).drop p.length = u' ++ s' := by rw [← hp]; exact List.drop_left
  have hat' : at' a (p' ++ (u' ++ s')) p.length = u' := by rw [← hp]; exact at_eq hu'
  have hut : termOk a u = true := termOk_iff.2 ⟨ha, hu.len, hul, hu⟩
  have hut' : termOk a u' = true := termOk_iff.2 ⟨ha, hu'.len, hul', hu'⟩
  rw [F_spec_SubAt_eq hto hd' hu', Option.bind_some, F_spec_PutAt_eq ht hu hut', Option.bind_some]
  unfold putO mvB
  rw [hat', at_eq hu, putp_eq hu]
  by_cases h60 : (p ++ (u' ++ s)).length ≤ 60
  · simp only [h60, if_true, encO]
    rw [F_spec_SameTerm_eq (show List.length _ < _ by omega), Option.bind_some]
    by_cases he : (p ++ (u' ++ s) == p' ++ (u' ++ s')) = true
    · simp only [he, if_true, Bool.true_and]
      rw [F_spec_SubAt_eq ht List.drop_left hu, Option.bind_some]
      obtain ⟨r5, e1, e2⟩ := (F_spec_l20Match_all_ok (b0 := none24) hf hut (by simp [none24]) (by intro u hu; simp [none24] at hu; subst hu; simp)).get
      have e1' : F_spec_l20Match_all a (List.replicate 24 []) f u = some r5 := e1
      rw [e1', Option.bind_some]
      cases hmat : mat a f u none24 with
      | none =>
        rw [hmat] at e2
        simp only [encB] at e2
        simp [e2]
      | some b =>
        rw [hmat] at e2
        simp only [encB] at e2
        subst e2
        obtain ⟨hb1, hb2⟩ := mat_small hmat (by intro u hu; simp [none24] at hu; subst hu; simp) hul (by simp [none24])
        simp only [if_true, Option.bind_some]
        obtain ⟨r6, e4, e5⟩ := (F_spec_l20Match_all_ok (b0 := b) ho hut' hb1 hb2).get
        rw [e4, Option.bind_some]
        cases hmat2 : mat a o u' b with
        | none => rw [hmat2] at e5; simp only [encB] at e5; simp [e5]
        | some b' => rw [hmat2] at e5; simp only [encB] at e5; simp [e5]
    have he' : (p ++ (u' ++ s) == p' ++ (u' ++ s')) = false := by simpa using he
    simp only [he', Bool.false_eq_true, if_false, Bool.false_and]
  have he' : (p ++ (u' ++ s) == p' ++ (u' ++ s')) = false := by
    rw [beq_eq_false_iff_ne]
    intro e
    rw [e] at h60
    exact h60 hl'
  simp only [h60, if_false, encO, Bool.false_eq_true, he', Bool.false_and]
theorem F_spec_l20Move_eq {a : List Int} {eqs : List Eqq} {t : List Int} (heqs : eqsOkB a eqs = true) (ht : termOk a t = true) (m : Mvv) : F_spec_l20Move a eqs t m = some (moveB a eqs t m) := by
  obtain ⟨ha, hel, hall⟩ := eqsOk_iff.1 heqs
  obtain ⟨_, t1, t2, t3⟩ := termOk_iff.1 ht
  unfold F_spec_l20Move moveB
  rw [F_spec_l1In_eq, F_spec_l1In_eq, Option.bind_some, Option.bind_some, w64 (by omega) (by omega), w64 (by omega) (by omega)]
  by_cases h1 : ¬ (0 ≤ m.1 ∧ m.1 < eqs.length)
  · have : (decide (0 ≤ m.1) && decide (m.1 ≤ (eqs.length : Int) - 1)) = false := by rw [← Bool.decide_and]; exact decide_eq_false (by omega)
    simp [this, show ¬ inB eqs t m from fun h => h1 h.1]
  have h1' : 0 ≤ m.1 ∧ m.1 < eqs.length := Decidable.of_not_not h1
  by_cases h3 : ¬ (0 ≤ m.2.1 ∧ m.2.1 < t.length)
  · have e1 : (decide (0 ≤ m.1) && decide (m.1 ≤ (eqs.length : Int) - 1)) = true := by rw [← Bool.decide_and]; exact decide_eq_true (by omega)
    have : (decide (0 ≤ m.2.1) && decide (m.2.1 ≤ (t.length : Int) - 1)) = false := by rw [← Bool.decide_and]; exact decide_eq_false (by omega)
    simp [e1, this, show ¬ inB eqs t m from fun h => h3 h.2.1]
  have h3' : 0 ≤ m.2.1 ∧ m.2.1 < t.length := Decidable.of_not_not h3
  have e1 : (decide (0 ≤ m.1) && decide (m.1 ≤ (eqs.length : Int) - 1)) = true := by rw [← Bool.decide_and]; exact decide_eq_true (by omega)
  have e3 : (decide (0 ≤ m.2.1) && decide (m.2.1 ≤ (t.length : Int) - 1)) = true := by rw [← Bool.decide_and]; exact decide_eq_true (by omega)
  rw [if_pos e1, if_pos e3, F_spec_TermOk_eq, Option.bind_some]
  cases hto : termOk a m.2.2.2 with
  | false => simp
  | true =>
    by_cases h5' : ¬ m.2.1 < m.2.2.2.length
    · simp [show (m.2.2.2.length : Int) ≤ m.2.1 by omega, show ¬ inB eqs t m from fun h => h5' h.2.2]
    have h5 : m.2.1 < m.2.2.2.length := Decidable.of_not_not h5'
    have hin : inB eqs t m := ⟨h1', h3', h5⟩
    obtain ⟨_, o1, o2, o3⟩ := termOk_iff.1 hto
    have hix : m.1.toNat < eqs.length := by omega
    obtain ⟨hL, hR⟩ := eqOk_iff.1 (hall _ (getD_mem hix))
    obtain ⟨p, u, s, ht', hp, hu⟩ := t3.place (i := m.2.1.toNat) (by omega)
    obtain ⟨p', u', s', hto', hp', hu'⟩ := o3.place (i := m.2.1.toNat) (by omega)
    have hpp : (m.2.1 : Int) = (p.length : Int) := by omega
    have core := fun (f o : List Int) (hf : termOk a f = true) (ho : termOk a o = true) => spec_move_core (a := a) (f := f) (o := o) (p := p) (u := u) (s := s) (p' := p') (u' := u') (s' := s') (by rw [← ht']; exact ht) (by rw [← hto']; exact hto) hf ho hu hu' (by omega)
    rw [← ht', ← hto', ← hpp] at core
    have hpn : p.length = m.2.1.toNat := hp
    simp only [hin, decide_true, Bool.true_and, if_true, h1', and_self, show ¬ (m.2.2.2.length : Int) ≤ m.2.1 by omega, decide_false, Bool.false_eq_true, if_false]
    unfold sideF sideO
    cases hb : m.2.2.1 with
    | true =>
      simp only [if_true]
      rw [core _ _ hR hL, hpn]
    | false =>
      simp only [Bool.false_eq_true, if_false]
      rw [core _ _ hL hR, hpn]
theorem F_spec_ChainOk_eq (a : List Int) (eqs : List Eqq) (c : Chn) : F_spec_ChainOk a eqs c = some (chOk a eqs c) := by
  unfold F_spec_ChainOk chOk
  rw [F_spec_EqsOk_eq, Option.bind_some]
  cases h1 : eqsOkB a eqs with
  | false => simp
  | true =>
    simp only [if_true, F_spec_TermOk_eq, Option.bind_some, Bool.true_and]
    cases h2 : termOk a c.1 with
    | false => simp
    | true =>
      by_cases h3 : 60 < (c.2.length : Int)
      · simp [h3, show ¬ c.2.length ≤ 60 by omega]
      simp only [if_true, h3, decide_false, Bool.false_eq_true, if_false, show c.2.length ≤ 60 by omega, decide_true, Bool.true_and]
      refine ch_loop h2 (fun t i x ht hi hx => ?_) (fun t => by simp [F_spec_ChainOk_l1])
      simp only [F_spec_ChainOk_l1, show (i : Int) < c.2.length by omega, decide_true, if_true, show (0 : Int) ≤ i by omega, and_self, Int.toNat_natCast, hx, w64 (n := (i : Int) + 1) (by omega) (by omega)]
      rw [F_spec_l20Move_eq h1 ht, Option.bind_some]
      have hx' : moveB a eqs t (x.1, x.2.1, x.2.2.1, x.2.2.2) = moveB a eqs t x := rfl
      rw [hx']
      cases moveB a eqs t x <;> simp
end Go.Proofs.YtcaljngigbfadaaGreat
namespace Go.Proofs.YtcaljngigbfadaaGreat
open Go Abx Tm
def endR : List Int → List Mvv → List Int
  | t, [] => t
  | _, m :: ms => endR m.2.2.2 ms
def revR : List Int → List Mvv → List Mvv
  | _, [] => []
  | t, m :: ms => revR m.2.2.2 ms ++ [(m.1, m.2.1, !m.2.2.1, t)]
theorem endR_app : ∀ {ms ns : List Mvv} {t : List Int}, endR t (ms ++ ns) = endR (endR t ms) ns
  | [], _, _ => rfl
  | m :: ms, ns, t => endR_app (ms := ms)
theorem endR_get : ∀ {ms : List Mvv} {t : List Int}, (if ms.length = 0 then t else (ms.getD (ms.length - 1) default).2.2.2) = endR t ms
  | [], _ => rfl
  | [m], t => rfl
  | m :: m' :: ms, t => by
    have := endR_get (ms := m' :: ms) (t := m.2.2.2)
    simpa [endR] using this
theorem chEnd_eq (c : Chn) : chEnd c = endR c.1 c.2 := endR_get
theorem revR_len : ∀ {ms : List Mvv} {t : List Int}, (revR t ms).length = ms.length
  | [], _ => rfl
  | m :: ms, t => by simp [revR, revR_len (ms := ms)]
theorem tmv_succ {t : List Int} {m : Mvv} {ms : List Mvv} {i : Nat} : tmv (t, m :: ms) (i + 1) = tmv (m.2.2.2, ms) i := by
  cases i <;> simp [tmv]
theorem revR_get : ∀ {ms : List Mvv} {t : List Int} {j : Nat}, j < ms.length → (revR t ms)[j]? = some (tmv (t, ms) (ms.length - 1 - j))
  | [], _, _, h => by simp at h
  | m :: ms, t, j, h => by
    simp only [List.length_cons] at h
    rw [revR]
    by_cases hj : j < ms.length
    · rw [List.getElem?_append_left (by rw [revR_len]; exact hj), revR_get hj, show (m :: ms).length - 1 - j = (ms.length - 1 - j) + 1 by simp only [List.length_cons]; omega, tmv_succ]
    obtain rfl : j = ms.length := by omega
    rw [List.getElem?_append_right (by rw [revR_len]; exact Nat.le_refl _), revR_len]
    simp [tmv]
theorem turnC_eq (c : Chn) : turnC c = (endR c.1 c.2, revR c.1 c.2) := by
  unfold turnC
  rw [chEnd_eq]
  congr 1
  refine List.ext_getElem? fun j => ?_
  by_cases hj : j < c.2.length
  · rw [revR_get hj, List.getElem?_map, List.getElem?_range hj]; rfl
  rw [List.getElem?_eq_none (by simp; omega), List.getElem?_eq_none (by rw [revR_len]; omega)]
theorem endR_snoc {ms : List Mvv} {m : Mvv} {t : List Int} : endR t (ms ++ [m]) = m.2.2.2 := by rw [endR_app]; rfl
theorem endR_rev {ms : List Mvv} {t : List Int} : endR (endR t ms) (revR t ms) = t := by
  cases ms with
  | nil => rfl
  | cons m ms => rw [revR, endR_snoc]
theorem chFrom_app {a : List Int} {eqs : List Eqq} : ∀ {ms ns : List Mvv} {t : List Int}, chFrom a eqs t (ms ++ ns) = (chFrom a eqs t ms && chFrom a eqs (endR t ms) ns)
  | [], _, _ => by simp [chFrom, endR]
  | m :: ms, ns, t => by
    rw [List.cons_append, chFrom, chFrom, chFrom_app (ms := ms), endR, Bool.and_assoc]
theorem moveB_iff {a : List Int} {eqs : List Eqq} {t : List Int} {m : Mvv} (he : eqsOkB a eqs = true) (ht : termOk a t = true) :
    moveB a eqs t m = true ↔ (0 ≤ m.1 ∧ m.1 < eqs.length) ∧ 0 ≤ m.2.1 ∧ termOk a m.2.2.2 = true ∧ Mv a (sideF eqs m) (sideO eqs m) t m.2.2.2 m.2.1.toNat := by
  obtain ⟨ha, hel, hall⟩ := eqsOk_iff.1 he
  obtain ⟨_, t1, t2, t3⟩ := termOk_iff.1 ht
  have sides : (0 ≤ m.1 ∧ m.1 < eqs.length) → Wf a 1 (sideF eqs m) ∧ Wf a 1 (sideO eqs m) := fun h => by
    obtain ⟨hL, hR⟩ := eqOk_iff.1 (hall _ (getD_mem (show m.1.toNat < eqs.length by omega)))
    unfold sideF sideO
    cases m.2.2.1 with
    | true => exact ⟨(termOk_iff.1 hR).2.2.2, (termOk_iff.1 hL).2.2.2⟩
    | false => exact ⟨(termOk_iff.1 hL).2.2.2, (termOk_iff.1 hR).2.2.2⟩
  simp only [moveB, Bool.and_eq_true, decide_eq_true_eq]
  unfold inB
  constructor
  · rintro ⟨⟨h1, h2, h3⟩, h4, h5⟩
    exact ⟨h1, h2.1, h4, (mvB_iff (sides h1).1 (sides h1).2 t3 (termOk_iff.1 h4).2.2.2 (by omega) (by omega)).1 h5⟩
  rintro ⟨h1, h2, h4, h5⟩
  have h5' := h5
  obtain ⟨p, s, σ, hp, e1, e2, hσ⟩ := h5'
  have l1 := ((sides h1).1.sub fun x _ hx => hσ x hx).len
  have l2 := ((sides h1).2.sub fun x _ hx => hσ x hx).len
  have e1 := congrArg List.length e1
  have e2 := congrArg List.length e2
  simp only [List.length_append] at e1 e2
  exact ⟨⟨h1, ⟨h2, by omega⟩, by omega⟩, h4, (mvB_iff (sides h1).1 (sides h1).2 t3 (termOk_iff.1 h4).2.2.2 (by omega) (by omega)).2 h5⟩
theorem moveB_turn {a : List Int} {eqs : List Eqq} {t : List Int} {m : Mvv} (he : eqsOkB a eqs = true) (ht : termOk a t = true) (h : moveB a eqs t m = true) : moveB a eqs m.2.2.2 (m.1, m.2.1, !m.2.2.1, t) = true := by
  obtain ⟨h1, h2, h3, h4⟩ := (moveB_iff he ht).1 h
  refine (moveB_iff he h3).2 ⟨h1, h2, ht, ?_⟩
  have e1 : sideF eqs (m.1, m.2.1, !m.2.2.1, t) = sideO eqs m := by unfold sideF sideO; cases m.2.2.1 <;> rfl
  have e2 : sideO eqs (m.1, m.2.1, !m.2.2.1, t) = sideF eqs m := by unfold sideF sideO; cases m.2.2.1 <;> rfl
  rw [e1, e2]
  exact h4.symm
theorem chFrom_end {a : List Int} {eqs : List Eqq} : ∀ {ms : List Mvv} {t : List Int}, termOk a t = true → chFrom a eqs t ms = true → termOk a (endR t ms) = true
  | [], _, ht, _ => ht
  | m :: ms, t, ht, h => by
    rw [chFrom, Bool.and_eq_true] at h
    exact chFrom_end (ms := ms) (moveB_to h.1) h.2
theorem chFrom_rev {a : List Int} {eqs : List Eqq} (he : eqsOkB a eqs = true) : ∀ {ms : List Mvv} {t : List Int}, termOk a t = true → chFrom a eqs t ms = true → chFrom a eqs (endR t ms) (revR t ms) = true
  | [], _, _, _ => rfl
  | m :: ms, t, ht, h => by
    rw [chFrom, Bool.and_eq_true] at h
    have hm := moveB_to h.1
    rw [revR, endR, chFrom_app, chFrom_rev he (ms := ms) hm h.2, endR_rev, Bool.true_and, chFrom, moveB_turn he ht h.1]
    rfl
theorem chOk_iff {a : List Int} {eqs : List Eqq} {c : Chn} : chOk a eqs c = true ↔ eqsOkB a eqs = true ∧ termOk a c.1 = true ∧ c.2.length ≤ 60 ∧ chFrom a eqs c.1 c.2 = true := by simp [chOk]
theorem chOk_turn {a : List Int} {eqs : List Eqq} {c : Chn} (h : chOk a eqs c = true) : chOk a eqs (turnC c) = true := by
  obtain ⟨h1, h2, h3, h4⟩ := chOk_iff.1 h
  rw [turnC_eq]
  exact chOk_iff.2 ⟨h1, chFrom_end h2 h4, by simpa [revR_len] using h3, chFrom_rev h1 h2 h4⟩
theorem chEnd_turn (c : Chn) : chEnd (turnC c) = c.1 := by rw [chEnd_eq, turnC_eq]; exact endR_rev
theorem chOk_join {a : List Int} {eqs : List Eqq} {c d e : Chn} (h : chOk a eqs c = true) (h' : chOk a eqs d = true) (hj : chEnd c = d.1) (he : joinO c d = some e) : chOk a eqs e = true ∧ e.1 = c.1 ∧ chEnd e = chEnd d := by
  obtain ⟨h1, h2, h3, h4⟩ := chOk_iff.1 h
  obtain ⟨_, g2, g3, g4⟩ := chOk_iff.1 h'
  unfold joinO at he
  split at he
  · rename_i hl
    cases he
    rw [chEnd_eq] at hj
    refine ⟨chOk_iff.2 ⟨h1, h2, by simpa using hl, ?_⟩, rfl, ?_⟩
    · show chFrom a eqs c.1 (c.2 ++ d.2) = true
      rw [chFrom_app, h4, hj, g4]; rfl
    rw [chEnd_eq, chEnd_eq]
    show endR c.1 (c.2 ++ d.2) = _
    rw [endR_app, hj]
  cases he
theorem chFrom_small {a : List Int} {eqs : List Eqq} : ∀ {ms : List Mvv} {t : List Int}, chFrom a eqs t ms = true → ∀ m ∈ ms, m.2.2.2.length ≤ 60
  | [], _, _, m, hm => by cases hm
  | x :: ms, t, h, m, hm => by
    rw [chFrom, Bool.and_eq_true] at h
    rcases List.mem_cons.1 hm with rfl | hm
    · exact (termOk_iff.1 (moveB_to h.1)).2.2.1
    exact chFrom_small h.2 m hm
theorem chOk_sm {a : List Int} {eqs : List Eqq} {c : Chn} (h : chOk a eqs c = true) : SmC c := by
  obtain ⟨h1, h2, h3, h4⟩ := chOk_iff.1 h
  exact ⟨(termOk_iff.1 h2).2.2.1, h3, chFrom_small h4⟩
theorem sys_eqs {s : Sys} (h : sysOk s = true) : eqsOkB s.1 s.2 = true := by
  obtain ⟨h1, h2, h3⟩ := sysOk_iff.1 h
  exact eqsOk_iff.2 ⟨h1, h2, fun e he => let h := ruleOk_iff.1 (h3 e he); eqOk_iff.2 ⟨h.1, h.2.1⟩⟩
theorem stepAt_move {s : Sys} {t u : List Int} {x : Stp} (h : stepAtO s t x.1 x.2.1 = some u) (hu : (u == x.2.2) = true) : moveB s.1 s.2 t (x.2.1, x.1, false, x.2.2) = true := by
  have hl := stepAtO_small h
  unfold stepAtO at h
  split at h
  · rename_i hc
    obtain ⟨⟨hs, ht⟩, hi, hr⟩ := hc
    obtain rfl : u = x.2.2 := by simpa using hu
    obtain ⟨_, _, h3⟩ := sysOk_iff.1 hs
    obtain ⟨hL, hR, _, hv⟩ := ruleOk_iff.1 (h3 _ (getD_mem (show x.2.1.toNat < s.2.length by omega)))
    have wL := (termOk_iff.1 hL).2.2.2
    have wR := (termOk_iff.1 hR).2.2.2
    obtain ⟨ha, _, _, wt⟩ := termOk_iff.1 ht
    obtain ⟨hm, _⟩ := stepp_mv wL wR wt (show x.1.toNat < t.length by omega) hv h
    have wu := hm.wf wL wR wt
    exact (moveB_iff (sys_eqs hs) ht).2 ⟨hr, hi.1, termOk_iff.2 ⟨ha, wu.len, hl, wu⟩, hm⟩
  cases h
theorem walk_ch {s : Sys} : ∀ {ms : List Stp} {t : List Int}, walkFrom s t ms = true → chFrom s.1 s.2 t (ms.map fun x => (x.2.1, x.1, false, x.2.2)) = true
  | [], _, _ => rfl
  | x :: ms, t, h => by
    rw [walkFrom] at h
    cases hs : stepAtO s t x.1 x.2.1 with
    | none => rw [hs] at h; cases h
    | some u =>
      rw [hs] at h
      simp only [Bool.and_eq_true] at h
      have hu : u = x.2.2 := by simpa using h.1
      rw [List.map_cons, chFrom, stepAt_move hs h.1, Bool.true_and]
      rw [hu] at h
      exact walk_ch h.2
theorem walk_small {s : Sys} : ∀ {ms : List Stp} {t : List Int}, walkFrom s t ms = true → ∀ m ∈ ms, m.2.2.length ≤ 60
  | [], _, _, m, hm => by cases hm
  | x :: ms, t, h, m, hm => by
    rw [walkFrom] at h
    cases hs : stepAtO s t x.1 x.2.1 with
    | none => rw [hs] at h; cases h
    | some u =>
      rw [hs] at h
      simp only [Bool.and_eq_true] at h
      have hu : u = x.2.2 := by simpa using h.1
      rcases List.mem_cons.1 hm with rfl | hm
      · rw [← hu]; exact stepAtO_small hs
      exact walk_small h.2 m hm
theorem walkB_iff {s : Sys} {w : List Int × List Stp} : walkB s w = true ↔ sysOk s = true ∧ termOk s.1 w.1 = true ∧ w.2.length ≤ 60 ∧ walkFrom s w.1 w.2 = true := by simp [walkB]
theorem walkB_sm {s : Sys} {w : List Int × List Stp} (h : walkB s w = true) : SmW w := by
  obtain ⟨_, h2, h3, h4⟩ := walkB_iff.1 h
  exact ⟨(termOk_iff.1 h2).2.2.1, h3, walk_small h4⟩
theorem walkB_ch {s : Sys} {w : List Int × List Stp} (h : walkB s w = true) : chOk s.1 s.2 (chW w) = true := by
  obtain ⟨h1, h2, h3, h4⟩ := walkB_iff.1 h
  exact chOk_iff.2 ⟨sys_eqs h1, h2, by simpa [chW] using h3, walk_ch h4⟩
theorem F_spec_l7End_eq {w : List Int × List Stp} (h : SmW w) : F_spec_l7End w = some (chEnd (chW w)) := by
  unfold F_spec_l7End chEnd chW
  have hl := h.len
  simp only [List.length_map]
  by_cases h0 : w.2.length = 0
  · simp only [h0, Int.ofNat_zero, beq_self_eq_true, if_true]
    rw [F_spec_l1Copy_eq (show w.1.length < _ by have := h.from'; omega), Option.bind_some]
  have : ((w.2.length : Int) == 0) = false := beq_eq_false_iff_ne.2 (by omega)
  simp only [this, Bool.false_eq_true, if_false, h0, w64 (n := (w.2.length : Int) - 1) (by omega) (by omega)]
  rw [if_pos (by omega), show ((w.2.length : Int) - 1).toNat = w.2.length - 1 by omega]
  have hlt : w.2.length - 1 < w.2.length := by omega
  have e : ((w.2.map fun s => (s.2.1, s.1, false, s.2.2)).getD (w.2.length - 1) default) = ((w.2.getD (w.2.length - 1) default).2.1, (w.2.getD (w.2.length - 1) default).1, false, (w.2.getD (w.2.length - 1) default).2.2) := by
    rw [getD_get (by simpa using hlt), getD_get hlt, List.getElem_map]
  rw [e, F_spec_l1Copy_eq (show List.length _ < _ by have := h.to _ (getD_mem hlt); omega), Option.bind_some]
theorem F_spec_EndTerm_eq {s : Sys} {w : List Int × List Stp} (h : walkB s w = true) : F_spec_EndTerm s w = some (chEnd (chW w)) := by
  unfold F_spec_EndTerm
  rw [F_spec_WalkOk_eq, Option.bind_some, if_pos h, F_spec_l7End_eq (walkB_sm h), Option.bind_some]
theorem F_spec_EqsOf_eq {s : Sys} (h : sysOk s = true) : F_spec_EqsOf s = some s.2 := by
  unfold F_spec_EqsOf
  obtain ⟨_, h2, h3⟩ := sysOk_iff.1 h
  rw [F_spec_SystemOk_eq, Option.bind_some, if_pos h]
  refine loop_map (mk := fun i out => (out, i)) (xs := s.2) (g := fun e => e) (fun i out x hi hx hg ho => ?_) ?_
  · obtain ⟨hL, hR, _⟩ := ruleOk_iff.1 (h3 x hx)
    simp only [F_spec_EqsOf_l1, show (i : Int) < s.2.length by omega, decide_true, if_true, show (0 : Int) ≤ i by omega, and_self, Int.toNat_natCast, hg]
    rw [F_spec_l1Copy_eq (show List.length _ < _ by have := (termOk_iff.1 hL).2.2.1; omega), Option.bind_some, F_spec_l1Copy_eq (show List.length _ < _ by have := (termOk_iff.1 hR).2.2.1; omega), Option.bind_some, if_pos (by simp at ho; omega), w64 (by omega) (by omega)]
  simp [F_spec_EqsOf_l1]
end Go.Proofs.YtcaljngigbfadaaGreat
