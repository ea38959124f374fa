/- Walks under substitutions and inside terms, loops again, and the equation of the law FnExactLoopAgain is true at every input; nothing is assumed. -/
import Derived.Test.YtklfjpilhbkekaaGreatYpd
import Derived.Test.YtklfjpilhbkekaaGreatYf
import Derived.Test.YtklfjpilhbkekaaGreatYg
set_option linter.unusedSimpArgs false
set_option linter.unusedVariables false
set_option linter.unusedSectionVars false
set_option linter.unnecessarySimpa false
namespace Go.Proofs.YtklfjpilhbkekaaGreat
open Go Abx Tm
theorem sub_sub {τ σ : Int → List Int} : ∀ l : List Int, sub τ (sub σ l) = sub (fun x => sub τ (σ x)) l
  | [] => rfl
  | x :: l => by
    rw [sub_cons, sub_app, sub_sub l, sub_cons]
    by_cases h : x < 0
    · simp [h]
    · simp [h, sub_cons, sub_nil]
abbrev SubWf (a : List Int) (τ : Int → List Int) : Prop := ∀ x, -24 ≤ x → x < 0 → Wf a 1 (τ x)
theorem wf_sub {a t : List Int} {τ : Int → List Int} {k : Nat} (hτ : SubWf a τ) (h : Wf a k t) : Wf a k (sub τ t) :=
  h.sub fun x hx h0 => hτ x (h.all x hx).1 h0
theorem mv_sub {a l r t t' : List Int} {i : Nat} {τ : Int → List Int} (hτ : SubWf a τ) (h : Mv a l r t t' i) : Mv a l r (sub τ t) (sub τ t') (sub τ (t.take i)).length := by
  obtain ⟨p, s, σ, rfl, rfl, rfl, h4⟩ := h
  refine ⟨sub τ p, sub τ s, fun x => sub τ (σ x), by rw [List.take_left], ?_, ?_, fun x hx => wf_sub hτ (h4 x hx)⟩
  · rw [sub_app, sub_app, sub_sub]
  · rw [sub_app, sub_app, sub_sub]
theorem mv_ctx {a l r t t' P Q : List Int} {i : Nat} (h : Mv a l r t t' i) : Mv a l r (P ++ (t ++ Q)) (P ++ (t' ++ Q)) (P.length + i) := by
  obtain ⟨p, s, σ, rfl, rfl, rfl, h4⟩ := h
  exact ⟨P ++ p, s ++ Q, σ, by simp, by simp, by simp, h4⟩
theorem stepp_of_mv {a l r t t' : List Int} {i : Nat} (hl : Wf a 1 l) (hv : ∀ n ∈ r, n < 0 → n ∈ l) (h : Mv a l r t t' i) (hlen : t'.length ≤ 60) : stepp a l r t i = some t' := by
  obtain ⟨p, s, σ, rfl, rfl, rfl, hσ⟩ := h
  have hu : Wf a 1 (sub σ l) := hl.sub fun x _ hx => hσ x hx
  obtain ⟨b, h1, h2, h3, h4⟩ := mat_complete (σ := σ) (b := none24) hl (by simp [none24]) (fun n _ hn => hσ n hn) fun n _ _ => .inl (bget_none n)
  have e : sub (Tm.sig b) r = sub σ r := sub_congr fun n hn h0 => by
    unfold Tm.sig
    rw [h3 n (hv n hn h0) h0, if_neg (hσ n h0).ne]
  unfold stepp
  rw [at_eq hu, h1, Option.bind_some, e, putp_eq hu, if_pos ⟨by simp at hlen; omega, hlen⟩]
theorem sys_rule {s : Sys} (hs : sysOk s = true) {j : Nat} (hj : j < s.2.length) : Wf s.1 1 (s.2.getD j default).1 ∧ Wf s.1 1 (s.2.getD j default).2 ∧ ∀ n ∈ (s.2.getD j default).2, n < 0 → n ∈ (s.2.getD j default).1 := by
  obtain ⟨_, _, hr⟩ := sysOk_iff.1 hs
  obtain ⟨h1, h2, _, h4⟩ := ruleOk_iff.1 (hr _ (getD_mem hj))
  exact ⟨(termOk_iff.1 h1).2.2.2, (termOk_iff.1 h2).2.2.2, h4⟩
theorem stepAt_iff {s : Sys} {t u : List Int} {i rule : Int} : stepAtO s t i rule = some u ↔
    sysOk s = true ∧ termOk s.1 t = true ∧ (0 ≤ i ∧ i < t.length) ∧ (0 ≤ rule ∧ rule < s.2.length) ∧ u.length ≤ 60 ∧ Mv s.1 (s.2.getD rule.toNat default).1 (s.2.getD rule.toNat default).2 t u i.toNat := by
  unfold stepAtO stepO
  constructor
  · intro h
    split at h
    · rename_i hc
      obtain ⟨⟨hs, ht⟩, hi, hr⟩ := hc
      obtain ⟨h1, h2, h3⟩ := sys_rule hs (j := rule.toNat) (by omega)
      obtain ⟨hm, hl⟩ := stepp_mv h1 h2 (termOk_iff.1 ht).2.2.2 (i := i.toNat) (by omega) h3 h
      exact ⟨hs, ht, hi, hr, hl, hm⟩
    · cases h
  · rintro ⟨hs, ht, hi, hr, hl, hm⟩
    obtain ⟨h1, h2, h3⟩ := sys_rule hs (j := rule.toNat) (by omega)
    rw [if_pos ⟨⟨hs, ht⟩, hi, hr⟩]
    exact stepp_of_mv h1 h3 hm hl
theorem step_termOk {s : Sys} {t u : List Int} {i rule : Int} (h : stepAtO s t i rule = some u) : termOk s.1 u = true := by
  obtain ⟨hs, ht, hi, hr, hl, hm⟩ := stepAt_iff.1 h
  obtain ⟨h1, h2, _⟩ := sys_rule hs (j := rule.toNat) (by omega)
  obtain ⟨ha, _, _, hw⟩ := termOk_iff.1 ht
  have := hm.wf h1 h2 hw
  exact termOk_iff.2 ⟨ha, this.len, hl, this⟩
theorem termOk_of {a t : List Int} (ha : sigOk a = true) (hw : Wf a 1 t) (hl : t.length ≤ 60) : termOk a t = true := termOk_iff.2 ⟨ha, hw.len, hl, hw⟩
def mvd (τ : Int → List Int) (t : List Int) (i : Int) : Int := ((sub τ (t.take i.toNat)).length : Int)
theorem step_under {s : Sys} {t u : List Int} {i rule : Int} {τ : Int → List Int} (hτ : SubWf s.1 τ) (h : stepAtO s t i rule = some u) (h1 : (sub τ t).length ≤ 60) (h2 : (sub τ u).length ≤ 60) :
    stepAtO s (sub τ t) (mvd τ t i) rule = some (sub τ u) := by
  obtain ⟨hs, ht, hi, hr, hl, hm⟩ := stepAt_iff.1 h
  obtain ⟨ha, _, _, hw⟩ := termOk_iff.1 ht
  have m := mv_sub hτ hm
  have hlt : (sub τ (t.take i.toNat)).length < (sub τ t).length := by
    obtain ⟨p, q, σ, e1, e2, _, hσ⟩ := m
    obtain ⟨hl1, _, _⟩ := sys_rule hs (j := rule.toNat) (by omega)
    have := (hl1.sub fun x _ hx => hσ x hx : Wf s.1 1 (sub σ (s.2.getD rule.toNat default).1)).len
    rw [e2, ← e1]
    simp only [List.length_append]; omega
  refine stepAt_iff.2 ⟨hs, termOk_of ha (wf_sub hτ hw) h1, ⟨by unfold mvd; omega, by unfold mvd; omega⟩, hr, h2, ?_⟩
  simpa [mvd] using m
theorem step_inside {s : Sys} {t u P Q : List Int} {i rule : Int} (h : stepAtO s t i rule = some u) (hw : termOk s.1 (P ++ (t ++ Q)) = true) (hl : (P ++ (u ++ Q)).length ≤ 60) :
    stepAtO s (P ++ (t ++ Q)) ((P.length : Int) + i) rule = some (P ++ (u ++ Q)) := by
  obtain ⟨hs, ht, hi, hr, hl', hm⟩ := stepAt_iff.1 h
  refine stepAt_iff.2 ⟨hs, hw, ⟨by omega, by simp; omega⟩, hr, hl, ?_⟩
  have := mv_ctx (P := P) (Q := Q) hm
  rwa [show ((P.length : Int) + i).toNat = P.length + i.toNat by omega]
abbrev Wlk := List Int × List Stp
def underF (τ : Int → List Int) : List Int → List Stp → List Stp
  | _, [] => []
  | t, x :: r => (mvd τ t x.1, x.2.1, sub τ x.2.2) :: underF τ x.2.2 r
theorem underF_len {τ : Int → List Int} : ∀ {ms : List Stp} {t : List Int}, (underF τ t ms).length = ms.length
  | [], _ => rfl
  | x :: ms, t => by simp [underF, underF_len (ms := ms)]
theorem walkFrom_cons {s : Sys} {t : List Int} {x : Stp} {ms : List Stp} : walkFrom s t (x :: ms) = true ↔ stepAtO s t x.1 x.2.1 = some x.2.2 ∧ walkFrom s x.2.2 ms = true := by
  rw [walkFrom]
  cases h : stepAtO s t x.1 x.2.1 with
  | none => simp
  | some u =>
    simp only [Bool.and_eq_true, beq_iff_eq, Option.some.injEq]
    constructor
    · rintro ⟨rfl, h2⟩; exact ⟨rfl, h2⟩
    · rintro ⟨rfl, h2⟩; exact ⟨rfl, h2⟩
theorem walk_under {s : Sys} {τ : Int → List Int} (hτ : SubWf s.1 τ) : ∀ {ms : List Stp} {t : List Int}, walkFrom s t ms = true → (sub τ t).length ≤ 60 → (∀ x ∈ ms, (sub τ x.2.2).length ≤ 60) → walkFrom s (sub τ t) (underF τ t ms) = true
  | [], _, _, _, _ => rfl
  | x :: ms, t, h, h1, h2 => by
    obtain ⟨g1, g2⟩ := walkFrom_cons.1 h
    rw [underF]
    exact walkFrom_cons.2 ⟨step_under hτ g1 h1 (h2 x (by simp)), walk_under hτ g2 (h2 x (by simp)) fun y hy => h2 y (by simp [hy])⟩
def insF (P Q : List Int) (x : Stp) : Stp := ((P.length : Int) + x.1, x.2.1, P ++ (x.2.2 ++ Q))
theorem walk_inside {s : Sys} {P Q : List Int} : ∀ {ms : List Stp} {t : List Int}, walkFrom s t ms = true → termOk s.1 (P ++ (t ++ Q)) = true → (∀ x ∈ ms, (P ++ (x.2.2 ++ Q)).length ≤ 60) → walkFrom s (P ++ (t ++ Q)) (ms.map (insF P Q)) = true
  | [], _, _, _, _ => rfl
  | x :: ms, t, h, h1, h2 => by
    obtain ⟨g1, g2⟩ := walkFrom_cons.1 h
    rw [List.map_cons]
    have hs := step_inside (P := P) (Q := Q) g1 h1 (h2 x (by simp))
    exact walkFrom_cons.2 ⟨hs, walk_inside g2 (step_termOk hs) fun y hy => h2 y (by simp [hy])⟩
end Go.Proofs.YtklfjpilhbkekaaGreat
namespace Go.Proofs.YtklfjpilhbkekaaGreat
open Go Abx Tm
def subOkB (a : List Int) (s : Bd) : Bool := sigOk a && (decide (s.length ≤ 24) && s.all fun t => t.isEmpty || termOk a t)
theorem subOk_iff {a : List Int} {s : Bd} : subOkB a s = true ↔ sigOk a = true ∧ s.length ≤ 24 ∧ ∀ t ∈ s, t = [] ∨ termOk a t = true := by simp [subOkB, List.isEmpty_iff]
theorem F_spec_SubstOk_eq (a : List Int) (s : Bd) : F_spec_SubstOk a s = some (subOkB a s) := by
  unfold F_spec_SubstOk subOkB
  rw [F_spec_SigOk_eq, Option.bind_some]
  cases ha : sigOk a with
  | false => simp
  | true =>
    by_cases hl : s.length ≤ 24
    · rw [if_pos rfl, if_neg (by simp; omega)]
      simp only [Bool.true_and, hl, decide_true]
      refine loop_all (xs := s) (p := fun t => t.isEmpty || termOk a t) (fun i x hi hi' hm hx => ?_) (by simp [F_spec_SubstOk_l1])
      simp only [F_spec_SubstOk_l1, hi', decide_true, if_true, show (0 : Int) ≤ i by omega, and_self, Int.toNat_natCast, hx, w64 (n := (i : Int) + 1) (by omega) (by omega), F_spec_TermOk_eq, Option.bind_some]
      by_cases h0 : x = []
      · subst h0; simp
      · have : 0 < x.length := List.length_pos_iff.2 h0
        simp only [show (0 : Int) < x.length by omega, decide_true, if_true, show x.isEmpty = false by simpa using h0, Bool.false_or]
        cases termOk a x <;> simp
    · rw [if_pos rfl, if_pos (by simp; omega)]
      simp [hl]
theorem F_impl_SubstOk_eq (a : List Int) (s : Bd) : F_impl_SubstOk a s = some (subOkB a s) := by
  unfold F_impl_SubstOk subOkB
  rw [F_impl_SigOk_eq, Option.bind_some]
  cases ha : sigOk a with
  | false => simp
  | true =>
    by_cases hl : s.length ≤ 24
    · rw [if_pos rfl, if_neg (by simp; omega)]
      simp only [Bool.true_and, hl, decide_true]
      refine loop_all (xs := s) (p := fun t => t.isEmpty || termOk a t) (fun i x hi hi' hm hx => ?_) (by simp [F_impl_SubstOk_l1])
      simp only [F_impl_SubstOk_l1, hi', decide_true, if_true, show (0 : Int) ≤ i by omega, and_self, Int.toNat_natCast, hx, w64 (n := (i : Int) + 1) (by omega) (by omega), F_impl_TermOk_eq, Option.bind_some]
      by_cases h0 : x = []
      · subst h0; simp
      · have : 0 < x.length := List.length_pos_iff.2 h0
        simp only [show (0 : Int) < x.length by omega, decide_true, if_true, show x.isEmpty = false by simpa using h0, Bool.false_or]
        cases termOk a x <;> simp
    · rw [if_pos rfl, if_pos (by simp; omega)]
      simp [hl]
structure SubF (a : List Int) (s : Bd) : Prop where
  len : s.length ≤ 24
  to : ∀ u ∈ s, u.length ≤ 60
  wf : SubWf a (Tm.sig s)
theorem SubF.get {a : List Int} {s : Bd} (h : SubF a s) (i : Nat) : (s.getD i []).length ≤ 60 := by
  by_cases hi : i < s.length
  · rw [List.getD_eq_getElem?_getD, List.getElem?_eq_getElem hi]; exact h.to _ (List.getElem_mem hi)
  · rw [getD_out (by omega)]; decide
theorem subOk_F {a : List Int} {s : Bd} (h : subOkB a s = true) : SubF a s := by
  obtain ⟨ha, hl, ht⟩ := subOk_iff.1 h
  refine ⟨hl, fun u hu => ?_, fun x h1 h2 => ?_⟩
  · rcases ht u hu with rfl | h
    · decide
    · exact (termOk_iff.1 h).2.2.1
  · unfold Tm.sig
    by_cases hb : bget s x = []
    · rw [if_pos hb]
      exact Wf.cons_iff.2 ⟨⟨h1, by omega⟩, by simp [ari, h2]; exact Wf.nil⟩
    · rw [if_neg hb]
      unfold bget at hb ⊢
      have hi : (-1 - x).toNat < s.length := Nat.lt_of_not_le fun hn => hb (getD_out hn)
      have hm : s.getD (-1 - x).toNat [] ∈ s := by rw [List.getD_eq_getElem?_getD, List.getElem?_eq_getElem hi]; exact List.getElem_mem hi
      rcases ht _ hm with h | h
      · exact absurd h hb
      · exact (termOk_iff.1 h).2.2.2
theorem fill_eqs {a : List Int} {s : Bd} {t : List Int} (h : SubF a s) (ht : termOk a t = true) : F_impl_fill s t = some (encO (fillO (Tm.sig s) t)) ∧ F_spec_l2Filled s t = some (encO (fillO (Tm.sig s) t)) := by
  obtain ⟨_, _, hl, hw⟩ := termOk_iff.1 ht
  exact ⟨F_impl_fill_eq h.len h.get hl fun x hx => (hw.all x hx).1, F_spec_l2Filled_eq h.len h.to hl fun x hx => (hw.all x hx).1⟩
abbrev Lop := List Int × List Stp × Int × List (List Int)
def lWk (l : Lop) : Wlk := (l.1, l.2.1)
def lEnd (l : Lop) : List Int := chEnd (chW (lWk l))
def loopB (s : Sys) (l : Lop) : Bool := walkB s (lWk l) && (decide (0 < l.2.1.length) && (subOkB s.1 l.2.2.2 && (decide (0 ≤ l.2.2.1 ∧ l.2.2.1 < (lEnd l).length) &&
  (decide ((sub (Tm.sig l.2.2.2) l.1).length ≤ 60) && decide (sub (Tm.sig l.2.2.2) l.1 = at' s.1 (lEnd l) l.2.2.1.toNat)))))
theorem loopB_iff {s : Sys} {l : Lop} : loopB s l = true ↔ walkB s (lWk l) = true ∧ 0 < l.2.1.length ∧ subOkB s.1 l.2.2.2 = true ∧ (0 ≤ l.2.2.1 ∧ l.2.2.1 < (lEnd l).length) ∧ (sub (Tm.sig l.2.2.2) l.1).length ≤ 60 ∧ sub (Tm.sig l.2.2.2) l.1 = at' s.1 (lEnd l) l.2.2.1.toNat := by
  simp [loopB]
theorem walk_end_ok {s : Sys} {w : Wlk} (h : walkB s w = true) : termOk s.1 (chEnd (chW w)) = true := by
  obtain ⟨_, h2, _, h4⟩ := chOk_iff.1 (walkB_ch h)
  rw [chEnd_eq]
  exact chFrom_end h2 h4
theorem place_at {a t : List Int} (ht : termOk a t = true) {i : Int} (h0 : 0 ≤ i) (h1 : i < t.length) : ∃ p u q, t = p ++ (u ++ q) ∧ (p.length : Int) = i ∧ Wf a 1 u ∧ at' a t i.toNat = u ∧ F_impl_subAt a t i = some u ∧ F_spec_l1Sub a t i = some u := by
  obtain ⟨ha, _, hl, hw⟩ := termOk_iff.1 ht
  obtain ⟨p, u, q, e, hp, hu⟩ := hw.place (i := i.toNat) (by omega)
  have hi : i = ((i.toNat : Nat) : Int) := by omega
  have hd : t.drop i.toNat = u ++ q := by rw [e, ← hp, List.drop_left]
  refine ⟨p, u, q, e, by omega, hu, ?_, ?_, ?_⟩
  · rw [← hp, e]; exact at_eq hu
  · rw [hi]
    exact F_impl_subAt_eq ha (show t.length < _ by omega) (fun x hx => (hw.all x hx).1) hd hu
  · rw [hi]
    exact F_spec_l1Sub_eq ha (show t.length < _ by omega) hd hu
theorem fillO_some {σ : Int → List Int} {t : List Int} (h : (sub σ t).length ≤ 60) : fillO σ t = some (sub σ t) := by unfold fillO; rw [if_pos h]
theorem fillO_none {σ : Int → List Int} {t : List Int} (h : ¬ (sub σ t).length ≤ 60) : fillO σ t = none := by unfold fillO; rw [if_neg h]
theorem F_spec_LoopOk_eq (s : Sys) (l : Lop) : F_spec_LoopOk s l = some (loopB s l) := by
  unfold F_spec_LoopOk loopB
  rw [F_spec_WalkOk_eq, Option.bind_some]
  show (if walkB s (lWk l) = true then _ else _) = _
  cases hw : walkB s (lWk l) with
  | false => simp
  | true =>
    by_cases h0 : l.2.1.length = 0
    · simp [h0]
    · have h0' : ((l.2.1.length : Int) == 0) = false := beq_eq_false_iff_ne.2 (by omega)
      simp only [if_true, h0', Bool.false_eq_true, if_false, show 0 < l.2.1.length by omega, decide_true, Bool.true_and, F_spec_SubstOk_eq, Option.bind_some]
      cases hσ : subOkB s.1 l.2.2.2 with
      | false => simp
      | true =>
        have he := walk_end_ok hw
        have hf := (walkB_iff.1 hw).2.1
        obtain ⟨_, _, hel, hew⟩ := termOk_iff.1 he
        have e1 : F_spec_EndTerm s (l.1, l.2.1) = some (lEnd l) := F_spec_EndTerm_eq hw
        have hel' : (lEnd l).length ≤ 60 := hel
        simp only [if_true, e1, Option.bind_some, F_spec_l1In_eq, w64 (n := ((lEnd l).length : Int) - 1) (by omega) (by omega), Bool.true_and]
        by_cases hA : 0 ≤ l.2.2.1 ∧ l.2.2.1 < (lEnd l).length
        · rw [if_pos (by simp; omega)]
          simp only [hA, and_self, decide_true, Bool.true_and]
          have e2 := (fill_eqs (subOk_F hσ) hf).2
          have e3 : F_spec_Filled s.1 l.2.2.2 l.1 = some (encO (fillO (Tm.sig l.2.2.2) l.1)) := by
            unfold F_spec_Filled
            rw [F_spec_SubstOk_eq, Option.bind_some, hσ, if_pos rfl, F_spec_TermOk_eq, Option.bind_some]
            have : termOk s.1 l.1 = true := hf
            rw [this, if_pos rfl]
            have : F_spec_l2Filled l.2.2.2 l.1 = _ := e2
            rw [this, Option.bind_some]; rfl
          rw [e3, Option.bind_some]
          by_cases hq : (sub (Tm.sig l.2.2.2) l.1).length ≤ 60
          · rw [fillO_some hq]
            obtain ⟨p, u, q, f1, f2, f3, f4, f5, f6⟩ := place_at (i := l.2.2.1) he hA.1 hA.2
            have e4 : F_spec_SubAt s.1 (lEnd l) l.2.2.1 = some u := by
              unfold F_spec_SubAt
              rw [F_spec_TermOk_eq, Option.bind_some]
              have : termOk s.1 (lEnd l) = true := he
              rw [this, if_pos rfl, F_spec_l1There_eq hel', Option.bind_some, if_pos (by simpa using hA)]
              have : F_spec_l1Sub s.1 (lEnd l) l.2.2.1 = some u := f6
              rw [this, Option.bind_some]
            have f4' : at' s.1 (lEnd l) l.2.2.1.toNat = u := f4
            simp only [encO, if_true, e4, Option.bind_some, F_spec_SameTerm_eq (show (sub (Tm.sig l.2.2.2) l.1).length < _ by omega), hq, decide_true, Bool.true_and, f4']
            by_cases hx : sub (Tm.sig l.2.2.2) l.1 = u <;> simp [hx]
          · rw [fillO_none hq]
            simp [encO, hq]
        · rw [if_neg (by simp; omega)]
          simp [hA]
theorem F_impl_walkOk_eq {s : Sys} (hs : sysOk s = true) (w : Wlk) : F_impl_walkOk s w = some (walkB s w) := by
  have h := F_impl_WalkOk_eq s w
  unfold F_impl_WalkOk at h
  rw [F_impl_SystemOk_eq, Option.bind_some, if_pos hs] at h
  cases hx : F_impl_walkOk s w with
  | none => rw [hx] at h; cases h
  | some b => rw [hx, Option.bind_some] at h; exact h
theorem F_impl_LoopOk_eq (s : Sys) (l : Lop) : F_impl_LoopOk s l = some (loopB s l) := by
  unfold F_impl_LoopOk loopB
  rw [F_impl_SystemOk_eq, Option.bind_some]
  cases hs : sysOk s with
  | false => simp [walkB, hs]
  | true =>
    simp only [if_true]
    unfold F_impl_loopOk
    by_cases h0 : l.2.1.length = 0
    · simp [h0]
    · have h0' : ((l.2.1.length : Int) == 0) = false := beq_eq_false_iff_ne.2 (by omega)
      simp only [h0', Bool.false_eq_true, if_false, show 0 < l.2.1.length by omega, decide_true, Bool.true_and, F_impl_walkOk_eq hs, Option.bind_some]
      show ((if walkB s (lWk l) = true then _ else _) : Option Bool).bind _ = _
      cases hw : walkB s (lWk l) with
      | false => simp
      | true =>
        have he := walk_end_ok hw
        have hf := (walkB_iff.1 hw).2.1
        obtain ⟨_, _, hel, hew⟩ := termOk_iff.1 he
        have e1 : F_impl_Walk_end (l.1, l.2.1) = some (lEnd l) := F_impl_Walk_end_eq (walkB_sm hw)
        have hel' : (lEnd l).length ≤ 60 := hel
        have e5 : F_impl_posOk s.1 (lEnd l) l.2.2.1 = some (decide (0 ≤ l.2.2.1 ∧ l.2.2.1 < (lEnd l).length)) := by
          unfold F_impl_posOk
          rw [F_impl_TermOk_eq, Option.bind_some]
          have : termOk s.1 (lEnd l) = true := he
          rw [this, if_pos rfl]
          by_cases h1 : 0 ≤ l.2.2.1 <;> simp [h1]
        simp only [if_true, e1, e5, Option.bind_some]
        by_cases hA : 0 ≤ l.2.2.1 ∧ l.2.2.1 < (lEnd l).length
        · simp only [hA, and_self, decide_true, Bool.true_and, if_true, F_impl_SubstOk_eq, Option.bind_some]
          cases hσ : subOkB s.1 l.2.2.2 with
          | false => simp
          | true =>
            have e2 : F_impl_fill l.2.2.2 l.1 = _ := (fill_eqs (subOk_F hσ) hf).1
            simp only [if_true, e2, Option.bind_some, Bool.true_and]
            by_cases hq : (sub (Tm.sig l.2.2.2) l.1).length ≤ 60
            · obtain ⟨p, u, q, f1, f2, f3, f4, f5, f6⟩ := place_at (i := l.2.2.1) he hA.1 hA.2
              have f5' : F_impl_subAt s.1 (lEnd l) l.2.2.1 = some u := f5
              have f4' : at' s.1 (lEnd l) l.2.2.1.toNat = u := f4
              have hf' : fillO (Tm.sig l.2.2.2) (lWk l).1 = some (sub (Tm.sig l.2.2.2) l.1) := fillO_some hq
              simp only [hf', encO, if_true, f5', Option.bind_some, F_slices_Equal_eq (show (sub (Tm.sig l.2.2.2) l.1).length < _ by omega), hq, decide_true, Bool.true_and, f4']
              by_cases hx : sub (Tm.sig l.2.2.2) l.1 = u <;> simp [hx]
            · have hf' : fillO (Tm.sig l.2.2.2) (lWk l).1 = none := fillO_none hq
              simp [hf', encO, hq]
        · simp [hA]
end Go.Proofs.YtklfjpilhbkekaaGreat
namespace Go.Proofs.YtklfjpilhbkekaaGreat
open Go Abx Tm
def encW (o : Option Wlk) : Wlk × Bool := match o with | some w => (w, true) | none => (([], []), false)
theorem sig_len {a : List Int} {s : Bd} (h : SubF a s) (x : Int) : (Tm.sig s x).length ≤ 60 := by
  unfold Tm.sig
  by_cases hb : bget s x = []
  · rw [if_pos hb]; simp
  · rw [if_neg hb]; exact h.get _
theorem sub_len {a : List Int} {s : Bd} (h : SubF a s) : ∀ t : List Int, (sub (Tm.sig s) t).length ≤ 60 * t.length
  | [] => by simp [sub_nil]
  | x :: t => by
    rw [sub_cons, List.length_append, List.length_cons]
    have h1 := sub_len h t
    by_cases hx : x < 0
    · rw [if_pos hx]; have := sig_len h x; omega
    · rw [if_neg hx]; simp; omega
theorem F_spec_l7Moved_eq {a : List Int} {s : Bd} {t : List Int} (h : SubF a s) (ht : termOk a t = true) {i : Int} (h0 : 0 ≤ i) (h1 : i ≤ t.length) : F_spec_l7Moved s t i = some (mvd (Tm.sig s) t i) := by
  obtain ⟨_, _, hl, hw⟩ := termOk_iff.1 ht
  unfold F_spec_l7Moved
  have := loop_st (n := i.toNat) (fun j => (((sub (Tm.sig s) (t.take j)).length : Int), (j : Int))) (c := mvd (Tm.sig s) t i) (f := F_spec_l7Moved_l1 s t i) (fun j hj => by
    have hjt : j < t.length := by omega
    have hx := (hw.all _ (List.getElem_mem hjt)).1
    have hb := sub_len h (t.take j)
    have hb2 : (t.take j).length ≤ 60 := by rw [List.length_take]; omega
    have hs := congrArg List.length (sub_take (σ := Tm.sig s) hjt)
    rw [List.length_append] at hs
    have hg : t.getD j default = t[j] := getD_get hjt
    simp only [F_spec_l7Moved_l1, show (j : Int) < i by omega, decide_true, if_true, show (0 : Int) ≤ j by omega, show (j : Int) < t.length by omega, and_self, Int.toNat_natCast, hg, w64 (n := (j : Int) + 1) (by omega) (by omega)]
    by_cases hn : t[j] < 0
    · have hi : -1 - t[j] = (((-1 - t[j]).toNat : Nat) : Int) := by omega
      have hl2 := sig_len h t[j]
      rw [if_pos hn] at hs
      have e : F_spec_l2Gives s (IntKind.i64.wrap (-1 - t[j])) = some (Tm.sig s t[j]) := by
        rw [w64 (n := -1 - t[j]) (by omega) (by omega), hi, F_spec_l2Gives_eq h.to h.len (by omega)]
        unfold Tm.sig bget
        rw [← hi]
        by_cases hb : s.getD (-1 - t[j]).toNat [] = []
        · rw [if_pos hb, if_pos hb]; congr 2; omega
        · rw [if_neg hb, if_neg hb]
      simp only [hn, decide_true, if_true, e, Option.bind_some, w64 (n := ((sub (Tm.sig s) (t.take j)).length : Int) + ((Tm.sig s t[j]).length : Int)) (by omega) (by omega), hs]
      simp
    · rw [if_neg hn, List.length_singleton] at hs
      simp only [hn, decide_false, Bool.false_eq_true, if_false, w64 (n := ((sub (Tm.sig s) (t.take j)).length : Int) + 1) (by omega) (by omega), hs]
      simp) (by simp [F_spec_l7Moved_l1, mvd]; omega)
  simpa [sub_nil] using this
theorem F_impl_placeUnder_eq {a : List Int} {s : Bd} {t : List Int} (h : SubF a s) (ht : termOk a t = true) {i : Int} (h0 : 0 ≤ i) (h1 : i ≤ t.length) : F_impl_placeUnder s t i = some (mvd (Tm.sig s) t i) := by
  obtain ⟨_, _, hl, hw⟩ := termOk_iff.1 ht
  unfold F_impl_placeUnder
  rw [if_pos ⟨h0, h1⟩]
  have htl : (t.take i.toNat).length = i.toNat := by rw [List.length_take]; omega
  have := loop_st (n := i.toNat) (fun j => (((sub (Tm.sig s) (t.take j)).length : Int), (j : Int))) (c := mvd (Tm.sig s) t i) (f := F_impl_placeUnder_l1 s t i) (fun j hj => by
    have hjt : j < t.length := by omega
    have hx := (hw.all _ (List.getElem_mem hjt)).1
    have hb := sub_len h (t.take j)
    have hb2 : (t.take j).length ≤ 60 := by rw [List.length_take]; omega
    have hs := congrArg List.length (sub_take (σ := Tm.sig s) hjt)
    rw [List.length_append] at hs
    have hg : (t.take i.toNat).getD j default = t[j] := by rw [getD_get (by omega), List.getElem_take]
    simp only [F_impl_placeUnder_l1, htl, show (j : Int) < (i.toNat : Int) by omega, decide_true, if_true, show (0 : Int) ≤ j by omega, and_self, Int.toNat_natCast, hg, w64 (n := (j : Int) + 1) (by omega) (by omega)]
    by_cases hn : t[j] < 0
    · have hi : -1 - t[j] = (((-1 - t[j]).toNat : Nat) : Int) := by omega
      have hl2 := h.get (-1 - t[j]).toNat
      rw [if_pos hn] at hs
      have e : F_impl_Subst_byVar s (IntKind.i64.wrap (-1 - t[j])) = some (bget s t[j]) := by
        rw [w64 (n := -1 - t[j]) (by omega) (by omega), hi, F_impl_byVar_eq h.len (by omega)]
        unfold bget
        rfl
      simp only [show ¬ 0 ≤ t[j] by omega, decide_false, Bool.false_eq_true, if_false, e, Option.bind_some]
      rw [show Tm.sig s t[j] = if bget s t[j] = [] then [t[j]] else bget s t[j] from rfl] at hs
      by_cases hb : bget s t[j] = []
      · rw [if_pos hb, List.length_singleton] at hs
        simp only [hb, List.isEmpty_nil, if_true, w64 (n := ((sub (Tm.sig s) (t.take j)).length : Int) + 1) (by omega) (by omega)]
        simp [hs]
      · rw [if_neg hb] at hs
        have hbl : 0 < (bget s t[j]).length := List.length_pos_iff.2 hb
        have hbl2 : (bget s t[j]).length ≤ 60 := hl2
        simp only [show (bget s t[j]).isEmpty = false by simpa using hb, Bool.false_eq_true, if_false, w64 (n := ((sub (Tm.sig s) (t.take j)).length : Int) + 1) (by omega) (by omega), w64 (n := ((bget s t[j]).length : Int) - 1) (by omega) (by omega),
          w64 (n := ((sub (Tm.sig s) (t.take j)).length : Int) + 1 + (((bget s t[j]).length : Int) - 1)) (by omega) (by omega)]
        refine congrArg (fun x => some (Sum.inl x)) (Prod.ext ?_ (by simp))
        show _ = ((sub (Tm.sig s) (t.take (j + 1))).length : Int)
        have hs' : (sub (Tm.sig s) (t.take (j + 1))).length = (sub (Tm.sig s) (t.take j)).length + (bget s t[j]).length := hs
        rw [hs']; omega
    · rw [if_neg hn, List.length_singleton] at hs
      simp only [show 0 ≤ t[j] by omega, decide_true, if_true, w64 (n := ((sub (Tm.sig s) (t.take j)).length : Int) + 1) (by omega) (by omega), hs]
      simp) (by simp [F_impl_placeUnder_l1, mvd, htl])
  simpa [sub_nil] using this
structure StpF (a : List Int) (t : List Int) (x : Stp) : Prop where
  at0 : 0 ≤ x.1
  at1 : x.1 < t.length
  to : termOk a x.2.2 = true
theorem walk_step {s : Sys} {t : List Int} {x : Stp} {ms : List Stp} (h : walkFrom s t (x :: ms) = true) : StpF s.1 t x ∧ walkFrom s x.2.2 ms = true := by
  obtain ⟨h1, h2⟩ := walkFrom_cons.1 h
  obtain ⟨_, _, hi, _⟩ := stepAt_iff.1 h1
  exact ⟨⟨hi.1, hi.2, step_termOk h1⟩, h2⟩
theorem walk_all {s : Sys} : ∀ {ms : List Stp} {t : List Int}, walkFrom s t ms = true → termOk s.1 t = true → ∀ x ∈ ms, (0 ≤ x.1 ∧ x.1 < 60) ∧ termOk s.1 x.2.2 = true
  | [], _, _, _, x, hx => by cases hx
  | y :: ms, t, h, ht, x, hx => by
    obtain ⟨h1, h2⟩ := walk_step h
    have hl := (termOk_iff.1 ht).2.2.1
    rcases List.mem_cons.1 hx with rfl | hx
    · exact ⟨⟨h1.at0, by have := h1.at1; omega⟩, h1.to⟩
    · exact walk_all h2 h1.to x hx
def undO (τ : Int → List Int) (w : Wlk) : Option Wlk := if (sub τ w.1).length ≤ 60 ∧ ∀ x ∈ w.2, (sub τ x.2.2).length ≤ 60 then some (sub τ w.1, underF τ w.1 w.2) else none
theorem under_loop {s : Sys} {w : Wlk} {τ : Int → List Int} {z : List Int} {f : List Int × Int × List Stp → Option ((List Int × Int × List Stp) ⊕ (Wlk × Bool))}
    (h : ∀ (i : Nat) (now : List Int) (out : List Stp) (x : Stp), i < w.2.length → w.2.getD i default = x → termOk s.1 now = true → out.length = i → StpF s.1 now x →
      f (now, (i : Int), out) = some (if (sub τ x.2.2).length ≤ 60 then .inl (x.2.2, (i : Int) + 1, out ++ [(mvd τ now x.1, x.2.1, sub τ x.2.2)]) else .inr (([], []), false)))
    (he : ∀ now out, f (now, (w.2.length : Int), out) = some (.inr ((z, out), true))) (hw : walkFrom s w.1 w.2 = true) (ht : termOk s.1 w.1 = true) :
    loopC f (w.1, 0, []) = some (encW (if ∀ x ∈ w.2, (sub τ x.2.2).length ≤ 60 then some (z, underF τ w.1 w.2) else none)) := by
  have key : ∀ (ms : List Stp) (i : Nat) (now : List Int) (out : List Stp), w.2.drop i = ms → i + ms.length = w.2.length → out.length = i → walkFrom s now ms = true → termOk s.1 now = true →
      loopC f (now, (i : Int), out) = some (encW (if ∀ x ∈ ms, (sub τ x.2.2).length ≤ 60 then some (z, out ++ underF τ now ms) else none)) := by
    intro ms
    induction ms with
    | nil =>
      intro i now out hd hl ho _ _
      obtain rfl : i = w.2.length := by simpa using hl
      exact loopC_inr (by rw [he]; simp [encW, underF])
    | cons x ms ih =>
      intro i now out hd hl ho hwk hn
      simp only [List.length_cons] at hl
      obtain ⟨g1, g2, g3⟩ := drop_cons hd
      obtain ⟨s1, s2⟩ := walk_step hwk
      have hs := h i now out x g1 g2 hn ho s1
      by_cases hx : (sub τ x.2.2).length ≤ 60
      · rw [if_pos hx] at hs
        rw [loopC_inl hs, show ((i : Int) + 1) = ((i + 1 : Nat) : Int) by omega, ih (i + 1) _ _ g3 (by omega) (by simp [ho]) s2 s1.to]
        simp only [List.mem_cons, forall_eq_or_imp, hx, true_and, underF, List.append_assoc, List.singleton_append]
      · rw [if_neg hx] at hs
        exact loopC_inr (by rw [hs]; simp [hx, encW])
  have := key w.2 0 w.1 [] (by simp) (by simp) rfl hw ht
  simpa using this
theorem encW_if {c d : Prop} [Decidable c] [Decidable d] {w : Wlk} (hc : c) : encW (if c ∧ d then some w else none) = encW (if d then some w else none) := by
  by_cases hd : d <;> simp [hc, hd]
theorem F_spec_WalkUnder_eq {s : Sys} {w : Wlk} {b : Bd} (hw : walkB s w = true) (hb : subOkB s.1 b = true) : F_spec_WalkUnder s w b = some (encW (undO (Tm.sig b) w)) := by
  obtain ⟨hs, ht, hl, hf⟩ := walkB_iff.1 hw
  have hF := subOk_F hb
  unfold F_spec_WalkUnder undO
  rw [F_spec_WalkOk_eq, Option.bind_some, if_pos hw, F_spec_SubstOk_eq, Option.bind_some, if_pos hb, (fill_eqs hF ht).2, Option.bind_some]
  by_cases h1 : (sub (Tm.sig b) w.1).length ≤ 60
  · rw [fillO_some h1, encW_if h1]
    simp only [encO, if_true]
    refine under_loop (s := s) (τ := Tm.sig b) (fun i now out x hi hg hn ho hx => ?_) (fun now out => by simp [F_spec_WalkUnder_l1]) hf ht
    simp only [F_spec_WalkUnder_l1, show (i : Int) < w.2.length by omega, decide_true, if_true, show (0 : Int) ≤ i by omega, and_self, Int.toNat_natCast, hg, (fill_eqs hF hx.to).2, Option.bind_some, w64 (n := (i : Int) + 1) (by omega) (by omega), show (out.length + 1) * 40 ≤ 140737488355328 by omega]
    by_cases hq : (sub (Tm.sig b) x.2.2).length ≤ 60
    · simp only [fillO_some hq, encO, if_true, F_spec_l7Moved_eq hF hn hx.at0 (Int.le_of_lt hx.at1), Option.bind_some, hq]
    · simp only [fillO_none hq, encO, Bool.false_eq_true, if_false, hq]; rfl
  · rw [fillO_none h1]
    simp [encO, encW, h1]
theorem F_impl_WalkUnder_eq {s : Sys} {w : Wlk} {b : Bd} (hw : walkB s w = true) (hb : subOkB s.1 b = true) : F_impl_WalkUnder s w b = some (encW (undO (Tm.sig b) w)) := by
  obtain ⟨hs, ht, hl, hf⟩ := walkB_iff.1 hw
  have hF := subOk_F hb
  unfold F_impl_WalkUnder undO
  rw [F_impl_WalkOk_eq, Option.bind_some, if_pos hw, F_impl_SubstOk_eq, Option.bind_some, if_pos hb, (fill_eqs hF ht).1, Option.bind_some]
  by_cases h1 : (sub (Tm.sig b) w.1).length ≤ 60
  · rw [fillO_some h1, encW_if h1]
    simp only [encO, if_true]
    refine under_loop (s := s) (τ := Tm.sig b) (fun i now out x hi hg hn ho hx => ?_) (fun now out => by simp [F_impl_WalkUnder_l1]) hf ht
    simp only [F_impl_WalkUnder_l1, show (i : Int) < w.2.length by omega, decide_true, if_true, show (0 : Int) ≤ i by omega, and_self, Int.toNat_natCast, hg, (fill_eqs hF hx.to).1, Option.bind_some, w64 (n := (i : Int) + 1) (by omega) (by omega), show (out.length + 1) * 40 ≤ 140737488355328 by omega]
    by_cases hq : (sub (Tm.sig b) x.2.2).length ≤ 60
    · simp only [fillO_some hq, encO, if_true, F_impl_placeUnder_eq hF hn hx.at0 (Int.le_of_lt hx.at1), Option.bind_some, hq]
    · simp only [fillO_none hq, encO, Bool.false_eq_true, if_false, hq]; rfl
  · rw [fillO_none h1]
    simp [encO, encW, h1]
end Go.Proofs.YtklfjpilhbkekaaGreat
namespace Go.Proofs.YtklfjpilhbkekaaGreat
open Go Abx Tm
def insO (P Q : List Int) (w : Wlk) : Option Wlk := if (P ++ (w.1 ++ Q)).length ≤ 60 ∧ ∀ x ∈ w.2, (P ++ (x.2.2 ++ Q)).length ≤ 60 then some (P ++ (w.1 ++ Q), w.2.map (insF P Q)) else none
theorem inside_loop {w : Wlk} {P Q z : List Int} {f : Int × List Stp → Option ((Int × List Stp) ⊕ (Wlk × Bool))}
    (h : ∀ (i : Nat) (out : List Stp) (x : Stp), i < w.2.length → x ∈ w.2 → w.2.getD i default = x → out.length = i →
      f ((i : Int), out) = some (if (P ++ (x.2.2 ++ Q)).length ≤ 60 then .inl ((i : Int) + 1, out ++ [insF P Q x]) else .inr (([], []), false)))
    (he : ∀ out, f ((w.2.length : Int), out) = some (.inr ((z, out), true))) :
    loopC f (0, []) = some (encW (if ∀ x ∈ w.2, (P ++ (x.2.2 ++ Q)).length ≤ 60 then some (z, w.2.map (insF P Q)) else none)) := by
  have key : ∀ (ms : List Stp) (i : Nat) (out : List Stp), w.2.drop i = ms → i + ms.length = w.2.length → out.length = i →
      loopC f ((i : Int), out) = some (encW (if ∀ x ∈ ms, (P ++ (x.2.2 ++ Q)).length ≤ 60 then some (z, out ++ ms.map (insF P Q)) else none)) := by
    intro ms
    induction ms with
    | nil =>
      intro i out hd hl ho
      obtain rfl : i = w.2.length := by simpa using hl
      exact loopC_inr (by rw [he]; simp [encW])
    | cons x ms ih =>
      intro i out hd hl ho
      simp only [List.length_cons] at hl
      obtain ⟨g1, g2, g3⟩ := drop_cons hd
      have hs := h i out x g1 (by rw [← g2]; exact getD_mem g1) g2 ho
      by_cases hx : (P ++ (x.2.2 ++ Q)).length ≤ 60
      · rw [if_pos hx] at hs
        rw [loopC_inl hs, show ((i : Int) + 1) = ((i + 1 : Nat) : Int) by omega, ih (i + 1) _ g3 (by omega) (by simp [ho])]
        simp only [List.mem_cons, forall_eq_or_imp, hx, true_and, List.map_cons, List.append_assoc, List.singleton_append]
      · rw [if_neg hx] at hs
        exact loopC_inr (by rw [hs]; simp only [List.mem_cons, forall_eq_or_imp, hx, false_and, if_false]; rfl)
  have := key w.2 0 [] (by simp) (by simp) rfl
  simpa using this
theorem putO_at {a p u q v : List Int} (hu : Wf a 1 u) : putO a (p ++ (u ++ q)) p.length v = if (p ++ (v ++ q)).length ≤ 60 then some (p ++ (v ++ q)) else none := by
  unfold putO; rw [putp_eq hu]
theorem F_spec_WalkInside_eq {s : Sys} {w : Wlk} {P u Q : List Int} (hw : walkB s w = true) (hu : Wf s.1 1 u) (ht : termOk s.1 (P ++ (u ++ Q)) = true) :
    F_spec_WalkInside s w (P ++ (u ++ Q)) (P.length : Int) = some (encW (insO P Q w)) := by
  obtain ⟨hs, hf, hl, hk⟩ := walkB_iff.1 hw
  obtain ⟨ha, _, htl, htw⟩ := termOk_iff.1 ht
  have hul := hu.len
  have hPl : (P ++ (u ++ Q)).length = P.length + (u.length + Q.length) := by simp
  unfold F_spec_WalkInside insO
  rw [F_spec_l7Right_eq, Option.bind_some, if_pos (by simp [hs, ht]), F_spec_WalkOk_eq, Option.bind_some, if_pos hw, F_spec_l1There_eq htl, Option.bind_some, if_pos (by simp only [decide_eq_true_eq]; omega),
    F_spec_l3Put_eq ha hu htl (termOk_iff.1 hf).2.2.1, Option.bind_some, putO_at hu]
  by_cases h1 : (P ++ (w.1 ++ Q)).length ≤ 60
  · rw [if_pos h1, encW_if h1]
    simp only [encO, if_true]
    refine inside_loop (fun i out x hi hx hg ho => ?_) (fun out => by simp [F_spec_WalkInside_l1])
    obtain ⟨hx1, hx2⟩ := walk_all hk hf x hx
    simp only [F_spec_WalkInside_l1, show (i : Int) < w.2.length by omega, decide_true, if_true, show (0 : Int) ≤ i by omega, and_self, Int.toNat_natCast, hg, F_spec_l3Put_eq ha hu htl (termOk_iff.1 hx2).2.2.1, Option.bind_some, putO_at hu, w64 (n := (i : Int) + 1) (by omega) (by omega), show (out.length + 1) * 40 ≤ 140737488355328 by omega,
      w64 (n := (P.length : Int) + x.1) (by omega) (by omega)]
    by_cases hq : (P ++ (x.2.2 ++ Q)).length ≤ 60
    · simp only [hq, if_true, encO, insF]
    · simp only [hq, if_false, encO, Bool.false_eq_true]; rfl
  · rw [if_neg h1]
    simp only [encO, Bool.false_eq_true, if_false, h1, false_and]; rfl
theorem F_impl_walkInside_eq {s : Sys} {w : Wlk} {P u Q : List Int} (hw : walkB s w = true) (hu : Wf s.1 1 u) (ht : termOk s.1 (P ++ (u ++ Q)) = true) :
    F_impl_walkInside s.1 w (P ++ (u ++ Q)) (P.length : Int) = some (encW (insO P Q w)) := by
  obtain ⟨hs, hf, hl, hk⟩ := walkB_iff.1 hw
  obtain ⟨ha, _, htl, htw⟩ := termOk_iff.1 ht
  have hul := hu.len
  have hPl : (P ++ (u ++ Q)).length = P.length + (u.length + Q.length) := by simp
  have hm : ∀ x ∈ P ++ (u ++ Q), -24 ≤ x := fun x hx => (htw.all x hx).1
  unfold F_impl_walkInside insO
  rw [F_impl_put_eq ha hu hm htl (termOk_iff.1 hf).2.2.1, Option.bind_some, putO_at hu]
  by_cases h1 : (P ++ (w.1 ++ Q)).length ≤ 60
  · rw [if_pos h1, encW_if h1]
    simp only [encO, if_true]
    refine inside_loop (fun i out x hi hx hg ho => ?_) (fun out => by simp [F_impl_walkInside_l1])
    obtain ⟨hx1, hx2⟩ := walk_all hk hf x hx
    simp only [F_impl_walkInside_l1, show (i : Int) < w.2.length by omega, decide_true, if_true, show (0 : Int) ≤ i by omega, and_self, Int.toNat_natCast, hg, F_impl_put_eq ha hu hm htl (termOk_iff.1 hx2).2.2.1, Option.bind_some, putO_at hu, w64 (n := (i : Int) + 1) (by omega) (by omega), show (out.length + 1) * 40 ≤ 140737488355328 by omega,
      w64 (n := x.1 + (P.length : Int)) (by omega) (by omega)]
    by_cases hq : (P ++ (x.2.2 ++ Q)).length ≤ 60
    · simp only [hq, if_true, encO, insF, Int.add_comm]
    · simp only [hq, if_false, encO, Bool.false_eq_true]; rfl
  · rw [if_neg h1]
    simp only [encO, Bool.false_eq_true, if_false, h1, false_and]; rfl
def joiO (a b : Wlk) : Option Wlk := if chEnd (chW a) = b.1 ∧ a.2.length + b.2.length ≤ 60 then some (a.1, a.2 ++ b.2) else none
theorem F_spec_l7CopySteps_eq {l : List Stp} (hl : l.length ≤ 60) (h : ∀ x ∈ l, x.2.2.length ≤ 60) : F_spec_l7CopySteps l = some l := by
  unfold F_spec_l7CopySteps
  refine loop_map (mk := fun i out => (out, i)) (xs := l) (g := id) (out0 := []) (fun i out x hi hx hg ho => ?_) ?_
  · have := h x hx
    simp at ho
    simp only [F_spec_l7CopySteps_l1, show (i : Int) < l.length by omega, decide_true, if_true, show (0 : Int) ≤ i by omega, and_self, Int.toNat_natCast, hg, F_spec_l1Copy_eq (show x.2.2.length < _ by omega), Option.bind_some, w64 (n := (i : Int) + 1) (by omega) (by omega),
      show (out.length + 1) * 40 ≤ 140737488355328 by omega, id]
  · simp [F_spec_l7CopySteps_l1]
theorem F_spec_JoinedWalk_eq {s : Sys} {a b : Wlk} (ha : walkB s a = true) (hb : walkB s b = true) : F_spec_JoinedWalk s a b = some (encW (joiO a b)) := by
  have sa := walkB_sm ha
  have sb := walkB_sm hb
  have l1 := sa.len
  have l2 := sb.len
  have l3 := sa.from'
  have hend := sa.ch.end'
  unfold F_spec_JoinedWalk joiO
  rw [F_spec_WalkOk_eq, Option.bind_some, if_pos ha, F_spec_WalkOk_eq, Option.bind_some, if_pos hb, F_spec_l7End_eq sa, Option.bind_some, F_spec_SameTerm_eq (show (chEnd (chW a)).length < _ by omega), Option.bind_some]
  by_cases he : chEnd (chW a) = b.1
  · simp only [he, beq_self_eq_true, if_true, true_and, w64 (n := (a.2.length : Int) + (b.2.length : Int)) (by omega) (by omega)]
    by_cases hl : a.2.length + b.2.length ≤ 60
    · rw [if_neg (by simp; omega), F_spec_l1Copy_eq (show a.1.length < _ by omega), Option.bind_some, F_spec_l7CopySteps_eq l1 sa.to, Option.bind_some, F_spec_l7CopySteps_eq l2 sb.to, Option.bind_some, if_pos (by omega), if_pos hl]; rfl
    · rw [if_pos (by simp; omega), if_neg hl]; rfl
  · have : (chEnd (chW a) == b.1) = false := by simpa using he
    simp only [this, he, Bool.false_eq_true, if_false, false_and]; rfl
theorem F_impl_Walk_add_s2_eq {x : Stp} {w0 : List Int} {w1 : List Stp} (hx : x.2.2.length ≤ 60) (hw : w1.length ≤ 1000) : F_impl_Walk_add_s2 x w0 w1 = some (w1 ++ [x]) := by
  unfold F_impl_Walk_add_s2
  rw [F_slices_Clone_s1_eq (show x.2.2.length < _ by omega), Option.bind_some, if_pos (by omega)]
theorem F_impl_cloneWalk_s1_eq {w : Wlk} (h : SmW w) : F_impl_cloneWalk_s1 w = some w := by
  have hl := h.len
  unfold F_impl_cloneWalk_s1
  rw [F_slices_Clone_s1_eq (show w.1.length < _ by have := h.from'; omega), Option.bind_some]
  have := loop_map (mk := fun i (out : List Stp) => (i, out)) (xs := w.2) (g := id) (out0 := []) (c := w) (f := F_impl_cloneWalk_s1_l1 w w.1) (fun i out x hi hx hg ho => by
    simp at ho
    simp only [F_impl_cloneWalk_s1_l1, show (i : Int) < w.2.length by omega, decide_true, if_true, show (0 : Int) ≤ i by omega, and_self, Int.toNat_natCast, hg, F_impl_Walk_add_s2_eq (h.to x hx) (show out.length ≤ 1000 by omega), Option.bind_some, w64 (n := (i : Int) + 1) (by omega) (by omega), id]) (by simp [F_impl_cloneWalk_s1_l1])
  exact this
def encW3 (o : Option Wlk) : List Int × List Stp × Bool := match o with | some w => (w.1, w.2, true) | none => ([], [], false)
theorem F_impl_joinWalks_s1_eq {a b : Wlk} (sa : SmW a) (sb : SmW b) : F_impl_joinWalks_s1 a b = some (encW3 (joiO a b)) := by
  have l1 := sa.len
  have l2 := sb.len
  have hend := sa.ch.end'
  unfold F_impl_joinWalks_s1 joiO
  rw [F_impl_Walk_end_eq sa, Option.bind_some, F_slices_Equal_eq (show (chEnd (chW a)).length < _ by omega), Option.bind_some]
  by_cases he : chEnd (chW a) = b.1
  · simp only [he, beq_self_eq_true, if_true, true_and, w64 (n := (a.2.length : Int) + (b.2.length : Int)) (by omega) (by omega)]
    by_cases hl : a.2.length + b.2.length ≤ 60
    · rw [if_neg (by simp; omega), F_impl_cloneWalk_s1_eq sa, Option.bind_some, if_pos hl]
      refine loop_map (mk := fun i (out : List Stp) => (i, out)) (xs := b.2) (g := id) (out0 := a.2) (fun i out x hi hx hg ho => ?_) ?_
      · simp only [F_impl_joinWalks_s1_l1, show (i : Int) < b.2.length by omega, decide_true, if_true, show (0 : Int) ≤ i by omega, and_self, Int.toNat_natCast, hg, F_impl_Walk_add_s2_eq (sb.to x hx) (show out.length ≤ 1000 by omega), Option.bind_some, w64 (n := (i : Int) + 1) (by omega) (by omega), id]
      · simp [F_impl_joinWalks_s1_l1, encW3]
    · rw [if_pos (by simp; omega), if_neg hl]; rfl
  · have : (chEnd (chW a) == b.1) = false := by simpa using he
    simp only [this, he, Bool.false_eq_true, if_false, false_and]; rfl
end Go.Proofs.YtklfjpilhbkekaaGreat
namespace Go.Proofs.YtklfjpilhbkekaaGreat
open Go Abx Tm
theorem walk_app {s : Sys} : ∀ {ms ns : List Stp} {t : List Int}, walkFrom s t ms = true → walkFrom s (endR t (ms.map fun x => (x.2.1, x.1, false, x.2.2))) ns = true → walkFrom s t (ms ++ ns) = true
  | [], _, _, _, h => h
  | x :: ms, ns, t, h, h' => by
    obtain ⟨h1, h2⟩ := walkFrom_cons.1 h
    rw [List.cons_append]
    exact walkFrom_cons.2 ⟨h1, walk_app h2 h'⟩
theorem und_ok {s : Sys} {w x : Wlk} {b : Bd} (hw : walkB s w = true) (hb : subOkB s.1 b = true) (h : undO (Tm.sig b) w = some x) : walkB s x = true ∧ x.1 = sub (Tm.sig b) w.1 ∧ x.2.length = w.2.length := by
  obtain ⟨hs, hf, hl, hk⟩ := walkB_iff.1 hw
  obtain ⟨ha, _, _, hfw⟩ := termOk_iff.1 hf
  have hF := subOk_F hb
  unfold undO at h
  split at h
  · rename_i hc
    cases h
    exact ⟨walkB_iff.2 ⟨hs, termOk_of ha (wf_sub hF.wf hfw) hc.1, by simpa [underF_len] using hl, walk_under hF.wf hk hc.1 hc.2⟩, rfl, underF_len⟩
  · cases h
theorem ins_ok {s : Sys} {w x : Wlk} {P Q : List Int} (hw : walkB s w = true) (ht : termOk s.1 (P ++ (w.1 ++ Q)) = true) (h : insO P Q w = some x) : walkB s x = true ∧ x.1 = P ++ (w.1 ++ Q) ∧ x.2.length = w.2.length := by
  obtain ⟨hs, hf, hl, hk⟩ := walkB_iff.1 hw
  unfold insO at h
  split at h
  · rename_i hc
    cases h
    exact ⟨walkB_iff.2 ⟨hs, ht, by simpa using hl, walk_inside hk ht hc.2⟩, rfl, by simp⟩
  · cases h
theorem joi_ok {s : Sys} {a b x : Wlk} (ha : walkB s a = true) (hb : walkB s b = true) (h : joiO a b = some x) : walkB s x = true ∧ x.1 = a.1 ∧ x.2.length = a.2.length + b.2.length := by
  obtain ⟨hs, hf, hl, hk⟩ := walkB_iff.1 ha
  obtain ⟨_, _, _, hk'⟩ := walkB_iff.1 hb
  unfold joiO at h
  split at h
  · rename_i hc
    cases h
    refine ⟨walkB_iff.2 ⟨hs, hf, by simpa using hc.2, walk_app hk ?_⟩, rfl, by simp⟩
    have := hc.1
    rw [chEnd_eq] at this
    have e : endR a.1 (a.2.map fun x => (x.2.1, x.1, false, x.2.2)) = b.1 := this
    rw [e]; exact hk'
  · cases h
structure LoopF (s : Sys) (l : Lop) (P Q : List Int) : Prop where
  wk : walkB s (lWk l) = true
  pos : 0 < l.2.1.length
  sb : subOkB s.1 l.2.2.2 = true
  fit : (sub (Tm.sig l.2.2.2) l.1).length ≤ 60
  at' : l.2.2.1 = (P.length : Int)
  end' : lEnd l = P ++ (sub (Tm.sig l.2.2.2) l.1 ++ Q)
  wf : Wf s.1 1 (sub (Tm.sig l.2.2.2) l.1)
  ok : termOk s.1 (lEnd l) = true
theorem loop_F {s : Sys} {l : Lop} (h : loopB s l = true) : ∃ P Q, LoopF s l P Q := by
  obtain ⟨h1, h2, h3, h4, h5, h6⟩ := loopB_iff.1 h
  have he : termOk s.1 (lEnd l) = true := walk_end_ok h1
  obtain ⟨p, u, q, f1, f2, f3, f4, _⟩ := place_at he h4.1 h4.2
  rw [f4] at h6
  subst h6
  exact ⟨p, q, h1, h2, h3, h5, f2.symm, f1, f3, he⟩
def itO (l : Lop) (P Q : List Int) (w : Wlk) : Option Wlk := (undO (Tm.sig l.2.2.2) w).bind fun x => (insO P Q x).bind fun y => joiO (lWk l) y
def iterO (l : Lop) (P Q : List Int) : Nat → Wlk → Option Wlk
  | 0, w => some w
  | j + 1, w => (itO l P Q w).bind (iterO l P Q j)
structure ItF (s : Sys) (l : Lop) (k : Nat) (w : Wlk) : Prop where
  wk : walkB s w = true
  from' : w.1 = l.1
  len : w.2.length = k * l.2.1.length
section
variable {s : Sys} {l : Lop} {P Q : List Int} {k : Nat} {w : Wlk}
theorem ItF.ins (hL : LoopF s l P Q) (h : ItF s l k w) {x y : Wlk} (hx : undO (Tm.sig l.2.2.2) w = some x) : walkB s x = true ∧ Wf s.1 1 (sub (Tm.sig l.2.2.2) l.1) ∧ termOk s.1 (P ++ (x.1 ++ Q)) = true ∧ x.2.length = w.2.length := by
  obtain ⟨h1, h2, h3⟩ := und_ok h.wk hL.sb hx
  refine ⟨h1, hL.wf, ?_, h3⟩
  rw [h2, h.from', ← hL.end']
  exact hL.ok
theorem ItF.step (hL : LoopF s l P Q) (h : ItF s l k w) {w' : Wlk} (hi : itO l P Q w = some w') : ItF s l (k + 1) w' := by
  obtain ⟨x, hx, hi⟩ := Option.bind_eq_some_iff.1 hi
  obtain ⟨y, hy, hi⟩ := Option.bind_eq_some_iff.1 hi
  obtain ⟨h1, _, h3, h4⟩ := h.ins (y := y) hL hx
  obtain ⟨g1, g2, g3⟩ := ins_ok h1 h3 hy
  obtain ⟨j1, j2, j3⟩ := joi_ok hL.wk g1 hi
  refine ⟨j1, j2, ?_⟩
  rw [j3, g3, h4, h.len, Nat.add_mul, Nat.one_mul, Nat.add_comm]
  rfl
theorem ItF.iter (hL : LoopF s l P Q) : ∀ {j k : Nat} {w w' : Wlk}, ItF s l k w → iterO l P Q j w = some w' → ItF s l (k + j) w'
  | 0, k, w, w', h, hi => by cases hi; exact h
  | j + 1, k, w, w', h, hi => by
    obtain ⟨x, hx, hi⟩ := Option.bind_eq_some_iff.1 hi
    have := ItF.iter hL (h.step hL hx) hi
    rwa [show k + 1 + j = k + (j + 1) by omega] at this
theorem F_spec_WalkInside_none {s : Sys} {t : List Int} {i : Int} : ∃ r, F_spec_WalkInside s ([], []) t i = some r := by
  unfold F_spec_WalkInside
  rw [F_spec_l7Right_eq, Option.bind_some, F_spec_WalkOk_eq, Option.bind_some]
  have : walkB s ([], []) = false := by
    cases h : walkB s ([], []) with
    | false => rfl
    | true => have := (termOk_iff.1 (walkB_iff.1 h).2.1).2.1; simp at this
  cases (sysOk s && termOk s.1 t) with
  | false => exact ⟨_, rfl⟩
  | true => rw [this]; exact ⟨_, rfl⟩
theorem spec_false {s : Sys} {l : Lop} {many : Int} {e : List Int} {k : Int} {w : Wlk} : loopC (F_spec_LoopAgain_l1 s l many e) (false, k, w.1, w.2) = some (([], []), false) := by
  refine loopC_inr ?_
  unfold F_spec_LoopAgain_l1
  by_cases h : k < many <;> simp [h]
theorem spec_loop (hL : LoopF s l P Q) {many : Nat} (hm : many ≤ 60) : ∀ (j k : Nat) (w : Wlk), k + j = many → ItF s l k w → loopC (F_spec_LoopAgain_l1 s l many (lEnd l)) (true, (k : Int), w.1, w.2) = some (encW (iterO l P Q j w))
  | 0, k, w, hk, h => by
    obtain rfl : k = many := by omega
    exact loopC_inr (by simp [F_spec_LoopAgain_l1, iterO, encW])
  | j + 1, k, w, hk, h => by
    have e1 : F_spec_WalkUnder s (w.1, w.2) l.2.2.2 = some (encW (undO (Tm.sig l.2.2.2) w)) := F_spec_WalkUnder_eq h.wk hL.sb
    have hf : F_spec_LoopAgain_l1 s l many (lEnd l) (true, (k : Int), w.1, w.2) =
        (F_spec_WalkUnder s (w.1, w.2) l.2.2.2).bind fun r_4 => (F_spec_WalkInside s r_4.1 (lEnd l) l.2.2.1).bind fun r_5 =>
          if r_4.2 = true then if r_5.2 = true then (F_spec_JoinedWalk s (l.1, l.2.1) r_5.1).bind fun r_6 => some (.inl (r_6.2, (IntKind.i64.wrap ((k : Int) + 1)), r_6.1.1, r_6.1.2))
          else Option.map Sum.inr (some (([], []), false)) else Option.map Sum.inr (some (([], []), false)) := by
      simp [F_spec_LoopAgain_l1, show (k : Int) < many by omega]
    rw [e1, Option.bind_some] at hf
    rw [iterO, itO]
    cases hx : undO (Tm.sig l.2.2.2) w with
    | none =>
      obtain ⟨r, hr⟩ := F_spec_WalkInside_none (s := s) (t := lEnd l) (i := l.2.2.1)
      rw [hx] at hf
      simp only [encW, hr, Option.bind_some, Bool.false_eq_true, if_false] at hf
      exact loopC_inr (by rw [hf]; rfl)
    | some x =>
      rw [hx] at hf
      obtain ⟨i1, i2, i3, i4⟩ := h.ins (y := x) hL hx
      obtain ⟨_, u2, _⟩ := und_ok h.wk hL.sb hx
      have e2 : F_spec_WalkInside s x (lEnd l) l.2.2.1 = some (encW (insO P Q x)) := by
        rw [hL.at', hL.end']
        exact F_spec_WalkInside_eq i1 i2 (by rw [← hL.end']; exact hL.ok)
      simp only [encW, e2, Option.bind_some, if_true] at hf
      cases hy : insO P Q x with
      | none =>
        rw [hy] at hf
        simp only [encW, Bool.false_eq_true, if_false] at hf
        exact loopC_inr (by rw [hf, Option.bind_some, hy]; rfl)
      | some y =>
        rw [hy] at hf
        obtain ⟨g1, g2, g3⟩ := ins_ok i1 i3 hy
        have e3 : F_spec_JoinedWalk s (l.1, l.2.1) y = some (encW (joiO (lWk l) y)) := F_spec_JoinedWalk_eq hL.wk g1
        simp only [encW, if_true, e3, Option.bind_some] at hf
        rw [Option.bind_some, hy, Option.bind_some]
        rw [loopC_inl hf]
        cases hz : joiO (lWk l) y with
        | none => exact spec_false (w := ([], []))
        | some z =>
          have hi : itO l P Q w = some z := by unfold itO; rw [hx, Option.bind_some, hy, Option.bind_some, hz]
          rw [Option.bind_some]
          have := spec_loop hL hm j (k + 1) z (by omega) (h.step hL hi)
          rw [w64 (n := (k : Int) + 1) (by omega) (by omega), show ((k : Int) + 1) = ((k + 1 : Nat) : Int) by omega]
          exact this
theorem impl_loop (hL : LoopF s l P Q) {many : Nat} (h1 : 1 ≤ many) (hm : many ≤ 60) : ∀ (j v : Nat) (w : Wlk), v + j + 1 = many → ItF s l (v + 1) w → loopC (F_impl_LoopAgain_l1 s l many) ((v : Int), w.1, w.2) = some (encW3 (iterO l P Q j w))
  | 0, v, w, hv, h => by
    have : ¬ (v : Int) < (many : Int) - 1 := by omega
    exact loopC_inr (by simp only [F_impl_LoopAgain_l1, w64 (n := (many : Int) - 1) (by omega) (by omega), this, decide_false, Bool.false_eq_true, if_false]; simp [iterO, encW3])
  | j + 1, v, w, hv, h => by
    have e1 : F_impl_WalkUnder s (w.1, w.2) l.2.2.2 = some (encW (undO (Tm.sig l.2.2.2) w)) := F_impl_WalkUnder_eq h.wk hL.sb
    have e0 : F_impl_Walk_end (l.1, l.2.1) = some (lEnd l) := F_impl_Walk_end_eq (walkB_sm hL.wk)
    have hf : F_impl_LoopAgain_l1 s l many ((v : Int), w.1, w.2) =
        (F_impl_WalkUnder s (w.1, w.2) l.2.2.2).bind fun r_2 => if r_2.2 = true then (F_impl_Walk_end (l.1, l.2.1)).bind fun r_3 => (F_impl_walkInside s.1 r_2.1 r_3 l.2.2.1).bind fun r_4 =>
          if r_4.2 = true then (F_impl_joinWalks_s1 (l.1, l.2.1) r_4.1).bind fun r_5 => if r_5.2.2 = true then some (.inl ((IntKind.i64.wrap ((v : Int) + 1)), r_5.1, r_5.2.1)) else Option.map Sum.inr (some ([], [], false))
          else Option.map Sum.inr (some ([], [], false)) else Option.map Sum.inr (some ([], [], false)) := by
      simp only [F_impl_LoopAgain_l1, w64 (n := (many : Int) - 1) (by omega) (by omega), show (v : Int) < (many : Int) - 1 by omega, decide_true, if_true]
    rw [e1, Option.bind_some] at hf
    rw [iterO, itO]
    cases hx : undO (Tm.sig l.2.2.2) w with
    | none =>
      rw [hx] at hf
      simp only [encW, Bool.false_eq_true, if_false] at hf
      exact loopC_inr (by rw [hf]; rfl)
    | some x =>
      rw [hx] at hf
      obtain ⟨i1, i2, i3, i4⟩ := h.ins (y := x) hL hx
      have e2 : F_impl_walkInside s.1 x (lEnd l) l.2.2.1 = some (encW (insO P Q x)) := by
        rw [hL.at', hL.end']
        exact F_impl_walkInside_eq i1 i2 (by rw [← hL.end']; exact hL.ok)
      simp only [encW, e0, e2, Option.bind_some, if_true] at hf
      cases hy : insO P Q x with
      | none =>
        rw [hy] at hf
        simp only [encW, Bool.false_eq_true, if_false] at hf
        exact loopC_inr (by rw [hf, Option.bind_some, hy]; rfl)
      | some y =>
        rw [hy] at hf
        obtain ⟨g1, g2, g3⟩ := ins_ok i1 i3 hy
        have e3 : F_impl_joinWalks_s1 (l.1, l.2.1) y = some (encW3 (joiO (lWk l) y)) := F_impl_joinWalks_s1_eq (walkB_sm hL.wk) (walkB_sm g1)
        simp only [encW, if_true, e3, Option.bind_some] at hf
        rw [Option.bind_some, hy, Option.bind_some]
        cases hz : joiO (lWk l) y with
        | none =>
          rw [hz] at hf
          simp only [encW3, Bool.false_eq_true, if_false] at hf
          exact loopC_inr (by rw [hf]; rfl)
        | some z =>
          rw [hz] at hf
          simp only [encW3, if_true] at hf
          have hi : itO l P Q w = some z := by unfold itO; rw [hx, Option.bind_some, hy, Option.bind_some, hz]
          rw [loopC_inl hf, Option.bind_some]
          have := impl_loop hL h1 hm j (v + 1) z (by omega) (h.step hL hi)
          rw [w64 (n := (v : Int) + 1) (by omega) (by omega), show ((v : Int) + 1) = ((v + 1 : Nat) : Int) by omega]
          exact this
end
end Go.Proofs.YtklfjpilhbkekaaGreat
namespace Go.Proofs.YtklfjpilhbkekaaGreat
open Go Abx Tm
theorem again_eqs (s : Sys) (l : Lop) (many : Int) : ∃ R : Option Wlk, F_spec_LoopAgain s l many = some (encW R) ∧ F_impl_LoopAgain s l many = some (encW3 R) ∧ ∀ w, R = some w → SmW w := by
  unfold F_spec_LoopAgain F_impl_LoopAgain
  rw [F_spec_LoopOk_eq, Option.bind_some, F_impl_LoopOk_eq, Option.bind_some]
  cases hb : loopB s l with
  | false => exact ⟨none, rfl, rfl, fun w h => by cases h⟩
  | true =>
    obtain ⟨P, Q, hL⟩ := loop_F hb
    simp only [if_true, F_spec_l1In_eq, Option.bind_some]
    by_cases h1 : many < 1
    · refine ⟨none, ?_, ?_, fun w h => by cases h⟩
      · rw [if_neg (by simp; omega)]; rfl
      · rw [if_pos (by simpa using h1)]; rfl
    by_cases h60 : 60 < many
    · refine ⟨none, ?_, ?_, fun w h => by cases h⟩
      · rw [if_neg (by simp; omega)]; rfl
      · rw [if_neg (by simpa using h1), if_pos (by simpa using h60)]; rfl
    obtain ⟨m, rfl⟩ : ∃ m : Nat, many = m := ⟨many.toNat, by omega⟩
    have hm1 : 1 ≤ m := by omega
    have hm60 : m ≤ 60 := by omega
    have sm := walkB_sm hL.wk
    have hn : l.2.1.length ≤ 60 := sm.len
    have hmn : m * l.2.1.length ≤ 3600 := Nat.mul_le_mul hm60 hn
    have hcast : (m : Int) * (l.2.1.length : Int) = ((m * l.2.1.length : Nat) : Int) := by simp
    have I0 : ItF s l 1 (lWk l) := ⟨hL.wk, rfl, by show l.2.1.length = 1 * l.2.1.length; omega⟩
    have e1 : F_spec_EndTerm s (l.1, l.2.1) = some (lEnd l) := F_spec_EndTerm_eq hL.wk
    have he : walkB s (lEnd l, []) = true := walkB_iff.2 ⟨(walkB_iff.1 hL.wk).1, hL.ok, by simp, rfl⟩
    have e2 : F_spec_JoinedWalk s (l.1, l.2.1) (lEnd l, []) = some ((l.1, l.2.1), true) := by
      have := F_spec_JoinedWalk_eq hL.wk he
      have e : joiO (lWk l) (lEnd l, []) = some (lWk l) := by
        unfold joiO
        rw [if_pos ⟨rfl, (show l.2.1.length + 0 ≤ 60 by omega)⟩]
        show some ((lWk l).1, (lWk l).2 ++ []) = _
        rw [List.append_nil]
      rw [e] at this
      exact this
    have e3 := spec_loop hL hm60 (m - 1) 1 (lWk l) (by omega) I0
    have e4 := impl_loop hL hm1 hm60 (m - 1) 0 (lWk l) (by omega) I0
    refine ⟨iterO l P Q (m - 1) (lWk l), ?_, ?_, fun w h => walkB_sm (I0.iter hL h).wk⟩
    · rw [if_pos (by simp; omega), e1, Option.bind_some, e2, Option.bind_some]
      exact e3
    · rw [if_neg (by simp; omega), if_neg (by simp; omega), hcast, w64 (n := ((m * l.2.1.length : Nat) : Int)) (by omega) (by omega)]
      by_cases hbig : 60 < m * l.2.1.length
      · rw [if_pos (by simp; omega)]
        cases hR : iterO l P Q (m - 1) (lWk l) with
        | none => rfl
        | some w =>
          have hw := I0.iter hL hR
          have h2 := hw.len
          have h3 := (walkB_sm hw.wk).len
          rw [show 1 + (m - 1) = m by omega] at h2
          omega
      · have e5 : F_impl_cloneWalk_s1 (l.1, l.2.1) = some (lWk l) := F_impl_cloneWalk_s1_eq sm
        rw [if_neg (by simp; omega), e5, Option.bind_some]
        exact e4
end Go.Proofs.YtklfjpilhbkekaaGreat
namespace Go.Proofs.YtklfjpilhbkekaaGreat
open Go Abx Tm
structure BigLp (l : Lop) : Prop where
  from' : Big l.1
  steps : Big l.2.1
  to : ∀ x ∈ l.2.1, Big x.2.2
  sub : Big l.2.2.2
  terms : ∀ t ∈ l.2.2.2, Big t
structure SmLp (l : Lop) : Prop where
  from' : l.1.length ≤ Mx
  steps : l.2.1.length ≤ Mx
  to : ∀ x ∈ l.2.1, x.2.2.length ≤ Mx
  sub : l.2.2.2.length ≤ Mx
  terms : ∀ t ∈ l.2.2.2, t.length ≤ Mx
theorem szStep {x : Stp} (h : Big x.2.2) {left : Int} (h0 : 0 ≤ left) (hM : left ≤ Mx) : ∃ r, F_laws_szStep x left = some r ∧ -1 ≤ r ∧ r ≤ left ∧ (0 ≤ r → x.2.2.length ≤ Mx) := by
  obtain ⟨r, e1, e2, e3, e4⟩ := szI h h0 hM
  unfold F_laws_szStep
  rw [e1, Option.bind_some]
  by_cases hr : r < 0
  · exact ⟨-1, by simp [hr], by omega, by omega, by omega⟩
  · exact ⟨r, by simp [hr], e2, e3, e4⟩
theorem szStepS {a : List Stp} (ha : Big a) (ht : ∀ x ∈ a, Big x.2.2) {left : Int} (h0 : 0 ≤ left) (hM : left ≤ Mx) :
    ∃ r, F_laws_szStepS a left = some r ∧ -1 ≤ r ∧ r ≤ left ∧ (0 ≤ r → a.length ≤ Mx ∧ ∀ x ∈ a, x.2.2.length ≤ Mx) := by
  unfold F_laws_szStepS
  have ha' : a.length < 9223372036854775808 := ha
  have hM' : left ≤ 1048576 := hM
  rw [w64 (n := left - (a.length : Int)) (by omega) (by omega)]
  by_cases h : left - (a.length : Int) < 0
  · exact ⟨-1, by simp [h], by omega, by omega, by omega⟩
  · obtain ⟨r, e1, e2, e3, e4⟩ := loop_sz (a := a) (Q := fun x => x.2.2.length ≤ Mx) (f := F_laws_szStepS_l1 a) (left := left - a.length) (fun i left x hi hx hg h0 hM => by
      obtain ⟨r, e1, e2, e3, e4⟩ := szStep (ht x hx) h0 hM
      simp only [F_laws_szStepS_l1, show (i : Int) < a.length by omega, decide_true, if_true, show (0 : Int) ≤ i by omega, and_self, Int.toNat_natCast, hg, e1, Option.bind_some, w64 (n := (i : Int) + 1) (by omega) (by omega)]
      by_cases hr : r < 0
      · exact .inr (by simp [hr])
      · exact .inl ⟨r, by omega, e3, e4 (by omega), by simp [hr]⟩) (fun left => by simp [F_laws_szStepS_l1]) (by omega) (by show left - a.length ≤ 1048576; omega)
    refine ⟨r, by rw [if_neg (by simpa using h)]; exact e1, e2, by omega, fun hr => ⟨?_, e4 hr⟩⟩
    show a.length ≤ 1048576
    omega
theorem szII {a : List (List Int)} (ha : Big a) (ht : ∀ x ∈ a, Big x) {left : Int} (h0 : 0 ≤ left) (hM : left ≤ Mx) :
    ∃ r, F_laws_szInt64SS a left = some r ∧ -1 ≤ r ∧ r ≤ left ∧ (0 ≤ r → a.length ≤ Mx ∧ ∀ x ∈ a, x.length ≤ Mx) := by
  unfold F_laws_szInt64SS
  have ha' : a.length < 9223372036854775808 := ha
  have hM' : left ≤ 1048576 := hM
  rw [w64 (n := left - (a.length : Int)) (by omega) (by omega)]
  by_cases h : left - (a.length : Int) < 0
  · exact ⟨-1, by simp [h], by omega, by omega, by omega⟩
  · obtain ⟨r, e1, e2, e3, e4⟩ := loop_sz (a := a) (Q := fun x => x.length ≤ Mx) (f := F_laws_szInt64SS_l1 a) (left := left - a.length) (fun i left x hi hx hg h0 hM => by
      obtain ⟨r, e1, e2, e3, e4⟩ := szI (ht x hx) h0 hM
      simp only [F_laws_szInt64SS_l1, show (i : Int) < a.length by omega, decide_true, if_true, show (0 : Int) ≤ i by omega, and_self, Int.toNat_natCast, hg, e1, Option.bind_some, w64 (n := (i : Int) + 1) (by omega) (by omega)]
      by_cases hr : r < 0
      · exact .inr (by simp [hr])
      · exact .inl ⟨r, by omega, e3, e4 (by omega), by simp [hr]⟩) (fun left => by simp [F_laws_szInt64SS_l1]) (by omega) (by show left - a.length ≤ 1048576; omega)
    refine ⟨r, by rw [if_neg (by simpa using h)]; exact e1, e2, by omega, fun hr => ⟨?_, e4 hr⟩⟩
    show a.length ≤ 1048576
    omega
theorem szLoop {l : Lop} (h : BigLp l) {left : Int} (h0 : 0 ≤ left) (hM : left ≤ Mx) : ∃ r, F_laws_szLoop l left = some r ∧ (0 ≤ r → SmLp l) := by
  obtain ⟨r1, a1, a2, a3, a4⟩ := szI h.from' h0 hM
  unfold F_laws_szLoop F_laws_szWalk F_laws_szSubst
  simp only [a1, Option.bind_some]
  by_cases c1 : r1 < 0
  · exact ⟨-1, by simp [c1], by omega⟩
  obtain ⟨r2, b1, b2, b3, b4⟩ := szStepS h.steps h.to (left := r1) (by omega) (Int.le_trans a3 hM)
  simp only [c1, decide_false, Bool.false_eq_true, if_false, b1, Option.bind_some]
  by_cases c2 : r2 < 0
  · exact ⟨-1, by simp [c2], by omega⟩
  obtain ⟨r3, d1, d2, d3, d4⟩ := szII h.sub h.terms (left := r2) (by omega) (Int.le_trans b3 (Int.le_trans a3 hM))
  simp only [c2, decide_false, Bool.false_eq_true, if_false, d1, Option.bind_some]
  by_cases c3 : r3 < 0
  · exact ⟨-1, by simp [c3], by omega⟩
  · exact ⟨r3, by simp [c3], fun hr => ⟨a4 (by omega), (b4 (by omega)).1, (b4 (by omega)).2, (d4 hr).1, (d4 hr).2⟩⟩
theorem F_to188_eq {x : Stp} (h : x.2.2.length ≤ Mx) : F_to188 x = some x := by unfold F_to188; rw [F_to21_eq h, Option.bind_some]
theorem F_to117_eq {a : List Stp} (h : a.length ≤ Mx) (ht : ∀ x ∈ a, x.2.2.length ≤ Mx) : F_to117 a = some a := by
  have h' : a.length ≤ 1048576 := h
  unfold F_to117
  rw [if_pos ⟨by omega, by omega, by omega⟩]
  have := loop_to (a := a) (z := List.replicate a.length (0, 0, [])) (g := id) (f := F_to117_l a) (by simp) (fun i out hi ho hm => by
    simp only [F_to117_l, show (i : Int) < a.length by omega, show (i : Int) < out.length by omega, decide_true, if_true, show (0 : Int) ≤ i by omega, and_self, Int.toNat_natCast, F_to188_eq (ht _ hm), Option.bind_some, w64 (n := (i : Int) + 1) (by omega) (by omega), id]) (fun out => by simp [F_to117_l])
  simpa using this
theorem F_to118_eq {a : List (List Int)} (h : a.length ≤ Mx) (ht : ∀ x ∈ a, x.length ≤ Mx) : F_to118 a = some a := by
  have h' : a.length ≤ 1048576 := h
  unfold F_to118
  rw [if_pos ⟨by omega, by omega, by omega⟩]
  have := loop_to (a := a) (z := List.replicate a.length []) (g := id) (f := F_to118_l a) (by simp) (fun i out hi ho hm => by
    simp only [F_to118_l, show (i : Int) < a.length by omega, show (i : Int) < out.length by omega, decide_true, if_true, show (0 : Int) ≤ i by omega, and_self, Int.toNat_natCast, F_to21_eq (ht _ hm), Option.bind_some, w64 (n := (i : Int) + 1) (by omega) (by omega), id]) (fun out => by simp [F_to118_l])
  simpa using this
theorem F_to11_eq {l : Lop} (h : SmLp l) : F_to11 l = some l := by
  unfold F_to11 F_to55 F_to56
  rw [F_to21_eq h.from', Option.bind_some, F_to117_eq h.steps h.to, Option.bind_some, Option.bind_some, F_to118_eq h.sub h.terms, Option.bind_some, Option.bind_some]
theorem F_pub11_eq {l : Lop} (h : SmLp l) : F_pub11 l = some l := by
  unfold F_pub11
  rw [F_to11_eq h, Option.bind_some, if_pos ⟨rfl, rfl, rfl⟩]
theorem eqStepS_self {a : List Stp} (h : a.length ≤ Mx) (ht : ∀ x ∈ a, x.2.2.length ≤ Mx) : F_laws_eqStepS a a = some true := by
  have h1 : a.length ≤ 1048576 := h
  unfold F_laws_eqStepS
  rw [if_neg (by simp)]
  refine loop_self (a := a) (fun i hi => ?_) (by simp [F_laws_eqStepS_l1])
  have h2 : (a.getD i default).2.2.length ≤ 1048576 := ht _ (getD_mem hi)
  simp only [F_laws_eqStepS_l1, F_laws_eqStep, show (i : Int) < a.length by omega, decide_true, if_true, show (0 : Int) ≤ i by omega, and_self, Int.toNat_natCast, bne_self_eq_false, Bool.false_eq_true, if_false, eqI_self (show (a.getD i default).2.2.length < _ by omega), Option.bind_some, w64 (n := (i : Int) + 1) (by omega) (by omega)]
theorem eqWalk_self {w : Wlk} (h0 : w.1.length ≤ Mx) (h : w.2.length ≤ Mx) (ht : ∀ x ∈ w.2, x.2.2.length ≤ Mx) : F_laws_eqWalk w w = some true := by
  have h1 : w.1.length ≤ 1048576 := h0
  unfold F_laws_eqWalk
  rw [eqI_self (show w.1.length < _ by omega), Option.bind_some, if_pos rfl, eqStepS_self h ht, Option.bind_some, if_pos rfl]
theorem eqLoop_self {l : Lop} (h : SmLp l) : F_laws_eqLoop l l = some true := by
  unfold F_laws_eqLoop F_laws_eqSubst
  rw [eqWalk_self (w := (l.1, l.2.1)) h.from' h.steps h.to, Option.bind_some, if_pos rfl, if_neg (by simp), eqII_self h.sub h.terms]
  rfl
def mS (x : Stp) (k : Int) : Stp × Int := ((k, k + 1, (mAcc mI x.2.2 (k + 2)).1), (mAcc mI x.2.2 (k + 2)).2)
theorem mS_le {x : Stp} {k : Int} (h0 : 0 ≤ k) (h : x.2.2.length ≤ Mx) : k + 2 ≤ (mS x k).2 ∧ (mS x k).2 ≤ k + 1048578 := by
  have h1 : x.2.2.length ≤ 1048576 := h
  have g1 := mI_le (a := x.2.2) (k := k + 2) (by omega)
  simp only [mS]; omega
theorem F_mk70_eq {a : List Stp} {n : Nat} {k : Int} (hn : n = a.length) (hl : a.length ≤ Mx) (ht : ∀ x ∈ a, x.2.2.length ≤ Mx) (h0 : 0 ≤ k) (hk : k ≤ 2 * Kx) : F_mk70 n a k = some (mAcc mS a k) := by
  subst hn
  have hl' : a.length ≤ 1048576 := hl
  have hk' : k ≤ 2 * 1152921504606846976 := hk
  unfold F_mk70
  refine loop_mk (g := mS) (fun i k' => 0 ≤ k' ∧ k' ≤ k + 1048578 * i) (fun i k' b x hi hb hx hg hp => ?_) (fun k' b => by simp [F_mk70_l]) ⟨h0, by omega⟩
  obtain ⟨p0, p1⟩ := hp
  have := mS_le p0 (ht x hx)
  refine ⟨?_, by omega⟩
  simp only [F_mk70_l, show (i : Int) < a.length by omega, show (i : Int) < b.length by omega, decide_true, if_true, show (0 : Int) ≤ i by omega, and_self, Int.toNat_natCast, hg, w64 (n := k' + 1) (by omega) (by omega), w64 (n := k' + 2) (by omega) (by omega), show k' + 1 + 1 = k' + 2 by omega,
    F_mk25_eq rfl (ht x hx) (show 0 ≤ k' + 2 by omega) (show k' + 2 ≤ 4 * 1152921504606846976 by omega), Option.bind_some, w64 (n := (i : Int) + 1) (by omega) (by omega), mS]
theorem heldS {a : List Stp} {k : Int} (hl : a.length ≤ Mx) (ht : ∀ x ∈ a, x.2.2.length ≤ Mx) (h0 : 0 ≤ k) (hk : k ≤ 2 * Kx) : F_laws_heldStepS (mAcc mS a k).1 k = some (mAcc mS a k).2 := by
  have hl' : a.length ≤ 1048576 := hl
  have hk' : k ≤ 2 * 1152921504606846976 := hk
  have hm : (mAcc mS a k).1.length = a.length := mAcc_len
  unfold F_laws_heldStepS
  refine loop_held (g := mS) (fun i k' => 0 ≤ k' ∧ k' ≤ k + 1048578 * i) (fun i k' x hi hx hg hp => ?_) (fun k' => by simp [F_laws_heldStepS_l1, hm]) ⟨h0, by omega⟩
  obtain ⟨p0, p1⟩ := hp
  have hb := mS_le p0 (ht x hx)
  have e2 : (mAcc mI x.2.2 (k' + 2)).2 = (mS x k').2 := rfl
  refine ⟨?_, by omega⟩
  simp only [F_laws_heldStepS_l1, hm, show (i : Int) < a.length by omega, decide_true, if_true, show (0 : Int) ≤ i by omega, and_self, Int.toNat_natCast, hg]
  simp only [show (mS x k').1 = (k', k' + 1, (mAcc mI x.2.2 (k' + 2)).1) from rfl, bne_self_eq_false, Bool.false_eq_true, if_false, w64 (n := k' + 1) (by omega) (by omega), w64 (n := k' + 2) (by omega) (by omega), show k' + 1 + 1 = k' + 2 by omega,
    heldI (ht x hx) (show 0 ≤ k' + 2 by omega) (show k' + 2 ≤ 4 * 1152921504606846976 by omega), Option.bind_some, e2, show ¬ (mS x k').2 < 0 by omega, decide_false, w64 (n := (i : Int) + 1) (by omega) (by omega)]
theorem mS_acc {a : List Stp} {k : Int} (h0 : 0 ≤ k) (ht : ∀ x ∈ a, x.2.2.length ≤ Mx) : k ≤ (mAcc mS a k).2 ∧ (mAcc mS a k).2 ≤ k + 1048578 * a.length :=
  mAcc_le (g := mS) (B := 1048578) (by decide) h0 fun x hx k hk => by have := mS_le hk (ht x hx); omega
theorem mark_walk {w : Wlk} (h0 : w.1.length ≤ Mx) (h : w.2.length ≤ Mx) (ht : ∀ x ∈ w.2, x.2.2.length ≤ Mx) {k : Int} (k0 : 0 ≤ k) (k1 : k ≤ Kx) :
    ∃ m, F_mk18 w.1.length w.2.length w k = some m ∧ m.1.1.length = w.1.length ∧ m.1.2.length = w.2.length ∧ k ≤ m.2 ∧ m.2 ≤ k + 1152921504606846976 ∧ F_laws_heldWalk m.1 k = some m.2 := by
  have l0 : w.1.length ≤ 1048576 := h0
  have l1 : w.2.length ≤ 1048576 := h
  have k1' : k ≤ 1152921504606846976 := k1
  have g1 := mI_le (a := w.1) (k := k) k0
  have g2 := mS_acc (a := w.2) (k := (mAcc mI w.1 k).2) (by omega) ht
  have a1 := F_mk25_eq rfl h0 k0 (show k ≤ 4 * 1152921504606846976 by omega)
  have a2 := F_mk70_eq (k := (mAcc mI w.1 k).2) rfl h ht (by omega) (show (mAcc mI w.1 k).2 ≤ 2 * 1152921504606846976 by omega)
  have b1 := heldI h0 k0 (show k ≤ 4 * 1152921504606846976 by omega)
  have b2 := heldS (k := (mAcc mI w.1 k).2) h ht (by omega) (show (mAcc mI w.1 k).2 ≤ 2 * 1152921504606846976 by omega)
  unfold F_mk18
  rw [a1, Option.bind_some, a2, Option.bind_some]
  refine ⟨_, rfl, mAcc_len, mAcc_len, by show k ≤ (mAcc mS w.2 (mAcc mI w.1 k).2).2; omega, by show (mAcc mS w.2 (mAcc mI w.1 k).2).2 ≤ _; omega, ?_⟩
  unfold F_laws_heldWalk
  show (F_laws_heldInt64S (mAcc mI w.1 k).1 k).bind _ = some (mAcc mS w.2 (mAcc mI w.1 k).2).2
  rw [b1, Option.bind_some, if_neg (by simp; omega)]
  show (F_laws_heldStepS (mAcc mS w.2 (mAcc mI w.1 k).2).1 (mAcc mI w.1 k).2).bind _ = _
  rw [b2, Option.bind_some, if_neg (by simp; omega)]
theorem mark_loop {l : Lop} (h : SmLp l) {k : Int} (k0 : 0 ≤ k) (k1 : k ≤ Kx) : ∃ m, F_mk17 l.1.length l.2.1.length l.2.2.2.length l k = some m ∧ 0 ≤ m.2 := by
  obtain ⟨m, e1, _, _, e2, e3, _⟩ := mark_walk (w := (l.1, l.2.1)) h.from' h.steps h.to k0 k1
  have k1' : k ≤ 1152921504606846976 := k1
  have g := mL_le (a := l.2.2.2) (k := m.2) (by omega) h.terms
  have a1 := F_mk132_eq (k := m.2) rfl h.sub h.terms (by omega) (show m.2 ≤ 3 * 1152921504606846976 by omega)
  unfold F_mk17 F_mk69
  have e1' : F_mk18 l.1.length l.2.1.length (l.1, l.2.1) k = some m := e1
  rw [e1', Option.bind_some, a1, Option.bind_some, Option.bind_some]
  exact ⟨_, rfl, by show 0 ≤ (mAcc mL l.2.2.2 m.2).2; omega⟩
theorem law_again {s : Sys} {l : Lop} {many : Int} (hs : BigS s) (hl : BigLp l) : F_laws_FnExactLoopAgain s l many = some true := by
  unfold F_laws_FnExactLoopAgain
  obtain ⟨r, e1, e2⟩ := szSystem hs
  rw [e1, Option.bind_some]
  by_cases hr : r < 0
  · rw [if_pos (by simpa using hr)]
  rw [if_neg (by simpa using hr)]
  have hrM : r ≤ Mx := by
    obtain ⟨r', f1, f2, f3, f4⟩ := szI hs.sig (left := 1048576) (by omega) (by decide)
    unfold F_laws_szSystem F_laws_szSig at e1
    rw [f1, Option.bind_some] at e1
    by_cases c : r' < 0
    · simp [c] at e1; show r ≤ 1048576; omega
    · obtain ⟨r'', g1, g2, g3, g4⟩ := szRuleS hs.rules hs.to (left := r') (by omega) (Int.le_trans f3 (by decide))
      simp only [c, decide_false, Bool.false_eq_true, if_false, Option.bind_some, g1] at e1
      show r ≤ 1048576
      by_cases c' : r'' < 0
      · simp [c'] at e1; omega
      · simp [c'] at e1; omega
  obtain ⟨r1, d1, d2⟩ := szLoop hl (left := r) (by omega) hrM
  rw [d1, Option.bind_some]
  by_cases hr1 : r1 < 0
  · rw [if_pos (by simpa using hr1)]
  rw [if_neg (by simpa using hr1)]
  have sm := e2 (by omega)
  have sl := d2 (by omega)
  obtain ⟨R, q1, q2, q3⟩ := again_eqs s l many
  have hR : (encW3 R).1 = (encW R).1.1 ∧ (encW3 R).2.1 = (encW R).1.2 ∧ (encW3 R).2.2 = (encW R).2 := by cases R <;> exact ⟨rfl, rfl, rfl⟩
  have hsm : (encW R).1.1.length ≤ Mx ∧ (encW R).1.2.length ≤ Mx ∧ ∀ x ∈ (encW R).1.2, x.2.2.length ≤ Mx := by
    cases R with
    | none => exact ⟨by simp [encW], by simp [encW], fun x hx => by cases hx⟩
    | some w =>
      have := q3 w rfl
      refine ⟨?_, ?_, fun x hx => ?_⟩
      · have := this.from'; show w.1.length ≤ 1048576; omega
      · have := this.len; show w.2.length ≤ 1048576; omega
      · have := this.to x hx; show x.2.2.length ≤ 1048576; omega
  obtain ⟨s1, s2, s3⟩ := hsm
  obtain ⟨m1, f1, f2, f3⟩ := F_mk16_ok sm
  obtain ⟨m2, g1, g2⟩ := mark_loop sl f2 f3
  obtain ⟨m3, k1, k2, k3, k4, _, k5⟩ := mark_walk (w := (encW R).1) s1 s2 s3 (k := 1) (by decide) (by decide)
  have l1 : F_le12_lld s.1.length s.2.length l.1.length l.2.1.length l.2.2.2.length s l many = some (encW3 R) := by
    unfold F_le12_lld; rw [if_pos ⟨rfl, rfl, rfl, rfl, rfl⟩]; exact q2
  have l2 : F_le13_ld (encW R).1.1.length (encW R).1.2.length (encW R).1 (encW R).1 = some true := by
    unfold F_le13_ld; rw [if_pos ⟨rfl, rfl⟩]; exact eqWalk_self s1 s2 s3
  have l3 : F_le14_ll s.1.length s.2.length s.1.length s.2.length s s = some true := by
    unfold F_le14_ll; rw [if_pos ⟨rfl, rfl, rfl, rfl⟩]; exact eqSystem_self sm
  have l4 : F_le15_ll l.1.length l.2.1.length l.2.2.2.length l.1.length l.2.1.length l.2.2.2.length l l = some true := by
    unfold F_le15_ll; rw [if_pos ⟨rfl, rfl, rfl, rfl, rfl, rfl⟩]; exact eqLoop_self sl
  have l5 : F_le19_ld (encW R).1.1.length (encW R).1.2.length m3.1 1 = some m3.2 := by
    unfold F_le19_ld; rw [if_pos ⟨k2.symm, k3.symm⟩]; exact k5
  have n1 : ¬ m2.2 < 0 := by omega
  have n2 : ¬ m3.2 < 0 := by omega
  simp only [F_pub10_eq sm, F_pub11_eq sl, q1, F_to10_eq sm, F_to11_eq sl, Option.bind_some, l1, hR.1, hR.2.1, hR.2.2, l2, l3, l4, l5, f1, g1, k1, bne_self_eq_false, Bool.false_eq_true, if_false, if_true, n1, n2, decide_false]
theorem law_again_pure {s : Sys} {l : Lop} {many : Int} (hs : BigS s) (hl : BigLp l) : PFun Tryz.prog 3 [D_laws_System s, D_laws_Loop l, iD many] (bD true) := c_laws_FnExactLoopAgain.c (law_again hs hl)
end Go.Proofs.YtklfjpilhbkekaaGreat
