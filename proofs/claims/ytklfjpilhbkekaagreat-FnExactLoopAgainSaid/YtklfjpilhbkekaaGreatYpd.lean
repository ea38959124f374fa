/- Copies, marks and tests; nothing is assumed. -/
import Derived.Test.YtklfjpilhbkekaaGreatYpb
import Derived.Test.YtklfjpilhbkekaaGreatYe
import Derived.Test.YtklfjpilhbkekaaGreatYg
set_option linter.unusedSimpArgs false
set_option linter.unusedVariables false
set_option linter.unusedSectionVars false
set_option linter.unnecessarySimpa false
namespace Go.Proofs.YtklfjpilhbkekaaGreat
open Go Abx Tm
theorem loop_st {σ γ : Type} {n : Nat} (st : Nat → σ) {c : γ} {f : σ → Option (σ ⊕ γ)} (h : ∀ i, i < n → f (st i) = some (.inl (st (i + 1)))) (he : f (st n) = some (.inr c)) : loopC f (st 0) = some c := by
  have key : ∀ k i, i + k = n → loopC f (st i) = some c := by
    intro k
    induction k with
    | zero => intro i hi; obtain rfl : i = n := by omega
              exact loopC_inr he
    | succ k ih => intro i hi; rw [loopC_inl (h i (by omega))]; exact ih (i + 1) (by omega)
  exact key n 0 (by omega)
theorem drop_cons {α : Type} [Inhabited α] {a : List α} {i : Nat} {x : α} {r : List α} (h : a.drop i = x :: r) : i < a.length ∧ a.getD i default = x ∧ a.drop (i + 1) = r := by
  have hlt : i < a.length := Nat.lt_of_not_le fun hn => by rw [List.drop_of_length_le hn] at h; cases h
  rw [List.drop_eq_getElem_cons hlt] at h
  simp only [List.cons.injEq] at h
  exact ⟨hlt, by rw [getD_get hlt, h.1], h.2⟩
theorem loop_to {α β : Type} [Inhabited α] {a : List α} {z : List β} {g : α → β} (hl : z.length = a.length) {f : Int × List β → Option ((Int × List β) ⊕ List β)}
    (h : ∀ (i : Nat) (out : List β), i < a.length → out.length = a.length → a.getD i default ∈ a → f ((i : Int), out) = some (.inl ((i : Int) + 1, out.set i (g (a.getD i default)))))
    (he : ∀ out, f ((a.length : Int), out) = some (.inr out)) : loopC f (0, z) = some (a.map g) := by
  have hz : (a.take 0).map g ++ z.drop 0 = z := by simp
  refine Eq.trans ?_ (loop_st (n := a.length) (fun i => ((i : Int), (a.take i).map g ++ z.drop i)) (fun i hi => ?_) ((he _).trans (by rw [List.take_length, ← hl, List.drop_length, List.append_nil])))
  · simp
  · rw [h i _ hi (by simp; omega) (getD_mem hi)]
    refine congrArg (fun x => some (Sum.inl x)) (Prod.ext (by simp) ?_)
    show ((a.take i).map g ++ z.drop i).set i _ = _
    rw [List.set_append_right _ _ (by simp; omega)]
    have hm : i - ((a.take i).map g).length = 0 := by simp; omega
    have hzl : i < z.length := by omega
    rw [hm, List.drop_eq_getElem_cons hzl, List.set_cons_zero, List.take_succ_eq_append_getElem hi, List.map_append, List.append_assoc, getD_get hi]
    simp
def mAcc {α : Type} (g : α → Int → α × Int) : List α → Int → List α × Int
  | [], k => ([], k)
  | x :: r, k => ((g x k).1 :: (mAcc g r (g x k).2).1, (mAcc g r (g x k).2).2)
theorem mAcc_len {α : Type} {g : α → Int → α × Int} : ∀ {a : List α} {k : Int}, (mAcc g a k).1.length = a.length
  | [], _ => rfl
  | x :: r, k => by simp [mAcc, mAcc_len (a := r)]
theorem loop_mk {α : Type} [Inhabited α] {a : List α} {g : α → Int → α × Int} (P : Nat → Int → Prop) {k0 : Int} {f : Int × Int × List α → Option ((Int × Int × List α) ⊕ (List α × Int))}
    (h : ∀ (i : Nat) (k : Int) (b : List α) (x : α), i < a.length → b.length = a.length → x ∈ a → b.getD i default = x → P i k →
      f (k, (i : Int), b) = some (.inl ((g x k).2, (i : Int) + 1, b.set i (g x k).1)) ∧ P (i + 1) (g x k).2)
    (he : ∀ k b, f (k, (a.length : Int), b) = some (.inr (b, k))) (h0 : P 0 k0) : loopC f (k0, 0, a) = some (mAcc g a k0) := by
  have key : ∀ (r done : List α) (k : Int), done.length + r.length = a.length → (∀ x ∈ r, x ∈ a) → P done.length k → loopC f (k, (done.length : Int), done ++ r) = some (done ++ (mAcc g r k).1, (mAcc g r k).2) := by
    intro r
    induction r with
    | nil =>
      intro done k hl _ _
      have : done.length = a.length := by simpa using hl
      rw [this]
      exact loopC_inr (by rw [he]; simp [mAcc])
    | cons x r ih =>
      intro done k hl hr hp
      simp only [List.length_cons] at hl
      obtain ⟨h1, h2⟩ := h done.length k (done ++ x :: r) x (by omega) (by simp; omega) (hr x (by simp)) (by rw [getD_get (by simp)]; simp) hp
      rw [loopC_inl h1]
      have e : (done ++ x :: r).set done.length (g x k).1 = (done ++ [(g x k).1]) ++ r := by
        rw [List.set_append_right _ _ (Nat.le_refl _), Nat.sub_self, List.set_cons_zero]; simp
      rw [e]
      have := ih (done ++ [(g x k).1]) (g x k).2 (by simp; omega) (fun y hy => hr y (by simp [hy])) (by simpa using h2)
      simp only [List.length_append, List.length_cons, List.length_nil, Nat.zero_add, Int.natCast_add, Int.natCast_one] at this
      rw [this]
      simp [mAcc]
  have := key a [] k0 (by simp) (fun x hx => hx) h0
  simpa using this
theorem loop_held {α : Type} [Inhabited α] {a : List α} {g : α → Int → α × Int} (P : Nat → Int → Prop) {k0 : Int} {f : Int × Int → Option ((Int × Int) ⊕ Int)}
    (h : ∀ (i : Nat) (k : Int) (x : α), i < a.length → x ∈ a → (mAcc g a k0).1.getD i default = (g x k).1 → P i k →
      f (k, (i : Int)) = some (.inl ((g x k).2, (i : Int) + 1)) ∧ P (i + 1) (g x k).2)
    (he : ∀ k, f (k, (a.length : Int)) = some (.inr k)) (h0 : P 0 k0) : loopC f (k0, 0) = some (mAcc g a k0).2 := by
  have key : ∀ (r : List α) (i : Nat) (k : Int), i + r.length = a.length → (∀ x ∈ r, x ∈ a) → (mAcc g a k0).1.drop i = (mAcc g r k).1 → P i k → loopC f (k, (i : Int)) = some (mAcc g r k).2 := by
    intro r
    induction r with
    | nil =>
      intro i k hl _ _ _
      have : i = a.length := by simpa using hl
      rw [this]
      exact loopC_inr (he _)
    | cons x r ih =>
      intro i k hl hr hd hp
      simp only [List.length_cons] at hl
      obtain ⟨g1, g2, g3⟩ := drop_cons hd
      obtain ⟨h1, h2⟩ := h i k x (by omega) (hr x (by simp)) g2 hp
      rw [loopC_inl h1, show ((i : Int) + 1) = ((i + 1 : Nat) : Int) by omega]
      exact ih (i + 1) _ (by omega) (fun y hy => hr y (by simp [hy])) g3 h2
  have := key a 0 k0 (by simp) (fun x hx => hx) (by simp) h0
  simpa using this
theorem loop_self {α : Type} {a : List α} {f : Int → Option (Int ⊕ Bool)} (h : ∀ i : Nat, i < a.length → f (i : Int) = some (.inl ((i : Int) + 1))) (he : f a.length = some (.inr true)) : loopC f 0 = some true :=
  loop_st (n := a.length) (fun i => (i : Int)) (fun i hi => h i hi) he
end Go.Proofs.YtklfjpilhbkekaaGreat
namespace Go.Proofs.YtklfjpilhbkekaaGreat
open Go Abx Tm
theorem F_slices_Clone_s1_eq {l : List Int} (hs : Small l) : F_slices_Clone_int64_int64_s1 l = some l := by
  unfold F_slices_Clone_int64_int64_s1
  refine (Okk.amb (t := True) (P := (· = l)) ?_ fun h => ?_).eq
  · rw [if_pos (by have := hs; omega)]; exact .some rfl
  · subst h; simp
end Go.Proofs.YtklfjpilhbkekaaGreat
namespace Go.Proofs.YtklfjpilhbkekaaGreat
open Go Abx Tm
abbrev Mx : Nat := 1048576
abbrev Big {α : Type} (xs : List α) : Prop := xs.length < 9223372036854775808
theorem szI {a : List Int} (ha : Big a) {left : Int} (h0 : 0 ≤ left) (hM : left ≤ Mx) : ∃ r, F_laws_szInt64S a left = some r ∧ -1 ≤ r ∧ r ≤ left ∧ (0 ≤ r → a.length ≤ Mx) := by
  unfold F_laws_szInt64S
  have ha' : a.length < 9223372036854775808 := ha
  have hM' : left ≤ 1048576 := hM
  rw [w64 (n := left - (a.length : Int)) (by omega) (by omega)]
  by_cases h : left - (a.length : Int) < 0
  · exact ⟨-1, by simp [h], by omega, by omega, by omega⟩
  · exact ⟨left - a.length, by simp [h], by omega, by omega, fun _ => by show a.length ≤ 1048576; omega⟩
theorem loop_sz {α : Type} [Inhabited α] {a : List α} {Q : α → Prop} {f : Int × Int → Option ((Int × Int) ⊕ Int)}
    (h : ∀ (i : Nat) (left : Int) (x : α), i < a.length → x ∈ a → a.getD i default = x → 0 ≤ left → left ≤ Mx → (∃ r, 0 ≤ r ∧ r ≤ left ∧ Q x ∧ f (left, (i : Int)) = some (.inl (r, (i : Int) + 1))) ∨ f (left, (i : Int)) = some (.inr (-1)))
    (he : ∀ left, f (left, (a.length : Int)) = some (.inr left)) {left : Int} (h0 : 0 ≤ left) (hM : left ≤ Mx) : ∃ r, loopC f (left, 0) = some r ∧ -1 ≤ r ∧ r ≤ left ∧ (0 ≤ r → ∀ x ∈ a, Q x) := by
  have key : ∀ (rs : List α) (i : Nat) (left : Int), a.drop i = rs → i + rs.length = a.length → 0 ≤ left → left ≤ Mx → ∃ r, loopC f (left, (i : Int)) = some r ∧ -1 ≤ r ∧ r ≤ left ∧ (0 ≤ r → ∀ x ∈ rs, Q x) := by
    intro rs
    induction rs with
    | nil =>
      intro i left hd hl h0 hM
      obtain rfl : i = a.length := by simpa using hl
      exact ⟨left, loopC_inr (he _), by omega, by omega, fun _ x hx => by cases hx⟩
    | cons x rs ih =>
      intro i left hd hl h0 hM
      simp only [List.length_cons] at hl
      obtain ⟨g1, g2, g3⟩ := drop_cons hd
      rcases h i left x g1 (by rw [← g2]; exact getD_mem g1) g2 h0 hM with ⟨r, r0, r1, r2, r3⟩ | hx
      · obtain ⟨r', e1, e2, e3, e4⟩ := ih (i + 1) r g3 (by omega) r0 (by omega)
        rw [loopC_inl r3, show ((i : Int) + 1) = ((i + 1 : Nat) : Int) by omega]
        refine ⟨r', e1, e2, by omega, fun hr y hy => ?_⟩
        rcases List.mem_cons.1 hy with rfl | hy
        · exact r2
        · exact e4 hr y hy
      · exact ⟨-1, loopC_inr hx, by omega, by omega, by omega⟩
  exact key a 0 left (by simp) (by simp) h0 hM
theorem szRule {x : List Int × List Int} (h1 : Big x.1) (h2 : Big x.2) {left : Int} (h0 : 0 ≤ left) (hM : left ≤ Mx) : ∃ r, F_laws_szRule x left = some r ∧ -1 ≤ r ∧ r ≤ left ∧ (0 ≤ r → x.1.length ≤ Mx ∧ x.2.length ≤ Mx) := by
  obtain ⟨r, e1, e2, e3, e4⟩ := szI h1 h0 hM
  unfold F_laws_szRule
  rw [e1, Option.bind_some]
  by_cases hr : r < 0
  · exact ⟨-1, by simp [hr], by omega, by omega, by omega⟩
  · obtain ⟨r', g1, g2, g3, g4⟩ := szI h2 (left := r) (by omega) (by omega)
    rw [g1]
    by_cases hr' : r' < 0
    · exact ⟨-1, by simp [hr, hr'], by omega, by omega, by omega⟩
    · exact ⟨r', by simp [hr, hr'], by omega, by omega, fun _ => ⟨e4 (by omega), g4 (by omega)⟩⟩
structure BigS (s : Sys) : Prop where
  sig : Big s.1
  rules : Big s.2
  to : ∀ r ∈ s.2, Big r.1 ∧ Big r.2
structure SmS (s : Sys) : Prop where
  sig : s.1.length ≤ Mx
  rules : s.2.length ≤ Mx
  to : ∀ r ∈ s.2, r.1.length ≤ Mx ∧ r.2.length ≤ Mx
theorem szRuleS {a : List (List Int × List Int)} (ha : Big a) (ht : ∀ r ∈ a, Big r.1 ∧ Big r.2) {left : Int} (h0 : 0 ≤ left) (hM : left ≤ Mx) :
    ∃ r, F_laws_szRuleS a left = some r ∧ -1 ≤ r ∧ r ≤ left ∧ (0 ≤ r → a.length ≤ Mx ∧ ∀ x ∈ a, x.1.length ≤ Mx ∧ x.2.length ≤ Mx) := by
  unfold F_laws_szRuleS
  have ha' : a.length < 9223372036854775808 := ha
  have hM' : left ≤ 1048576 := hM
  rw [w64 (n := left - (a.length : Int)) (by omega) (by omega)]
  by_cases h : left - (a.length : Int) < 0
  · exact ⟨-1, by simp [h], by omega, by omega, by omega⟩
  · obtain ⟨r, e1, e2, e3, e4⟩ := loop_sz (a := a) (Q := fun x => x.1.length ≤ Mx ∧ x.2.length ≤ Mx) (f := F_laws_szRuleS_l1 a) (left := left - a.length) (fun i left x hi hx hg h0 hM => by
      obtain ⟨r, e1, e2, e3, e4⟩ := szRule (ht x hx).1 (ht x hx).2 h0 hM
      simp only [F_laws_szRuleS_l1, show (i : Int) < a.length by omega, decide_true, if_true, show (0 : Int) ≤ i by omega, and_self, Int.toNat_natCast, hg, e1, Option.bind_some, w64 (n := (i : Int) + 1) (by omega) (by omega)]
      by_cases hr : r < 0
      · exact .inr (by simp [hr])
      · exact .inl ⟨r, by omega, e3, e4 (by omega), by simp [hr]⟩) (fun left => by simp [F_laws_szRuleS_l1]) (by omega) (by show left - a.length ≤ 1048576; omega)
    refine ⟨r, by rw [if_neg (by simpa using h)]; exact e1, e2, by omega, fun hr => ⟨?_, e4 hr⟩⟩
    show a.length ≤ 1048576
    omega
theorem szSystem {s : Sys} (hs : BigS s) : ∃ r, F_laws_szSystem s 1048576 = some r ∧ (0 ≤ r → SmS s) := by
  obtain ⟨r, e1, e2, e3, e4⟩ := szI hs.sig (left := 1048576) (by omega) (by decide)
  unfold F_laws_szSystem F_laws_szSig
  rw [e1, Option.bind_some]
  by_cases hr : r < 0
  · exact ⟨-1, by simp [hr], by omega⟩
  · obtain ⟨r', g1, g2, g3, g4⟩ := szRuleS hs.rules hs.to (left := r) (by omega) (Int.le_trans e3 (by decide))
    simp only [hr, decide_false, Bool.false_eq_true, if_false, Option.bind_some, g1]
    by_cases hr' : r' < 0
    · exact ⟨-1, by simp [hr'], by omega⟩
    · exact ⟨r', by simp [hr'], fun h => ⟨e4 (by omega), (g4 h).1, (g4 h).2⟩⟩
theorem F_to21_eq {a : List Int} (h : a.length ≤ Mx) : F_to21 a = some a := by
  have h' : a.length ≤ 1048576 := h
  unfold F_to21
  rw [if_pos ⟨by omega, by omega, by omega⟩]
  have := loop_to (a := a) (z := List.replicate a.length 0) (g := id) (f := F_to21_l a) (by simp) (fun i out hi ho hm => by
    simp only [F_to21_l, show (i : Int) < a.length by omega, show (i : Int) < out.length by omega, decide_true, if_true, show (0 : Int) ≤ i by omega, and_self, Int.toNat_natCast, w64 (n := (i : Int) + 1) (by omega) (by omega), id]) (fun out => by simp [F_to21_l])
  simpa using this
theorem F_to116_eq {x : List Int × List Int} (h : x.1.length ≤ Mx ∧ x.2.length ≤ Mx) : F_to116 x = some x := by
  unfold F_to116
  rw [F_to21_eq h.1, Option.bind_some, F_to21_eq h.2, Option.bind_some]
theorem F_to54_eq {a : List (List Int × List Int)} (h : a.length ≤ Mx) (ht : ∀ x ∈ a, x.1.length ≤ Mx ∧ x.2.length ≤ Mx) : F_to54 a = some a := by
  have h' : a.length ≤ 1048576 := h
  unfold F_to54
  rw [if_pos ⟨by omega, by omega, by omega⟩]
  have := loop_to (a := a) (z := List.replicate a.length ([], [])) (g := id) (f := F_to54_l a) (by simp) (fun i out hi ho hm => by
    simp only [F_to54_l, show (i : Int) < a.length by omega, show (i : Int) < out.length by omega, decide_true, if_true, show (0 : Int) ≤ i by omega, and_self, Int.toNat_natCast, F_to116_eq (ht _ hm), Option.bind_some, w64 (n := (i : Int) + 1) (by omega) (by omega), id]) (fun out => by simp [F_to54_l])
  simpa using this
theorem F_to10_eq {s : Sys} (h : SmS s) : F_to10 s = some s := by
  unfold F_to10 F_to53
  rw [F_to21_eq h.sig, Option.bind_some, Option.bind_some, F_to54_eq h.rules h.to, Option.bind_some]
theorem F_pub10_eq {s : Sys} (h : SmS s) : F_pub10 s = some s := by
  unfold F_pub10
  rw [F_to10_eq h, Option.bind_some, if_pos ⟨rfl, rfl⟩]
theorem eqI_self {a : List Int} (h : Small a) : F_laws_eqInt64S a a = some true := by
  have h' : a.length < 1099511627776 := h
  unfold F_laws_eqInt64S
  rw [if_neg (by simp)]
  refine loop_self (a := a) (fun i hi => ?_) (by simp [F_laws_eqInt64S_l1])
  simp [F_laws_eqInt64S_l1, show (i : Int) < a.length by omega, w64 (n := (i : Int) + 1) (by omega) (by omega)]
theorem eqRule_self {x : List Int × List Int} (h : x.1.length ≤ Mx ∧ x.2.length ≤ Mx) : F_laws_eqRule x x = some true := by
  have h1 : x.1.length ≤ 1048576 := h.1
  have h2 : x.2.length ≤ 1048576 := h.2
  unfold F_laws_eqRule
  rw [eqI_self (show x.1.length < _ by omega), Option.bind_some, if_pos rfl, eqI_self (show x.2.length < _ by omega), Option.bind_some, if_pos rfl]
theorem eqSystem_self {s : Sys} (h : SmS s) : F_laws_eqSystem s s = some true := by
  have h1 : s.1.length ≤ 1048576 := h.sig
  have h2 : s.2.length ≤ 1048576 := h.rules
  have e : F_laws_eqRuleS s.2 s.2 = some true := by
    unfold F_laws_eqRuleS
    rw [if_neg (by simp)]
    refine loop_self (a := s.2) (fun i hi => ?_) (by simp [F_laws_eqRuleS_l1])
    simp only [F_laws_eqRuleS_l1, show (i : Int) < s.2.length by omega, decide_true, if_true, show (0 : Int) ≤ i by omega, and_self, Int.toNat_natCast, eqRule_self (h.to _ (getD_mem hi)), Option.bind_some, w64 (n := (i : Int) + 1) (by omega) (by omega)]
  unfold F_laws_eqSystem F_laws_eqSig
  rw [eqI_self (show s.1.length < _ by omega)]
  simp [e]
theorem eqII_self {a : List (List Int)} (h : a.length ≤ Mx) (ht : ∀ t ∈ a, t.length ≤ Mx) : F_laws_eqInt64SS a a = some true := by
  have h1 : a.length ≤ 1048576 := h
  unfold F_laws_eqInt64SS
  rw [if_neg (by simp)]
  refine loop_self (a := a) (fun i hi => ?_) (by simp [F_laws_eqInt64SS_l1])
  have := ht _ (getD_mem hi)
  have h2 : (a.getD i default).length ≤ 1048576 := this
  simp only [F_laws_eqInt64SS_l1, show (i : Int) < a.length by omega, decide_true, if_true, show (0 : Int) ≤ i by omega, and_self, Int.toNat_natCast, eqI_self (show (a.getD i default).length < _ by omega), Option.bind_some, w64 (n := (i : Int) + 1) (by omega) (by omega)]
end Go.Proofs.YtklfjpilhbkekaaGreat
namespace Go.Proofs.YtklfjpilhbkekaaGreat
open Go Abx Tm
abbrev Kx : Int := 1152921504606846976
def mI (x : Int) (k : Int) : Int × Int := (k, k + 1)
theorem mAcc_le {α : Type} {g : α → Int → α × Int} {B : Int} (hB : 0 ≤ B) : ∀ {a : List α} {k : Int}, 0 ≤ k → (∀ x ∈ a, ∀ k, 0 ≤ k → k ≤ (g x k).2 ∧ (g x k).2 ≤ k + B) → k ≤ (mAcc g a k).2 ∧ (mAcc g a k).2 ≤ k + B * a.length
  | [], k, _, _ => by simp [mAcc]
  | x :: r, k, h0, h => by
    obtain ⟨h1, h2⟩ := h x (by simp) k h0
    obtain ⟨h3, h4⟩ := mAcc_le hB (a := r) (k := (g x k).2) (by omega) (fun y hy => h y (by simp [hy]))
    simp only [mAcc, List.length_cons, Int.natCast_add, Int.natCast_one, Int.mul_add, Int.mul_one]
    omega
theorem mI_le {a : List Int} {k : Int} (h0 : 0 ≤ k) : k ≤ (mAcc mI a k).2 ∧ (mAcc mI a k).2 ≤ k + a.length := by
  have := mAcc_le (g := mI) (B := 1) (by decide) (a := a) (k := k) h0 (fun x _ k _ => by simp only [mI]; omega)
  omega
theorem F_mk25_eq {a : List Int} {n : Nat} {k : Int} (hn : n = a.length) (hl : a.length ≤ Mx) (h0 : 0 ≤ k) (hk : k ≤ 4 * Kx) : F_mk25 n a k = some (mAcc mI a k) := by
  subst hn
  have hl' : a.length ≤ 1048576 := hl
  have hk' : k ≤ 4 * 1152921504606846976 := hk
  unfold F_mk25
  refine loop_mk (g := mI) (fun i k' => 0 ≤ k' ∧ k' ≤ k + i) (fun i k' b x hi hb hx hg hp => ?_) (fun k' b => by simp [F_mk25_l]) ⟨h0, by omega⟩
  obtain ⟨p0, p1⟩ := hp
  refine ⟨?_, by simp only [mI]; omega⟩
  simp only [F_mk25_l, show (i : Int) < a.length by omega, show (i : Int) < b.length by omega, decide_true, if_true, show (0 : Int) ≤ i by omega, and_self, Int.toNat_natCast, w64 (n := (i : Int) + 1) (by omega) (by omega), w64 (n := k' + 1) (by omega) (by omega), mI]
def mL (x : List Int) (k : Int) : List Int × Int := mAcc mI x k
theorem mL_le {a : List (List Int)} {k : Int} (h0 : 0 ≤ k) (ht : ∀ t ∈ a, t.length ≤ Mx) : k ≤ (mAcc mL a k).2 ∧ (mAcc mL a k).2 ≤ k + 1048576 * a.length :=
  mAcc_le (g := mL) (B := 1048576) (by decide) h0 fun x hx k hk => by
    have h1 : x.length ≤ 1048576 := ht x hx
    have := mI_le (a := x) hk
    simp only [mL]; omega
theorem F_mk132_eq {a : List (List Int)} {n : Nat} {k : Int} (hn : n = a.length) (hl : a.length ≤ Mx) (ht : ∀ t ∈ a, t.length ≤ Mx) (h0 : 0 ≤ k) (hk : k ≤ 3 * Kx) : F_mk132 n a k = some (mAcc mL a k) := by
  subst hn
  have hl' : a.length ≤ 1048576 := hl
  have hk' : k ≤ 3 * 1152921504606846976 := hk
  unfold F_mk132
  refine loop_mk (g := mL) (fun i k' => 0 ≤ k' ∧ k' ≤ k + 1048576 * i) (fun i k' b x hi hb hx hg hp => ?_) (fun k' b => by simp [F_mk132_l]) ⟨h0, by omega⟩
  obtain ⟨p0, p1⟩ := hp
  have hx' : x.length ≤ 1048576 := ht x hx
  have := mI_le (a := x) p0
  refine ⟨?_, by simp only [mL]; omega⟩
  simp only [F_mk132_l, show (i : Int) < a.length by omega, show (i : Int) < b.length by omega, decide_true, if_true, show (0 : Int) ≤ i by omega, and_self, Int.toNat_natCast, hg, F_mk25_eq rfl (ht x hx) p0 (show k' ≤ 4 * 1152921504606846976 by omega), Option.bind_some, w64 (n := (i : Int) + 1) (by omega) (by omega), mL]
def mR (x : List Int × List Int) (k : Int) : (List Int × List Int) × Int := (((mAcc mI x.1 k).1, (mAcc mI x.2 (mAcc mI x.1 k).2).1), (mAcc mI x.2 (mAcc mI x.1 k).2).2)
theorem mR_le {x : List Int × List Int} {k : Int} (h0 : 0 ≤ k) (h : x.1.length ≤ Mx ∧ x.2.length ≤ Mx) : k ≤ (mR x k).2 ∧ (mR x k).2 ≤ k + 2097152 := by
  have h1 : x.1.length ≤ 1048576 := h.1
  have h2 : x.2.length ≤ 1048576 := h.2
  have g1 := mI_le (a := x.1) h0
  have g2 := mI_le (a := x.2) (k := (mAcc mI x.1 k).2) (by omega)
  simp only [mR]; omega
theorem F_mk68_eq {a : List (List Int × List Int)} {n : Nat} {k : Int} (hn : n = a.length) (hl : a.length ≤ Mx) (ht : ∀ x ∈ a, x.1.length ≤ Mx ∧ x.2.length ≤ Mx) (h0 : 0 ≤ k) (hk : k ≤ 2 * Kx) : F_mk68 n a k = some (mAcc mR a k) := by
  subst hn
  have hl' : a.length ≤ 1048576 := hl
  have hk' : k ≤ 2 * 1152921504606846976 := hk
  unfold F_mk68
  refine loop_mk (g := mR) (fun i k' => 0 ≤ k' ∧ k' ≤ k + 2097152 * i) (fun i k' b x hi hb hx hg hp => ?_) (fun k' b => by simp [F_mk68_l]) ⟨h0, by omega⟩
  obtain ⟨p0, p1⟩ := hp
  have hx1 : x.1.length ≤ 1048576 := (ht x hx).1
  have g1 := mI_le (a := x.1) p0
  have := mR_le p0 (ht x hx)
  refine ⟨?_, by omega⟩
  simp only [F_mk68_l, show (i : Int) < a.length by omega, show (i : Int) < b.length by omega, decide_true, if_true, show (0 : Int) ≤ i by omega, and_self, Int.toNat_natCast, hg, F_mk25_eq rfl (ht x hx).1 p0 (show k' ≤ 4 * 1152921504606846976 by omega),
    F_mk25_eq rfl (ht x hx).2 (show 0 ≤ (mAcc mI x.1 k').2 by omega) (show (mAcc mI x.1 k').2 ≤ 4 * 1152921504606846976 by omega), Option.bind_some, w64 (n := (i : Int) + 1) (by omega) (by omega), mR]
theorem F_mk16_ok {s : Sys} (h : SmS s) : ∃ m, F_mk16 s.1.length s.2.length s 1 = some m ∧ 0 ≤ m.2 ∧ m.2 ≤ Kx := by
  have h1 : s.1.length ≤ 1048576 := h.sig
  have h2 : s.2.length ≤ 1048576 := h.rules
  have g1 := mI_le (a := s.1) (k := 1) (by decide)
  have g2 := mAcc_le (g := mR) (B := 2097152) (by decide) (a := s.2) (k := (mAcc mI s.1 1).2) (by omega) (fun x hx k hk => mR_le hk (h.to x hx))
  unfold F_mk16 F_mk67
  rw [F_mk25_eq rfl h.sig (by decide) (by decide), Option.bind_some, Option.bind_some, F_mk68_eq rfl h.rules h.to (show 0 ≤ (mAcc mI s.1 1).2 by omega) (show (mAcc mI s.1 1).2 ≤ 2 * 1152921504606846976 by omega), Option.bind_some]
  refine ⟨_, rfl, ?_, ?_⟩
  · show 0 ≤ (mAcc mR s.2 (mAcc mI s.1 1).2).2
    omega
  · show (mAcc mR s.2 (mAcc mI s.1 1).2).2 ≤ 1152921504606846976
    omega
theorem heldI {a : List Int} {k : Int} (hl : a.length ≤ Mx) (h0 : 0 ≤ k) (hk : k ≤ 4 * Kx) : F_laws_heldInt64S (mAcc mI a k).1 k = some (mAcc mI a k).2 := by
  have hl' : a.length ≤ 1048576 := hl
  have hk' : k ≤ 4 * 1152921504606846976 := hk
  have hm : (mAcc mI a k).1.length = a.length := mAcc_len
  unfold F_laws_heldInt64S
  refine loop_held (g := mI) (fun i k' => 0 ≤ k' ∧ k' ≤ k + i) (fun i k' x hi hx hg hp => ?_) (fun k' => by simp [F_laws_heldInt64S_l1, hm]) ⟨h0, by omega⟩
  obtain ⟨p0, p1⟩ := hp
  refine ⟨?_, by simp only [mI]; omega⟩
  simp only [F_laws_heldInt64S_l1, hm, show (i : Int) < a.length by omega, decide_true, if_true, show (0 : Int) ≤ i by omega, and_self, Int.toNat_natCast, hg, mI, bne_self_eq_false, Bool.false_eq_true, if_false, w64 (n := (i : Int) + 1) (by omega) (by omega), w64 (n := k' + 1) (by omega) (by omega)]
end Go.Proofs.YtklfjpilhbkekaaGreat
