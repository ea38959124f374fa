/- Plain theory of terms and what the equations of the functions come to; Functions of the program and the equations that they compute; The layer of data and running functions, and its rules; The law lifted to the statement; What the tool asks of the program for the law, by computation; nothing is assumed. -/
import Derived.Test.YtglpjlpmijfocaaGreatAe
import Derived.Carry
import Derived.Test.YtglpjlpmijfocaaGreatRows
import Derived.ProofKit
import Derived.JoinedOf
import Derived.KernelRfl
set_option linter.unusedSimpArgs false
set_option linter.unusedVariables false
set_option linter.unusedSectionVars false
set_option linter.unnecessarySimpa false
namespace Go.Proofs.YtglpjlpmijfocaaGreat
open Go Abx Tm
theorem w64 {n : Int} (h1 : -9223372036854775808 ≤ n) (h2 : n < 9223372036854775808) : IntKind.i64.wrap n = n := by
  rw [wrap_i64 h1 h2]
theorem getD_get {α : Type} [Inhabited α] {xs : List α} {i : Nat} (h : i < xs.length) : xs.getD i default = xs[i] := by simp [List.getD_eq_getElem?_getD, List.getElem?_eq_getElem h]
theorem getD_mem {α : Type} [Inhabited α] {xs : List α} {i : Nat} (h : i < xs.length) : xs.getD i default ∈ xs := by rw [getD_get h]; exact List.getElem_mem h
theorem loop_all {α : Type} [Inhabited α] {xs : List α} {p : α → Bool} {f : Int → Option (Int ⊕ Bool)}
    (h : ∀ (i : Nat) (x : α), i < xs.length → (i : Int) < xs.length → x ∈ xs → xs.getD i default = x → f i = some (if p x = true then .inl ((i : Int) + 1) else .inr false)) (he : f xs.length = some (.inr true)) : loopC f 0 = some (xs.all p) := by
  have key : ∀ k i : Nat, i + k = xs.length → loopC f (i : Int) = some ((xs.drop i).all p) := by
    intro k
    induction k with
    | zero =>
      intro i hi
      obtain rfl : i = xs.length := by omega
      rw [loopC_inr he]; simp
    | succ k ih =>
      intro i hi
      have hlt : i < xs.length := by omega
      have e := h i _ hlt (by omega) (List.getElem_mem hlt) (getD_get hlt)
      rw [List.drop_eq_getElem_cons hlt, List.all_cons]
      cases hp : p xs[i] with
      | true =>
        rw [hp, if_pos rfl] at e
        rw [loopC_inl e]
        have := ih (i + 1) (by omega)
        rw [show ((i : Int) + 1) = ((i + 1 : Nat) : Int) by omega, this]; simp
      | false =>
        rw [hp] at e
        simp only [Bool.false_eq_true, if_false] at e
        rw [loopC_inr e]; simp
  simpa using key xs.length 0 (by omega)
theorem loop_any {α β : Type} [Inhabited α] {xs : List α} {p : α → Bool} {f : Int → Option (Int ⊕ β)} {y n : β}
    (h : ∀ (i : Nat) (x : α), i < xs.length → (i : Int) < xs.length → x ∈ xs → xs.getD i default = x → f i = some (if p x = true then .inr y else .inl ((i : Int) + 1))) (he : f xs.length = some (.inr n)) :
    loopC f 0 = some (if xs.any p = true then y else n) := by
  have key : ∀ k i : Nat, i + k = xs.length → loopC f (i : Int) = some (if (xs.drop i).any p = true then y else n) := by
    intro k
    induction k with
    | zero =>
      intro i hi
      obtain rfl : i = xs.length := by omega
      rw [loopC_inr he]; simp
    | succ k ih =>
      intro i hi
      have hlt : i < xs.length := by omega
      have e := h i _ hlt (by omega) (List.getElem_mem hlt) (getD_get hlt)
      rw [List.drop_eq_getElem_cons hlt, List.any_cons]
      cases hp : p xs[i] with
      | false =>
        rw [hp] at e
        simp only [Bool.false_eq_true, if_false] at e
        rw [loopC_inl e]
        have := ih (i + 1) (by omega)
        rw [show ((i : Int) + 1) = ((i + 1 : Nat) : Int) by omega, this]; simp
      | true =>
        rw [hp, if_pos rfl] at e
        rw [loopC_inr e]; simp
  simpa using key xs.length 0 (by omega)
abbrev Small {α : Type} (xs : List α) : Prop := xs.length < 1099511627776
def arOk (n : Int) : Bool := decide (0 ≤ n) && decide (n ≤ 3)
def sigOk (a : List Int) : Bool := decide (1 ≤ a.length) && decide (a.length ≤ 8) && a.all arOk
theorem sigOk_iff {a : List Int} : sigOk a = true ↔ 1 ≤ a.length ∧ a.length ≤ 8 ∧ ∀ n ∈ a, 0 ≤ n ∧ n ≤ 3 := by simp [sigOk, arOk, and_assoc]
theorem F_spec_l1In_eq (x lo hi : Int) : F_spec_l1In x lo hi = some (decide (lo ≤ x) && decide (x ≤ hi)) := by
  unfold F_spec_l1In
  by_cases h1 : lo ≤ x <;> by_cases h2 : x ≤ hi <;> simp [h1, h2]
theorem F_impl_SigOk_eq (a : List Int) : F_impl_SigOk a = some (sigOk a) := by
  unfold F_impl_SigOk
  by_cases h1 : (a.length : Int) < 1
  · have : ¬ 1 ≤ a.length := by omega
    simp [h1, sigOk, this]
  · by_cases h2 : 8 < (a.length : Int)
    · have : ¬ a.length ≤ 8 := by omega
      simp [h1, h2, sigOk, this]
    · have e1 : 1 ≤ a.length := by omega
      have e2 : a.length ≤ 8 := by omega
      simp only [h1, h2, decide_false, Bool.false_eq_true, if_false, sigOk, e1, e2, decide_true, Bool.true_and]
      refine loop_all (fun i x hi hi' _ hx => ?_) (by simp [F_impl_SigOk_l1])
      have hw : IntKind.i64.wrap ((i : Int) + 1) = i + 1 := w64 (by omega) (by omega)
      simp only [F_impl_SigOk_l1, hi', decide_true, if_true, Int.toNat_natCast, hw, show (0 : Int) ≤ i by omega, and_self, arOk, hx]
      by_cases c1 : x < 0
      · simp [c1, show ¬ 0 ≤ x by omega]
      · by_cases c2 : 3 < x
        · simp [c1, c2, show ¬ x ≤ 3 by omega]
        · simp [c1, c2, show 0 ≤ x by omega, show x ≤ 3 by omega]
theorem F_spec_SigOk_eq (a : List Int) : F_spec_SigOk a = some (sigOk a) := by
  unfold F_spec_SigOk
  simp only [F_spec_l1In_eq, Option.bind_some]
  by_cases h : 1 ≤ a.length ∧ a.length ≤ 8
  · have e1 : (1 : Int) ≤ a.length := by omega
    have e2 : (a.length : Int) ≤ 8 := by omega
    simp only [e1, e2, decide_true, Bool.and_self, if_true, sigOk, h.1, h.2, Bool.true_and]
    refine loop_all (fun i x hi hi' _ hx => ?_) (by simp [F_spec_SigOk_l1])
    have hw : IntKind.i64.wrap ((i : Int) + 1) = i + 1 := w64 (by omega) (by omega)
    simp only [F_spec_SigOk_l1, hi', decide_true, if_true, Int.toNat_natCast, hw, show (0 : Int) ≤ i by omega, and_self, arOk, hx, F_spec_l1In_eq, Option.bind_some]
    by_cases h3 : 0 ≤ x <;> by_cases h4 : x ≤ 3 <;> simp [h3, h4]
  · have : (decide ((1 : Int) ≤ a.length) && decide ((a.length : Int) ≤ 8)) = false := by simp; omega
    rw [this]
    have : sigOk a = false := by
      cases hs : sigOk a with
      | false => rfl
      | true => have := sigOk_iff.1 hs; omega
    simp [this]
theorem F_slices_Min_ok {x : List Int} (h0 : 0 < x.length) (hs : Small x) : Okk True (F_slices_Min_int64_int64 x) fun m => ∀ b, b ≤ m ↔ ∀ y ∈ x, b ≤ y := by
  unfold F_slices_Min_int64_int64
  have h1 : ¬ (x.length : Int) < 1 := by omega
  have h2 : (0 : Int) < x.length := by omega
  simp only [h1, h2, decide_false, Bool.false_eq_true, if_false, Int.le_refl, and_self, if_true]
  refine Okk.loop (fun s : Int × Int => ∃ i : Nat, s.2 = (i : Int) ∧ 1 ≤ i ∧ i ≤ x.length ∧ ∀ b, b ≤ s.1 ↔ ∀ y ∈ x.take i, b ≤ y) (fun s : Int × Int => x.length - s.2.toNat) ⟨1, rfl, Nat.le_refl _, by omega, fun b => ?_⟩ ?_
  · cases x with
    | nil => simp at h0
    | cons y x => simp
  · rintro ⟨m, i'⟩ ⟨i, rfl, h3, h4, h5⟩
    simp only [F_slices_Min_int64_int64_l1] at h5 ⊢
    by_cases hi : i < x.length
    · have hi' : (i : Int) < x.length := by omega
      have hw : IntKind.i64.wrap ((i : Int) + 1) = i + 1 := w64 (by omega) (by omega)
      simp only [hi', decide_true, if_true, show (0 : Int) ≤ i by omega, and_self, Int.toNat_natCast, getD_get hi, hw]
      refine .some ⟨⟨i + 1, by simp, by omega, by omega, fun b => ?_⟩, by simp; omega⟩
      rw [List.take_add_one, List.getElem?_eq_getElem hi]
      have := h5 b
      simp only [List.mem_append, Option.toList_some, List.mem_singleton]
      split
      · constructor
        · rintro hb y (hy | rfl)
          · exact (h5 b).1 (by omega) y hy
          · exact hb
        · intro hb; exact hb _ (.inr rfl)
      · constructor
        · rintro hb y (hy | rfl)
          · exact (h5 b).1 hb y hy
          · omega
        · intro hb; exact (h5 b).2 fun y hy => hb y (.inl hy)
    · have hi' : ¬ (i : Int) < x.length := by omega
      simp only [hi', decide_false, Bool.false_eq_true, if_false, Option.map_some]
      refine .some fun b => ?_
      rw [h5 b, List.take_of_length_le (by omega)]
theorem ari_le {a : List Int} (ha : sigOk a = true) (x : Int) : ari a x ≤ 3 := by
  have := (sigOk_iff.1 ha).2.2
  unfold ari
  split
  · omega
  · rw [List.getD_eq_getElem?_getD]
    cases h : a[x.toNat]? with
    | none => simp
    | some y => have := this y (List.mem_of_getElem? h); simp; omega
theorem F_impl_arityAt_eq {a : List Int} (ha : sigOk a = true) {x : Int} (hx : x < a.length) : F_impl_arityAt a x = some (ari a x : Int) := by
  unfold F_impl_arityAt ari
  by_cases h : x < 0
  · simp [h]
  · have h2 : 0 ≤ x := by omega
    simp only [h, decide_false, Bool.false_eq_true, if_false, h2, hx, and_self, if_true]
    have hl : x.toNat < a.length := by omega
    have := (sigOk_iff.1 ha).2.2 _ (getD_mem hl)
    rw [show a.getD x.toNat 0 = a.getD x.toNat default from rfl]
    rw [show ((a.getD x.toNat default).toNat : Int) = a.getD x.toNat default by omega]
theorem F_impl_cursor_next_eq {a t : List Int} (ha : sigOk a = true) (hs : Small t) {i : Nat} (hi : i ≤ t.length) : F_impl_cursor_next a t i =
    some (match t.drop i with | [] => (-1, (i : Int)) | x :: _ => if x < a.length then ((ari a x : Int), (i : Int) + 1) else (-1, i)) := by
  unfold F_impl_cursor_next
  by_cases h : i < t.length
  · have h1 : ¬ (t.length : Int) ≤ i := by omega
    have h2 : (i : Int) < t.length := by omega
    have hw : IntKind.i64.wrap ((i : Int) + 1) = i + 1 := w64 (by omega) (by omega)
    have hw2 : IntKind.i64.wrap ((i : Int) + 1 - 1) = i := by rw [w64 (by omega) (by omega)]; omega
    rw [List.drop_eq_getElem_cons h]
    simp only [h1, h2, decide_false, Bool.false_eq_true, if_false, show (0 : Int) ≤ i by omega, and_self, if_true, Int.toNat_natCast, getD_get h, hw, hw2]
    by_cases h3 : t[i] < a.length
    · have h4 : ¬ (a.length : Int) ≤ t[i] := by omega
      simp [h3, h4, F_impl_arityAt_eq ha h3]
    · have h4 : (a.length : Int) ≤ t[i] := by omega
      simp [h3, h4]
  · have h1 : (t.length : Int) ≤ i := by omega
    rw [List.drop_of_length_le (by omega)]
    simp [h1]
theorem skip_drop {a t : List Int} {i k : Nat} (h : i < t.length) : Tm.skip a (t.drop i) (k + 1) = if okx a (t[i]) then Tm.skip a (t.drop (i + 1)) (k + ari a t[i]) else none := by
  rw [List.drop_eq_getElem_cons h, skip_cons]
def endI (a t : List Int) (i : Nat) : Int := match Tm.skip a (t.drop i) 1 with | some r => (t.length : Int) - r.length | none => -1
theorem skip_len {a : List Int} : ∀ {t r : List Int} {k : Nat}, Tm.skip a t k = some r → r.length + k ≤ t.length := by
  intro t r k h
  obtain ⟨u, rfl, hu⟩ := skip_split h
  have := hu.len
  simp; omega
theorem F_impl_endAt_eq {a t : List Int} (ha : sigOk a = true) (hs : Small t) (hm : ∀ x ∈ t, -24 ≤ x) {i : Nat} (hi : i ≤ t.length) : F_impl_endAt a t i = some (endI a t i) := by
  have key : Okk True (F_impl_cursor_skip a t i) fun r => match Tm.skip a (t.drop i) 1 with | some q => r = (true, (t.length : Int) - q.length) | none => r.1 = false := by
    unfold F_impl_cursor_skip
    refine Okk.loop (fun s => ∃ (k c : Nat), s = ((k : Int), (c : Int)) ∧ c ≤ t.length ∧ k ≤ 1 + 3 * c ∧ Tm.skip a (t.drop c) k = Tm.skip a (t.drop i) 1) (fun s => t.length - s.2.toNat) ⟨1, i, rfl, hi, by omega, rfl⟩ ?_
    rintro _ ⟨k, c, rfl, h1, h2, h3⟩
    simp only [F_impl_cursor_skip_l1]
    cases k with
    | zero =>
      simp only [show ¬ (0 : Int) < ((0 : Nat) : Int) by omega, decide_false, Bool.false_eq_true, if_false, Option.map_some]
      refine .some ?_
      simp only [Rnd]
      rw [← h3, skip_zero]
      simp; omega
    | succ k =>
      simp only [show (0 : Int) < ((k + 1 : Nat) : Int) by omega, decide_true, if_true, F_impl_cursor_next_eq ha hs h1, Option.bind_some]
      by_cases hc : c < t.length
      · rw [List.drop_eq_getElem_cons hc]
        rw [skip_drop hc] at h3
        simp only
        have hx := hm _ (List.getElem_mem hc)
        by_cases hlt : t[c] < a.length
        · have ho : okx a t[c] := ⟨hx, hlt⟩
          rw [if_pos ho] at h3
          have hle := ari_le ha t[c]
          simp only [hlt, if_true, show ¬ ((ari a t[c] : Nat) : Int) < 0 by omega, decide_false, Bool.false_eq_true, if_false]
          have hw1 : IntKind.i64.wrap (((k + 1 : Nat) : Int) + (ari a t[c] : Int)) = (k + 1 : Nat) + ari a t[c] := w64 (by omega) (by omega)
          rw [hw1, w64 (by omega) (by omega)]
          refine .some ⟨⟨k + ari a t[c], c + 1, by simp; omega, by omega, by omega, h3⟩, by simp; omega⟩
        · have ho : ¬ okx a t[c] := fun h => hlt h.2
          rw [if_neg ho] at h3
          simp only [hlt, if_false, show (-1 : Int) < 0 by omega, decide_true, if_true, Option.map_some]
          refine .some ?_
          simp only [Rnd]
          rw [← h3]; trivial
      · rw [List.drop_of_length_le (by omega), skip_nil] at h3
        rw [List.drop_of_length_le (by omega)]
        simp only [show (-1 : Int) < 0 by omega, decide_true, if_true, Option.map_some]
        refine .some ?_
        simp only [Rnd]
        rw [← h3]; trivial
  unfold F_impl_endAt
  obtain ⟨r, h1, h2⟩ := key.get
  rw [h1, Option.bind_some]
  unfold endI
  cases h : Tm.skip a (t.drop i) 1 with
  | none => rw [h] at h2; simp only at h2; simp [h2]
  | some q => rw [h] at h2; simp only at h2; simp [h2]
def termOk (a t : List Int) : Bool := sigOk a && (decide (1 ≤ t.length) && decide (t.length ≤ 60)) && decide (Wf a 1 t)
theorem termOk_iff {a t : List Int} : termOk a t = true ↔ sigOk a = true ∧ 1 ≤ t.length ∧ t.length ≤ 60 ∧ Wf a 1 t := by simp [termOk, and_assoc]
theorem endI_wf {a t : List Int} : endI a t 0 = (t.length : Int) ↔ Wf a 1 t := by
  unfold endI Wf
  rw [List.drop_zero]
  cases h : Tm.skip a t 1 with
  | none =>
    simp only [reduceCtorEq, iff_false]
    try omega
  | some q =>
    simp only [Option.some.injEq]
    constructor
    · intro h; exact List.length_eq_zero_iff.1 (by omega)
    · rintro rfl; simp
theorem F_impl_TermOk_eq (a t : List Int) : F_impl_TermOk a t = some (termOk a t) := by
  unfold F_impl_TermOk termOk
  rw [F_impl_SigOk_eq, Option.bind_some]
  cases ha : sigOk a with
  | false => simp
  | true =>
    simp only [if_true, Bool.true_and]
    by_cases h1 : 1 ≤ t.length
    · by_cases h2 : t.length ≤ 60
      · have e1 : (0 : Int) < t.length := by omega
        have e2 : (t.length : Int) ≤ 60 := by omega
        simp only [e1, e2, h1, h2, decide_true, if_true, Bool.and_self, Bool.true_and]
        obtain ⟨m, h3, h4⟩ := (F_slices_Min_ok (x := t) (by omega) (show t.length < _ by omega)).get
        rw [h3, Option.bind_some]
        by_cases h5 : -24 ≤ m
        · simp only [h5, decide_true, if_true]
          have := F_impl_endAt_eq ha (show t.length < _ by omega) ((h4 _).1 h5) (i := 0) (by omega)
          rw [show ((0 : Nat) : Int) = 0 by rfl] at this
          rw [this, Option.bind_some]
          by_cases hw : Wf a 1 t
          · simp [hw, endI_wf.2 hw]
          · have := mt endI_wf.1 hw
            simp [hw, this]
        · have hw : ¬ Wf a 1 t := fun hw => h5 ((h4 _).2 fun y hy => (hw.all y hy).1)
          simp [h5, hw]
      · have e2 : ¬ (t.length : Int) ≤ 60 := by omega
        have e1 : (0 : Int) < t.length := by omega
        simp [e1, e2, h2]
    · have e1 : ¬ (0 : Int) < t.length := by omega
      simp only [e1, h1, decide_false, Bool.false_eq_true, if_false, Bool.false_and]
theorem F_spec_l1Arity_eq {a : List Int} (ha : sigOk a = true) (x : Int) : F_spec_l1Arity a x = some (if okx a x then (ari a x : Int) else -1) := by
  have hl := (sigOk_iff.1 ha).2.1
  unfold F_spec_l1Arity
  simp only [F_spec_l1In_eq, Option.bind_some, w64 (n := (a.length : Int) - 1) (by omega) (by omega)]
  by_cases h1 : -24 ≤ x
  · by_cases h2 : x ≤ -1
    · simp [h1, h2, okx, ari, show x < 0 by omega, show x < (a.length : Int) by omega]
    · by_cases h3 : x < a.length
      · have hx : x.toNat < a.length := by omega
        have := (sigOk_iff.1 ha).2.2 _ (getD_mem hx)
        simp only [h1, h2, h3, okx, show 0 ≤ x by omega, show x ≤ (a.length : Int) - 1 by omega, decide_true, decide_false, Bool.and_false, Bool.and_self, Bool.false_eq_true, if_false, and_self, if_true, ari, show ¬ x < 0 by omega]
        rw [show a.getD x.toNat 0 = a.getD x.toNat default from rfl]
        rw [show ((a.getD x.toNat default).toNat : Int) = a.getD x.toNat default by omega]
      · simp [h1, h2, h3, okx, show ¬ x ≤ (a.length : Int) - 1 by omega]
  · simp [h1, okx, show ¬ 0 ≤ x by omega]
theorem F_spec_l1End_eq {a t : List Int} (ha : sigOk a = true) (hs : Small t) {i : Nat} (hi : i ≤ t.length) : F_spec_l1End a t i = some (endI a t i) := by
  have key : Okk True (F_spec_l1End a t i) (· = endI a t i) := by
    unfold F_spec_l1End
    refine Okk.loop (fun s : Int × Int => ∃ (k c : Nat), s = (((k + 1 : Nat) : Int), (c : Int)) ∧ c ≤ t.length ∧ k ≤ 3 * c ∧ Tm.skip a (t.drop c) (k + 1) = Tm.skip a (t.drop i) 1) (fun s : Int × Int => t.length - s.2.toNat) ⟨0, i, rfl, hi, by omega, rfl⟩ ?_
    rintro _ ⟨k, c, rfl, h1, h2, h3⟩
    simp only [F_spec_l1End_l1]
    by_cases hc : c < t.length
    · rw [skip_drop hc] at h3
      have hc' : (c : Int) < t.length := by omega
      simp only [hc', decide_true, if_true, show (0 : Int) ≤ c by omega, and_self, Int.toNat_natCast, getD_get hc, F_spec_l1Arity_eq ha, Option.bind_some]
      have hle := ari_le ha t[c]
      by_cases ho : okx a t[c]
      · rw [if_pos ho] at h3
        simp only [ho, if_true, show ¬ ((ari a t[c] : Nat) : Int) < 0 by omega, decide_false, Bool.false_eq_true, if_false]
        rw [w64 (n := ((k + 1 : Nat) : Int) + (ari a t[c] : Int)) (by omega) (by omega), w64 (n := ((k + 1 : Nat) : Int) + (ari a t[c] : Int) - 1) (by omega) (by omega), w64 (n := (c : Int) + 1) (by omega) (by omega)]
        cases hk : k + ari a t[c] with
        | zero =>
          rw [hk, skip_zero] at h3
          have : (((k + 1 : Nat) : Int) + (ari a t[c] : Int) - 1 == 0) = true := by simp; omega
          simp only [this, if_true, Option.map_some]
          refine .some ?_
          simp only [Rnd, endI]
          rw [← h3]
          simp; omega
        | succ q =>
          have : ¬ (((k + 1 : Nat) : Int) + (ari a t[c] : Int) - 1 == 0) = true := by simp; omega
          simp only [this, if_false]
          refine .some ⟨⟨q, c + 1, by simp; omega, by omega, by omega, by rw [← hk]; exact h3⟩, by simp; omega⟩
      · rw [if_neg ho] at h3
        simp only [ho, if_false, show (-1 : Int) < 0 by omega, decide_true, if_true, Option.map_some]
        refine .some ?_
        simp only [Rnd, endI]
        rw [← h3]
    · have hc' : ¬ (c : Int) < t.length := by omega
      rw [List.drop_of_length_le (by omega), skip_nil] at h3
      simp only [hc', decide_false, Bool.false_eq_true, if_false, Option.map_some]
      refine .some ?_
      simp only [Rnd, endI]
      rw [← h3]
  exact key.eq
theorem F_spec_TermOk_eq (a t : List Int) : F_spec_TermOk a t = some (termOk a t) := by
  unfold F_spec_TermOk termOk
  rw [F_spec_SigOk_eq, Option.bind_some]
  cases ha : sigOk a with
  | false => simp
  | true =>
    simp only [if_true, Bool.true_and, F_spec_l1In_eq, Option.bind_some]
    have e : (decide ((1 : Int) ≤ t.length) && decide ((t.length : Int) ≤ 60)) = (decide (1 ≤ t.length) && decide (t.length ≤ 60)) := by
      congr 1 <;> exact decide_eq_decide.2 (by omega)
    rw [e]
    by_cases h : 1 ≤ t.length ∧ t.length ≤ 60
    · simp only [h.1, h.2, decide_true, Bool.and_self, if_true, Bool.true_and]
      have := F_spec_l1End_eq ha (show Small t by show t.length < _; omega) (i := 0) (by omega)
      rw [show ((0 : Nat) : Int) = 0 by rfl] at this
      rw [this, Option.bind_some]
      by_cases hw : Wf a 1 t
      · simp [hw, endI_wf.2 hw]
      · have := mt endI_wf.1 hw
        simp [hw, this]
    · have : (decide (1 ≤ t.length) && decide (t.length ≤ 60)) = false := by simp; omega
      simp [this]
theorem F_slices_Contains_eq {s : List Int} (hs : Small s) (v : Int) : F_slices_Contains_int64_int64 s v = some (decide (v ∈ s)) := by
  have key : Okk True (F_slices_Index_int64_int64 s v) fun r => 0 ≤ r ↔ v ∈ s := by
    unfold F_slices_Index_int64_int64
    refine Okk.loop (fun i' : Int => ∃ i : Nat, i' = i ∧ i ≤ s.length ∧ v ∉ s.take i) (fun i' : Int => s.length - i'.toNat) ⟨0, rfl, by omega, by simp⟩ ?_
    rintro _ ⟨i, rfl, h1, h2⟩
    simp only [F_slices_Index_int64_int64_l1]
    by_cases hi : i < s.length
    · have hi' : (i : Int) < s.length := by omega
      simp only [hi', decide_true, if_true, show (0 : Int) ≤ i by omega, and_self, Int.toNat_natCast, getD_get hi, w64 (n := (i : Int) + 1) (by omega) (by omega)]
      by_cases hv : v = s[i]
      · simp only [hv, beq_self_eq_true, if_true, Option.map_some]
        refine .some ?_
        simp only [Rnd]
        exact ⟨fun _ => List.getElem_mem hi, fun _ => by omega⟩
      · have : ¬ (v == s[i]) = true := by simpa using hv
        simp only [this, if_false]
        refine .some ⟨⟨i + 1, by simp, by omega, ?_⟩, by simp; omega⟩
        rw [List.take_add_one, List.getElem?_eq_getElem hi, List.mem_append]
        rintro (h | h)
        · exact h2 h
        · exact hv (by simpa using h)
    · have hi' : ¬ (i : Int) < s.length := by omega
      simp only [hi', decide_false, Bool.false_eq_true, if_false, Option.map_some]
      refine .some ?_
      rw [List.take_of_length_le (by omega)] at h2
      simp only [Rnd]
      exact ⟨fun h => by omega, fun h => absurd h h2⟩
  unfold F_slices_Contains_int64_int64
  obtain ⟨r, h1, h2⟩ := key.get
  rw [h1, Option.bind_some]
  congr 1
  exact decide_eq_decide.2 h2
theorem F_spec_l1Has_eq {s : List Int} (hs : Small s) (v : Int) : F_spec_l1Has s v = some (decide (v ∈ s)) := by
  unfold F_spec_l1Has
  rw [loop_any (xs := s) (p := fun x => x == v) (y := true) (n := false) (fun i x hi hi' _ hx => ?_) (by simp [F_spec_l1Has_l1])]
  · congr 1
    by_cases h : v ∈ s
    · have : s.any (fun x => x == v) = true := List.any_eq_true.2 ⟨v, h, by simp⟩
      simp [this, h]
    · have : s.any (fun x => x == v) = false := by
        rw [List.any_eq_false]
        intro x hx he
        have : x = v := by simpa using he
        subst this; exact h hx
      simp [this, h]
  · simp only [F_spec_l1Has_l1, hi', decide_true, if_true, Int.toNat_natCast, show (0 : Int) ≤ i by omega, and_self, hx, w64 (n := (i : Int) + 1) (by have := hs; omega) (by have := hs; omega)]
    by_cases h : (x == v) = true
    · simp [h]
    · simp [h]
def varIn (l : List Int) (x : Int) : Bool := decide (x < 0 → x ∈ l)
def ruleOk (a : List Int) (r : List Int × List Int) : Bool := termOk a r.1 && (termOk a r.2 && (decide (0 ≤ r.1.headD 0) && r.2.all (varIn r.1)))
def sysOk (s : List Int × List (List Int × List Int)) : Bool := sigOk s.1 && (decide (s.2.length ≤ 12) && s.2.all (ruleOk s.1))
theorem headD_getD {l : List Int} (h : 0 < l.length) : l.getD 0 default = l.headD 0 := by cases l with | nil => simp at h | cons x l => rfl
theorem F_impl_RuleOk_eq (a : List Int) (r : List Int × List Int) : F_impl_RuleOk a r = some (ruleOk a r) := by
  unfold F_impl_RuleOk ruleOk
  rw [F_impl_TermOk_eq, F_impl_TermOk_eq, Option.bind_some]
  cases h1 : termOk a r.1 with
  | false => simp
  | true =>
    rw [Option.bind_some]
    cases h2 : termOk a r.2 with
    | false => simp
    | true =>
      have e1 := termOk_iff.1 h1
      have e2 := termOk_iff.1 h2
      have e3 : (0 : Int) < r.1.length := by omega
      simp only [if_true, Int.le_refl, e3, and_self, Bool.true_and, and_true]
      rw [headD_getD (by omega)]
      by_cases h3 : r.1.headD 0 < 0
      · simp [-List.headD_eq_head?_getD, h3, show ¬ 0 ≤ r.1.headD 0 by omega]
      · simp only [h3, decide_false, Bool.false_eq_true, if_false, show 0 ≤ r.1.headD 0 by omega, decide_true, Bool.true_and]
        refine loop_all (fun i x hi hi' _ hx => ?_) (by simp [F_impl_RuleOk_l1])
        simp only [F_impl_RuleOk_l1, hi', decide_true, if_true, Int.toNat_natCast, show (0 : Int) ≤ i by omega, and_self, hx, w64 (n := (i : Int) + 1) (by omega) (by omega), varIn,
          F_slices_Contains_eq (show Small r.1 by show r.1.length < _; omega), Option.bind_some]
        by_cases h4 : x < 0 <;> by_cases h5 : x ∈ r.1 <;> simp [h4, h5]
theorem F_spec_RuleOk_eq (a : List Int) (r : List Int × List Int) : F_spec_RuleOk a r = some (ruleOk a r) := by
  unfold F_spec_RuleOk ruleOk
  rw [F_spec_TermOk_eq, F_spec_TermOk_eq, Option.bind_some]
  cases h1 : termOk a r.1 with
  | false => simp
  | true =>
    rw [Option.bind_some]
    cases h2 : termOk a r.2 with
    | false => simp
    | true =>
      have e1 := termOk_iff.1 h1
      have e2 := termOk_iff.1 h2
      have e3 : (0 : Int) < r.1.length := by omega
      simp only [if_true, Int.le_refl, e3, and_self, Bool.true_and, and_true]
      rw [headD_getD (by omega)]
      by_cases h3 : r.1.headD 0 < 0
      · simp [-List.headD_eq_head?_getD, h3, show ¬ 0 ≤ r.1.headD 0 by omega]
      · simp only [h3, decide_false, Bool.false_eq_true, if_false, show 0 ≤ r.1.headD 0 by omega, decide_true, Bool.true_and]
        refine loop_all (fun i x hi hi' _ hx => ?_) (by simp [F_spec_RuleOk_l1])
        simp only [F_spec_RuleOk_l1, hi', decide_true, if_true, Int.toNat_natCast, show (0 : Int) ≤ i by omega, and_self, hx, w64 (n := (i : Int) + 1) (by omega) (by omega), varIn,
          F_spec_l1Has_eq (show Small r.1 by show r.1.length < _; omega), Option.bind_some]
        by_cases h4 : x < 0 <;> by_cases h5 : x ∈ r.1 <;> simp [h4, h5]
theorem F_impl_SystemOk_eq (s : List Int × List (List Int × List Int)) : F_impl_SystemOk s = some (sysOk s) := by
  unfold F_impl_SystemOk sysOk
  rw [F_impl_SigOk_eq, Option.bind_some]
  cases h1 : sigOk s.1 with
  | false => simp
  | true =>
    by_cases h2 : 12 < (s.2.length : Int)
    · simp [h2, show ¬ s.2.length ≤ 12 by omega]
    · simp only [if_true, h2, decide_false, Bool.false_eq_true, if_false, Bool.true_and, show s.2.length ≤ 12 by omega, decide_true]
      refine loop_all (fun i x hi hi' _ hx => ?_) (by simp [F_impl_SystemOk_l1])
      simp only [F_impl_SystemOk_l1, hi', decide_true, if_true, Int.toNat_natCast, show (0 : Int) ≤ i by omega, and_self, hx, w64 (n := (i : Int) + 1) (by omega) (by omega), F_impl_RuleOk_eq, Option.bind_some]
      cases ruleOk s.1 x <;> simp
theorem F_spec_SystemOk_eq (s : List Int × List (List Int × List Int)) : F_spec_SystemOk s = some (sysOk s) := by
  unfold F_spec_SystemOk sysOk
  rw [F_spec_SigOk_eq, Option.bind_some]
  cases h1 : sigOk s.1 with
  | false => simp
  | true =>
    by_cases h2 : 12 < (s.2.length : Int)
    · simp [h2, show ¬ s.2.length ≤ 12 by omega]
    · simp only [if_true, h2, decide_false, Bool.false_eq_true, if_false, Bool.true_and, show s.2.length ≤ 12 by omega, decide_true]
      refine loop_all (fun i x hi hi' _ hx => ?_) (by simp [F_spec_SystemOk_l1])
      simp only [F_spec_SystemOk_l1, hi', decide_true, if_true, Int.toNat_natCast, show (0 : Int) ≤ i by omega, and_self, hx, w64 (n := (i : Int) + 1) (by omega) (by omega), F_spec_RuleOk_eq, Option.bind_some]
      cases ruleOk s.1 x <;> simp
theorem getD_ext {s t : List Int} (hl : s.length = t.length) : (s == t) = decide (∀ i < s.length, s.getD i default = t.getD i default) := by
  have : (s == t) = decide (s = t) := by by_cases h : s = t <;> simp [h]
  rw [this]
  refine decide_eq_decide.2 ⟨fun h => by subst h; simp, fun h => ?_⟩
  refine List.ext_getElem hl fun i h1 h2 => ?_
  have := h i h1
  rwa [getD_get h1, getD_get h2] at this
theorem loop_eq {s t : List Int} (hs : Small s) (hl : s.length = t.length) {f : Int → Option (Int ⊕ Bool)}
    (h : ∀ i : Nat, i < s.length → f i = some (if s.getD i default = t.getD i default then .inl ((i : Int) + 1) else .inr false)) (he : f s.length = some (.inr true)) : loopC f 0 = some (s == t) := by
  have key : Okk True (loopC f 0) fun r => r = decide (∀ i < s.length, s.getD i default = t.getD i default) := by
    refine Okk.loop (fun i' : Int => ∃ i : Nat, i' = i ∧ i ≤ s.length ∧ ∀ j < i, s.getD j default = t.getD j default) (fun i' : Int => s.length - i'.toNat) ⟨0, rfl, by omega, by omega⟩ ?_
    rintro _ ⟨i, rfl, h1, h2⟩
    by_cases hi : i < s.length
    · rw [h i hi]
      by_cases e : s.getD i default = t.getD i default
      · rw [if_pos e]
        refine .some ⟨⟨i + 1, by simp, by omega, fun j hj => ?_⟩, by simp; omega⟩
        rcases Nat.lt_or_ge j i with h3 | h3
        · exact h2 j h3
        · obtain rfl : j = i := by omega
          exact e
      · rw [if_neg e]
        refine .some ?_
        simp only [Rnd]
        exact (decide_eq_false fun h => e (h i hi)).symm
    · obtain rfl : i = s.length := by omega
      rw [he]
      refine .some ?_
      simp only [Rnd]
      exact (decide_eq_true h2).symm
  rw [getD_ext hl]
  obtain ⟨r, h1, h2⟩ := key.get
  rw [h1, h2]
theorem F_slices_Equal_eq {s t : List Int} (hs : Small s) : F_slices_Equal_int64_int64 s t = some (s == t) := by
  unfold F_slices_Equal_int64_int64
  by_cases hl : s.length = t.length
  · have : ¬ ((s.length : Int) != (t.length : Int)) = true := by simp; omega
    rw [if_neg this]
    refine loop_eq hs hl (fun i hi => ?_) (by simp [F_slices_Equal_int64_int64_l1])
    simp only [F_slices_Equal_int64_int64_l1, show (i : Int) < s.length by omega, show (i : Int) < t.length by omega, decide_true, if_true, show (0 : Int) ≤ i by omega, and_self, Int.toNat_natCast,
      w64 (n := (i : Int) + 1) (by have := hs; omega) (by have := hs; omega)]
    by_cases e : s.getD i default = t.getD i default
    · simp only [e, bne_self_eq_false, Bool.false_eq_true, if_false, if_true]
    · have : (s.getD i default != t.getD i default) = true := by simpa using e
      simp only [this, e, if_true, if_false, Option.map_some]
  · have : ((s.length : Int) != (t.length : Int)) = true := by simp; omega
    rw [if_pos this]
    congr 1
    symm
    rw [beq_eq_false_iff_ne]
    rintro rfl; exact hl rfl
theorem F_spec_SameTerm_eq {s t : List Int} (hs : Small s) : F_spec_SameTerm s t = some (s == t) := by
  unfold F_spec_SameTerm
  by_cases hl : s.length = t.length
  · have : ¬ ((s.length : Int) != (t.length : Int)) = true := by simp; omega
    rw [if_neg this]
    refine loop_eq hs hl (fun i hi => ?_) (by simp [F_spec_SameTerm_l1])
    simp only [F_spec_SameTerm_l1, show (i : Int) < s.length by omega, show (i : Int) < t.length by omega, decide_true, if_true, show (0 : Int) ≤ i by omega, and_self, Int.toNat_natCast,
      w64 (n := (i : Int) + 1) (by have := hs; omega) (by have := hs; omega)]
    by_cases e : s.getD i default = t.getD i default
    · simp only [e, bne_self_eq_false, Bool.false_eq_true, if_false, if_true]
    · have : (s.getD i default != t.getD i default) = true := by simpa using e
      simp only [this, e, if_true, if_false, Option.map_some]
  · have : ((s.length : Int) != (t.length : Int)) = true := by simp; omega
    rw [if_pos this]
    congr 1
    symm
    rw [beq_eq_false_iff_ne]
    rintro rfl; exact hl rfl
theorem F_spec_l1Copy_eq {l : List Int} (hs : Small l) : F_spec_l1Copy l = some l := by
  unfold F_spec_l1Copy; rw [if_pos (by have := hs; omega)]
theorem F_slices_Clone_eq {l : List Int} (hs : Small l) : F_slices_Clone_int64_int64 l = some l := by
  unfold F_slices_Clone_int64_int64
  refine (Okk.amb (t := True) (P := (· = l)) ?_ fun h => ?_).eq
  · rw [if_pos (by have := hs; omega)]; exact .some rfl
  · subst h; simp
theorem endI_app {a t u r : List Int} {i : Nat} (h : t.drop i = u ++ r) (hu : Wf a 1 u) : endI a t i = (t.length : Int) - r.length := by
  unfold endI; rw [h, hu.skip]
theorem take_sub {t u r : List Int} {i : Nat} (h : t.drop i = u ++ r) (hi : i ≤ t.length) : (t.take (t.length - r.length)).drop i = u := by
  have hl := congrArg List.length h
  simp at hl
  rw [List.drop_take, h, List.take_append_of_le_length (by omega), List.take_of_length_le (by omega)]
theorem F_impl_subAt_eq {a t u r : List Int} (ha : sigOk a = true) (hs : Small t) (hm : ∀ x ∈ t, -24 ≤ x) {i : Nat} (h : t.drop i = u ++ r) (hu : Wf a 1 u) : F_impl_subAt a t i = some u := by
  have hl := congrArg List.length h
  have hul := hu.len
  simp at hl
  have hi : i ≤ t.length := by omega
  unfold F_impl_subAt
  rw [F_impl_endAt_eq ha hs hm hi, Option.bind_some, endI_app h hu, if_pos (by omega), show ((t.length : Int) - r.length).toNat = t.length - r.length by omega, Int.toNat_natCast, take_sub h hi]
theorem F_spec_l1Sub_eq {a t u r : List Int} (ha : sigOk a = true) (hs : Small t) {i : Nat} (h : t.drop i = u ++ r) (hu : Wf a 1 u) : F_spec_l1Sub a t i = some u := by
  have hl := congrArg List.length h
  have hul := hu.len
  simp at hl
  have hi : i ≤ t.length := by omega
  unfold F_spec_l1Sub
  rw [F_spec_l1End_eq ha hs hi, Option.bind_some, endI_app h hu, if_pos (by omega), show ((t.length : Int) - r.length).toNat = t.length - r.length by omega, Int.toNat_natCast, take_sub h hi,
    F_spec_l1Copy_eq (by show u.length < _; have := hs; omega)]
  rfl
def encB (o : Option Bd) (r : Bd × Bool) : Prop := match o with | some b => r = (b, true) | none => r.2 = false
structure MSt (a p t : List Int) (b0 b : Bd) (i c : Nat) : Prop where
  hi : i ≤ p.length
  hc : c ≤ t.length
  hb : b.length = 24
  hsm : ∀ u ∈ b, u.length ≤ 60
  k : ∃ k, Wf a k (p.drop i) ∧ Wf a k (t.drop c)
  m : mat a (p.drop i) (t.drop c) b = mat a p t b0
theorem MSt.var {a p t : List Int} {b0 b : Bd} {i c : Nat} (h : MSt a p t b0 b i c) (hi : i < p.length) (hn : p[i] < 0) : ∃ u r, t.drop c = u ++ r ∧ Wf a 1 u ∧ c + u.length ≤ t.length ∧ okx a p[i] ∧
    mat a p t b0 = (if bget b p[i] = [] then mat a (p.drop (i + 1)) (t.drop (c + u.length)) (bset b p[i] u) else if bget b p[i] = u then mat a (p.drop (i + 1)) (t.drop (c + u.length)) b else none) ∧
    ∃ k, Wf a k (p.drop (i + 1)) ∧ Wf a k (t.drop (c + u.length)) := by
  obtain ⟨k, h1, h2⟩ := h.k
  rw [List.drop_eq_getElem_cons hi] at h1
  cases k with
  | zero => have := h1.zero; cases this
  | succ k =>
    obtain ⟨ho, h1⟩ := Wf.cons_iff.1 h1
    rw [show k + 1 = 1 + k by omega] at h2
    obtain ⟨u, r, e, hu, hr⟩ := h2.split
    have hr' : t.drop (c + u.length) = r := by rw [← List.drop_drop, e, List.drop_left]
    have hl := congrArg List.length e
    simp at hl
    have := hu.len
    refine ⟨u, r, e, hu, by omega, ho, ?_, k, ?_, by rw [hr']; exact hr⟩
    · rw [← h.m, List.drop_eq_getElem_cons hi, e, mat_var hn hu, hr']
    · have ha : ari a p[i] = 0 := by simp [ari, hn]
      rwa [ha, Nat.add_zero] at h1
theorem MSt.sym {a p t : List Int} {b0 b : Bd} {i c : Nat} (h : MSt a p t b0 b i c) (hi : i < p.length) (hn : ¬ p[i] < 0) : ∃ hc : c < t.length, okx a p[i] ∧ mat a p t b0 = (if t[c] = p[i] then mat a (p.drop (i + 1)) (t.drop (c + 1)) b else none) ∧
    (t[c] = p[i] → ∃ k, Wf a k (p.drop (i + 1)) ∧ Wf a k (t.drop (c + 1))) := by
  obtain ⟨k, h1, h2⟩ := h.k
  rw [List.drop_eq_getElem_cons hi] at h1
  cases k with
  | zero => have := h1.zero; cases this
  | succ k =>
    obtain ⟨ho, h1⟩ := Wf.cons_iff.1 h1
    have hc : c < t.length := by
      rcases Nat.lt_or_ge c t.length with h | h
      · exact h
      · rw [List.drop_of_length_le h] at h2; have := h2.len; simp at this
    rw [List.drop_eq_getElem_cons hc] at h2
    obtain ⟨ho', h2⟩ := Wf.cons_iff.1 h2
    refine ⟨hc, ho, ?_, fun e => ⟨k + ari a p[i], h1, by rw [← e]; exact h2⟩⟩
    rw [← h.m, List.drop_eq_getElem_cons hi, List.drop_eq_getElem_cons hc, mat_sym hn]
theorem MSt.at_lt {a p t : List Int} {b0 b : Bd} {i c : Nat} (h : MSt a p t b0 b i c) (hi : i < p.length) : c < t.length := by
  obtain ⟨k, h1, h2⟩ := h.k
  rw [List.drop_eq_getElem_cons hi] at h1
  cases k with
  | zero => have := h1.zero; cases this
  | succ k =>
    rcases Nat.lt_or_ge c t.length with h | h
    · exact h
    · rw [List.drop_of_length_le h] at h2; have := h2.len; simp at this
theorem bset_small {b : Bd} {n : Int} {u : List Int} (hs : ∀ u ∈ b, u.length ≤ 60) (hu : u.length ≤ 60) : ∀ v ∈ bset b n u, v.length ≤ 60 := fun v hv => by
  rcases List.mem_or_eq_of_mem_set hv with h | h
  · exact hs v h
  · subst h; exact hu
theorem bget_small {b : Bd} {n : Int} (hs : ∀ u ∈ b, u.length ≤ 60) : (bget b n).length ≤ 60 := by
  unfold bget
  rw [List.getD_eq_getElem?_getD]
  cases h : b[(-1 - n).toNat]? with
  | none => simp
  | some u => exact hs u (List.mem_of_getElem? h)
theorem F_impl_matchInto_ok {a p t : List Int} {b0 : Bd} (ha : sigOk a = true) (hp : Wf a 1 p) (ht : Wf a 1 t) (hpl : p.length ≤ 60) (htl : t.length ≤ 60) (hb : b0.length = 24) (hbs : ∀ u ∈ b0, u.length ≤ 60) :
    Okk True (F_impl_matchInto a p t b0) (fun r => encB (mat a p t b0) r ∧ r.1.length = 24) := by
  unfold F_impl_matchInto
  refine Okk.loop (fun s : Int × Int × Bd => ∃ i c : Nat, s.1 = (c : Int) ∧ s.2.1 = (i : Int) ∧ MSt a p t b0 s.2.2 i c) (fun s : Int × Int × Bd => p.length - s.2.1.toNat)
    ⟨0, 0, rfl, rfl, by omega, by omega, hb, hbs, ⟨1, by simpa using hp, by simpa using ht⟩, by simp⟩ ?_
  rintro ⟨_, _, b⟩ ⟨i, c, rfl, rfl, h⟩
  simp only at h
  have hb := h.hb
  simp only [F_impl_matchInto_l1]
  by_cases hi : i < p.length
  · have hc := h.at_lt hi
    simp only [show (i : Int) < p.length by omega, show ¬ (t.length : Int) ≤ c by omega, decide_true, decide_false, if_true, show (0 : Int) ≤ i by omega, show (0 : Int) ≤ c by omega, show (c : Int) < t.length by omega, and_self,
      Bool.false_eq_true, if_false, Int.toNat_natCast, getD_get hi, getD_get hc, w64 (n := (i : Int) + 1) (by omega) (by omega), w64 (n := (c : Int) + 1) (by omega) (by omega)]
    by_cases hn : p[i] < 0
    · obtain ⟨u, r, e, hu, hl, ho, hm, hk⟩ := h.var hi hn
      have hul := hu.len
      have hx : -24 ≤ p[i] := ho.1
      have hlt : (-1 - p[i]).toNat < b.length := by omega
      simp only [show ¬ 0 ≤ p[i] by omega, decide_false, Bool.false_eq_true, if_false, F_impl_subAt_eq ha (show Small t by show t.length < _; omega) (fun x hx => (ht.all x hx).1) e hu, Option.bind_some,
        w64 (n := -1 - p[i]) (by omega) (by omega), show 0 ≤ -1 - p[i] by omega, show -1 - p[i] < 24 by omega, show -1 - p[i] < (b.length : Int) by omega, and_self, if_true, hb, show ((-1 : Int) - p[i] < ((24 : Nat) : Int)) by omega,
        w64 (n := (c : Int) + u.length) (by omega) (by omega)]
      have eg : b.getD (-1 - p[i]).toNat default = bget b p[i] := rfl
      rw [eg]
      by_cases h0 : bget b p[i] = []
      · rw [if_pos h0] at hm
        simp only [h0, List.isEmpty_nil, if_true, show 0 < u.length by omega]
        exact .some ⟨⟨i + 1, c + u.length, by simp, by simp, by omega, by omega, by simpa using hb, bset_small h.hsm (by omega), hk, by rw [hm]; rfl⟩, by simp; omega⟩
      · rw [if_neg h0] at hm
        have : ¬ (bget b p[i]).isEmpty = true := by simpa using h0
        simp only [this, if_false, F_slices_Equal_eq (show Small (bget b p[i]) by show List.length _ < _; have := bget_small (n := p[i]) h.hsm; omega), Option.bind_some]
        by_cases h1 : bget b p[i] = u
        · rw [if_pos h1] at hm
          simp only [h1, beq_self_eq_true, if_true]
          exact .some ⟨⟨i + 1, c + u.length, by simp, by simp, by omega, by omega, hb, h.hsm, hk, hm.symm⟩, by simp; omega⟩
        · rw [if_neg h1] at hm
          have : ¬ (bget b p[i] == u) = true := by simpa using h1
          simp only [this, if_false, Option.map_some]
          refine .some ?_
          simp only [Rnd, encB, hm]
          exact ⟨trivial, hb⟩
    · obtain ⟨hc', ho, hm, hk⟩ := h.sym hi hn
      simp only [show 0 ≤ p[i] by omega, decide_true, if_true]
      by_cases e : t[c] = p[i]
      · rw [if_pos e] at hm
        simp only [e, bne_self_eq_false, Bool.false_eq_true, if_false]
        exact .some ⟨⟨i + 1, c + 1, by simp, by simp, by omega, by omega, hb, h.hsm, hk e, hm.symm⟩, by simp; omega⟩
      · rw [if_neg e] at hm
        have : (t[c] != p[i]) = true := by simpa using e
        simp only [this, if_true, hb, Option.map_some]
        refine .some ?_
        simp only [Rnd, encB, hm]
        exact ⟨trivial, hb⟩
  · have hm := h.m
    rw [List.drop_of_length_le (by omega), mat_nil] at hm
    simp only [show ¬ (i : Int) < p.length by omega, decide_false, Bool.false_eq_true, if_false, hb, if_true, Option.map_some]
    refine .some ?_
    simp only [Rnd, encB, ← hm]
    exact ⟨trivial, hb⟩
def plainAt (s : Bd) (i : Nat) : List Int := if s.getD i [] = [] ∨ s.getD i [] = [-1 - (i : Int)] then [] else s.getD i []
theorem plain_sig {s o : Bd} (h : ∀ i, o.getD i [] = plainAt s i) {n : Int} (hn : n < 0) : Tm.sig o n = Tm.sig s n := by
  unfold Tm.sig bget
  rw [h]
  unfold plainAt
  rw [show -1 - ((-1 - n).toNat : Int) = n by omega]
  by_cases h1 : s.getD (-1 - n).toNat [] = []
  · simp only [h1, true_or, if_true]
  · by_cases h2 : s.getD (-1 - n).toNat [] = [n]
    · simp only [h2, or_true, if_true]; simp
    · simp only [h1, h2, or_self, if_false]
theorem getD_append {s : Bd} {u : List Int} {i : Nat} : (s ++ [u]).getD i [] = if i < s.length then s.getD i [] else if i = s.length then u else [] := by
  rw [List.getD_eq_getElem?_getD]
  by_cases h : i < s.length
  · rw [if_pos h, List.getElem?_append_left h, List.getD_eq_getElem?_getD]
  · rw [if_neg h, List.getElem?_append_right (by omega)]
    by_cases h2 : i = s.length
    · subst h2; simp
    · rw [if_neg h2, List.getElem?_eq_none (by simp; omega)]; rfl
theorem getD_out {s : Bd} {i : Nat} (h : s.length ≤ i) : s.getD i [] = [] := by
  rw [List.getD_eq_getElem?_getD, List.getElem?_eq_none h]; rfl
structure PSt (s : Bd) (o : Bd) (i : Nat) : Prop where
  hi : i ≤ s.length
  hl : o.length ≤ i
  he : ∀ j < i, o.getD j [] = plainAt s j
theorem F_impl_plain_ok {s : Bd} (hl : s.length ≤ 24) (hs : ∀ u ∈ s, u.length ≤ 60) : Okk True (F_impl_plain s) fun o => o.length ≤ 24 ∧ ∀ i, o.getD i [] = plainAt s i := by
  unfold F_impl_plain
  refine Okk.loop (fun q : Int × Bd => ∃ i : Nat, q.1 = i ∧ PSt s q.2 i) (fun q : Int × Bd => s.length - q.1.toNat) ⟨0, rfl, by omega, by simp, by omega⟩ ?_
  rintro ⟨_, o⟩ ⟨i, rfl, h⟩
  simp only at h
  simp only [F_impl_plain_l1]
  by_cases hi : i < s.length
  · have hu := hs _ (List.getElem_mem hi)
    have hg : s.getD i [] = s[i] := getD_get hi
    simp only [show (i : Int) < s.length by omega, decide_true, if_true, show (0 : Int) ≤ i by omega, and_self, Int.toNat_natCast, getD_get hi, w64 (n := (i : Int) + 1) (by omega) (by omega)]
    have skip : plainAt s i = [] → Okk True (some (Sum.inl ((i : Int) + 1, o)) : Option ((Int × Bd) ⊕ Bd)) (Rnd (fun q : Int × Bd => ∃ i : Nat, q.1 = i ∧ PSt s q.2 i) (fun q : Int × Bd => s.length - q.1.toNat) (fun o => o.length ≤ 24 ∧ ∀ i, o.getD i [] = plainAt s i) (s.length - i)) := fun hp =>
      .some ⟨⟨i + 1, by simp, by omega, Nat.le_succ_of_le h.hl, fun j hj => by
        rcases Nat.lt_or_ge j i with h3 | h3
        · exact h.he j h3
        · obtain rfl : j = i := by omega
          rw [hp, getD_out h.hl]⟩, by simp; omega⟩
    by_cases h0 : s[i] = []
    · simp only [h0, List.length_nil, Int.natCast_zero, beq_self_eq_true, if_true]
      exact skip (by unfold plainAt; rw [hg, if_pos (.inl h0)])
    · have hne : ¬ (((s[i]).length : Int) == 0) = true := by
        have := List.length_pos_iff.2 h0
        simp only [beq_iff_eq]; omega
      simp only [hne, if_false, F_impl_variable, Option.bind_some, w64 (n := -1 - (i : Int)) (by omega) (by omega), F_slices_Equal_eq (show Small s[i] by show List.length _ < _; omega)]
      by_cases h1 : s[i] = [-1 - (i : Int)]
      · simp only [h1, beq_self_eq_true, if_true]
        exact skip (by unfold plainAt; rw [hg, if_pos (.inr h1)])
      · have : ¬ (s[i] == [-1 - (i : Int)]) = true := by simpa using h1
        simp only [this, if_false]
        have hp : plainAt s i = s[i] := by unfold plainAt; rw [hg, if_neg (by simp [h0, h1])]
        refine Okk.loop (fun o' : Bd => o'.length ≤ i ∧ ∀ j < i, o'.getD j [] = plainAt s j) (fun o' : Bd => i - o'.length) ⟨h.hl, h.he⟩ ?_
        rintro o' ⟨h3, h4⟩
        simp only [F_impl_plain_l2]
        by_cases h5 : o'.length < i
        · simp only [show (o'.length : Int) < i by omega, decide_true, if_true, show (o'.length + 1) * 24 ≤ 140737488355328 by omega]
          refine .some ⟨⟨by simp; omega, fun j hj => ?_⟩, by simp; omega⟩
          rw [getD_append]
          split
          · exact h4 j hj
          · have := h4 j hj
            rw [getD_out (by omega)] at this
            simp [← this]
        · simp only [show ¬ (o'.length : Int) < i by omega, decide_false, Bool.false_eq_true, if_false, show (o'.length + 1) * 24 ≤ 140737488355328 by omega, if_true]
          rw [Int.toNat_natCast, getD_get hi, F_slices_Clone_eq (show Small s[i] by show List.length _ < _; omega), Option.bind_some, Option.map_some]
          refine .some ?_
          refine ⟨⟨i + 1, by simp [w64 (n := (i : Int) + 1) (by omega) (by omega)], by omega, by simp; omega, fun j hj => ?_⟩, by simp [w64 (n := (i : Int) + 1) (by omega) (by omega)]; omega⟩
          rw [getD_append]
          split
          · exact h4 j (by omega)
          · obtain rfl : j = i := by omega
            rw [if_pos (by omega), hp]
  · simp only [show ¬ (i : Int) < s.length by omega, decide_false, Bool.false_eq_true, if_false, Option.map_some]
    refine .some ⟨by have := h.hl; have := h.hi; omega, fun j => ?_⟩
    by_cases hj : j < i
    · exact h.he j hj
    · rw [getD_out (by have := h.hl; omega)]
      unfold plainAt
      rw [getD_out (s := s) (by omega)]; simp
def MRes (o : Option Bd) (r : Bd × Bool) : Prop := match o with
  | some b => r.2 = true ∧ r.1.length ≤ 24 ∧ ∀ i, r.1.getD i [] = plainAt b i
  | none => r.2 = false
theorem mat_small {a : List Int} : ∀ {p t : List Int} {b b' : Bd}, mat a p t b = some b' → (∀ u ∈ b, u.length ≤ 60) → t.length ≤ 60 → b.length = 24 → b'.length = 24 ∧ ∀ u ∈ b', u.length ≤ 60
  | [], t, b, b', h, hs, _, hb => by rw [mat_nil] at h; cases h; exact ⟨hb, hs⟩
  | n :: p, t, b, b', h, hs, ht, hb => by
    unfold mat at h
    split at h
    · split at h
      · cases h
      · rename_i r hr
        have := skip_len hr
        simp only at h
        split at h
        · exact mat_small (b := Tm.bset b n _) h (bset_small hs (by simp; omega)) (by omega) (by simpa [Tm.bset] using hb)
        · split at h
          · exact mat_small h hs (by omega) hb
          · cases h
    · split at h
      · cases h
      · split at h
        · exact mat_small h hs (by simp at ht; omega) hb
        · cases h
theorem F_impl_match_ok {a p t : List Int} (ha : sigOk a = true) (hp : Wf a 1 p) (ht : Wf a 1 t) (hpl : p.length ≤ 60) (htl : t.length ≤ 60) : Okk True (F_impl_match a p t) (MRes (mat a p t none24)) := by
  unfold F_impl_match
  have hn : ∀ u ∈ none24, u.length ≤ 60 := by intro u hu; simp [none24] at hu; subst hu; simp
  obtain ⟨r, h1, h2, h3⟩ := (F_impl_matchInto_ok ha hp ht hpl htl (b0 := none24) (by simp [none24]) hn).get
  rw [show (List.replicate 24 [] : Bd) = none24 from rfl, h1, Option.bind_some, if_pos h3]
  cases hm : mat a p t none24 with
  | none =>
    rw [hm] at h2
    simp only [encB] at h2
    simp only [h2, Bool.false_eq_true, if_false]
    exact .some rfl
  | some b =>
    rw [hm] at h2
    simp only [encB] at h2
    subst h2
    obtain ⟨h4, h5⟩ := mat_small hm hn htl (by simp [none24])
    simp only [if_true, h4, F_impl_bindings_subst, Option.bind_some]
    refine Okk.bind (F_impl_plain_ok (by omega) h5) fun o ho => .some ⟨rfl, ho.1, ho.2⟩
theorem F_spec_l2Gives_eq {s : Bd} (hs : ∀ u ∈ s, u.length ≤ 60) (hl : s.length ≤ 24) {i : Nat} (hi : i ≤ 24) : F_spec_l2Gives s i = some (if s.getD i [] = [] then [-1 - (i : Int)] else s.getD i []) := by
  unfold F_spec_l2Gives
  rw [w64 (n := -1 - (i : Int)) (by omega) (by omega)]
  by_cases h : i < s.length
  · have hu := hs _ (List.getElem_mem h)
    have hg : s.getD i [] = s[i] := getD_get h
    simp only [show (i : Int) < s.length by omega, decide_true, if_true, show (0 : Int) ≤ i by omega, and_self, Int.toNat_natCast, getD_get h, hg]
    by_cases h0 : s[i] = []
    · simp [h0]
    · have := List.length_pos_iff.2 h0
      simp only [h0, if_false, show (0 : Int) < s[i].length by omega, decide_true, if_true, F_spec_l1Copy_eq (show Small s[i] by show List.length _ < _; omega), Option.bind_some]
  · simp only [show ¬ (i : Int) < s.length by omega, decide_false, Bool.false_eq_true, if_false, getD_out (s := s) (i := i) (by omega), if_true]
theorem F_spec_l2Plain_ok {s : Bd} (hl : s.length ≤ 24) (hs : ∀ u ∈ s, u.length ≤ 60) : Okk True (F_spec_l2Plain s) fun o => o.length ≤ 24 ∧ ∀ i, o.getD i [] = plainAt s i := by
  unfold F_spec_l2Plain
  refine Okk.loop (fun q : Int × Bd => ∃ i : Nat, q.1 = i ∧ i ≤ s.length ∧ q.2.length = i ∧ ∀ j < i, q.2.getD j [] = plainAt s j) (fun q : Int × Bd => s.length - q.1.toNat) ⟨0, rfl, by omega, rfl, by omega⟩ ?_
  rintro ⟨_, o⟩ ⟨i, rfl, h1, h2, h3⟩
  simp only at h2 h3
  simp only [F_spec_l2Plain_l1]
  by_cases hi : i < s.length
  · have hw : IntKind.i64.wrap ((i : Int) + 1) = i + 1 := w64 (by omega) (by omega)
    have hw2 : IntKind.i64.wrap (-1 - (i : Int)) = -1 - i := w64 (by omega) (by omega)
    have hm : (o.length + 1) * 24 ≤ 140737488355328 := by omega
    have hg : s.getD i [] = s[i] := getD_get hi
    have step : ∀ u : List Int, plainAt s i = u → Okk True (some (Sum.inl ((i : Int) + 1, o ++ [u])) : Option ((Int × Bd) ⊕ Bd)) (Rnd (fun q : Int × Bd => ∃ i : Nat, q.1 = i ∧ i ≤ s.length ∧ q.2.length = i ∧ ∀ j < i, q.2.getD j [] = plainAt s j) (fun q : Int × Bd => s.length - q.1.toNat) (fun o => o.length ≤ 24 ∧ ∀ i, o.getD i [] = plainAt s i) (s.length - i)) := fun u hu =>
      .some ⟨⟨i + 1, by simp, by omega, by simp [h2], fun j hj => by
        rw [getD_append]
        split
        · exact h3 j (by omega)
        · rw [if_pos (by omega), show j = i by omega, hu]⟩, by simp; omega⟩
    simp only [show (i : Int) < s.length by omega, decide_true, if_true, F_spec_l2Gives_eq hs hl (i := i) (by omega), Option.bind_some, hm, hw, hw2]
    by_cases h0 : s[i] = []
    · simp only [hg, h0, if_true, List.length_singleton, Int.natCast_one, beq_self_eq_true, Int.le_refl, show (0 : Int) < 1 by omega, and_self, List.getD_cons_zero]
      exact step [] (by unfold plainAt; rw [hg, if_pos (.inl h0)])
    · simp only [hg, h0, if_false]
      by_cases hlen : s[i].length = 1
      · obtain ⟨x, hx⟩ := List.length_eq_one_iff.1 hlen
        simp only [hx, List.length_singleton, Int.natCast_one, beq_self_eq_true, if_true, Int.le_refl, show (0 : Int) < 1 by omega, and_self, List.getD_cons_zero]
        by_cases e : x = -1 - (i : Int)
        · simp only [e, beq_self_eq_true, if_true]
          exact step [] (by unfold plainAt; rw [hg, if_pos (.inr (by rw [hx, e]))])
        · have : ¬ (x == -1 - (i : Int)) = true := by simpa using e
          simp only [this, if_false]
          exact step [x] (by unfold plainAt; rw [hg, hx, if_neg (by simp [e])])
      · have : ¬ ((s[i].length : Int) == 1) = true := by simp only [beq_iff_eq]; omega
        simp only [this, if_false]
        refine step s[i] ?_
        unfold plainAt
        rw [hg, if_neg]
        rintro (h | h)
        · exact h0 h
        · exact hlen (by rw [h]; rfl)
  · simp only [show ¬ (i : Int) < s.length by omega, decide_false, Bool.false_eq_true, if_false]
    have hall : ∀ j, o.getD j [] = plainAt s j := fun j => by
      by_cases hj : j < i
      · exact h3 j hj
      · rw [getD_out (by omega)]; unfold plainAt; rw [getD_out (s := s) (by omega)]; simp
    refine Okk.inr ?_
    simp only [Rnd]
    refine Okk.loop (fun o' : Bd => o'.length ≤ 24 ∧ ∀ j, o'.getD j [] = plainAt s j) (fun o' : Bd => o'.length) ⟨by omega, hall⟩ ?_
    rintro o' ⟨h4, h5⟩
    simp only [F_spec_l2Plain_l2]
    by_cases h6 : 0 < o'.length
    · have hw : IntKind.i64.wrap ((o'.length : Int) - 1) = o'.length - 1 := w64 (by omega) (by omega)
      have ht : ((o'.length : Int) - 1).toNat = o'.length - 1 := by omega
      have hlt : o'.length - 1 < o'.length := by omega
      simp only [show (0 : Int) < o'.length by omega, decide_true, if_true, hw, show 0 ≤ (o'.length : Int) - 1 by omega, show (o'.length : Int) - 1 < o'.length by omega, show (o'.length : Int) - 1 ≤ o'.length by omega, and_self, ht, getD_get hlt]
      by_cases h7 : o'[o'.length - 1] = []
      · simp only [h7, List.length_nil, Int.natCast_zero, beq_self_eq_true, if_true]
        refine .some ⟨⟨by simp; omega, fun j => ?_⟩, by simp; omega⟩
        rw [← h5 j, List.getD_eq_getElem?_getD, List.getD_eq_getElem?_getD, List.getElem?_take]
        split
        · rfl
        · by_cases hj : j = o'.length - 1
          · subst hj; rw [List.getElem?_eq_getElem hlt, h7]; rfl
          · rw [List.getElem?_eq_none (by omega)]
      · have := List.length_pos_iff.2 h7
        have : ¬ ((o'[o'.length - 1].length : Int) == 0) = true := by simp only [beq_iff_eq]; omega
        simp only [this, if_false, Option.map_some]
        exact .some ⟨h4, h5⟩
    · simp only [show ¬ (0 : Int) < o'.length by omega, decide_false, Bool.false_eq_true, if_false, Option.map_some]
      exact .some ⟨h4, h5⟩
theorem F_spec_l4Match_ok {a p t : List Int} (ha : sigOk a = true) (hp : Wf a 1 p) (ht : Wf a 1 t) (hpl : p.length ≤ 60) (htl : t.length ≤ 60) : Okk True (F_spec_l4Match a p t) (MRes (mat a p t none24)) := by
  have hn : ∀ u ∈ none24, u.length ≤ 60 := by intro u hu; simp [none24] at hu; subst hu; simp
  unfold F_spec_l4Match
  rw [show (List.replicate 24 [] : Bd) = none24 from rfl]
  refine Okk.loop (fun s : Int × Int × Bd => ∃ i c : Nat, s.1 = (c : Int) ∧ s.2.1 = (i : Int) ∧ MSt a p t none24 s.2.2 i c) (fun s : Int × Int × Bd => p.length - s.2.1.toNat)
    ⟨0, 0, rfl, rfl, by omega, by omega, by simp [none24], hn, ⟨1, by simpa using hp, by simpa using ht⟩, by simp⟩ ?_
  rintro ⟨_, _, b⟩ ⟨i, c, rfl, rfl, h⟩
  simp only at h
  have hb := h.hb
  simp only [F_spec_l4Match_l1]
  by_cases hi : i < p.length
  · have hc := h.at_lt hi
    simp only [show (i : Int) < p.length by omega, show ¬ (t.length : Int) ≤ c by omega, decide_true, decide_false, if_true, show (0 : Int) ≤ i by omega, show (0 : Int) ≤ c by omega, show (c : Int) < t.length by omega, and_self,
      Bool.false_eq_true, if_false, Int.toNat_natCast, getD_get hi, getD_get hc, w64 (n := (i : Int) + 1) (by omega) (by omega), w64 (n := (c : Int) + 1) (by omega) (by omega)]
    by_cases hn : p[i] < 0
    · obtain ⟨u, r, e, hu, hl, ho, hm, hk⟩ := h.var hi hn
      have hul := hu.len
      have hx : -24 ≤ p[i] := ho.1
      have hlt : (-1 - p[i]).toNat < b.length := by omega
      simp only [show ¬ 0 ≤ p[i] by omega, decide_false, Bool.false_eq_true, if_false, F_spec_l1Sub_eq ha (show Small t by show t.length < _; omega) e hu, Option.bind_some,
        w64 (n := -1 - p[i]) (by omega) (by omega), show 0 ≤ -1 - p[i] by omega, show -1 - p[i] < 24 by omega, and_self, if_true, hb, show ((-1 : Int) - p[i] < ((24 : Nat) : Int)) by omega,
        w64 (n := (c : Int) + u.length) (by omega) (by omega)]
      have eg : b.getD (-1 - p[i]).toNat default = bget b p[i] := rfl
      rw [eg]
      by_cases h0 : bget b p[i] = []
      · rw [if_pos h0] at hm
        simp only [h0, List.length_nil, Int.natCast_zero, Int.lt_irrefl, decide_false, Bool.false_eq_true, if_false]
        exact .some ⟨⟨i + 1, c + u.length, by simp, by simp, by omega, by omega, by simpa using hb, bset_small h.hsm (by omega), hk, by rw [hm]; rfl⟩, by simp; omega⟩
      · rw [if_neg h0] at hm
        have hp0 := List.length_pos_iff.2 h0
        simp only [show (0 : Int) < ((bget b p[i]).length : Int) by omega, decide_true, if_true, F_spec_SameTerm_eq (show Small (bget b p[i]) by show List.length _ < _; have := bget_small (n := p[i]) h.hsm; omega), Option.bind_some]
        by_cases h1 : bget b p[i] = u
        · rw [if_pos h1] at hm
          simp only [h1, beq_self_eq_true, if_true]
          have hset : b.set (-1 - p[i]).toNat u = b := by
            have : b[(-1 - p[i]).toNat] = u := by rw [← h1]; exact (getD_get hlt).symm
            rw [← this]; exact List.set_getElem_self hlt
          rw [hset]
          exact .some ⟨⟨i + 1, c + u.length, by simp, by simp, by omega, by omega, hb, h.hsm, hk, hm.symm⟩, by simp; omega⟩
        · rw [if_neg h1] at hm
          have : ¬ (bget b p[i] == u) = true := by simpa using h1
          simp only [this, if_false, Option.map_some]
          refine .some ?_
          simp only [Rnd, MRes, hm]
    · obtain ⟨hc', ho, hm, hk⟩ := h.sym hi hn
      simp only [show 0 ≤ p[i] by omega, decide_true, if_true]
      by_cases e : t[c] = p[i]
      · rw [if_pos e] at hm
        simp only [e, bne_self_eq_false, Bool.false_eq_true, if_false]
        exact .some ⟨⟨i + 1, c + 1, by simp, by simp, by omega, by omega, hb, h.hsm, hk e, hm.symm⟩, by simp; omega⟩
      · rw [if_neg e] at hm
        have : (p[i] != t[c]) = true := by simpa using fun h => e h.symm
        simp only [this, if_true, Option.map_some]
        refine .some ?_
        simp only [Rnd, MRes, hm]
  · have hm := h.m
    rw [List.drop_of_length_le (by omega), mat_nil] at hm
    simp only [show ¬ (i : Int) < p.length by omega, decide_false, Bool.false_eq_true, if_false, hb, if_true]
    refine Okk.inr ?_
    refine Okk.bind (F_spec_l2Plain_ok (by omega) h.hsm) fun o ho => .some ?_
    simp only [Rnd, MRes, ← hm]
    exact ⟨trivial, ho.1, ho.2⟩
theorem sub_take {σ : Int → List Int} {t : List Int} {i : Nat} (hi : i < t.length) : sub σ (t.take (i + 1)) = sub σ (t.take i) ++ (if t[i] < 0 then σ t[i] else [t[i]]) := by
  rw [List.take_add_one, List.getElem?_eq_getElem hi, sub_app]
  simp [sub]
theorem sub_take_le {σ : Int → List Int} {t : List Int} {i : Nat} : (sub σ (t.take i)).length ≤ (sub σ t).length := by
  have : sub σ t = sub σ (t.take i) ++ sub σ (t.drop i) := by rw [← sub_app, List.take_append_drop]
  rw [this]; simp
def fillO (σ : Int → List Int) (t : List Int) : Option (List Int) := if (sub σ t).length ≤ 60 then some (sub σ t) else none
def encO (o : Option (List Int)) : List Int × Bool := match o with | some x => (x, true) | none => ([], false)
theorem F_impl_byVar_eq {s : Bd} (hl : s.length ≤ 24) {i : Nat} (hi : i ≤ 24) : F_impl_Subst_byVar s i = some (s.getD i []) := by
  unfold F_impl_Subst_byVar
  by_cases h : i < s.length
  · have hg : s.getD i [] = s[i] := getD_get h
    simp only [show ¬ (s.length : Int) ≤ i by omega, decide_false, Bool.false_eq_true, if_false, show (0 : Int) ≤ i by omega, show (i : Int) < s.length by omega, and_self, if_true, Int.toNat_natCast, getD_get h, hg]
    by_cases h0 : s[i] = []
    · simp [h0]
    · have := List.length_pos_iff.2 h0
      have h2 : ¬ ((s[i].length : Int) == 0) = true := by simp only [beq_iff_eq]; omega
      simp only [h2, Bool.false_eq_true, if_false, this, if_true]
  · simp only [show (s.length : Int) ≤ i by omega, decide_true, if_true, getD_out (s := s) (i := i) (by omega)]
theorem fill_step {σ : Int → List Int} {t : List Int} {i : Nat} (hi : i < t.length) {out u : List Int} (ho : out = sub σ (t.take i)) (hu : u = if t[i] < 0 then σ t[i] else [t[i]]) :
    (60 < (out ++ u).length → fillO σ t = none) ∧ out ++ u = sub σ (t.take (i + 1)) := by
  have e : out ++ u = sub σ (t.take (i + 1)) := by rw [sub_take hi, ho, hu]
  refine ⟨fun h => ?_, e⟩
  rw [e] at h
  unfold fillO
  rw [if_neg]
  have := sub_take_le (σ := σ) (t := t) (i := i + 1)
  omega
theorem F_impl_fill_eq {s : Bd} {t : List Int} (hl : s.length ≤ 24) (hs : ∀ i, (s.getD i []).length ≤ 60) (ht : t.length ≤ 60) (hx : ∀ x ∈ t, -24 ≤ x) : F_impl_fill s t = some (encO (fillO (Tm.sig s) t)) := by
  have key : Okk True (F_impl_fill s t) (· = encO (fillO (Tm.sig s) t)) := by
    unfold F_impl_fill
    simp only [F_impl_Subst_lookup, Option.bind_some, show 0 ≤ (t.length : Int) ∧ 8 * (t.length : Int) ≤ 281474976710656 by omega, and_self, if_true]
    refine Okk.loop (fun q : List Int × Int => ∃ i : Nat, q.2 = i ∧ i ≤ t.length ∧ q.1 = sub (Tm.sig s) (t.take i) ∧ q.1.length ≤ 60) (fun q : List Int × Int => t.length - q.2.toNat) ⟨0, rfl, by omega, by simp [sub], by simp⟩ ?_
    rintro ⟨out, _⟩ ⟨i, rfl, h1, h2, h3⟩
    simp only at h2 h3
    simp only [F_impl_fill_l1]
    by_cases hi : i < t.length
    · have hxi := hx _ (List.getElem_mem hi)
      simp only [show (i : Int) < t.length by omega, decide_true, if_true, show (0 : Int) ≤ i by omega, and_self, Int.toNat_natCast, getD_get hi, w64 (n := (i : Int) + 1) (by omega) (by omega)]
      have fin : ∀ u : List Int, u.length ≤ 60 → u = (if t[i] < 0 then Tm.sig s t[i] else [t[i]]) → Okk True (if decide (60 < ((out ++ u).length : Int)) = true then Option.map Sum.inr (some (([] : List Int), false)) else some (Sum.inl (out ++ u, (i : Int) + 1)))
          (Rnd (fun q : List Int × Int => ∃ i : Nat, q.2 = i ∧ i ≤ t.length ∧ q.1 = sub (Tm.sig s) (t.take i) ∧ q.1.length ≤ 60) (fun q : List Int × Int => t.length - q.2.toNat) (· = encO (fillO (Tm.sig s) t)) (t.length - i)) := fun u hu e => by
        obtain ⟨h4, h5⟩ := fill_step hi h2 e
        by_cases h6 : 60 < (out ++ u).length
        · simp only [show (60 : Int) < ((out ++ u).length : Int) by omega, decide_true, if_true, Option.map_some]
          refine .some ?_
          simp only [Rnd, h4 h6, encO]
        · simp only [show ¬ (60 : Int) < ((out ++ u).length : Int) by omega, decide_false, Bool.false_eq_true, if_false]
          exact .some ⟨⟨i + 1, by simp, by omega, h5, by simp only; omega⟩, by simp; omega⟩
      unfold F_impl_Subst_lookup_1
      by_cases hn : t[i] < 0
      · have hi24 : ((-1 - t[i]).toNat : Int) = -1 - t[i] := by omega
        simp only [show ¬ 0 ≤ t[i] by omega, decide_false, Bool.false_eq_true, if_false, w64 (n := -1 - t[i]) (by omega) (by omega)]
        rw [← hi24, F_impl_byVar_eq hl (by omega), Option.bind_some, Option.bind_some]
        have hb : s.getD (-1 - t[i]).toNat [] = bget s t[i] := rfl
        rw [hb]
        have hbl : (bget s t[i]).length ≤ 60 := hs _
        by_cases h0 : bget s t[i] = []
        · simp only [h0, List.isEmpty_nil, if_true, show (out.length + 1) * 8 ≤ 140737488355328 by omega]
          exact fin [t[i]] (by simp) (by rw [if_pos hn]; unfold Tm.sig; rw [if_pos h0])
        · have : ¬ (bget s t[i]).isEmpty = true := by simpa using h0
          simp only [this, if_false, show (out.length + (bget s t[i]).length) * 8 ≤ 140737488355328 by omega, if_true]
          exact fin (bget s t[i]) hbl (by rw [if_pos hn]; unfold Tm.sig; rw [if_neg h0])
      · simp only [show 0 ≤ t[i] by omega, decide_true, if_true, Option.bind_some, List.isEmpty_nil, show (out.length + 1) * 8 ≤ 140737488355328 by omega]
        exact fin [t[i]] (by simp) (by rw [if_neg hn])
    · simp only [show ¬ (i : Int) < t.length by omega, decide_false, Bool.false_eq_true, if_false, Option.map_some]
      refine .some ?_
      rw [List.take_of_length_le (by omega)] at h2
      simp only [Rnd, fillO, ← h2, h3, if_true, encO]
  exact key.eq
theorem F_spec_l2Filled_eq {s : Bd} {t : List Int} (hl : s.length ≤ 24) (hs : ∀ u ∈ s, u.length ≤ 60) (ht : t.length ≤ 60) (hx : ∀ x ∈ t, -24 ≤ x) : F_spec_l2Filled s t = some (encO (fillO (Tm.sig s) t)) := by
  have key : Okk True (F_spec_l2Filled s t) (· = encO (fillO (Tm.sig s) t)) := by
    unfold F_spec_l2Filled
    refine Okk.loop (fun q : List Int × Int => ∃ i : Nat, q.2 = i ∧ i ≤ t.length ∧ q.1 = sub (Tm.sig s) (t.take i) ∧ q.1.length ≤ 60) (fun q : List Int × Int => t.length - q.2.toNat) ⟨0, rfl, by omega, by simp [sub], by simp⟩ ?_
    rintro ⟨out, _⟩ ⟨i, rfl, h1, h2, h3⟩
    simp only at h2 h3
    simp only [F_spec_l2Filled_l1]
    by_cases hi : i < t.length
    · have hxi := hx _ (List.getElem_mem hi)
      simp only [show (i : Int) < t.length by omega, decide_true, if_true, show (0 : Int) ≤ i by omega, and_self, Int.toNat_natCast, getD_get hi, w64 (n := (i : Int) + 1) (by omega) (by omega)]
      have fin : ∀ u : List Int, u.length ≤ 60 → u = (if t[i] < 0 then Tm.sig s t[i] else [t[i]]) → Okk True (if decide (60 < ((out ++ u).length : Int)) = true then Option.map Sum.inr (some (([] : List Int), false)) else some (Sum.inl (out ++ u, (i : Int) + 1)))
          (Rnd (fun q : List Int × Int => ∃ i : Nat, q.2 = i ∧ i ≤ t.length ∧ q.1 = sub (Tm.sig s) (t.take i) ∧ q.1.length ≤ 60) (fun q : List Int × Int => t.length - q.2.toNat) (· = encO (fillO (Tm.sig s) t)) (t.length - i)) := fun u hu e => by
        obtain ⟨h4, h5⟩ := fill_step hi h2 e
        by_cases h6 : 60 < (out ++ u).length
        · simp only [show (60 : Int) < ((out ++ u).length : Int) by omega, decide_true, if_true, Option.map_some]
          refine .some ?_
          simp only [Rnd, h4 h6, encO]
        · simp only [show ¬ (60 : Int) < ((out ++ u).length : Int) by omega, decide_false, Bool.false_eq_true, if_false]
          exact .some ⟨⟨i + 1, by simp, by omega, h5, by simp only; omega⟩, by simp; omega⟩
      by_cases hn : t[i] < 0
      · have hi24 : ((-1 - t[i]).toNat : Int) = -1 - t[i] := by omega
        simp only [hn, decide_true, if_true, w64 (n := -1 - t[i]) (by omega) (by omega)]
        rw [← hi24, F_spec_l2Gives_eq hs hl (by omega), Option.bind_some, hi24]
        have hb : s.getD (-1 - t[i]).toNat [] = bget s t[i] := rfl
        rw [hb]
        have hbl : (bget s t[i]).length ≤ 60 := bget_small hs
        by_cases h0 : bget s t[i] = []
        · simp only [h0, if_true, List.length_singleton, show (out.length + 1) * 8 ≤ 140737488355328 by omega, show -1 - (-1 - t[i]) = t[i] by omega]
          exact fin [t[i]] (by simp) (by rw [if_pos hn]; unfold Tm.sig; rw [if_pos h0])
        · simp only [h0, if_false, show (out.length + (bget s t[i]).length) * 8 ≤ 140737488355328 by omega, if_true]
          exact fin (bget s t[i]) hbl (by rw [if_pos hn]; unfold Tm.sig; rw [if_neg h0])
      · simp only [hn, decide_false, Bool.false_eq_true, if_false, show (out.length + 1) * 8 ≤ 140737488355328 by omega, if_true]
        exact fin [t[i]] (by simp) (by rw [if_neg hn])
    · simp only [show ¬ (i : Int) < t.length by omega, decide_false, Bool.false_eq_true, if_false, Option.map_some]
      refine .some ?_
      rw [List.take_of_length_le (by omega)] at h2
      simp only [Rnd, fillO, ← h2, h3, if_true, encO]
  exact key.eq
theorem F_slices_Concat_eq {xs : List (List Int)} (hl : xs.length ≤ 3) (hs : ∀ u ∈ xs, u.length ≤ 60) : F_slices_Concat_int64_int64 xs = some xs.flatten := by
  have hfl : ∀ i, i ≤ xs.length → (xs.take i).flatten.length ≤ 60 * i := fun i => by
    induction i with
    | zero => simp
    | succ i ih =>
      intro hi
      have h1 : i < xs.length := by omega
      rw [List.take_add_one, List.getElem?_eq_getElem h1, List.flatten_append, List.length_append]
      have := ih (by omega)
      have := hs _ (List.getElem_mem h1)
      simp only [Option.toList_some, List.flatten_cons, List.flatten_nil, List.append_nil]; omega
  have tk : ∀ i (h1 : i < xs.length), (xs.take (i + 1)).flatten = (xs.take i).flatten ++ xs[i] := fun i h1 => by
    rw [List.take_add_one, List.getElem?_eq_getElem h1, List.flatten_append]; simp
  have key : Okk True (F_slices_Concat_int64_int64 xs) (· = xs.flatten) := by
    unfold F_slices_Concat_int64_int64
    refine Okk.loop (fun q : Int × Int => ∃ i : Nat, q.2 = i ∧ i ≤ xs.length ∧ q.1 = ((xs.take i).flatten.length : Int)) (fun q : Int × Int => xs.length - q.2.toNat) ⟨0, rfl, by omega, by simp⟩ ?_
    rintro ⟨_, _⟩ ⟨i, rfl, h1, rfl⟩
    simp only [F_slices_Concat_int64_int64_l1]
    have hb := hfl i h1
    by_cases hi : i < xs.length
    · have hu := hs _ (List.getElem_mem hi)
      simp only [show (i : Int) < xs.length by omega, decide_true, if_true, show (0 : Int) ≤ i by omega, and_self, Int.toNat_natCast, getD_get hi, w64 (n := (i : Int) + 1) (by omega) (by omega),
        w64 (n := ((xs.take i).flatten.length : Int) + (xs[i].length : Int)) (by omega) (by omega), show ¬ ((xs.take i).flatten.length : Int) + (xs[i].length : Int) < 0 by omega, decide_false, Bool.false_eq_true, if_false]
      exact .some ⟨⟨i + 1, by simp, by omega, by rw [tk i hi]; simp⟩, by simp; omega⟩
    · simp only [show ¬ (i : Int) < xs.length by omega, decide_false, Bool.false_eq_true, if_false, F_slices_Grow_int64_int64, show 0 ≤ ((xs.take i).flatten.length : Int) ∧ ((xs.take i).flatten.length : Int) * 8 ≤ 140737488355328 by omega, and_self, if_true, Option.bind_some]
      refine Okk.inr ?_
      simp only [Rnd]
      refine Okk.loop (fun q : List Int × Int => ∃ i : Nat, q.2 = i ∧ i ≤ xs.length ∧ q.1 = (xs.take i).flatten) (fun q : List Int × Int => xs.length - q.2.toNat) ⟨0, rfl, by omega, by simp⟩ ?_
      rintro ⟨_, _⟩ ⟨j, rfl, h2, rfl⟩
      simp only [F_slices_Concat_int64_int64_l2]
      have hb := hfl j h2
      by_cases hj : j < xs.length
      · have hu := hs _ (List.getElem_mem hj)
        simp only [show (j : Int) < xs.length by omega, decide_true, if_true, show (0 : Int) ≤ j by omega, and_self, Int.toNat_natCast, getD_get hj, w64 (n := (j : Int) + 1) (by omega) (by omega),
          show ((xs.take j).flatten.length + xs[j].length) * 8 ≤ 140737488355328 by omega]
        exact .some ⟨⟨j + 1, by simp, by omega, by rw [tk j hj]⟩, by simp; omega⟩
      · simp only [show ¬ (j : Int) < xs.length by omega, decide_false, Bool.false_eq_true, if_false, Option.map_some]
        refine .some ?_
        simp only [Rnd]
        rw [List.take_of_length_le (by omega)]
  exact key.eq
def putO (a t : List Int) (i : Nat) (v : List Int) : Option (List Int) := if (putp a t i v).length ≤ 60 then some (putp a t i v) else none
theorem F_impl_put_eq {a p u s v : List Int} (ha : sigOk a = true) (hu : Wf a 1 u) (hm : ∀ x ∈ p ++ (u ++ s), -24 ≤ x) (hl : (p ++ (u ++ s)).length ≤ 60) (hv : v.length ≤ 60) :
    F_impl_put a (p ++ (u ++ s)) (p.length : Int) v = some (encO (putO a (p ++ (u ++ s)) p.length v)) := by
  have hd : (p ++ (u ++ s)).drop p.length = u ++ s := List.drop_left
  have hl' := hl
  simp only [List.length_append] at hl'
  unfold F_impl_put
  rw [if_pos (by simp only [List.length_append]; omega), F_impl_endAt_eq ha (by show List.length _ < _; omega) hm (by simp), Option.bind_some, endI_app hd hu]
  have e1 : ((p ++ (u ++ s)).length : Int) - s.length = ((p.length + u.length : Nat) : Int) := by simp; omega
  rw [e1, if_pos (by simp; omega), Int.toNat_natCast, Int.toNat_natCast, List.take_left, ← List.drop_drop, hd, List.drop_left]
  rw [F_slices_Concat_eq (by simp) (by intro w hw; simp at hw; rcases hw with rfl | rfl | rfl <;> omega), Option.bind_some]
  unfold putO
  rw [putp_eq hu]
  have e2 : [p, v, s].flatten = p ++ (v ++ s) := by simp
  rw [e2]
  by_cases h : (p ++ (v ++ s)).length ≤ 60
  · simp only [show ¬ (60 : Int) < ((p ++ (v ++ s)).length : Int) by omega, decide_false, Bool.false_eq_true, if_false, h, if_true, encO]
  · simp only [show (60 : Int) < ((p ++ (v ++ s)).length : Int) by omega, decide_true, if_true, h, if_false, encO]
theorem F_spec_l3Put_eq {a p u s v : List Int} (ha : sigOk a = true) (hu : Wf a 1 u) (hl : (p ++ (u ++ s)).length ≤ 60) (hv : v.length ≤ 60) :
    F_spec_l3Put a (p ++ (u ++ s)) (p.length : Int) v = some (encO (putO a (p ++ (u ++ s)) p.length v)) := by
  have hd : (p ++ (u ++ s)).drop p.length = u ++ s := List.drop_left
  have hl' := hl
  simp only [List.length_append] at hl'
  unfold F_spec_l3Put
  rw [if_pos (by simp only [List.length_append]; omega), Int.toNat_natCast, List.take_left, F_spec_l1Copy_eq (by show List.length _ < _; omega), Option.bind_some, if_pos (by omega), F_spec_l1End_eq ha (by show List.length _ < _; omega) (by simp), Option.bind_some, endI_app hd hu]
  have e1 : ((p ++ (u ++ s)).length : Int) - s.length = ((p.length + u.length : Nat) : Int) := by simp; omega
  rw [e1, if_pos (by simp; omega), Int.toNat_natCast, ← List.drop_drop, hd, List.drop_left, if_pos (by simp; omega), List.append_assoc]
  unfold putO
  rw [putp_eq hu]
  by_cases h : (p ++ (v ++ s)).length ≤ 60
  · simp only [show ¬ (60 : Int) < ((p ++ (v ++ s)).length : Int) by omega, decide_false, Bool.false_eq_true, if_false, h, if_true, encO]
  · simp only [show (60 : Int) < ((p ++ (v ++ s)).length : Int) by omega, decide_true, if_true, h, if_false, encO]
abbrev Sys := List Int × List (List Int × List Int)
theorem sysOk_iff {s : Sys} : sysOk s = true ↔ sigOk s.1 = true ∧ s.2.length ≤ 12 ∧ ∀ r ∈ s.2, ruleOk s.1 r = true := by simp [sysOk]
theorem ruleOk_iff {a : List Int} {r : List Int × List Int} : ruleOk a r = true ↔ termOk a r.1 = true ∧ termOk a r.2 = true ∧ 0 ≤ r.1.headD 0 ∧ ∀ x ∈ r.2, x < 0 → x ∈ r.1 := by
  simp only [ruleOk, varIn, Bool.and_eq_true, decide_eq_true_eq, List.all_eq_true]
def stepO (s : Sys) (t : List Int) (i rule : Nat) : Option (List Int) := stepp s.1 (s.2.getD rule default).1 (s.2.getD rule default).2 t i
theorem plain_small {b o : Bd} (hb : ∀ u ∈ b, u.length ≤ 60) (h : ∀ i, o.getD i [] = plainAt b i) : (∀ i, (o.getD i []).length ≤ 60) ∧ ∀ u ∈ o, u.length ≤ 60 := by
  have h1 : ∀ i, (o.getD i []).length ≤ 60 := fun i => by
    rw [h]
    unfold plainAt
    split
    · simp
    · rw [List.getD_eq_getElem?_getD]
      cases hx : b[i]? with
      | none => simp
      | some u => exact hb u (List.mem_of_getElem? hx)
  refine ⟨h1, fun u hu => ?_⟩
  obtain ⟨i, hi, rfl⟩ := List.getElem_of_mem hu
  have := h1 i
  rwa [show o.getD i [] = o[i] from getD_get hi] at this
theorem fill_plain {b o : Bd} (h : ∀ i, o.getD i [] = plainAt b i) (t : List Int) : fillO (Tm.sig o) t = fillO (Tm.sig b) t := by
  unfold fillO
  rw [sub_congr fun x _ hx => plain_sig h hx]
theorem stepp_eq {a l r p u s : List Int} (hu : Wf a 1 u) : stepp a l r (p ++ (u ++ s)) p.length = (mat a l u none24).bind fun b => (fillO (Tm.sig b) r).bind fun v => putO a (p ++ (u ++ s)) p.length v := by
  unfold stepp
  rw [at_eq hu]
  congr 1
  funext b
  unfold fillO putO
  by_cases h1 : (sub (Tm.sig b) r).length ≤ 60
  · rw [if_pos h1, Option.bind_some]
    by_cases h2 : (putp a (p ++ (u ++ s)) p.length (sub (Tm.sig b) r)).length ≤ 60
    · rw [if_pos ⟨h1, h2⟩, if_pos h2]
    · rw [if_neg (fun h => h2 h.2), if_neg h2]
  · rw [if_neg (fun h => h1 h.1), if_neg h1]; rfl
theorem F_impl_step_eq {s : Sys} {t : List Int} {i rule : Nat} (hs : sysOk s = true) (ht : termOk s.1 t = true) (hi : i < t.length) (hr : rule < s.2.length) : F_impl_step s t i rule = some (encO (stepO s t i rule)) := by
  obtain ⟨ha, _, hrs⟩ := sysOk_iff.1 hs
  obtain ⟨_, h1, h2, hw⟩ := termOk_iff.1 ht
  obtain ⟨p, u, q, rfl, rfl, hu⟩ := hw.place hi
  have hrule := ruleOk_iff.1 (hrs _ (getD_mem hr))
  obtain ⟨hL, hR, _, hv⟩ := hrule
  obtain ⟨_, hL1, hL2, hL3⟩ := termOk_iff.1 hL
  obtain ⟨_, hR1, hR2, hR3⟩ := termOk_iff.1 hR
  have hm : ∀ x ∈ p ++ (u ++ q), -24 ≤ x := fun x hx => (hw.all x hx).1
  have hul : u.length ≤ 60 := by simp at h2; omega
  unfold F_impl_step stepO
  rw [if_pos (by omega), F_impl_subAt_eq ha (by show List.length _ < _; omega) hm List.drop_left hu, Option.bind_some, Int.toNat_natCast]
  obtain ⟨o, e1, e2⟩ := (F_impl_match_ok ha hL3 hu hL2 hul).get
  rw [e1, Option.bind_some, stepp_eq hu]
  cases hmat : mat s.1 (s.2.getD rule default).1 u none24 with
  | none =>
    rw [hmat] at e2
    simp only [MRes] at e2
    simp only [e2, Bool.false_eq_true, if_false, Option.bind_none, encO]
  | some b =>
    rw [hmat] at e2
    obtain ⟨e3, e4, e5⟩ := e2
    obtain ⟨hb1, hb2⟩ := mat_small hmat (by intro u hu; simp [none24] at hu; subst hu; simp) hul (by simp [none24])
    obtain ⟨hp1, hp2⟩ := plain_small hb2 e5
    rw [if_pos e3, if_pos (by omega), F_impl_fill_eq e4 hp1 hR2 (fun x hx => (hR3.all x hx).1), Option.bind_some, Option.bind_some, fill_plain e5]
    cases hf : fillO (Tm.sig b) (s.2.getD rule default).2 with
    | none => simp [encO]
    | some v =>
      have hv60 : v.length ≤ 60 := by
        unfold fillO at hf
        split at hf
        · rename_i h; cases hf; exact h
        · cases hf
      simp only [encO, if_true, Option.bind_some]
      rw [F_impl_put_eq ha hu hm h2 hv60]; rfl
theorem F_spec_l7Step_eq {s : Sys} {t : List Int} {i rule : Nat} (hs : sysOk s = true) (ht : termOk s.1 t = true) (hi : i < t.length) (hr : rule < s.2.length) : F_spec_l7Step s t i rule = some (encO (stepO s t i rule)) := by
  obtain ⟨ha, _, hrs⟩ := sysOk_iff.1 hs
  obtain ⟨_, h1, h2, hw⟩ := termOk_iff.1 ht
  obtain ⟨p, u, q, rfl, rfl, hu⟩ := hw.place hi
  have hrule := ruleOk_iff.1 (hrs _ (getD_mem hr))
  obtain ⟨hL, hR, _, hv⟩ := hrule
  obtain ⟨_, hL1, hL2, hL3⟩ := termOk_iff.1 hL
  obtain ⟨_, hR1, hR2, hR3⟩ := termOk_iff.1 hR
  have hul : u.length ≤ 60 := by simp at h2; omega
  unfold F_spec_l7Step stepO
  rw [if_pos (by omega), F_spec_l1Sub_eq ha (by show List.length _ < _; omega) List.drop_left hu, Option.bind_some, Int.toNat_natCast]
  obtain ⟨o, e1, e2⟩ := (F_spec_l4Match_ok ha hL3 hu hL2 hul).get
  rw [e1, Option.bind_some, stepp_eq hu]
  cases hmat : mat s.1 (s.2.getD rule default).1 u none24 with
  | none =>
    rw [hmat] at e2
    simp only [MRes] at e2
    simp only [e2, Bool.false_eq_true, if_false, Option.bind_none, encO]
  | some b =>
    rw [hmat] at e2
    obtain ⟨e3, e4, e5⟩ := e2
    obtain ⟨hb1, hb2⟩ := mat_small hmat (by intro u hu; simp [none24] at hu; subst hu; simp) hul (by simp [none24])
    obtain ⟨hp1, hp2⟩ := plain_small hb2 e5
    rw [if_pos e3, F_spec_l2Filled_eq e4 hp2 hR2 (fun x hx => (hR3.all x hx).1), Option.bind_some, Option.bind_some, fill_plain e5]
    cases hf : fillO (Tm.sig b) (s.2.getD rule default).2 with
    | none => simp [encO]
    | some v =>
      have hv60 : v.length ≤ 60 := by
        unfold fillO at hf
        split at hf
        · rename_i h; cases hf; exact h
        · cases hf
      simp only [encO, if_true, Option.bind_some]
      rw [F_spec_l3Put_eq ha hu h2 hv60]; rfl
def stepAtO (s : Sys) (t : List Int) (i rule : Int) : Option (List Int) :=
  if (sysOk s = true ∧ termOk s.1 t = true) ∧ (0 ≤ i ∧ i < t.length) ∧ (0 ≤ rule ∧ rule < s.2.length) then stepO s t i.toNat rule.toNat else none
theorem stepAtO_small {s : Sys} {t u : List Int} {i rule : Int} (h : stepAtO s t i rule = some u) : u.length ≤ 60 := by
  unfold stepAtO at h
  split at h
  · unfold stepO stepp at h
    obtain ⟨b, _, h⟩ := Option.bind_eq_some_iff.1 h
    split at h
    · rename_i hc; cases h; exact hc.2
    · cases h
  · cases h
abbrev Stp := Int × Int × List Int
end Go.Proofs.YtglpjlpmijfocaaGreat
namespace Go.Proofs.YtglpjlpmijfocaaGreat
open Go Abx Tm
abbrev Mvv := Int × Int × Bool × List Int
abbrev Chn := List Int × List Mvv
abbrev Eqq := List Int × List Int
def eqOkB (a : List Int) (e : Eqq) : Bool := termOk a e.1 && termOk a e.2
def eqsOkB (a : List Int) (eqs : List Eqq) : Bool := sigOk a && (decide (eqs.length ≤ 12) && eqs.all (eqOkB a))
theorem eqOk_iff {a : List Int} {e : Eqq} : eqOkB a e = true ↔ termOk a e.1 = true ∧ termOk a e.2 = true := by simp [eqOkB]
theorem eqsOk_iff {a : List Int} {eqs : List Eqq} : eqsOkB a eqs = true ↔ sigOk a = true ∧ eqs.length ≤ 12 ∧ ∀ e ∈ eqs, eqOkB a e = true := by simp [eqsOkB]
def sideF (eqs : List Eqq) (m : Mvv) : List Int := if m.2.2.1 = true then (eqs.getD m.1.toNat default).2 else (eqs.getD m.1.toNat default).1
def sideO (eqs : List Eqq) (m : Mvv) : List Int := if m.2.2.1 = true then (eqs.getD m.1.toNat default).1 else (eqs.getD m.1.toNat default).2
def inB (eqs : List Eqq) (t : List Int) (m : Mvv) : Prop := (0 ≤ m.1 ∧ m.1 < eqs.length) ∧ (0 ≤ m.2.1 ∧ m.2.1 < t.length) ∧ m.2.1 < m.2.2.2.length
instance (eqs : List Eqq) (t : List Int) (m : Mvv) : Decidable (inB eqs t m) := by unfold inB; infer_instance
def moveB (a : List Int) (eqs : List Eqq) (t : List Int) (m : Mvv) : Bool := decide (inB eqs t m) && (termOk a m.2.2.2 && mvB a (sideF eqs m) (sideO eqs m) t m.2.2.2 m.2.1.toNat)
theorem moveB_to {a : List Int} {eqs : List Eqq} {t : List Int} {m : Mvv} (h : moveB a eqs t m = true) : termOk a m.2.2.2 = true := by
  simp only [moveB, Bool.and_eq_true] at h; exact h.2.1
theorem moveB_iff {a : List Int} {eqs : List Eqq} {t : List Int} {m : Mvv} (he : eqsOkB a eqs = true) (ht : termOk a t = true) :
    moveB a eqs t m = true ↔ (0 ≤ m.1 ∧ m.1 < eqs.length) ∧ 0 ≤ m.2.1 ∧ termOk a m.2.2.2 = true ∧ Mv a (sideF eqs m) (sideO eqs m) t m.2.2.2 m.2.1.toNat := by
  obtain ⟨ha, hel, hall⟩ := eqsOk_iff.1 he
  obtain ⟨_, t1, t2, t3⟩ := termOk_iff.1 ht
  have sides : (0 ≤ m.1 ∧ m.1 < eqs.length) → Wf a 1 (sideF eqs m) ∧ Wf a 1 (sideO eqs m) := fun h => by
    obtain ⟨hL, hR⟩ := eqOk_iff.1 (hall _ (getD_mem (show m.1.toNat < eqs.length by omega)))
    unfold sideF sideO
    cases m.2.2.1 with
    | true => exact ⟨(termOk_iff.1 hR).2.2.2, (termOk_iff.1 hL).2.2.2⟩
    | false => exact ⟨(termOk_iff.1 hL).2.2.2, (termOk_iff.1 hR).2.2.2⟩
  simp only [moveB, Bool.and_eq_true, decide_eq_true_eq]
  unfold inB
  constructor
  · rintro ⟨⟨h1, h2, h3⟩, h4, h5⟩
    exact ⟨h1, h2.1, h4, (mvB_iff (sides h1).1 (sides h1).2 t3 (termOk_iff.1 h4).2.2.2 (by omega) (by omega)).1 h5⟩
  · rintro ⟨h1, h2, h4, h5⟩
    have h5' := h5
    obtain ⟨p, s, σ, hp, e1, e2, hσ⟩ := h5'
    have l1 := ((sides h1).1.sub fun x _ hx => hσ x hx).len
    have l2 := ((sides h1).2.sub fun x _ hx => hσ x hx).len
    have e1 := congrArg List.length e1
    have e2 := congrArg List.length e2
    simp only [List.length_append] at e1 e2
    exact ⟨⟨h1, ⟨h2, by omega⟩, by omega⟩, h4, (mvB_iff (sides h1).1 (sides h1).2 t3 (termOk_iff.1 h4).2.2.2 (by omega) (by omega)).2 h5⟩
theorem sys_eqs {s : Sys} (h : sysOk s = true) : eqsOkB s.1 s.2 = true := by
  obtain ⟨h1, h2, h3⟩ := sysOk_iff.1 h
  exact eqsOk_iff.2 ⟨h1, h2, fun e he => let h := ruleOk_iff.1 (h3 e he); eqOk_iff.2 ⟨h.1, h.2.1⟩⟩
theorem stepAt_move {s : Sys} {t u : List Int} {x : Stp} (h : stepAtO s t x.1 x.2.1 = some u) (hu : (u == x.2.2) = true) : moveB s.1 s.2 t (x.2.1, x.1, false, x.2.2) = true := by
  have hl := stepAtO_small h
  unfold stepAtO at h
  split at h
  · rename_i hc
    obtain ⟨⟨hs, ht⟩, hi, hr⟩ := hc
    obtain rfl : u = x.2.2 := by simpa using hu
    obtain ⟨_, _, h3⟩ := sysOk_iff.1 hs
    obtain ⟨hL, hR, _, hv⟩ := ruleOk_iff.1 (h3 _ (getD_mem (show x.2.1.toNat < s.2.length by omega)))
    have wL := (termOk_iff.1 hL).2.2.2
    have wR := (termOk_iff.1 hR).2.2.2
    obtain ⟨ha, _, _, wt⟩ := termOk_iff.1 ht
    obtain ⟨hm, _⟩ := stepp_mv wL wR wt (show x.1.toNat < t.length by omega) hv h
    have wu := hm.wf wL wR wt
    exact (moveB_iff (sys_eqs hs) ht).2 ⟨hr, hi.1, termOk_iff.2 ⟨ha, wu.len, hl, wu⟩, hm⟩
  · cases h
end Go.Proofs.YtglpjlpmijfocaaGreat
namespace Go.Proofs.YtglpjlpmijfocaaGreat
open Go Abx Tm
def firstI {α : Type} (p : α → Bool) (xs : List α) : Int := match xs.findIdx? p with | some j => (j : Int) | none => -1
theorem loop_first {α : Type} [Inhabited α] {xs : List α} {p : α → Bool} {f : Int → Option (Int ⊕ Int)}
    (h : ∀ (i : Nat) (x : α), i < xs.length → x ∈ xs → xs.getD i default = x → f (i : Int) = some (if p x = true then .inr (i : Int) else .inl ((i : Int) + 1)))
    (he : f xs.length = some (.inr (-1))) : loopC f 0 = some (firstI p xs) := by
  have key : ∀ (k i : Nat), i + k = xs.length → loopC f (i : Int) = some (match (xs.drop i).findIdx? p with | some j => ((i + j : Nat) : Int) | none => -1) := by
    intro k
    induction k with
    | zero =>
      intro i hi
      obtain rfl : i = xs.length := by omega
      rw [loopC_inr he, List.drop_length]; rfl
    | succ k ih =>
      intro i hi
      have hlt : i < xs.length := by omega
      have e := h i _ hlt (List.getElem_mem hlt) (getD_get hlt)
      rw [List.drop_eq_getElem_cons hlt, List.findIdx?_cons]
      cases hp : p (xs[i]) with
      | true => rw [hp] at e; rw [loopC_inr e]; simp
      | false =>
        rw [hp] at e
        rw [loopC_inl e, show ((i : Int) + 1) = ((i + 1 : Nat) : Int) by omega, ih (i + 1) (by omega)]
        cases hf : (xs.drop (i + 1)).findIdx? p with
        | none => simp
        | some j =>
          simp only [Bool.false_eq_true, if_false, Option.map_some]
          show some (((i + 1 + j : Nat) : Int)) = some (((i + (j + 1) : Nat) : Int))
          rw [show i + 1 + j = i + (j + 1) by omega]
  have := key xs.length 0 (by omega)
  simp only [List.drop_zero, Nat.zero_add] at this
  exact this
theorem firstI_none {α : Type} {p : α → Bool} {xs : List α} (h : ∀ x ∈ xs, p x = false) : firstI p xs = -1 := by
  unfold firstI
  rw [List.findIdx?_eq_none_iff.2 h]
theorem firstI_at {α : Type} {p : α → Bool} {xs : List α} {x : α} (hx : x ∈ xs) (hp : p x = true) : 0 ≤ firstI p xs := by
  unfold firstI
  cases h : xs.findIdx? p with
  | none => have := List.findIdx?_eq_none_iff.1 h x hx; rw [hp] at this; cases this
  | some j => simp only; omega
theorem match_isSome {a p t : List Int} {r : Bd × Bool} (h : MRes (mat a p t none24) r) : r.2 = (mat a p t none24).isSome := by
  cases hm : mat a p t none24 with
  | none => rw [hm] at h; exact h
  | some b => rw [hm] at h; exact h.1
end Go.Proofs.YtglpjlpmijfocaaGreat
namespace Go.Proofs.YtglpjlpmijfocaaGreat
open Go Abx Tm
theorem loop_st {σ γ : Type} {n : Nat} (st : Nat → σ) {c : γ} {f : σ → Option (σ ⊕ γ)} (h : ∀ i, i < n → f (st i) = some (.inl (st (i + 1)))) (he : f (st n) = some (.inr c)) : loopC f (st 0) = some c := by
  have key : ∀ k i, i + k = n → loopC f (st i) = some c := by
    intro k
    induction k with
    | zero => intro i hi; obtain rfl : i = n := by omega
              exact loopC_inr he
    | succ k ih => intro i hi; rw [loopC_inl (h i (by omega))]; exact ih (i + 1) (by omega)
  exact key n 0 (by omega)
theorem drop_cons {α : Type} [Inhabited α] {a : List α} {i : Nat} {x : α} {r : List α} (h : a.drop i = x :: r) : i < a.length ∧ a.getD i default = x ∧ a.drop (i + 1) = r := by
  have hlt : i < a.length := Nat.lt_of_not_le fun hn => by rw [List.drop_of_length_le hn] at h; cases h
  rw [List.drop_eq_getElem_cons hlt] at h
  simp only [List.cons.injEq] at h
  exact ⟨hlt, by rw [getD_get hlt, h.1], h.2⟩
theorem loop_to {α β : Type} [Inhabited α] {a : List α} {z : List β} {g : α → β} (hl : z.length = a.length) {f : Int × List β → Option ((Int × List β) ⊕ List β)}
    (h : ∀ (i : Nat) (out : List β), i < a.length → out.length = a.length → a.getD i default ∈ a → f ((i : Int), out) = some (.inl ((i : Int) + 1, out.set i (g (a.getD i default)))))
    (he : ∀ out, f ((a.length : Int), out) = some (.inr out)) : loopC f (0, z) = some (a.map g) := by
  have hz : (a.take 0).map g ++ z.drop 0 = z := by simp
  refine Eq.trans ?_ (loop_st (n := a.length) (fun i => ((i : Int), (a.take i).map g ++ z.drop i)) (fun i hi => ?_) ((he _).trans (by rw [List.take_length, ← hl, List.drop_length, List.append_nil])))
  · simp
  · rw [h i _ hi (by simp; omega) (getD_mem hi)]
    refine congrArg (fun x => some (Sum.inl x)) (Prod.ext (by simp) ?_)
    show ((a.take i).map g ++ z.drop i).set i _ = _
    rw [List.set_append_right _ _ (by simp; omega)]
    have hm : i - ((a.take i).map g).length = 0 := by simp; omega
    have hzl : i < z.length := by omega
    rw [hm, List.drop_eq_getElem_cons hzl, List.set_cons_zero, List.take_succ_eq_append_getElem hi, List.map_append, List.append_assoc, getD_get hi]
    simp
theorem loop_self {α : Type} {a : List α} {f : Int → Option (Int ⊕ Bool)} (h : ∀ i : Nat, i < a.length → f (i : Int) = some (.inl ((i : Int) + 1))) (he : f a.length = some (.inr true)) : loopC f 0 = some true :=
  loop_st (n := a.length) (fun i => (i : Int)) (fun i hi => h i hi) he
end Go.Proofs.YtglpjlpmijfocaaGreat
namespace Go.Proofs.YtglpjlpmijfocaaGreat
open Go Abx Tm
theorem F_spec_LessTerm_eq {a b : List Int} (ha : Small a) : F_spec_LessTerm a b = some (decide (cmpT a b < 0)) := by
  have ha' : a.length < 1099511627776 := ha
  unfold F_spec_LessTerm cmpT
  by_cases hl : a.length = b.length
  · rw [if_neg (by simp [hl]), if_pos hl]
    have := loopC_is (f := F_spec_LessTerm_l1 a b) (fun k => some (decide (lexI (a.drop k.toNat) (b.drop k.toNat) < 0))) (fun k : Int => ∃ i : Nat, k = (i : Int) ∧ i ≤ a.length) (fun k : Int => a.length - k.toNat) ?_ 0 ⟨0, rfl, by omega⟩
    · simpa using this
    · rintro _ ⟨i, rfl, hi⟩
      by_cases hlt : i < a.length
      · have hb : i < b.length := by omega
        simp only [F_spec_LessTerm_l1, show (i : Int) < a.length by omega, show (i : Int) < b.length by omega, decide_true, if_true, show (0 : Int) ≤ i by omega, and_self, Int.toNat_natCast, getD_get hlt, getD_get hb, w64 (n := (i : Int) + 1) (by omega) (by omega), Option.map_some]
        simp only [List.drop_eq_getElem_cons hlt, List.drop_eq_getElem_cons hb]
        by_cases he : a[i] = b[i]
        · refine .inl ⟨((i + 1 : Nat) : Int), by simp [he], ⟨i + 1, rfl, by omega⟩, by simp; omega, ?_⟩
          simp [lexI, he]
        · refine .inr ⟨_, by simp [he]; rfl, ?_⟩
          simp only [lexI]
          rcases Int.lt_or_gt_of_ne he with h | h
          · simp [h]
          · simp [h, show ¬ a[i] < b[i] by omega]
      · obtain rfl : i = a.length := by omega
        refine .inr ⟨false, by simp [F_spec_LessTerm_l1], ?_⟩
        simp only [Int.toNat_natCast, List.drop_length, show b.drop a.length = [] by rw [hl]; exact List.drop_length, lexI_self]
        rfl
  · rw [if_pos (by simp; omega), if_neg hl]
    refine congrArg some (decide_eq_decide.2 ?_)
    omega
abbrev Srt (l : List (List Int)) : Prop := l.Pairwise fun a b => cmpT a b ≤ 0
theorem insert_ok {l : List (List Int)} {t : List Int} (hl : l.length < 1099511627776) (ht : Small t) (hs : Srt l) : Okk True (F_spec_l28Insert l t) fun o => o.Perm (t :: l) ∧ Srt o := by
  unfold F_spec_l28Insert
  refine Okk.loop (fun k : Int => ∃ i : Nat, k = (i : Int) ∧ i ≤ l.length ∧ ∀ x ∈ l.drop i, cmpT t x ≤ 0) (fun k : Int => k.toNat) ⟨l.length, rfl, by omega, by simp⟩ ?_
  rintro _ ⟨i, rfl, hi, hd⟩
  have fin : (∀ x ∈ l.take i, cmpT x t ≤ 0) → (l.take i ++ [t] ++ l.drop i).Perm (t :: l) ∧ Srt (l.take i ++ [t] ++ l.drop i) := fun h => by
    constructor
    · rw [List.append_assoc, List.singleton_append]
      refine List.perm_middle.trans ?_
      rw [List.take_append_drop]
    · have hs' := hs
      rw [← List.take_append_drop i l, Srt, List.pairwise_append] at hs'
      rw [Srt, List.append_assoc, List.singleton_append, List.pairwise_append]
      refine ⟨hs'.1, List.pairwise_cons.2 ⟨hd, hs'.2.1⟩, fun x hx y hy => ?_⟩
      rcases List.mem_cons.1 hy with rfl | hy
      · exact h x hx
      · exact hs'.2.2 x hx y hy
  have hm : min i l.length = i := by omega
  have b1 : (0 + i) * 24 ≤ 140737488355328 := by omega
  have b2 : (i + 1) * 24 ≤ 140737488355328 := by omega
  have b3 : (i + 1 + (l.length - i)) * 24 ≤ 140737488355328 := by omega
  unfold F_spec_l28Insert_l1
  have h0 : (0 : Int) ≤ i := by omega
  have h1 : (i : Int) ≤ l.length := by omega
  simp only [h0, h1, and_self, if_true, Int.toNat_natCast, List.length_append, List.length_take, List.length_drop, List.length_singleton, hm, b1, b2, b3]
  by_cases hz : (0 : Int) < i
  · have hw : IntKind.i64.wrap ((i : Int) - 1) = ((i - 1 : Nat) : Int) := by rw [w64 (by omega) (by omega)]; omega
    have hlt : i - 1 < l.length := by omega
    simp only [hz, decide_true, if_true, hw, show (0 : Int) ≤ ((i - 1 : Nat) : Int) by omega, show ((i - 1 : Nat) : Int) < l.length by omega, and_self, Int.toNat_natCast, getD_get hlt, F_spec_LessTerm_eq ht, Option.bind_some]
    by_cases hc : cmpT t l[i - 1] < 0
    · simp only [hc, decide_true, if_true]
      refine .some ⟨⟨i - 1, rfl, by omega, fun x hx => ?_⟩, by simp; omega⟩
      rw [List.drop_eq_getElem_cons hlt, show i - 1 + 1 = i by omega] at hx
      rcases List.mem_cons.1 hx with rfl | hx
      · omega
      · exact hd x hx
    · simp only [hc, decide_false, Bool.false_eq_true, if_false, Option.map_some]
      refine .some (fin fun x hx => ?_)
      have h2 : cmpT l[i - 1] t ≤ 0 := by have := cmpT_neg t l[i - 1]; omega
      rw [show i = i - 1 + 1 by omega, List.take_succ_eq_append_getElem hlt] at hx
      rcases List.mem_append.1 hx with hx | hx
      · have hs' := hs
        rw [← List.take_append_drop (i - 1) l, Srt, List.pairwise_append] at hs'
        exact (cmpT_trans (hs'.2.2 x hx l[i - 1] (by rw [List.drop_eq_getElem_cons hlt]; exact List.mem_cons_self)) h2).1
      · rw [List.mem_singleton.1 hx]; exact h2
  · simp only [hz, decide_false, Bool.false_eq_true, if_false, Option.map_some]
    refine .some (fin fun x hx => ?_)
    obtain rfl : i = 0 := by omega
    simp at hx
theorem insert_sort {g : List (List Int)} {t : List Int} (hl : g.length < 1099511627776) (ht : Small t) : F_spec_l28Insert (sortT g) t = some (sortT (g ++ [t])) := by
  obtain ⟨o, e⟩ := (insert_ok (l := sortT g) (t := t) (by rw [sortT_len]; exact hl) ht (sortT_sorted g)).2 trivial
  obtain ⟨h1, h2⟩ := (insert_ok (l := sortT g) (t := t) (by rw [sortT_len]; exact hl) ht (sortT_sorted g)).1 o e
  rw [e]
  refine congrArg some (sorted_uniq ?_ h2 (sortT_sorted _))
  refine h1.trans (List.Perm.trans ?_ (sortT_perm _).symm)
  refine ((sortT_perm g).cons t).trans ?_
  exact (List.perm_append_comm (l₁ := [t]) (l₂ := g))
theorem F_spec_l1TermPlace_eq {l : List (List Int)} (hl : l.length < 1099511627776) (hs : ∀ x ∈ l, Small x) (t : List Int) : F_spec_l1TermPlace l t = some (firstI (fun x => x == t) l) := by
  unfold F_spec_l1TermPlace
  refine loop_first (fun i x hi hx hg => ?_) (by simp [F_spec_l1TermPlace_l1])
  simp only [F_spec_l1TermPlace_l1, show (i : Int) < l.length by omega, decide_true, if_true, show (0 : Int) ≤ i by omega, and_self, Int.toNat_natCast, hg, w64 (n := (i : Int) + 1) (by omega) (by omega), Option.map_some, F_spec_SameTerm_eq (hs x hx), Option.bind_some]
  cases x == t <;> rfl
theorem firstI_neg {l : List (List Int)} {t : List Int} : (decide (firstI (fun x => x == t) l < 0)) = !decide (t ∈ l) := by
  by_cases h : t ∈ l
  · have := firstI_at (p := fun x => x == t) h (by simp)
    simp [h]; omega
  · rw [firstI_none (fun x hx => beq_eq_false_iff_ne.2 (by rintro rfl; exact h hx))]
    simp [h]
end Go.Proofs.YtglpjlpmijfocaaGreat
namespace Go.Proofs.YtglpjlpmijfocaaGreat
open Go Abx Tm
def lst (g : List LL) : Nat → Nat → LL
  | 0, l => if l = 0 then [[]] else []
  | m + 1, l => (List.range' 1 l).flatMap fun j => (g.getD j default).flatMap fun t => (lst g m (l - j)).map (t ++ ·)
def pce (g : List LL) (m l j : Nat) : LL := (g.getD j default).flatMap fun t => (lst g m (l - j)).map (t ++ ·)
def seg (g : List LL) (m l k : Nat) : LL := (List.range' 1 k).flatMap (pce g m l)
theorem lst_succ (g : List LL) (m l : Nat) : lst g (m + 1) l = seg g m l l := rfl
theorem seg_succ (g : List LL) (m l k : Nat) : seg g m l (k + 1) = seg g m l k ++ pce g m l (k + 1) := by
  unfold seg
  rw [List.range'_concat, List.flatMap_append, show 1 + 1 * k = k + 1 by omega]; simp
theorem fm_nil {α β : Type} : ∀ {xs : List α} {f : α → List β}, (∀ x ∈ xs, f x = []) → xs.flatMap f = []
  | [], _, _ => rfl
  | x :: xs, f, h => by rw [List.flatMap_cons, h x (by simp), fm_nil fun y hy => h y (by simp [hy])]; rfl
theorem lst_short (g : List LL) : ∀ {m l : Nat}, l < m → lst g m l = []
  | 0, l, h => by omega
  | m + 1, l, h => by
    refine fm_nil fun j hj => fm_nil fun t ht => ?_
    rw [List.mem_range'_1] at hj
    rw [lst_short g (m := m) (by omega)]; rfl
theorem seg_full (g : List LL) {m l : Nat} : ∀ (d : Nat), l - m + d ≤ l → seg g m l (l - m + d) = seg g m l (l - m)
  | 0, _ => rfl
  | d + 1, h => by
    rw [← Nat.add_assoc, seg_succ, seg_full g d (by omega)]
    have : pce g m l (l - m + d + 1) = [] := fm_nil fun t ht => by rw [lst_short g (by omega)]; rfl
    rw [this, List.append_nil]
theorem lst_seg (g : List LL) (m l : Nat) : lst g (m + 1) l = seg g m l (l - m) := by
  rw [lst_succ, ← seg_full g (m := m) (l := l) (l - (l - m)) (by omega)]
  congr 1; omega
theorem fm_len {xs : LL} {r : LL} : (xs.flatMap fun t => r.map (t ++ ·)).length = xs.length * r.length := by
  induction xs with
  | nil => simp
  | cons x xs ih => rw [List.flatMap_cons, List.length_append, ih, List.length_map, List.length_cons, Nat.succ_mul, Nat.add_comm]
theorem pce_len (g : List LL) (m l j : Nat) : (pce g m l j).length = (g.getD j default).length * (lst g m (l - j)).length := fm_len
structure GI (g : List LL) : Prop where
  len : g.length ≤ 61
  sz : ∀ k, (g.getD k default).length ≤ 200
  el : ∀ k, ∀ t ∈ g.getD k default, t.length = k
theorem lst_el {g : List LL} (h : GI g) : ∀ {m l : Nat}, ∀ u ∈ lst g m l, u.length = l
  | 0, l, u, hu => by
    unfold lst at hu
    split at hu
    · rw [List.mem_singleton.1 hu]; rename_i h0; simp [h0]
    · cases hu
  | m + 1, l, u, hu => by
    unfold lst at hu
    obtain ⟨j, hj, hu⟩ := List.mem_flatMap.1 hu
    obtain ⟨t, ht, hu⟩ := List.mem_flatMap.1 hu
    obtain ⟨v, hv, rfl⟩ := List.mem_map.1 hu
    have := h.el j t ht
    have := lst_el h v hv
    rw [List.mem_range'_1] at hj
    rw [List.length_append]; omega
theorem lst_bnd {g : List LL} (h : GI g) : ∀ {m : Nat}, m ≤ 3 → ∀ l, l ≤ 60 → (lst g m l).length ≤ 12000 ^ m := by
  intro m
  induction m with
  | zero => intro _ l _; unfold lst; split <;> simp
  | succ m ih =>
    intro hm l hl
    rw [lst_succ]
    have key : ∀ k, k ≤ l → (seg g m l k).length ≤ k * (200 * 12000 ^ m) := by
      intro k
      induction k with
      | zero => intro _; simp [seg]
      | succ k ihk =>
        intro hk
        rw [seg_succ, List.length_append, pce_len, Nat.succ_mul]
        exact Nat.add_le_add (ihk (by omega)) (Nat.mul_le_mul (h.sz _) (ih (by omega) _ (by omega)))
    refine Nat.le_trans (key l (Nat.le_refl _)) ?_
    rw [Nat.pow_succ]
    have : l * (200 * 12000 ^ m) ≤ 60 * (200 * 12000 ^ m) := Nat.mul_le_mul_right _ hl
    omega
theorem seg_le {g : List LL} {m l : Nat} : ∀ {k j : Nat}, k ≤ j → (seg g m l k).length ≤ (seg g m l j).length := by
  intro k j h
  induction j with
  | zero => obtain rfl : k = 0 := by omega
            exact Nat.le_refl _
  | succ j ih =>
    rcases Nat.lt_or_ge j k with h' | h'
    · obtain rfl : k = j + 1 := by omega
      exact Nat.le_refl _
    · refine Nat.le_trans (ih h') ?_
      rw [seg_succ, List.length_append]; omega
def cap (n : Nat) : Nat := min n 201
theorem cap_step {a c b : Nat} : cap (cap a + c * cap b) = cap (a + c * b) := by
  unfold cap
  rcases Nat.lt_or_ge 201 b with hb | hb
  · rw [show min b 201 = 201 by omega]
    rcases Nat.eq_zero_or_pos c with rfl | hc
    · simp
    · have h1 : b ≤ c * b := Nat.le_mul_of_pos_left b hc
      have h2 : 201 ≤ c * 201 := Nat.le_mul_of_pos_left 201 hc
      omega
  · rw [show min b 201 = b by omega]; omega
theorem F_count_ok {g : List LL} (h : GI g) : ∀ (fu : Nat) {m l : Nat}, m ≤ 3 → l < g.length → Okk (m + 1 ≤ fu) (F_impl_grounds_count fu g m l) (· = (cap (lst g m l).length : Int))
  | 0, m, l, _, _ => ⟨fun a ha => (by cases ha), fun hx => (by omega)⟩
  | fu + 1, 0, l, _, _ => by
    unfold F_impl_grounds_count lst
    by_cases hl : l = 0
    · subst hl; exact .some rfl
    · have : ((l : Int) == 0) = false := beq_eq_false_iff_ne.2 (by omega)
      simp only [this, hl, if_false, Bool.false_eq_true, Int.natCast_zero, beq_self_eq_true, if_true]
      exact .some rfl
  | fu + 1, m + 1, l, hm, hl => by
    unfold F_impl_grounds_count
    have hg := h.len
    rw [if_neg (by simp; omega), lst_seg]
    refine Okk.loop (fun s : Int × Int => ∃ k : Nat, s.2 = ((k + 1 : Nat) : Int) ∧ k ≤ l - m ∧ s.1 = (cap (seg g m l k).length : Int)) (fun s : Int × Int => l + 1 - s.2.toNat) ⟨0, rfl, by omega, by simp [seg, cap]⟩ ?_
    rintro ⟨sm, n⟩ ⟨k, h1, h2, h3⟩
    simp only at h1 h3
    subst h1 h3
    have hw : IntKind.i64.wrap (IntKind.i64.wrap ((l : Int) - ((m + 1 : Nat) : Int)) + 1) = (l : Int) - m := by rw [w64 (n := (l : Int) - ((m + 1 : Nat) : Int)) (by omega) (by omega), w64 (by omega) (by omega)]; omega
    simp only [F_impl_grounds_count_l1, hw]
    by_cases hk : k < l - m
    · have c1 : ((k + 1 : Nat) : Int) ≤ (l : Int) - m := by omega
      have c2 : (0 : Int) ≤ ((k + 1 : Nat) : Int) ∧ ((k + 1 : Nat) : Int) < 61 ∧ ((k + 1 : Nat) : Int) < (g.length : Int) := by omega
      simp only [c1, c2, decide_true, if_true, and_self, Int.toNat_natCast, w64 (n := ((k + 1 : Nat) : Int) + 1) (by omega) (by omega)]
      have hseg : (seg g m l (k + 1)).length = (seg g m l k).length + (g.getD (k + 1) default).length * (lst g m (l - (k + 1))).length := by rw [seg_succ, List.length_append, pce_len]
      by_cases hp : 0 < (g.getD (k + 1) default).length
      · have hp' : (0 : Int) < ((g.getD (k + 1) default).length : Int) := by omega
        simp only [hp', decide_true, if_true]
        have e1 : IntKind.i64.wrap (((m + 1 : Nat) : Int) - 1) = (m : Int) := by rw [w64 (by omega) (by omega)]; omega
        have e2 : IntKind.i64.wrap ((l : Int) - ((k + 1 : Nat) : Int)) = ((l - (k + 1) : Nat) : Int) := by rw [w64 (by omega) (by omega)]; omega
        rw [e1, e2]
        refine .bind ((F_count_ok h fu (m := m) (l := l - (k + 1)) (by omega) (by omega)).weak (by omega)) ?_
        rintro r rfl
        refine .some ⟨⟨k + 1, by simp, by omega, ?_⟩, by simp; omega⟩
        have hb : cap (lst g m (l - (k + 1))).length ≤ 201 := Nat.min_le_right _ _
        have hb2 : cap (seg g m l k).length ≤ 201 := Nat.min_le_right _ _
        have hsz := h.sz (k + 1)
        have hmul : (g.getD (k + 1) default).length * cap (lst g m (l - (k + 1))).length ≤ 200 * 201 := Nat.mul_le_mul hsz hb
        have hcast : ((g.getD (k + 1) default).length : Int) * (cap (lst g m (l - (k + 1))).length : Int) = (((g.getD (k + 1) default).length * cap (lst g m (l - (k + 1))).length : Nat) : Int) := by simp
        have hst := cap_step (a := (seg g m l k).length) (c := (g.getD (k + 1) default).length) (b := (lst g m (l - (k + 1))).length)
        rw [← hseg] at hst
        simp only [hcast]
        generalize (g.getD (k + 1) default).length * cap (lst g m (l - (k + 1))).length = q at *
        rw [w64 (n := (q : Int)) (by omega) (by omega), w64 (n := (cap (seg g m l k).length : Int) + (q : Int)) (by omega) (by omega)]
        rw [← hst]
        generalize cap (seg g m l k).length = a at *
        unfold cap
        split <;> omega
      · have hp' : ¬ (0 : Int) < ((g.getD (k + 1) default).length : Int) := by omega
        simp only [hp', decide_false, Bool.false_eq_true, if_false]
        refine .some ⟨⟨k + 1, by simp, by omega, ?_⟩, by simp; omega⟩
        rw [hseg, show (g.getD (k + 1) default).length = 0 by omega, Nat.zero_mul]
        rfl
    · have c1 : ¬ ((k + 1 : Nat) : Int) ≤ (l : Int) - m := by omega
      simp only [c1, decide_false, Bool.false_eq_true, if_false, Option.map_some]
      refine .some ?_
      rw [show k = l - m by omega]
      show _ = _
      rfl
theorem F_count_eq {g : List LL} (h : GI g) {m l : Nat} (hm : m ≤ 3) (hl : l < g.length) : F_impl_grounds_count_all g m l = some (cap (lst g m l).length : Int) :=
  (Okk.lim (t := True) (m + 1) fun n => F_count_ok h n hm hl).eq
end Go.Proofs.YtglpjlpmijfocaaGreat
namespace Go.Proofs.YtglpjlpmijfocaaGreat
open Go Abx Tm
theorem concat2 {a b : List Int} (ha : a.length ≤ 60) (hb : b.length ≤ 60) : F_slices_Concat_int64_int64 [a, b] = some (a ++ b) := by
  rw [F_slices_Concat_eq (by simp) (by simp [ha, hb])]; simp
theorem lists_l3 {g : List LL} {l : Int} {n : Nat} {r o : LL} {i : Nat} (hi : i < (g.getD n default).length) (hx : ((g.getD n default).getD i default).length ≤ 60) (hr : ∀ u ∈ r, u.length ≤ 60) (hb : o.length + r.length < 5000000000000) (hi2 : i < 1000) :
    loopC (F_impl_grounds_lists_l3 g l (n : Int) r (i : Int)) (o, 0) = some (.inl (o ++ r.map ((g.getD n default).getD i default ++ ·), (i : Int) + 1)) := by
  have h0 : (o ++ (r.take 0).map ((g.getD n default).getD i default ++ ·), ((0 : Nat) : Int)) = (o, (0 : Int)) := by simp
  rw [← h0]
  refine loop_st (n := r.length) (fun j => (o ++ (r.take j).map ((g.getD n default).getD i default ++ ·), (j : Int))) (fun j hj => ?_) ?_
  · have hl : (o ++ (r.take j).map ((g.getD n default).getD i default ++ ·)).length = o.length + j := by simp; omega
    simp only [F_impl_grounds_lists_l3, show (j : Int) < r.length by omega, decide_true, if_true, show (0 : Int) ≤ j by omega, and_self, Int.toNat_natCast, w64 (n := (j : Int) + 1) (by omega) (by omega), concat2 hx (hr _ (getD_mem hj)), Option.bind_some, hl, show (o.length + j + 1) * 24 ≤ 140737488355328 by omega]
    rw [List.take_succ_eq_append_getElem hj, List.map_append, ← List.append_assoc, getD_get hj]
    rfl
  · simp only [F_impl_grounds_lists_l3, show ¬ (r.length : Int) < r.length by omega, decide_false, Bool.false_eq_true, if_false, Option.map_some, List.take_length, w64 (n := (i : Int) + 1) (by omega) (by omega)]
theorem lists_l2 {g : List LL} {l : Int} {n : Nat} {r o : LL} (hg : GI g) (hn60 : n ≤ 60) (hr : ∀ u ∈ r, u.length ≤ 60) (hb : o.length + (g.getD n default).length * r.length < 5000000000000) :
    loopC (F_impl_grounds_lists_l2 g l (n : Int) r) (o, 0) = some (.inl (o ++ (g.getD n default).flatMap fun t => r.map (t ++ ·), (n : Int) + 1)) := by
  have h0 : (o ++ ((g.getD n default).take 0).flatMap (fun t => r.map (t ++ ·)), ((0 : Nat) : Int)) = (o, (0 : Int)) := by simp
  rw [← h0]
  have hsz := hg.sz n
  refine loop_st (n := (g.getD n default).length) (fun i => (o ++ ((g.getD n default).take i).flatMap (fun t => r.map (t ++ ·)), (i : Int))) (fun i hi => ?_) ?_
  · have hl : (o ++ ((g.getD n default).take i).flatMap (fun t => r.map (t ++ ·))).length = o.length + i * r.length := by rw [List.length_append, fm_len, List.length_take]; congr 2; omega
    have hm : (i + 1) * r.length ≤ (g.getD n default).length * r.length := Nat.mul_le_mul_right _ hi
    rw [Nat.succ_mul] at hm
    have hx : ((g.getD n default).getD i default).length ≤ 60 := by have := hg.el n _ (getD_mem hi); omega
    have h3 := lists_l3 (g := g) (l := l) (n := n) (r := r) (o := o ++ ((g.getD n default).take i).flatMap (fun t => r.map (t ++ ·))) hi hx hr (by rw [hl]; omega) (by omega)
    simp only [F_impl_grounds_lists_l2, Int.toNat_natCast, show (i : Int) < (g.getD n default).length by omega, decide_true, if_true, show (0 : Int) ≤ i by omega, and_self, h3]
    rw [List.take_succ_eq_append_getElem hi, List.flatMap_append, ← List.append_assoc, getD_get hi]
    simp
  · simp only [F_impl_grounds_lists_l2, Int.toNat_natCast, show ¬ ((g.getD n default).length : Int) < (g.getD n default).length by omega, decide_false, Bool.false_eq_true, if_false, Option.map_some, List.take_length, w64 (n := (n : Int) + 1) (by omega) (by omega)]
theorem F_lists_ok {g : List LL} (h : GI g) : ∀ (fu : Nat) {m l : Nat}, m ≤ 3 → l < g.length → Okk (m + 1 ≤ fu) (F_impl_grounds_lists fu g m l) (· = lst g m l)
  | 0, m, l, _, _ => ⟨fun a ha => (by cases ha), fun hx => (by omega)⟩
  | fu + 1, 0, l, _, _ => by
    unfold F_impl_grounds_lists lst
    by_cases hl : l = 0
    · subst hl; exact .some rfl
    · have : ((l : Int) == 0) = false := beq_eq_false_iff_ne.2 (by omega)
      simp only [this, hl, if_false, Bool.false_eq_true, Int.natCast_zero, beq_self_eq_true, if_true]
      exact .some rfl
  | fu + 1, m + 1, l, hm, hl => by
    unfold F_impl_grounds_lists
    have hg := h.len
    have hT := lst_bnd h hm l (by omega)
    have hT2 : 12000 ^ (m + 1) ≤ 1728000000000 := by
      have : m = 0 ∨ m = 1 ∨ m = 2 := by omega
      rcases this with rfl | rfl | rfl <;> decide
    rw [if_neg (by simp; omega), lst_seg]
    rw [lst_succ] at hT
    refine Okk.loop (fun s : LL × Int => ∃ k : Nat, s.2 = ((k + 1 : Nat) : Int) ∧ k ≤ l - m ∧ s.1 = seg g m l k) (fun s : LL × Int => l + 1 - s.2.toNat) ⟨0, rfl, by omega, by simp [seg]⟩ ?_
    rintro ⟨out, n⟩ ⟨k, h1, h2, h3⟩
    simp only at h1 h3
    subst h1 h3
    have hw : IntKind.i64.wrap (IntKind.i64.wrap ((l : Int) - ((m + 1 : Nat) : Int)) + 1) = (l : Int) - m := by rw [w64 (n := (l : Int) - ((m + 1 : Nat) : Int)) (by omega) (by omega), w64 (by omega) (by omega)]; omega
    simp only [F_impl_grounds_lists_l1, hw]
    by_cases hk : k < l - m
    · have c1 : ((k + 1 : Nat) : Int) ≤ (l : Int) - m := by omega
      have c2 : (0 : Int) ≤ ((k + 1 : Nat) : Int) ∧ ((k + 1 : Nat) : Int) < 61 ∧ ((k + 1 : Nat) : Int) < (g.length : Int) := by omega
      simp only [c1, c2, decide_true, if_true, and_self, Int.toNat_natCast, w64 (n := ((k + 1 : Nat) : Int) + 1) (by omega) (by omega)]
      have hlen : (seg g m l k).length + (g.getD (k + 1) default).length * (lst g m (l - (k + 1))).length ≤ 1728000000000 := by
        have e : (seg g m l (k + 1)).length = (seg g m l k).length + (g.getD (k + 1) default).length * (lst g m (l - (k + 1))).length := by rw [seg_succ, List.length_append, pce_len]
        have := seg_le (g := g) (m := m) (l := l) (k := k + 1) (j := l) (by omega)
        omega
      by_cases hp : (g.getD (k + 1) default).length = 0
      · have hp' : (((g.getD (k + 1) default).length : Int) == 0) = true := by rw [hp]; rfl
        simp only [hp', if_true]
        refine .some ⟨⟨k + 1, by simp, by omega, ?_⟩, by simp; omega⟩
        have : pce g m l (k + 1) = [] := by rw [pce, List.length_eq_zero_iff.1 hp]; rfl
        rw [seg_succ, this, List.append_nil]
      · have hp' : (((g.getD (k + 1) default).length : Int) == 0) = false := beq_eq_false_iff_ne.2 (by omega)
        simp only [hp', Bool.false_eq_true, if_false]
        have e1 : IntKind.i64.wrap (((m + 1 : Nat) : Int) - 1) = (m : Int) := by rw [w64 (by omega) (by omega)]; omega
        have e2 : IntKind.i64.wrap ((l : Int) - ((k + 1 : Nat) : Int)) = ((l - (k + 1) : Nat) : Int) := by rw [w64 (by omega) (by omega)]; omega
        rw [e1, e2]
        refine .bind ((F_lists_ok h fu (m := m) (l := l - (k + 1)) (by omega) (by omega)).weak (by omega)) ?_
        rintro r rfl
        have h2 := lists_l2 (g := g) (l := (l : Int)) (n := k + 1) (r := lst g m (l - (k + 1))) (o := seg g m l k) h (by omega) (fun u hu => by have := lst_el h u hu; omega) (by omega)
        refine .of h2 ⟨⟨k + 1, by simp, by omega, ?_⟩, by simp; omega⟩
        rw [seg_succ]; rfl
    · have c1 : ¬ ((k + 1 : Nat) : Int) ≤ (l : Int) - m := by omega
      simp only [c1, decide_false, Bool.false_eq_true, if_false, Option.map_some]
      refine .some ?_
      rw [show k = l - m by omega]
      show _ = _
      rfl
theorem F_lists_eq {g : List LL} (h : GI g) {m l : Nat} (hm : m ≤ 3) (hl : l < g.length) : F_impl_grounds_lists_all g m l = some (lst g m l) :=
  (Okk.lim (t := True) (m + 1) fun n => F_lists_ok h n hm hl).eq
theorem take_app {α : Type} {N : Nat} {A B : List α} : (A.take N ++ B).take N = (A ++ B).take N := by
  rcases Nat.le_total A.length N with h | h
  · rw [List.take_of_length_le h]
  · rw [List.take_append_of_le_length (by simp; omega), List.take_append_of_le_length h, List.take_take]; simp
theorem cut_fm {α β γ : Type} {N : Nat} {f : α → β → γ} {r : List β} : ∀ {xs : List α} {o : List γ}, (o ++ xs.flatMap fun t => (r.take N).map (f t)).take N = (o ++ xs.flatMap fun t => r.map (f t)).take N
  | [], o => rfl
  | x :: xs, o => by
    rw [List.flatMap_cons, List.flatMap_cons, ← List.append_assoc, cut_fm (xs := xs), ← List.append_assoc]
    rcases Nat.le_total r.length N with h | h
    · rw [List.take_of_length_le h]
    · have e : r.map (f x) = (r.take N).map (f x) ++ (r.drop N).map (f x) := by rw [← List.map_append, List.take_append_drop]
      have hA : ((r.take N).map (f x)).length = N := by rw [List.length_map, List.length_take]; omega
      rw [e]
      generalize (r.take N).map (f x) = A at *
      generalize xs.flatMap (fun t => r.map (f t)) = X
      rw [← List.append_assoc o A, List.append_assoc (o ++ A) _ X, List.take_append_of_le_length (l₁ := o ++ A) (by rw [List.length_append]; omega), List.take_append_of_le_length (l₁ := o ++ A) (by rw [List.length_append]; omega)]
theorem rows_l3 {g : List LL} {k i : Nat} {r o : LL} (hk : k < g.length) (hk60 : k ≤ 60) (hi : i < (g.getD k default).length) (hx : ((g.getD k default).getD i default).length ≤ 60) (hr : ∀ u ∈ r, u.length ≤ 60) (hrl : r.length ≤ 201) (ho : o.length ≤ 201) (hi2 : i < 1000) :
    loopC (F_spec_l25Rows_l3 g (k : Int) r (i : Int)) (o, 0) = some (.inl ((o ++ r.map ((g.getD k default).getD i default ++ ·)).take 201, (i : Int) + 1)) := by
  have := loopC_is (f := F_spec_l25Rows_l3 g (k : Int) r (i : Int)) (fun s => some (.inl ((s.1 ++ (r.drop s.2.toNat).map ((g.getD k default).getD i default ++ ·)).take 201, (i : Int) + 1))) (fun s : LL × Int => ∃ x : Nat, s.2 = (x : Int) ∧ x ≤ r.length ∧ s.1.length ≤ 201) (fun s : LL × Int => r.length - s.2.toNat) ?_ (o, 0) ⟨0, rfl, by omega, ho⟩
  · simpa using this
  · rintro ⟨q, x'⟩ ⟨x, h1, h2, h3⟩
    simp only at h1 h3
    subst h1
    have hw : IntKind.i64.wrap ((i : Int) + 1) = (i : Int) + 1 := w64 (by omega) (by omega)
    by_cases hlt : x < r.length
    · have cp := F_spec_l1Copy_eq (l := (g.getD k default).getD i default) (by show List.length _ < _; omega)
      have hu := hr _ (getD_mem hlt)
      by_cases hq : q.length ≤ 200
      · refine .inl ⟨(q ++ [(g.getD k default).getD i default ++ r.getD x default], ((x + 1 : Nat) : Int)), ?_, ⟨x + 1, rfl, by omega, by simp; omega⟩, by simp; omega, ?_⟩
        · simp only [F_spec_l25Rows_l3, show (x : Int) < r.length by omega, decide_true, if_true, show (q.length : Int) ≤ 200 by omega, show (0 : Int) ≤ k by omega, show (k : Int) < g.length by omega, show (0 : Int) ≤ i by omega, show (i : Int) < (g.getD k default).length by omega, show (0 : Int) ≤ x by omega, and_self, Int.toNat_natCast, cp, Option.bind_some, w64 (n := (x : Int) + 1) (by omega) (by omega), show (((g.getD k default).getD i default).length + (r.getD x default).length) * 8 ≤ 140737488355328 by omega, show (q.length + 1) * 24 ≤ 140737488355328 by omega]
          rfl
        · simp only [Int.toNat_natCast]
          rw [List.drop_eq_getElem_cons hlt, List.map_cons, List.append_assoc, List.singleton_append, getD_get hlt]
      · refine .inr ⟨.inl (q, (i : Int) + 1), ?_, ?_⟩
        · simp only [F_spec_l25Rows_l3, show (x : Int) < r.length by omega, decide_true, if_true, show ¬ (q.length : Int) ≤ 200 by omega, decide_false, Bool.false_eq_true, if_false, Option.map_some, hw]
        · dsimp only
          rw [List.take_append_of_le_length (by omega), List.take_of_length_le (by omega)]
    · obtain rfl : x = r.length := by omega
      refine .inr ⟨.inl (q, (i : Int) + 1), ?_, ?_⟩
      · simp only [F_spec_l25Rows_l3, show ¬ (r.length : Int) < r.length by omega, decide_false, Bool.false_eq_true, if_false, Option.map_some, hw]
      · simp only [Int.toNat_natCast, List.drop_length, List.map_nil, List.append_nil]
        rw [List.take_of_length_le (by omega)]
theorem rows_l2 {g : List LL} {k : Nat} {r o : LL} (hg : GI g) (hk : k < g.length) (hr : ∀ u ∈ r, u.length ≤ 60) (hrl : r.length ≤ 201) (ho : o.length ≤ 201) :
    loopC (F_spec_l25Rows_l2 g (k : Int) r) (o, 0) = some (.inl ((o ++ (g.getD k default).flatMap fun t => r.map (t ++ ·)).take 201, (k : Int) + 1)) := by
  have hlen := hg.len
  have hsz := hg.sz k
  have := loopC_is (f := F_spec_l25Rows_l2 g (k : Int) r) (fun s => some (.inl ((s.1 ++ ((g.getD k default).drop s.2.toNat).flatMap fun t => r.map (t ++ ·)).take 201, (k : Int) + 1))) (fun s : LL × Int => ∃ i : Nat, s.2 = (i : Int) ∧ i ≤ (g.getD k default).length ∧ s.1.length ≤ 201) (fun s : LL × Int => (g.getD k default).length - s.2.toNat) ?_ (o, 0) ⟨0, rfl, by omega, ho⟩
  · simpa using this
  · rintro ⟨q, i'⟩ ⟨i, h1, h2, h3⟩
    simp only at h1 h3
    subst h1
    have hw : IntKind.i64.wrap ((k : Int) + 1) = (k : Int) + 1 := w64 (by omega) (by omega)
    have hk0 : (0 : Int) ≤ k := by omega
    have hk1 : (k : Int) < g.length := by omega
    by_cases hlt : i < (g.getD k default).length
    · by_cases hq : q.length ≤ 200
      · have hx : ((g.getD k default).getD i default).length ≤ 60 := by have := hg.el k _ (getD_mem hlt); omega
        have e3 := rows_l3 (g := g) (k := k) (i := i) (r := r) (o := q) hk (by omega) hlt hx hr hrl h3 (by omega)
        have hms : (g.getD k default).length - ((i : Int) + 1).toNat < (g.getD k default).length - (i : Int).toNat := by
          have e9 : ((i : Int) + 1).toNat = i + 1 := by omega
          rw [e9, Int.toNat_natCast]; omega
        refine .inl ⟨((q ++ r.map ((g.getD k default).getD i default ++ ·)).take 201, (i : Int) + 1), ?_, ⟨i + 1, by simp, by omega, by rw [List.length_take]; omega⟩, hms, ?_⟩
        · simp only [F_spec_l25Rows_l2, hk0, hk1, and_self, if_true, Int.toNat_natCast, show (i : Int) < (g.getD k default).length by omega, decide_true, show (q.length : Int) ≤ 200 by omega, e3]
        · have : ((i : Int) + 1).toNat = i + 1 := by omega
          simp only [Int.toNat_natCast, this]
          rw [take_app, List.drop_eq_getElem_cons hlt, List.flatMap_cons, List.append_assoc, getD_get hlt]
      · refine .inr ⟨.inl (q, (k : Int) + 1), ?_, ?_⟩
        · simp only [F_spec_l25Rows_l2, hk0, hk1, and_self, if_true, Int.toNat_natCast, show (i : Int) < (g.getD k default).length by omega, decide_true, show ¬ (q.length : Int) ≤ 200 by omega, decide_false, Bool.false_eq_true, if_false, Option.map_some, hw]
        · dsimp only
          rw [List.take_append_of_le_length (by omega), List.take_of_length_le (by omega)]
    · obtain rfl : i = (g.getD k default).length := by omega
      refine .inr ⟨.inl (q, (k : Int) + 1), ?_, ?_⟩
      · simp only [F_spec_l25Rows_l2, hk0, hk1, and_self, if_true, Int.toNat_natCast, show ¬ ((g.getD k default).length : Int) < (g.getD k default).length by omega, decide_false, Bool.false_eq_true, if_false, Option.map_some, hw]
      · simp only [Int.toNat_natCast, List.drop_length, List.flatMap_nil, List.append_nil]
        rw [List.take_of_length_le (by omega)]
theorem F_rows_ok {g : List LL} (h : GI g) : ∀ (fu : Nat) {m l : Nat}, m ≤ 3 → l < g.length → Okk (m + 1 ≤ fu) (F_spec_l25Rows fu g m l) (· = (lst g m l).take 201)
  | 0, m, l, _, _ => ⟨fun a ha => (by cases ha), fun hx => (by omega)⟩
  | fu + 1, 0, l, _, _ => by
    unfold F_spec_l25Rows lst
    by_cases hl : l = 0
    · subst hl; exact .some rfl
    · have : ((l : Int) == 0) = false := beq_eq_false_iff_ne.2 (by omega)
      simp only [this, hl, if_false, Bool.false_eq_true, Int.natCast_zero, beq_self_eq_true, if_true]
      exact .some rfl
  | fu + 1, m + 1, l, hm, hl => by
    unfold F_spec_l25Rows
    have hg := h.len
    rw [if_neg (by simp; omega), lst_succ]
    refine Okk.loop (fun s : LL × Int => ∃ k : Nat, s.2 = ((k + 1 : Nat) : Int) ∧ k ≤ l ∧ s.1 = (seg g m l k).take 201) (fun s : LL × Int => l + 1 - s.2.toNat) ⟨0, rfl, by omega, by simp [seg]⟩ ?_
    rintro ⟨out, n⟩ ⟨k, h1, h2, h3⟩
    simp only at h1 h3
    subst h1 h3
    simp only [F_spec_l25Rows_l1]
    by_cases hk : k < l
    · have c1 : ((k + 1 : Nat) : Int) ≤ (l : Int) := by omega
      have c2 : (0 : Int) ≤ ((k + 1 : Nat) : Int) ∧ ((k + 1 : Nat) : Int) < (g.length : Int) := by omega
      simp only [c1, c2, decide_true, if_true, and_self, Int.toNat_natCast, w64 (n := ((k + 1 : Nat) : Int) + 1) (by omega) (by omega)]
      by_cases hp : (g.getD (k + 1) default).length = 0
      · have hp' : (((g.getD (k + 1) default).length : Int) == 0) = true := by rw [hp]; rfl
        simp only [hp', if_true]
        refine .some ⟨⟨k + 1, by simp, by omega, ?_⟩, by simp; omega⟩
        have : pce g m l (k + 1) = [] := by rw [pce, List.length_eq_zero_iff.1 hp]; rfl
        rw [seg_succ, this, List.append_nil]
      · have hp' : (((g.getD (k + 1) default).length : Int) == 0) = false := beq_eq_false_iff_ne.2 (by omega)
        simp only [hp', Bool.false_eq_true, if_false]
        have e1 : IntKind.i64.wrap (((m + 1 : Nat) : Int) - 1) = (m : Int) := by rw [w64 (by omega) (by omega)]; omega
        have e2 : IntKind.i64.wrap ((l : Int) - ((k + 1 : Nat) : Int)) = ((l - (k + 1) : Nat) : Int) := by rw [w64 (by omega) (by omega)]; omega
        rw [e1, e2]
        refine .bind ((F_rows_ok h fu (m := m) (l := l - (k + 1)) (by omega) (by omega)).weak (by omega)) ?_
        rintro r rfl
        have h2 := rows_l2 (g := g) (k := k + 1) (r := (lst g m (l - (k + 1))).take 201) (o := (seg g m l k).take 201) h (by omega) (fun u hu => by have := lst_el h u (List.mem_of_mem_take hu); omega) (by simp; omega) (by simp; omega)
        refine .of h2 ⟨⟨k + 1, by simp, by omega, ?_⟩, by simp; omega⟩
        show _ = (seg g m l (k + 1)).take 201
        rw [seg_succ, take_app, cut_fm]; rfl
    · have c1 : ¬ ((k + 1 : Nat) : Int) ≤ (l : Int) := by omega
      simp only [c1, decide_false, Bool.false_eq_true, if_false, Option.map_some]
      refine .some ?_
      rw [show k = l by omega]
      show _ = _
      rfl
theorem F_rows_eq {g : List LL} (h : GI g) {m l : Nat} (hm : m ≤ 3) (hl : l < g.length) : F_spec_l25Rows_all g m l = some ((lst g m l).take 201) :=
  (Okk.lim (t := True) (m + 1) fun n => F_rows_ok h n hm hl).eq
end Go.Proofs.YtglpjlpmijfocaaGreat
namespace Go.Proofs.YtglpjlpmijfocaaGreat
open Go Abx Tm
def pl (a : List Int) (g : List LL) (f : Nat) : LL := ((lst g (a.getD f default).toNat (g.length - 1)).take 201).map fun t => (f : Int) :: t
def lvs (a : List Int) (g : List LL) (k : Nat) : LL := (List.range k).flatMap (pl a g)
def lev (a : List Int) (g : List LL) : LL := sortT (lvs a g a.length)
def gr (a : List Int) : Nat → List LL → LL → LL × Bool
  | 0, _, out => (out, true)
  | r + 1, g, out => if 200 < out.length + (lvs a g a.length).length then ([], false) else gr a r (g ++ [lev a g]) (out ++ lev a g)
theorem lvs_succ (a : List Int) (g : List LL) (k : Nat) : lvs a g (k + 1) = lvs a g k ++ pl a g k := by unfold lvs; rw [List.range_succ, List.flatMap_append]; simp
theorem pl_len (a : List Int) (g : List LL) (f : Nat) : (pl a g f).length = cap (lst g (a.getD f default).toNat (g.length - 1)).length := by
  unfold pl cap; rw [List.length_map, List.length_take]; omega
theorem lvs_le {a : List Int} {g : List LL} : ∀ {k j : Nat}, k ≤ j → (lvs a g k).length ≤ (lvs a g j).length := by
  intro k j h
  induction j with
  | zero => obtain rfl : k = 0 := by omega
            exact Nat.le_refl _
  | succ j ih =>
    rcases Nat.lt_or_ge j k with h' | h'
    · obtain rfl : k = j + 1 := by omega
      exact Nat.le_refl _
    · refine Nat.le_trans (ih h') ?_
      rw [lvs_succ, List.length_append]; omega
theorem lvs_bnd {a : List Int} {g : List LL} : ∀ k, (lvs a g k).length ≤ 201 * k
  | 0 => by simp [lvs]
  | k + 1 => by
    rw [lvs_succ, List.length_append, pl_len]
    have := lvs_bnd (a := a) (g := g) k
    have : cap (lst g (a.getD k default).toNat (g.length - 1)).length ≤ 201 := Nat.min_le_right _ _
    omega
theorem pl_el {a : List Int} {g : List LL} (h : GI g) (h1 : 1 ≤ g.length) {f : Nat} : ∀ t ∈ pl a g f, t.length = g.length := fun t ht => by
  obtain ⟨u, hu, rfl⟩ := List.mem_map.1 ht
  have := lst_el h u (List.mem_of_mem_take hu)
  rw [List.length_cons]; omega
theorem lvs_el {a : List Int} {g : List LL} (h : GI g) (h1 : 1 ≤ g.length) {k : Nat} : ∀ t ∈ lvs a g k, t.length = g.length := fun t ht => by
  obtain ⟨f, _, hf⟩ := List.mem_flatMap.1 ht
  exact pl_el h h1 t hf
theorem GI.next {a : List Int} {g : List LL} (h : GI g) (h1 : 1 ≤ g.length) (h60 : g.length ≤ 60) (hs : (lvs a g a.length).length ≤ 200) : GI (g ++ [lev a g]) := by
  have key : ∀ k, (g ++ [lev a g]).getD k default = if k = g.length then lev a g else g.getD k default := fun k => by
    rw [List.getD_eq_getElem?_getD, List.getD_eq_getElem?_getD]
    split
    · rename_i hk; subst hk; rw [List.getElem?_append_right (Nat.le_refl _)]; simp
    · rename_i hk
      rcases Nat.lt_or_ge k g.length with hk' | hk'
      · rw [List.getElem?_append_left hk']
      · rw [List.getElem?_eq_none (by simp; omega), List.getElem?_eq_none hk']
  refine ⟨by simp; omega, fun k => ?_, fun k t ht => ?_⟩
  · rw [key]; split
    · unfold lev; rw [sortT_len]; exact hs
    · exact h.sz k
  · rw [key] at ht
    split at ht
    · rename_i hk
      rw [hk]
      exact lvs_el h h1 t ((sortT_perm _).mem_iff.1 ht)
    · exact h.el k t ht
theorem ar3 {a : List Int} (ha : sigOk a = true) {f : Nat} (hf : f < a.length) : (a.getD f default).toNat ≤ 3 ∧ (a.getD f default) = ((a.getD f default).toNat : Int) := by
  have := (sigOk_iff.1 ha).2.2 _ (getD_mem hf)
  omega
theorem fg_l6 {f : Nat} {r h : LL} (hf : f < 8) (hr : r.length ≤ 201) (hu : ∀ u ∈ r, u.length ≤ 60) (hh : h.length ≤ 2000) :
    loopC (FG_l6 (f : Int) r (f : Int)) (h, 0) = some (.inl (h ++ r.map fun t => (f : Int) :: t, (f : Int) + 1)) := by
  have h0 : (h ++ (r.take 0).map (fun t => (f : Int) :: t), ((0 : Nat) : Int)) = (h, (0 : Int)) := by simp
  rw [← h0]
  refine loop_st (n := r.length) (fun j => (h ++ (r.take j).map (fun t => (f : Int) :: t), (j : Int))) (fun j hj => ?_) ?_
  · have hl : (h ++ (r.take j).map (fun t => (f : Int) :: t)).length = h.length + j := by simp; omega
    simp only [FG_l6, show (j : Int) < r.length by omega, decide_true, if_true, show (0 : Int) ≤ j by omega, and_self, Int.toNat_natCast, w64 (n := (j : Int) + 1) (by omega) (by omega), concat2 (a := [(f : Int)]) (by simp) (hu _ (getD_mem hj)), Option.bind_some, hl, show (h.length + j + 1) * 24 ≤ 140737488355328 by omega]
    rw [List.take_succ_eq_append_getElem hj, List.map_append, ← List.append_assoc, getD_get hj]
    rfl
  · simp only [FG_l6, show ¬ (r.length : Int) < r.length by omega, decide_false, Bool.false_eq_true, if_false, Option.map_some, List.take_length, w64 (n := (f : Int) + 1) (by omega) (by omega)]
def nxt (a : List Int) (g : List LL) (out : LL) : GSt ⊕ (LL × Bool) := if 200 < out.length + (lvs a g a.length).length then .inr ([], false) else .inl (g ++ [lev a g], out ++ lev a g)
theorem fg_l4 {a : List Int} {g : List LL} {out : LL} (ha : sigOk a = true) (h : GI g) (h1 : 1 ≤ g.length) (hs : out.length + (lvs a g a.length).length ≤ 200) :
    loopC (FG_l4 a g out) ([], 0) = some (.inl (g ++ [lev a g], out ++ lev a g)) := by
  have ha8 := (sigOk_iff.1 ha).2.1
  have hg := h.len
  have hw : IntKind.i64.wrap ((g.length : Int) - 1) = ((g.length - 1 : Nat) : Int) := by rw [w64 (by omega) (by omega)]; omega
  refine loop_st (n := a.length) (fun k => (lvs a g k, (k : Int))) (fun k hk => ?_) ?_
  · obtain ⟨m3, me⟩ := ar3 ha hk
    have el := F_lists_eq h (m := (a.getD k default).toNat) (l := g.length - 1) m3 (by omega)
    have hpl : (pl a g k).length ≤ 200 := by
      have := lvs_le (a := a) (g := g) (k := k + 1) (j := a.length) (by omega)
      rw [lvs_succ, List.length_append] at this; omega
    have hll : (lst g (a.getD k default).toNat (g.length - 1)).length ≤ 200 := by
      rw [pl_len] at hpl; unfold cap at hpl; omega
    have hlk := lvs_le (a := a) (g := g) (k := k) (j := a.length) (by omega)
    have e6 := fg_l6 (f := k) (r := lst g (a.getD k default).toNat (g.length - 1)) (h := lvs a g k) (by omega) (by omega) (fun u hu => by have := lst_el h u hu; omega) (by omega)
    simp only [FG_l4, show (k : Int) < a.length by omega, decide_true, if_true, show (0 : Int) ≤ k by omega, and_self, Int.toNat_natCast, hw]
    rw [me, el, Option.bind_some, e6, lvs_succ]
    unfold pl
    rw [List.take_of_length_le (by omega)]
    rfl
  · have es : F_sortT (lvs a g a.length) = some () := by
      unfold F_sortT
      refine if_pos ⟨by omega, fun x hx => by have := lvs_el h h1 x hx; omega⟩
    have hb : (out.length + (sortT (lvs a g a.length)).length) * 24 ≤ 140737488355328 := by rw [sortT_len]; omega
    simp only [FG_l4, show ¬ (a.length : Int) < a.length by omega, decide_false, Bool.false_eq_true, if_false, es, Option.bind_some, hb, if_true, Option.map_some]
    rfl
theorem fg_l2 {a : List Int} {g : List LL} {out : LL} (ha : sigOk a = true) (h : GI g) (h1 : 1 ≤ g.length) (ho : out.length ≤ 200) :
    loopC (FG_l2 a g out) ((out.length : Int), 0) = some (nxt a g out) := by
  have ha8 := (sigOk_iff.1 ha).2.1
  have hg := h.len
  have hw : IntKind.i64.wrap ((g.length : Int) - 1) = ((g.length - 1 : Nat) : Int) := by rw [w64 (by omega) (by omega)]; omega
  have h0 : (((out.length + (lvs a g 0).length : Nat) : Int), ((0 : Nat) : Int)) = ((out.length : Int), (0 : Int)) := by simp [lvs]
  rw [← h0]
  refine loop_st (n := a.length) (fun k => (((out.length + (lvs a g k).length : Nat) : Int), (k : Int))) (fun k hk => ?_) ?_
  · obtain ⟨m3, me⟩ := ar3 ha hk
    have ec := F_count_eq h (m := (a.getD k default).toNat) (l := g.length - 1) m3 (by omega)
    have hb := lvs_bnd (a := a) (g := g) (k + 1)
    have hs : (lvs a g (k + 1)).length = (lvs a g k).length + cap (lst g (a.getD k default).toNat (g.length - 1)).length := by rw [lvs_succ, List.length_append, pl_len]
    simp only [FG_l2, show (k : Int) < a.length by omega, decide_true, if_true, show (0 : Int) ≤ k by omega, and_self, Int.toNat_natCast, hw]
    rw [me, ec, Option.bind_some, hs]
    rw [w64 (n := (k : Int) + 1) (by omega) (by omega), w64 (by omega) (by omega)]
    refine congrArg (fun x => some (Sum.inl x)) (Prod.ext ?_ (by simp))
    show ((out.length + (lvs a g k).length : Nat) : Int) + _ = _
    omega
  · simp only [FG_l2, show ¬ (a.length : Int) < a.length by omega, decide_false, Bool.false_eq_true, if_false]
    unfold nxt
    by_cases hq : 200 < out.length + (lvs a g a.length).length
    · rw [if_pos (by simpa using (by omega : (200 : Int) < ((out.length + (lvs a g a.length).length : Nat) : Int))), if_pos hq]; rfl
    · rw [if_neg (by simpa using (by omega : ((out.length + (lvs a g a.length).length : Nat) : Int) ≤ 200)), if_neg hq, fg_l4 ha h h1 (by omega)]; rfl
theorem gr_step {a : List Int} {r : Nat} {g : List LL} {out : LL} : gr a (r + 1) g out = match nxt a g out with | .inl s => gr a r s.1 s.2 | .inr b => b := by
  rw [gr]; unfold nxt; split <;> rfl
theorem fg_l1 {a : List Int} {n : Nat} (ha : sigOk a = true) (hn : n ≤ 60) : ∀ (r : Nat) {g : List LL} {out : LL}, GI g → 1 ≤ g.length → out.length ≤ 200 → g.length + r = n + 1 → loopC (FG_l1 a n) (g, out) = some (gr a r g out)
  | 0, g, out, h, h1, ho, hr => by
    refine loopC_inr ?_
    simp only [FG_l1, show ¬ (g.length : Int) ≤ n by omega, decide_false, Bool.false_eq_true, if_false, Option.map_some, gr]
  | r + 1, g, out, h, h1, ho, hr => by
    have e : FG_l1 a n (g, out) = some (nxt a g out) := by
      simp only [FG_l1, show (g.length : Int) ≤ n by omega, decide_true, if_true, show g.length < 61 by omega, fg_l2 ha h h1 ho]
    rw [gr_step]
    unfold nxt at e ⊢
    split at e
    · rename_i hq
      rw [if_pos hq]
      exact loopC_inr e
    · rename_i hq
      rw [if_neg hq, loopC_inl e]
      refine fg_l1 ha hn r (h.next h1 (by omega) (by omega)) (by simp) ?_ (by simp; omega)
      rw [List.length_append]; unfold lev; rw [sortT_len]; omega
def grds (a : List Int) (n : Int) : LL × Bool := if sigOk a = true ∧ 1 ≤ n ∧ n ≤ 60 then gr a n.toNat [[]] [] else ([], false)
theorem gi0 : GI [[]] := ⟨by simp, fun k => by
    cases k with
    | zero => simp
    | succ k => exact Nat.zero_le _, fun k t ht => by
    cases k with
    | zero => simp at ht
    | succ k => exact absurd (show t ∈ ([] : LL) from ht) (by simp)⟩
theorem F_impl_GroundsOf_eq (a : List Int) (n : Int) : F_impl_GroundsOf a n = some (grds a n) := by
  unfold F_impl_GroundsOf grds
  rw [F_impl_SigOk_eq, Option.bind_some]
  cases ha : sigOk a with
  | false => simp
  | true =>
    by_cases h1 : n < 1
    · simp [h1, show ¬ 1 ≤ n by omega]
    · by_cases h2 : 60 < n
      · simp [h1, h2, show ¬ n ≤ 60 by omega]
      · obtain ⟨k, rfl⟩ := Int.eq_ofNat_of_zero_le (show 0 ≤ n by omega)
        have := fg_l1 (a := a) (n := k) ha (by omega) k (g := [[]]) (out := []) gi0 (by simp) (by simp) (by simp; omega)
        simp only [if_true, h1, h2, decide_false, Bool.false_eq_true, if_false, Int.toNat_natCast, this]
        rw [if_pos ⟨trivial, by omega, by omega⟩]
theorem sg_l3 {f : Nat} {r h : LL} (hf : f < 8) (hr : r.length ≤ 201) (hu : ∀ u ∈ r, u.length ≤ 60) (hh : h.length ≤ 2000) :
    loopC (F_spec_GroundsOf_l3 (f : Int) r) (sortT h, 0) = some (.inl (sortT (h ++ r.map fun t => (f : Int) :: t), (f : Int) + 1)) := by
  have h0 : (sortT (h ++ (r.take 0).map (fun t => (f : Int) :: t)), ((0 : Nat) : Int)) = (sortT h, (0 : Int)) := by simp
  rw [← h0]
  refine loop_st (n := r.length) (fun j => (sortT (h ++ (r.take j).map (fun t => (f : Int) :: t)), (j : Int))) (fun j hj => ?_) ?_
  · have hl : (h ++ (r.take j).map (fun t => (f : Int) :: t)).length = h.length + j := by simp; omega
    have hu' := hu _ (getD_mem hj)
    have ei := insert_sort (g := h ++ (r.take j).map (fun t => (f : Int) :: t)) (t := [(f : Int)] ++ r.getD j default) (by omega) (by show List.length _ < _; simp only [List.length_append, List.length_singleton]; omega)
    simp only [F_spec_GroundsOf_l3, show (j : Int) < r.length by omega, decide_true, if_true, show (0 : Int) ≤ j by omega, and_self, Int.toNat_natCast, w64 (n := (j : Int) + 1) (by omega) (by omega), show (1 + (r.getD j default).length) * 8 ≤ 140737488355328 by omega, ei, Option.bind_some]
    rw [List.take_succ_eq_append_getElem hj, List.map_append, ← List.append_assoc, getD_get hj]
    rfl
  · simp only [F_spec_GroundsOf_l3, show ¬ (r.length : Int) < r.length by omega, decide_false, Bool.false_eq_true, if_false, Option.map_some, List.take_length, w64 (n := (f : Int) + 1) (by omega) (by omega)]
theorem sg_l2 {a : List Int} {g : List LL} {out : LL} (ha : sigOk a = true) (h : GI g) (h1 : 1 ≤ g.length) (h60 : g.length ≤ 60) (ho : out.length ≤ 200) :
    loopC (F_spec_GroundsOf_l2 a g out (g.length : Int)) ([], 0) = some (match nxt a g out with | .inl s => .inl (s.1, s.2, (g.length : Int) + 1) | .inr b => .inr b) := by
  have ha8 := (sigOk_iff.1 ha).2.1
  have hg := h.len
  have hw : IntKind.i64.wrap ((g.length : Int) - 1) = ((g.length - 1 : Nat) : Int) := by rw [w64 (by omega) (by omega)]; omega
  have h0 : (sortT (lvs a g 0), ((0 : Nat) : Int)) = (([] : LL), (0 : Int)) := by simp [lvs, sortT]
  rw [← h0]
  refine loop_st (n := a.length) (fun k => (sortT (lvs a g k), (k : Int))) (fun k hk => ?_) ?_
  · obtain ⟨m3, me⟩ := ar3 ha hk
    have el := F_rows_eq h (m := (a.getD k default).toNat) (l := g.length - 1) m3 (by omega)
    have hb := lvs_bnd (a := a) (g := g) k
    have e6 := sg_l3 (f := k) (r := (lst g (a.getD k default).toNat (g.length - 1)).take 201) (h := lvs a g k) (by omega) (by simp; omega) (fun u hu => by have := lst_el h u (List.mem_of_mem_take hu); omega) (by omega)
    simp only [F_spec_GroundsOf_l2, show (k : Int) < a.length by omega, decide_true, if_true, show (0 : Int) ≤ k by omega, and_self, Int.toNat_natCast, hw]
    rw [me, el, Option.bind_some, e6, lvs_succ]
    rfl
  · have hb := lvs_bnd (a := a) (g := g) a.length
    have hl : (sortT (lvs a g a.length)).length = (lvs a g a.length).length := sortT_len
    have hl2 : (out ++ sortT (lvs a g a.length)).length = out.length + (lvs a g a.length).length := by rw [List.length_append, hl]
    simp only [F_spec_GroundsOf_l2, show ¬ (a.length : Int) < a.length by omega, decide_false, Bool.false_eq_true, if_false, show (g.length + 1) * 24 ≤ 140737488355328 by omega, hl, hl2, show (out.length + (lvs a g a.length).length) * 24 ≤ 140737488355328 by omega, if_true, w64 (n := (g.length : Int) + 1) (by omega) (by omega)]
    unfold nxt
    by_cases hq : 200 < out.length + (lvs a g a.length).length
    · rw [if_pos (by simpa using (by omega : (200 : Int) < ((out.length + (lvs a g a.length).length : Nat) : Int))), if_pos hq]; rfl
    · rw [if_neg (by simpa using (by omega : ((out.length + (lvs a g a.length).length : Nat) : Int) ≤ 200)), if_neg hq]; rfl
theorem sg_l1 {a : List Int} {n : Nat} (ha : sigOk a = true) (hn : n ≤ 60) : ∀ (r : Nat) {g : List LL} {out : LL}, GI g → 1 ≤ g.length → out.length ≤ 200 → g.length + r = n + 1 → loopC (F_spec_GroundsOf_l1 a n) (g, out, (g.length : Int)) = some (gr a r g out)
  | 0, g, out, h, h1, ho, hr => by
    refine loopC_inr ?_
    simp only [F_spec_GroundsOf_l1, show ¬ (g.length : Int) ≤ n by omega, decide_false, Bool.false_eq_true, if_false, Option.map_some, gr]
  | r + 1, g, out, h, h1, ho, hr => by
    have e : F_spec_GroundsOf_l1 a n (g, out, (g.length : Int)) = some (match nxt a g out with | .inl s => .inl (s.1, s.2, (g.length : Int) + 1) | .inr b => .inr b) := by
      simp only [F_spec_GroundsOf_l1, show (g.length : Int) ≤ n by omega, decide_true, if_true, sg_l2 ha h h1 (by omega) ho]
    rw [gr_step]
    unfold nxt at e ⊢
    by_cases hq : 200 < out.length + (lvs a g a.length).length
    · rw [if_pos hq] at e ⊢
      exact loopC_inr e
    · rw [if_neg hq] at e ⊢
      rw [loopC_inl e]
      have hl : (g.length : Int) + 1 = ((g ++ [lev a g]).length : Int) := by simp
      dsimp only
      rw [hl]
      refine sg_l1 ha hn r (h.next h1 (by omega) (by omega)) (by simp) ?_ (by simp; omega)
      rw [List.length_append]; unfold lev; rw [sortT_len]; omega
theorem F_spec_GroundsOf_eq (a : List Int) (n : Int) : F_spec_GroundsOf a n = some (grds a n) := by
  unfold F_spec_GroundsOf grds
  rw [F_spec_SigOk_eq, Option.bind_some]
  cases ha : sigOk a with
  | false => simp
  | true =>
    simp only [if_true, F_spec_l1In_eq, Option.bind_some, true_and]
    by_cases h1 : 1 ≤ n ∧ n ≤ 60
    · obtain ⟨k, rfl⟩ := Int.eq_ofNat_of_zero_le (show 0 ≤ n by omega)
      have := sg_l1 (a := a) (n := k) ha (by omega) k (g := [[]]) (out := []) gi0 (by simp) (by simp) (by simp; omega)
      rw [if_pos h1, if_pos (by simpa using h1), Int.toNat_natCast]
      exact this
    · rw [if_neg h1, if_neg (by simpa using h1)]
theorem gr_el {a : List Int} : ∀ (r : Nat) {g : List LL} {out : LL}, GI g → 1 ≤ g.length → g.length + r ≤ 61 → out.length ≤ 200 → (∀ t ∈ out, 1 ≤ t.length ∧ t.length ≤ 60) → (gr a r g out).1.length ≤ 200 ∧ ∀ t ∈ (gr a r g out).1, 1 ≤ t.length ∧ t.length ≤ 60
  | 0, g, out, h, h1, h2, h3, h4 => ⟨h3, h4⟩
  | r + 1, g, out, h, h1, h2, h3, h4 => by
    rw [gr]
    split
    · exact ⟨by simp, by simp⟩
    · rename_i hq
      refine gr_el r (h.next h1 (by omega) (by omega)) (by simp) (by simp; omega) ?_ fun t ht => ?_
      · rw [List.length_append]; unfold lev; rw [sortT_len]; omega
      · rcases List.mem_append.1 ht with ht | ht
        · exact h4 t ht
        · have := lvs_el h h1 t ((sortT_perm _).mem_iff.1 ht)
          omega
theorem grds_el (a : List Int) (n : Int) : (grds a n).1.length ≤ 200 ∧ ∀ t ∈ (grds a n).1, 1 ≤ t.length ∧ t.length ≤ 60 := by
  unfold grds
  split
  · rename_i h
    exact gr_el _ gi0 (by simp) (by simp; omega) (by simp) (by simp)
  · exact ⟨by simp, by simp⟩
end Go.Proofs.YtglpjlpmijfocaaGreat
namespace Go.Proofs.YtglpjlpmijfocaaGreat
open Go Abx Tm
def gmx (c : List Int → Int) : LL → Int → Int
  | [], m => m
  | t :: ts, m => if c t < 0 then -1 else gmx c ts (max m (c t))
theorem F_spec_l1Max_eq (a b : Int) : F_spec_l1Max a b = some (max a b) := by
  unfold F_spec_l1Max
  by_cases h : b < a
  · simp [h]; omega
  · simp [h]; omega
end Go.Proofs.YtglpjlpmijfocaaGreat
namespace Go.Proofs.YtglpjlpmijfocaaGreat
open Go Abx Tm
def rdB (s : Sys) (t : List Int) (i j : Nat) : Bool := (mat s.1 (s.2.getD j default).1 (at' s.1 t i) none24).isSome
theorem stepO_rd {s : Sys} {t u : List Int} {i j : Nat} (h : stepO s t i j = some u) : rdB s t i j = true := by
  unfold stepO stepp at h
  unfold rdB
  obtain ⟨b, hb, _⟩ := Option.bind_eq_some_iff.1 h
  rw [hb]; rfl
theorem F_impl_redex_eq {s : Sys} {t : List Int} {i rule : Nat} (hs : sysOk s = true) (ht : termOk s.1 t = true) (hi : i < t.length) (hr : rule < s.2.length) : F_impl_redex s t i rule = some (rdB s t i rule) := by
  obtain ⟨ha, _, hrs⟩ := sysOk_iff.1 hs
  obtain ⟨_, h1, h2, hw⟩ := termOk_iff.1 ht
  obtain ⟨p, u, q, rfl, rfl, hu⟩ := hw.place hi
  have hL := (ruleOk_iff.1 (hrs _ (getD_mem hr))).1
  have hm : ∀ x ∈ p ++ (u ++ q), -24 ≤ x := fun x hx => (hw.all x hx).1
  have hul : u.length ≤ 60 := by simp at h2; omega
  obtain ⟨_, hL1, hL2, hL3⟩ := termOk_iff.1 hL
  unfold F_impl_redex rdB F_impl_instance
  rw [if_pos (by omega), F_impl_subAt_eq ha (by show List.length _ < _; omega) hm List.drop_left hu, Option.bind_some, Int.toNat_natCast, at_eq hu]
  obtain ⟨r, e⟩ := (F_impl_match_ok ha hL3 hu hL2 hul).2 trivial
  rw [e, Option.bind_some, Option.bind_some, match_isSome ((F_impl_match_ok ha hL3 hu hL2 hul).1 r e)]
theorem rd_var {s : Sys} {t : List Int} {i j : Nat} (hs : sysOk s = true) (ht : termOk s.1 t = true) (hi : i < t.length) (hj : j < s.2.length) (hn : t.getD i default < 0) : rdB s t i j = false := by
  obtain ⟨ha, _, hrs⟩ := sysOk_iff.1 hs
  obtain ⟨_, h1, h2, hw⟩ := termOk_iff.1 ht
  obtain ⟨p, u, q, rfl, rfl, hu⟩ := hw.place hi
  obtain ⟨hL, _, hh, _⟩ := ruleOk_iff.1 (hrs _ (getD_mem hj))
  obtain ⟨_, hL1, hL2, hL3⟩ := termOk_iff.1 hL
  unfold rdB
  rw [at_eq hu]
  obtain ⟨x, r, rfl, _, _⟩ := hu.pos
  have hx : x < 0 := by
    have e : (p ++ (x :: r ++ q)).getD p.length default = x := by simp [List.getD_eq_getElem?_getD]
    rwa [e] at hn
  generalize (s.2.getD j default).1 = l at *
  obtain ⟨y, k, rfl, _, _⟩ := hL3.pos
  have hy : ¬ y < 0 := by simpa using hh
  rw [mat_sym hy, if_neg (by omega)]; rfl
def stRow (s : Sys) (t : List Int) (js : List Nat) (i : Nat) : List Stp := js.filterMap fun j => (stepO s t i j).map fun u => ((i : Int), (j : Int), u)
def stL (s : Sys) (t : List Int) : List Stp := (List.range t.length).flatMap (stRow s t (List.range s.2.length))
def lgR (s : Sys) (t : List Int) (js : List Nat) (i : Nat) : Bool := js.any fun j => rdB s t i j && (stepO s t i j).isNone
def lgB (s : Sys) (t : List Int) : Bool := (List.range t.length).any (lgR s t (List.range s.2.length))
def rdR (s : Sys) (t : List Int) (js : List Nat) (i : Nat) : Nat := (js.filter (rdB s t i)).length
def rdN (s : Sys) (t : List Int) : Nat := ((List.range t.length).map (rdR s t (List.range s.2.length))).sum
theorem row_rd {s : Sys} {t : List Int} {i : Nat} : ∀ js : List Nat, (stRow s t js i).length ≤ rdR s t js i ∧ (lgR s t js i = true ↔ (stRow s t js i).length < rdR s t js i)
  | [] => by simp [stRow, rdR, lgR]
  | j :: js => by
    obtain ⟨h1, h2⟩ := row_rd (s := s) (t := t) (i := i) js
    unfold stRow rdR lgR at *
    rw [List.filterMap_cons, List.filter_cons, List.any_cons]
    cases hq : stepO s t i j with
    | some u =>
      have := stepO_rd hq
      simp only [Option.map_some, this, if_true, List.length_cons, Option.isNone_some, Bool.and_false, Bool.false_or]
      exact ⟨by omega, h2.trans (by omega)⟩
    | none =>
      cases hr : rdB s t i j with
      | true => simp; omega
      | false => simp only [Option.map_none, Bool.false_eq_true, if_false, Bool.false_and, Bool.false_or]; exact ⟨h1, h2⟩
theorem all_rd {s : Sys} {t : List Int} {js : List Nat} : ∀ is : List Nat, (is.flatMap (stRow s t js)).length ≤ (is.map (rdR s t js)).sum ∧ (is.any (lgR s t js) = true ↔ (is.flatMap (stRow s t js)).length < (is.map (rdR s t js)).sum)
  | [] => by simp
  | i :: is => by
    obtain ⟨h1, h2⟩ := all_rd (s := s) (t := t) (js := js) is
    obtain ⟨h3, h4⟩ := row_rd (s := s) (t := t) (i := i) js
    simp only [List.flatMap_cons, List.length_append, List.map_cons, List.sum_cons, List.any_cons, Bool.or_eq_true]
    refine ⟨by omega, ?_⟩
    rw [h2, h4]; omega
theorem lg_iff (s : Sys) (t : List Int) : lgB s t = decide ((stL s t).length < rdN s t) := by
  have := (all_rd (s := s) (t := t) (js := List.range s.2.length) (List.range t.length)).2
  unfold lgB stL rdN
  rw [Bool.eq_iff_iff, this]; simp
theorem stRow_len {s : Sys} {t : List Int} {js : List Nat} {i : Nat} : (stRow s t js i).length ≤ js.length := List.length_filterMap_le _ _
theorem stL_len {s : Sys} {t : List Int} (hs : sysOk s = true) (ht : termOk s.1 t = true) : ∀ {n : Nat}, n ≤ t.length → ((List.range n).flatMap (stRow s t (List.range s.2.length))).length ≤ n * 12
  | 0, _ => by simp
  | n + 1, h => by
    have := stL_len hs ht (n := n) (by omega)
    have h2 := stRow_len (s := s) (t := t) (js := List.range s.2.length) (i := n)
    have h3 := (sysOk_iff.1 hs).2.1
    rw [List.range_succ, List.flatMap_append, List.length_append]
    simp only [List.length_range] at h2
    simp only [List.flatMap_cons, List.flatMap_nil, List.append_nil]
    omega
theorem stRow_succ {s : Sys} {t : List Int} {i n : Nat} : stRow s t (List.range (n + 1)) i = stRow s t (List.range n) i ++ (match stepO s t i n with | some u => [((i : Int), (n : Int), u)] | none => []) := by
  unfold stRow
  rw [List.range_succ, List.filterMap_append]
  congr 1
  cases h : stepO s t i n <;> simp [h]
theorem F_spec_l7Steps_eq {s : Sys} {t : List Int} (hs : sysOk s = true) (ht : termOk s.1 t = true) : F_spec_l7Steps s t = some (stL s t) := by
  obtain ⟨_, hn, _⟩ := sysOk_iff.1 hs
  obtain ⟨_, h1, h60, _⟩ := termOk_iff.1 ht
  unfold F_spec_l7Steps
  have A := loop_st (n := t.length) (fun i => ((List.range i).flatMap (stRow s t (List.range s.2.length)), (i : Int))) (c := stL s t) (f := F_spec_l7Steps_l1 s t) (fun i hi => by
    have hlen := stL_len hs ht (n := i) (by omega)
    generalize hO : (List.range i).flatMap (stRow s t (List.range s.2.length)) = o at hlen
    have B := loop_st (n := s.2.length) (fun j => (o ++ stRow s t (List.range j) i, (j : Int))) (c := .inl (o ++ stRow s t (List.range s.2.length) i, ((i : Int) + 1))) (f := F_spec_l7Steps_l2 s t (i : Int)) (fun j hj => by
      have hr := stRow_len (s := s) (t := t) (js := List.range j) (i := i)
      rw [List.length_range] at hr
      unfold F_spec_l7Steps_l2
      simp only
      rw [if_pos (by simpa using hj), F_spec_l7Step_eq hs ht hi hj, Option.bind_some, w64 (by omega) (by omega), stRow_succ]
      cases hq : stepO s t i j with
      | none => simp [encO]
      | some u =>
        simp only [encO, if_true]
        rw [if_pos (by simp only [List.length_append]; omega), List.append_assoc]
        rfl) (by
      unfold F_spec_l7Steps_l2
      simp only
      rw [if_neg (by simp), w64 (by omega) (by omega)]; rfl)
    simp only [List.range_zero] at B
    have e0 : stRow s t [] i = [] := rfl
    rw [e0, List.append_nil] at B
    unfold F_spec_l7Steps_l1
    simp only
    rw [if_pos (by simpa using hi), show ((0 : Nat) : Int) = 0 from rfl] at *
    rw [B, List.range_succ, List.flatMap_append, hO]
    simp) (by
    unfold F_spec_l7Steps_l1
    simp only
    rw [if_neg (by simp)]; rfl)
  simpa using A
theorem rdR_succ {s : Sys} {t : List Int} {i n : Nat} : rdR s t (List.range (n + 1)) i = rdR s t (List.range n) i + (if rdB s t i n = true then 1 else 0) := by
  unfold rdR
  rw [List.range_succ, List.filter_append, List.length_append]
  congr 1
  cases h : rdB s t i n <;> simp [h]
theorem rdR_le {s : Sys} {t : List Int} {i n : Nat} : rdR s t (List.range n) i ≤ n := by
  have := List.length_filter_le (rdB s t i) (List.range n)
  rw [List.length_range] at this; exact this
theorem rdN_le {s : Sys} {t : List Int} (hn : s.2.length ≤ 12) : ∀ n, ((List.range n).map (rdR s t (List.range s.2.length))).sum ≤ n * 12
  | 0 => by simp
  | n + 1 => by
    have := rdN_le (s := s) (t := t) hn n
    have h2 := rdR_le (s := s) (t := t) (i := n) (n := s.2.length)
    rw [List.range_succ, List.map_append, List.sum_append]; simp; omega
theorem F_spec_l7Redexes_eq {s : Sys} {t : List Int} (hs : sysOk s = true) (ht : termOk s.1 t = true) : F_spec_l7Redexes s t = some (rdN s t : Int) := by
  obtain ⟨ha, hn, hrs⟩ := sysOk_iff.1 hs
  obtain ⟨_, h1, h60, hw⟩ := termOk_iff.1 ht
  unfold F_spec_l7Redexes
  have A := loop_st (n := t.length) (fun i => (((((List.range i).map (rdR s t (List.range s.2.length))).sum : Nat) : Int), (i : Int))) (c := (rdN s t : Int)) (f := F_spec_l7Redexes_l1 s t) (fun i hi => by
    have hlen := rdN_le (s := s) (t := t) hn i
    generalize hO : ((List.range i).map (rdR s t (List.range s.2.length))).sum = o at hlen
    have B := loop_st (n := s.2.length) (fun j => (((o + rdR s t (List.range j) i : Nat) : Int), (j : Int))) (c := .inl (((o + rdR s t (List.range s.2.length) i : Nat) : Int), ((i : Int) + 1))) (f := F_spec_l7Redexes_l2 s t (i : Int)) (fun j hj => by
      have hr := rdR_le (s := s) (t := t) (i := i) (n := j)
      obtain ⟨p, u, q, e1, e2, hu⟩ := hw.place hi
      have hL := (ruleOk_iff.1 (hrs _ (getD_mem hj))).1
      obtain ⟨_, hL1, hL2, hL3⟩ := termOk_iff.1 hL
      have hul : u.length ≤ 60 := by have := congrArg List.length e1; simp at this; omega
      have hrd : rdB s t i j = (mat s.1 (s.2.getD j default).1 u none24).isSome := by unfold rdB; rw [e1, ← e2, at_eq hu]
      unfold F_spec_l7Redexes_l2
      simp only
      rw [if_pos (by simpa using hj), if_pos (by omega), F_spec_l1Sub_eq ha (by show List.length _ < _; omega) (u := u) (r := q) (by rw [e1, ← e2]; exact List.drop_left) hu, Option.bind_some, Int.toNat_natCast]
      obtain ⟨r, e⟩ := (F_spec_l4Match_ok ha hL3 hu hL2 hul).2 trivial
      rw [e, Option.bind_some, match_isSome ((F_spec_l4Match_ok ha hL3 hu hL2 hul).1 r e), ← hrd, w64 (by omega) (by omega), w64 (by omega) (by omega), rdR_succ]
      cases rdB s t i j with
      | true => simp only [if_true]; congr 2
      | false => simp) (by
      unfold F_spec_l7Redexes_l2
      simp only
      rw [if_neg (by simp), w64 (by omega) (by omega)]; rfl)
    have e0 : rdR s t (List.range 0) i = 0 := rfl
    rw [e0, Nat.add_zero] at B
    unfold F_spec_l7Redexes_l1
    simp only
    rw [if_pos (by simpa using hi)]
    refine B.trans ?_
    rw [List.range_succ, List.map_append, List.sum_append, hO]
    simp) (by
    unfold F_spec_l7Redexes_l1
    simp only
    rw [if_neg (by simp)]; rfl)
  simpa using A
def elF (s : Sys) (t : List Int) (i j : Nat) : StpT := (((i : Int), (j : Int), (encO (stepO s t i j)).1), (encO (stepO s t i j)).2)
theorem elF_some {s : Sys} {t u : List Int} {i j : Nat} (h : stepO s t i j = some u) : elF s t i j = (((i : Int), (j : Int), u), true) := by unfold elF; rw [h]; rfl
theorem elF_none {s : Sys} {t : List Int} {i j : Nat} (h : stepO s t i j = none) : (elF s t i j).2 = false := by unfold elF; rw [h]; rfl
def elR (s : Sys) (t : List Int) (js : List Nat) (i : Nat) : List StpT := (js.filter (rdB s t i)).map (elF s t i)
theorem redexIn_eq {s : Sys} {t : List Int} {i : Nat} (hs : sysOk s = true) (ht : termOk s.1 t = true) (hi : i < t.length) : ∀ k, k ≤ s.2.length → redexIn s t i k = some (elR s t (List.range' (s.2.length - k) k) i)
  | 0, _ => rfl
  | k + 1, hk => by
    have ih := redexIn_eq hs ht hi k (by omega)
    have e : List.range' (s.2.length - (k + 1)) (k + 1) = (s.2.length - (k + 1)) :: List.range' (s.2.length - k) k := by
      rw [List.range'_succ]; congr 2; omega
    unfold redexIn
    rw [e]
    have hr : s.2.length - (k + 1) < s.2.length := by omega
    by_cases hn : t.getD i default < 0
    · rw [if_pos (by simpa using hn), ih]
      unfold elR
      rw [List.filter_cons, rd_var hs ht hi hr hn]; rfl
    · rw [if_neg (by simpa using hn), F_impl_redex_eq hs ht hi hr, Option.bind_some]
      unfold elR
      rw [List.filter_cons]
      cases hq : rdB s t i (s.2.length - (k + 1)) with
      | false => simp only [Bool.false_eq_true, if_false]; exact ih
      | true =>
        simp only [if_true]
        rw [F_impl_step_eq hs ht hi hr, Option.bind_some, ih]
        rfl
theorem redexOut_eq {s : Sys} {t : List Int} (hs : sysOk s = true) (ht : termOk s.1 t = true) : ∀ k, k ≤ t.length → redexOut s t k = some ((List.range' (t.length - k) k).flatMap (elR s t (List.range s.2.length)))
  | 0, _ => rfl
  | k + 1, hk => by
    have ih := redexOut_eq hs ht k (by omega)
    have e : List.range' (t.length - (k + 1)) (k + 1) = (t.length - (k + 1)) :: List.range' (t.length - k) k := by
      rw [List.range'_succ]; congr 2; omega
    unfold redexOut
    rw [e, redexIn_eq hs ht (by omega) _ (Nat.le_refl _), Option.bind_some, ih, Nat.sub_self, ← List.range_eq_range']
    rfl
def elA (s : Sys) (t : List Int) : List StpT := (List.range t.length).flatMap (elR s t (List.range s.2.length))
theorem F_redexEls_eq {s : Sys} {t : List Int} (hs : sysOk s = true) (ht : termOk s.1 t = true) : F_redexEls s t = some (elA s t) := by
  unfold F_redexEls elA
  rw [redexOut_eq hs ht _ (Nat.le_refl _), Nat.sub_self, ← List.range_eq_range']
theorem elR_ok {s : Sys} {t : List Int} {i : Nat} : ∀ js : List Nat, ((elR s t js i).filter (·.2)).map (·.1) = stRow s t js i ∧ (elR s t js i).any (fun x => !x.2) = lgR s t js i
  | [] => ⟨rfl, rfl⟩
  | j :: js => by
    obtain ⟨h1, h2⟩ := elR_ok (s := s) (t := t) (i := i) js
    unfold elR stRow lgR at *
    rw [List.filter_cons, List.filterMap_cons, List.any_cons]
    cases hq : stepO s t i j with
    | some u =>
      simp only [stepO_rd hq, if_true, List.map_cons, List.filter_cons, List.any_cons, elF_some hq, h1, h2, Option.map_some, Option.isNone_some, Bool.and_false, Bool.not_true, Bool.false_or, and_self]
    | none => cases hr : rdB s t i j <;> simp [elF_none hq, h1, h2]
theorem elA_ok (s : Sys) (t : List Int) : ((elA s t).filter (·.2)).map (·.1) = stL s t ∧ (elA s t).any (fun x => !x.2) = lgB s t := by
  unfold elA stL lgB
  generalize List.range t.length = is
  induction is with
  | nil => exact ⟨rfl, rfl⟩
  | cons i is ih =>
    obtain ⟨h1, h2⟩ := elR_ok (s := s) (t := t) (i := i) (List.range s.2.length)
    simp only [List.flatMap_cons, List.filter_append, List.map_append, List.any_append, List.any_cons, h1, h2, ih.1, ih.2, and_self]
theorem take_snoc {α : Type} [Inhabited α] {xs : List α} {i : Nat} (h : i < xs.length) : xs.take (i + 1) = xs.take i ++ [xs.getD i default] := by
  rw [List.take_succ_eq_append_getElem h, getD_get h]
theorem F_impl_stepsFrom_eq {s : Sys} {t : List Int} (hs : sysOk s = true) (ht : termOk s.1 t = true) : F_impl_stepsFrom s t = some (stL s t, lgB s t) := by
  unfold F_impl_stepsFrom
  rw [show F_impl_redexSteps s t = some () from rfl, Option.bind_some, F_redexEls_eq hs ht, Option.bind_some]
  have hb : ∀ j, (((elA s t).take j).filter (·.2)).length ≤ 720 := fun j => by
    have h1 : (((elA s t).take j).filter (·.2)).length ≤ ((elA s t).filter (·.2)).length := ((List.take_sublist _ _).filter _).length_le
    have h2 := congrArg List.length (elA_ok s t).1
    rw [List.length_map] at h2
    have h3 := stL_len hs ht (n := t.length) (Nat.le_refl _)
    have h4 := (termOk_iff.1 ht).2.2.1
    unfold stL at h2
    omega
  have A := loop_st (n := (elA s t).length) (fun j => (j, (((elA s t).take j).filter (·.2)).map (·.1), ((elA s t).take j).any (fun x => !x.2))) (c := (stL s t, lgB s t)) (f := F_impl_stepsFrom_l1 (elA s t)) (fun j hj => by
    have h0 := hb j
    unfold F_impl_stepsFrom_l1
    simp only
    rw [if_pos hj, take_snoc hj]
    generalize (elA s t).getD j default = x
    cases hx : x.2 with
    | true =>
      simp only [if_true]
      rw [if_pos (by rw [List.length_map]; omega), List.filter_append, List.map_append, List.any_append]
      simp [hx]
    | false =>
      simp [hx]) (by
    unfold F_impl_stepsFrom_l1
    simp only
    rw [if_neg (Nat.lt_irrefl _), List.take_length, (elA_ok s t).1, (elA_ok s t).2]; rfl)
  simpa using A
end Go.Proofs.YtglpjlpmijfocaaGreat
namespace Go.Proofs.YtglpjlpmijfocaaGreat
open Go Abx Tm
def addT (o : LL) (u : List Int) : LL := if u ∈ o then o else o ++ [u]
theorem addF_len : ∀ (us o : LL), (us.foldl addT o).length ≤ o.length + us.length
  | [], o => by simp
  | u :: us, o => by
    have := addF_len us (addT o u)
    have h2 : (addT o u).length ≤ o.length + 1 := by unfold addT; split <;> simp
    simp only [List.foldl_cons, List.length_cons]; omega
theorem addF_all {P : List Int → Prop} : ∀ {us o : LL}, (∀ t ∈ o, P t) → (∀ t ∈ us, P t) → ∀ t ∈ us.foldl addT o, P t
  | [], o, h1, _ => h1
  | u :: us, o, h1, h2 => by
    refine addF_all (us := us) (o := addT o u) (fun t ht => ?_) fun t ht => h2 t (List.mem_cons_of_mem _ ht)
    unfold addT at ht
    split at ht
    · exact h1 t ht
    · rcases List.mem_append.1 ht with h | h
      · exact h1 t h
      · rw [List.mem_singleton.1 h]; exact h2 u List.mem_cons_self
def addK (o us : LL) (k : Nat) : LL := (us.take k).foldl addT o
theorem addK_succ {o us : LL} {k : Nat} (h : k < us.length) : addK o us (k + 1) = addT (addK o us k) us[k] := by
  unfold addK; rw [List.take_succ_eq_append_getElem h, List.foldl_append]; rfl
theorem addK_len (o us : LL) (k : Nat) : (addK o us k).length ≤ o.length + us.length := by
  have := addF_len (us.take k) o
  have h2 : (us.take k).length ≤ us.length := by simp; omega
  unfold addK; omega
theorem addK_all {P : List Int → Prop} {us o : LL} (h1 : ∀ t ∈ o, P t) (h2 : ∀ t ∈ us, P t) (k : Nat) : ∀ t ∈ addK o us k, P t :=
  addF_all h1 fun t ht => h2 t (List.mem_of_mem_take ht)
def upd (o : LL) (r : List Stp) : LL := (r.map (·.2.2)).foldl addT o
theorem addK_full {o : LL} {r : List Stp} : addK o (r.map (·.2.2)) r.length = upd o r := by
  unfold addK upd
  rw [List.take_of_length_le (by simp)]
theorem step_ok {s : Sys} {t u : List Int} {i j : Nat} (hs : sysOk s = true) (ht : termOk s.1 t = true) (hi : i < t.length) (hj : j < s.2.length) (h : stepO s t i j = some u) : termOk s.1 u = true := by
  have hst : stepAtO s t (i : Int) (j : Int) = some u := by
    unfold stepAtO
    rw [if_pos ⟨⟨hs, ht⟩, ⟨by omega, by omega⟩, by omega, by omega⟩]
    exact h
  exact moveB_to (m := ((j : Int), (i : Int), false, u)) (stepAt_move (x := ((i : Int), (j : Int), u)) hst (by simp))
theorem stL_ok {s : Sys} {t : List Int} (hs : sysOk s = true) (ht : termOk s.1 t = true) : ∀ x ∈ stL s t, termOk s.1 x.2.2 = true := fun x hx => by
  obtain ⟨i, hi, hx⟩ := List.mem_flatMap.1 hx
  obtain ⟨j, hj, hx⟩ := List.mem_filterMap.1 hx
  obtain ⟨u, hu, rfl⟩ := Option.map_eq_some_iff.1 hx
  exact step_ok hs ht (List.mem_range.1 hi) (List.mem_range.1 hj) hu
theorem ok_sm {a t : List Int} (h : termOk a t = true) : t.length ≤ 60 := (termOk_iff.1 h).2.2.1
theorem stL_720 {s : Sys} {t : List Int} (hs : sysOk s = true) (ht : termOk s.1 t = true) : (stL s t).length ≤ 720 := by
  have h3 := stL_len hs ht (n := t.length) (Nat.le_refl _)
  have h4 := ok_sm ht
  unfold stL; omega
theorem spec_l2 {i : Nat} (hi : i ≤ 60) {r : List Stp} {o : LL} (hr : r.length ≤ 720) (ho : o.length ≤ 60) (hs : ∀ t ∈ o, Small t) (hu : ∀ x ∈ r, Small x.2.2) :
    loopC (F_spec_l9Next_l2 (i : Int) r) (o, 0) = some (if 60 < (upd o r).length then .inr ([], false) else .inl (upd o r, (i : Int) + 1)) := by
  refine loop_st (n := r.length) (fun k => (addK o (r.map (·.2.2)) k, (k : Int))) (fun k hk => ?_) ?_
  · have hl := addK_len o (r.map (·.2.2)) k
    have hsm : ∀ t ∈ addK o (r.map (·.2.2)) k, Small t := addK_all hs (fun t ht => by obtain ⟨x, hx, rfl⟩ := List.mem_map.1 ht; exact hu x hx) k
    rw [List.length_map] at hl
    rw [addK_succ (by simpa using hk), List.getElem_map]
    generalize addK o (r.map (·.2.2)) k = q at *
    simp only [F_spec_l9Next_l2, show (k : Int) < r.length by omega, decide_true, if_true, show (0 : Int) ≤ k by omega, and_self, Int.toNat_natCast, getD_get hk, F_spec_l1TermPlace_eq (l := q) (by omega) hsm, Option.bind_some, firstI_neg, w64 (n := (k : Int) + 1) (by omega) (by omega), show (q.length + 1) * 24 ≤ 140737488355328 by omega]
    unfold addT
    by_cases hm : r[k].2.2 ∈ q <;> simp [hm]
  · rw [addK_full]
    simp only [F_spec_l9Next_l2, show ¬ (r.length : Int) < r.length by omega, decide_false, Bool.false_eq_true, if_false, w64 (n := (i : Int) + 1) (by omega) (by omega)]
    by_cases hq : 60 < (upd o r).length
    · rw [if_pos (by simpa using (by omega : (60 : Int) < ((upd o r).length : Int))), if_pos hq]; rfl
    · rw [if_neg (by simpa using (by omega : ((upd o r).length : Int) ≤ 60)), if_neg hq]; rfl
def lvl (s : Sys) (o : LL) (t : List Int) : Option LL := if lgB s t = true then none else if 60 < (upd o (stL s t)).length then none else some (upd o (stL s t))
def lvN (s : Sys) : LL → LL → Option LL
  | [], o => some o
  | t :: ts, o => (lvl s o t).bind (lvN s ts)
theorem upd_ok {s : Sys} {t : List Int} {o : LL} (hs : sysOk s = true) (ht : termOk s.1 t = true) (ho : ∀ x ∈ o, termOk s.1 x = true) : ∀ x ∈ upd o (stL s t), termOk s.1 x = true :=
  addF_all ho fun u hu => by obtain ⟨x, hx, rfl⟩ := List.mem_map.1 hu; exact stL_ok hs ht x hx
theorem lvN_ok {s : Sys} (hs : sysOk s = true) : ∀ {ts o q : LL}, (∀ x ∈ ts, termOk s.1 x = true) → (∀ x ∈ o, termOk s.1 x = true) → o.length ≤ 60 → lvN s ts o = some q → (∀ x ∈ q, termOk s.1 x = true) ∧ q.length ≤ 60
  | [], o, q, _, ho, hl, h => by cases h; exact ⟨ho, hl⟩
  | t :: ts, o, q, ht, ho, hl, h => by
    obtain ⟨o', h1, h2⟩ := Option.bind_eq_some_iff.1 h
    unfold lvl at h1
    split at h1
    · cases h1
    · split at h1
      · cases h1
      · rename_i hq
        cases h1
        exact lvN_ok hs (fun x hx => ht x (List.mem_cons_of_mem _ hx)) (upd_ok hs (ht t List.mem_cons_self) ho) (by omega) h2
theorem next_l1 {s : Sys} (hs : sysOk s = true) {level : LL} (hl : level.length ≤ 60) (hL : ∀ t ∈ level, termOk s.1 t = true) : ∀ (r : LL) {i : Nat} {o : LL}, level.drop i = r → i ≤ level.length → o.length ≤ 60 → (∀ t ∈ o, termOk s.1 t = true) →
    loopC (F_spec_l9Next_l1 s level) (o, (i : Int)) = some (match lvN s r o with | some q => (q, true) | none => ([], false))
  | [], i, o, hd, hi, ho, hO => by
    refine loopC_inr ?_
    have : level.length ≤ i := by simpa using hd
    simp only [F_spec_l9Next_l1, show ¬ (i : Int) < level.length by omega, decide_false, Bool.false_eq_true, if_false, lvN, Option.map_some]
  | t :: r, i, o, hd, hi, ho, hO => by
    obtain ⟨h1, h2, h3⟩ := drop_cons hd
    have ht : termOk s.1 t = true := by rw [← h2]; exact hL _ (getD_mem h1)
    have e : F_spec_l9Next_l1 s level (o, (i : Int)) = some (match lvl s o t with | none => .inr ([], false) | some q => .inl (q, (i : Int) + 1)) := by
      simp only [F_spec_l9Next_l1, show (i : Int) < level.length by omega, decide_true, if_true, show (0 : Int) ≤ i by omega, and_self, Int.toNat_natCast, h2, F_spec_l7Steps_eq hs ht, F_spec_l7Redexes_eq hs ht, Option.bind_some]
      rw [spec_l2 (by omega) (stL_720 hs ht) ho (fun t h => by have := ok_sm (hO t h); show t.length < _; omega) (fun x hx => by have := ok_sm (stL_ok hs ht x hx); show x.2.2.length < _; omega)]
      unfold lvl
      rw [lg_iff]
      by_cases hg : (stL s t).length < rdN s t
      · simp [hg]
      · simp only [show ¬ ((stL s t).length : Int) < (rdN s t : Int) by omega, hg, decide_false, Bool.false_eq_true, if_false]
        split <;> rfl
    unfold lvN
    cases hv : lvl s o t with
    | none =>
      rw [hv] at e
      exact loopC_inr e
    | some q =>
      rw [hv] at e
      rw [loopC_inl e, Option.bind_some]
      have hq : lvN s [t] o = some q := by show (lvl s o t).bind (lvN s []) = _; rw [hv]; rfl
      obtain ⟨q1, q2⟩ := lvN_ok hs (by simpa using ht) hO ho hq
      exact next_l1 hs hl hL r (i := i + 1) h3 (by omega) q2 q1
theorem F_spec_l9Next_eq {s : Sys} (hs : sysOk s = true) {level : LL} (hl : level.length ≤ 60) (hL : ∀ t ∈ level, termOk s.1 t = true) : F_spec_l9Next s level = some (match lvN s level [] with | some q => (q, true) | none => ([], false)) :=
  next_l1 hs hl hL level (i := 0) rfl (by omega) (by simp) (by simp)
def kL (t : List Int) : Lit := Lit.string (kBytes t)
theorem kByte_inj {x y : Int} (hx : -24 ≤ x ∧ x < 8) (hy : -24 ≤ y ∧ y < 8) (h : kByte x = kByte y) : x = y := by
  have h1 := kByte_int x
  have h2 := kByte_int y
  rw [h] at h1
  unfold Go.RowKit.wrap64 at h1 h2
  omega
theorem kBytes_inj : ∀ {a b : List Int}, (∀ x ∈ a, -24 ≤ x ∧ x < 8) → (∀ x ∈ b, -24 ≤ x ∧ x < 8) → kBytes a = kBytes b → a = b
  | [], [], _, _, _ => rfl
  | [], y :: b, _, _, h => by cases h
  | x :: a, [], _, _, h => by cases h
  | x :: a, y :: b, ha, hb, h => by
    simp only [kBytes, List.map_cons, List.cons.injEq] at h
    rw [kByte_inj (ha x List.mem_cons_self) (hb y List.mem_cons_self) h.1, kBytes_inj (fun z hz => ha z (List.mem_cons_of_mem _ hz)) (fun z hz => hb z (List.mem_cons_of_mem _ hz)) h.2]
theorem ok_in {a t : List Int} (h : termOk a t = true) : ∀ x ∈ t, -24 ≤ x ∧ x < 8 := fun x hx => by
  obtain ⟨ha, _, _, hw⟩ := termOk_iff.1 h
  have := hw.all x hx
  have h8 := (sigOk_iff.1 ha).2.1
  unfold okx at this
  omega
theorem kL_inj {a t u : List Int} (ht : termOk a t = true) (hu : termOk a u = true) (h : kL t = kL u) : t = u := by
  unfold kL at h
  exact kBytes_inj (ok_in ht) (ok_in hu) (by injection h)
def mK (o : LL) : List (Lit × Bool) := o.reverse.map fun t => (kL t, true)
theorem mK_len (o : LL) : (mK o).length = o.length := by simp [mK]
theorem mK_add (o : LL) (t : List Int) : mK (o ++ [t]) = (kL t, true) :: mK o := by simp [mK]
theorem mget_map {a t : List Int} (ht : termOk a t = true) : ∀ {o : LL}, (∀ x ∈ o, termOk a x = true) → (mget (o.map fun t => (kL t, true)) (kL t)).getD false = decide (t ∈ o)
  | [], _ => by simp [mget]
  | u :: o, ho => by
    have ih := mget_map ht (o := o) fun x hx => ho x (List.mem_cons_of_mem _ hx)
    simp only [List.map_cons, mget]
    by_cases h : kL u = kL t
    · rw [if_pos h, kL_inj (ho u List.mem_cons_self) ht h]; simp
    · rw [if_neg h, ih]
      have : t ≠ u := fun e => h (by rw [e])
      simp [this]
theorem mget_mK {a t : List Int} {o : LL} (ht : termOk a t = true) (ho : ∀ x ∈ o, termOk a x = true) : (mget (mK o) (kL t)).getD false = decide (t ∈ o) := by
  unfold mK
  rw [mget_map ht fun x hx => ho x (by simpa using hx)]
  simp
noncomputable def mDs (o : LL) (M : List (Lit × Bool)) : List (Lit × Bool) := o.foldl (fun M t => mdel (kL t) M) M
theorem mDs_mem : ∀ {o : LL} {M : List (Lit × Bool)} {p : Lit × Bool}, p ∈ mDs o M → p ∈ M ∧ ∀ t ∈ o, p.1 ≠ kL t
  | [], M, p, h => ⟨h, by simp⟩
  | t :: o, M, p, h => by
    obtain ⟨h1, h2⟩ := mDs_mem (o := o) (M := mdel (kL t) M) h
    unfold mdel at h1
    obtain ⟨h3, h4⟩ := List.mem_filter.1 h1
    exact ⟨h3, fun u hu => (List.mem_cons.1 hu).elim (fun e => by rw [e]; simpa using h4) (h2 u)⟩
theorem mDs_nil (o : LL) : mDs o (mK o) = [] := by
  refine List.eq_nil_iff_forall_not_mem.2 fun p hp => ?_
  obtain ⟨h1, h2⟩ := mDs_mem hp
  obtain ⟨t, ht, rfl⟩ := List.mem_map.1 h1
  exact h2 t (by simpa using ht) rfl
theorem key_eq {t : List Int} (h : t.length ≤ 60) : F_impl_key t = some ⟨(kBytes t).toArray⟩ := by
  unfold F_impl_key; rw [if_pos (by omega)]
theorem key_sz {t : List Int} (h : t.length ≤ 60) : (⟨(kBytes t).toArray⟩ : ByteArray).size ≤ maxLen := by
  have : (⟨(kBytes t).toArray⟩ : ByteArray).size = t.length := by show (kBytes t).toArray.size = _; simp [kBytes]
  rw [this]; unfold maxLen; omega
theorem impl_l3 {a : List Int} {i : Nat} (hi : i ≤ 60) {r : List Stp} {o : LL} (hr : r.length ≤ 720) (ho : o.length ≤ 60) (hs : ∀ t ∈ o, termOk a t = true) (hu : ∀ x ∈ r, termOk a x.2.2 = true) {b : Bool} :
    loopC (F_impl_longest_l3 (i : Int) (r, b)) (o, 0, mK o) = some (if 60 < (upd o r).length then .inr (.inr (-1)) else .inl (upd o r, (i : Int) + 1, mK (upd o r))) := by
  refine loop_st (n := r.length) (fun k => (addK o (r.map (·.2.2)) k, (k : Int), mK (addK o (r.map (·.2.2)) k))) (fun k hk => ?_) ?_
  · have hl := addK_len o (r.map (·.2.2)) k
    have hsm : ∀ t ∈ addK o (r.map (·.2.2)) k, termOk a t = true := addK_all hs (fun t ht => by obtain ⟨x, hx, rfl⟩ := List.mem_map.1 ht; exact hu x hx) k
    rw [List.length_map] at hl
    rw [addK_succ (by simpa using hk), List.getElem_map]
    generalize addK o (r.map (·.2.2)) k = q at *
    have hx := hu _ (List.getElem_mem hk)
    have hmg := mget_mK hx hsm
    unfold kL at hmg
    have hML := mK_len q
    simp only [F_impl_longest_l3, show (k : Int) < r.length by omega, decide_true, if_true, show (0 : Int) ≤ k by omega, and_self, Int.toNat_natCast, getD_get hk, key_eq (ok_sm hx), key_sz (ok_sm hx), Option.bind_some, w64 (n := (k : Int) + 1) (by omega) (by omega), show (q.length + 1) * 24 ≤ 140737488355328 by omega, true_and, show (mK q).length < 1099511627776 by omega, hmg]
    unfold addT
    by_cases hm : r[k].2.2 ∈ q
    · simp [hm]
    · simp only [hm, decide_false, Bool.false_eq_true, if_false]
      rw [mK_add]; rfl
  · rw [addK_full]
    simp only [F_impl_longest_l3, show ¬ (r.length : Int) < r.length by omega, decide_false, Bool.false_eq_true, if_false, w64 (n := (i : Int) + 1) (by omega) (by omega)]
    by_cases hq : 60 < (upd o r).length
    · rw [if_pos (by simpa using (by omega : (60 : Int) < ((upd o r).length : Int))), if_pos hq]; rfl
    · rw [if_neg (by simpa using (by omega : ((upd o r).length : Int) ≤ 60)), if_neg hq]; rfl
theorem impl_l4 {a : List Int} {steps k : Int} {q : LL} (hq : q.length ≤ 60) (hs : ∀ t ∈ q, termOk a t = true) (hk : 0 ≤ k ∧ k ≤ 20) :
    loopC (F_impl_longest_l4 steps k q) (0, mK q) = some (if q.length = 0 then .inr k else if k = steps then .inr (-1) else .inl (q, k + 1, [])) := by
  refine loop_st (n := q.length) (fun j => ((j : Int), mDs (q.take j) (mK q))) (fun j hj => ?_) ?_
  · have hx := hs _ (List.getElem_mem hj)
    have e : mDs (q.take (j + 1)) (mK q) = mdel (kL q[j]) (mDs (q.take j) (mK q)) := by
      unfold mDs; rw [List.take_succ_eq_append_getElem hj, List.foldl_append]; rfl
    rw [e]
    simp only [F_impl_longest_l4, show (j : Int) < q.length by omega, decide_true, if_true, show (0 : Int) ≤ j by omega, and_self, Int.toNat_natCast, getD_get hj, key_eq (ok_sm hx), key_sz (ok_sm hx), Option.bind_some, w64 (n := (j : Int) + 1) (by omega) (by omega)]
    rfl
  · rw [List.take_length, mDs_nil]
    simp only [F_impl_longest_l4, show ¬ (q.length : Int) < q.length by omega, decide_false, Bool.false_eq_true, if_false, w64 (n := k + 1) (by omega) (by omega)]
    by_cases h0 : q.length = 0
    · rw [if_pos (by simpa using h0), if_pos h0]; rfl
    · rw [if_neg (by simpa using h0), if_neg h0]
      by_cases h1 : k = steps
      · rw [if_pos (by simpa using h1), if_pos h1]; rfl
      · rw [if_neg (by simpa using h1), if_neg h1]; rfl
theorem impl_l2 {s : Sys} (hs : sysOk s = true) {level : LL} {steps k : Int} (hk : 0 ≤ k ∧ k ≤ 20) (hl : level.length ≤ 60) (hL : ∀ t ∈ level, termOk s.1 t = true) : ∀ (r : LL) {i : Nat} {o : LL}, level.drop i = r → i ≤ level.length → o.length ≤ 60 → (∀ t ∈ o, termOk s.1 t = true) →
    loopC (F_impl_longest_l2 s steps level k) (o, (i : Int), mK o) = some (match lvN s r o with | none => .inr (-1) | some q => if q.length = 0 then .inr k else if k = steps then .inr (-1) else .inl (q, k + 1, []))
  | [], i, o, hd, hi, ho, hO => by
    refine loopC_inr ?_
    have : level.length ≤ i := by simpa using hd
    simp only [F_impl_longest_l2, show ¬ (i : Int) < level.length by omega, decide_false, Bool.false_eq_true, if_false, lvN, impl_l4 ho hO hk, Option.map_some]
  | t :: r, i, o, hd, hi, ho, hO => by
    obtain ⟨h1, h2, h3⟩ := drop_cons hd
    have ht : termOk s.1 t = true := by rw [← h2]; exact hL _ (getD_mem h1)
    have e : F_impl_longest_l2 s steps level k (o, (i : Int), mK o) = some (match lvl s o t with | none => .inr (.inr (-1)) | some q => .inl (q, (i : Int) + 1, mK q)) := by
      simp only [F_impl_longest_l2, show (i : Int) < level.length by omega, decide_true, if_true, show (0 : Int) ≤ i by omega, and_self, Int.toNat_natCast, h2, F_impl_stepsFrom_eq hs ht, Option.bind_some]
      rw [impl_l3 (by omega) (stL_720 hs ht) ho hO (stL_ok hs ht)]
      unfold lvl
      cases lgB s t with
      | true => simp
      | false =>
        simp only [Bool.false_eq_true, if_false]
        split <;> rfl
    unfold lvN
    cases hv : lvl s o t with
    | none =>
      rw [hv] at e
      exact loopC_inr e
    | some q =>
      rw [hv] at e
      rw [loopC_inl e, Option.bind_some]
      have hq : lvN s [t] o = some q := by show (lvl s o t).bind (lvN s []) = _; rw [hv]; rfl
      obtain ⟨q1, q2⟩ := lvN_ok hs (by simpa using ht) hO ho hq
      exact impl_l2 hs hk hl hL r (i := i + 1) h3 (by omega) q2 q1
def lngR (s : Sys) : Nat → LL → Int → Int
  | 0, level, k => match lvN s level [] with | none => -1 | some q => if q.length = 0 then k else -1
  | r + 1, level, k => match lvN s level [] with | none => -1 | some q => if q.length = 0 then k else lngR s r q (k + 1)
def lng (s : Sys) (t : List Int) (steps : Int) : Int := lngR s steps.toNat [t] 0
theorem impl_l1 {s : Sys} (hs : sysOk s = true) {steps : Int} (h20 : steps ≤ 20) : ∀ (r : Nat) {level : LL} {k : Int}, 0 ≤ k → k + r = steps → level.length ≤ 60 → (∀ t ∈ level, termOk s.1 t = true) →
    loopC (F_impl_longest_l1 s steps) (level, k, []) = some (lngR s r level k)
  | r, level, k, h0, hk, hl, hL => by
    have e : F_impl_longest_l1 s steps (level, k, []) = some (match lvN s level [] with | none => .inr (-1) | some q => if q.length = 0 then .inr k else if k = steps then .inr (-1) else .inl (q, k + 1, [])) :=
      impl_l2 hs ⟨h0, by omega⟩ hl hL level (i := 0) (o := []) rfl (by omega) (by simp) (by simp)
    cases hv : lvN s level [] with
    | none =>
      rw [hv] at e
      rw [loopC_inr e]
      cases r <;> simp only [lngR, hv]
    | some q =>
      rw [hv] at e
      simp only at e
      obtain ⟨q1, q2⟩ := lvN_ok hs hL (by simp) (by simp) hv
      by_cases hq : q.length = 0
      · rw [if_pos hq] at e
        rw [loopC_inr e]
        cases r <;> simp only [lngR, hv, hq, if_true]
      · rw [if_neg hq] at e
        match r, hk with
        | 0, hk =>
          rw [if_pos (by simpa using hk)] at e
          rw [loopC_inr e]
          simp only [lngR, hv, hq, if_false]
        | r + 1, hk =>
          rw [if_neg (by omega)] at e
          rw [loopC_inl e, impl_l1 hs h20 r (by omega) (by omega) q2 q1]
          simp only [lngR, hv, hq, if_false]
theorem spec_l1 {s : Sys} (hs : sysOk s = true) {steps : Int} (h20 : steps ≤ 20) : ∀ (r : Nat) {level : LL} {k : Int}, 0 ≤ k → k + r = steps → level.length ≤ 60 → (∀ t ∈ level, termOk s.1 t = true) →
    loopC (F_spec_LongestOf_l1 s steps) (level, k) = some (lngR s r level k)
  | r, level, k, h0, hk, hl, hL => by
    have e : F_spec_LongestOf_l1 s steps (level, k) = some (match lvN s level [] with | none => .inr (-1) | some q => if q.length = 0 then .inr k else .inl (q, k + 1)) := by
      simp only [F_spec_LongestOf_l1, show k ≤ steps by omega, decide_true, if_true, F_spec_l9Next_eq hs hl hL, Option.bind_some]
      cases hv : lvN s level [] with
      | none => simp
      | some q =>
        simp only [if_true, w64 (n := k + 1) (by omega) (by omega)]
        by_cases hq : q.length = 0
        · rw [if_pos (by simpa using hq), if_pos hq]; rfl
        · rw [if_neg (by simpa using hq), if_neg hq]
    cases hv : lvN s level [] with
    | none =>
      rw [hv] at e
      rw [loopC_inr e]
      cases r <;> simp only [lngR, hv]
    | some q =>
      rw [hv] at e
      simp only at e
      obtain ⟨q1, q2⟩ := lvN_ok hs hL (by simp) (by simp) hv
      by_cases hq : q.length = 0
      · rw [if_pos hq] at e
        rw [loopC_inr e]
        cases r <;> simp only [lngR, hv, hq, if_true]
      · rw [if_neg hq] at e
        rw [loopC_inl e]
        match r, hk with
        | 0, hk =>
          have e2 : F_spec_LongestOf_l1 s steps (q, k + 1) = some (.inr (-1)) := by
            simp only [F_spec_LongestOf_l1, show ¬ k + 1 ≤ steps by omega, decide_false, Bool.false_eq_true, if_false, Option.map_some]
          rw [loopC_inr e2]
          simp only [lngR, hv, hq, if_false]
        | r + 1, hk =>
          rw [spec_l1 hs h20 r (by omega) (by omega) q2 q1]
          simp only [lngR, hv, hq, if_false]
theorem F_impl_longest_eq {s : Sys} {t : List Int} {steps : Int} (hs : sysOk s = true) (ht : termOk s.1 t = true) (h : 0 ≤ steps ∧ steps ≤ 20) : F_impl_longest s t steps = some (lng s t steps) :=
  impl_l1 hs h.2 steps.toNat (by omega) (by omega) (by simp) (by simpa using ht)
def rightB (s : Sys) (t : List Int) (steps : Int) : Bool := sysOk s && (termOk s.1 t && decide (0 ≤ steps ∧ steps ≤ 20))
end Go.Proofs.YtglpjlpmijfocaaGreat
namespace Go.Proofs.YtglpjlpmijfocaaGreat
open Go Abx
attribute [local irreducible] vcm vgo vdr vrun vdrun MWp GhostQ BrC BrO BrG BrD BrH AmbO callR callD drQ EnvLe StoLe
set_option maxHeartbeats 4000000
def D_laws_Sig (x : (List Int)) : D := .agg [(slD 1 iD) x]
def D_laws_Rule (x : ((List Int) × (List Int))) : D := .agg [(slD 1 iD) x.1, (slD 1 iD) x.2]
def D_laws_System (x : ((List Int) × (List ((List Int) × (List Int))))) : D := .agg [(slD 1 iD) x.1, (slD 2 D_laws_Rule) x.2]
instance : Cel D_laws_Sig 1 := ⟨fun _ => rfl⟩
instance : Cel D_laws_Rule 2 := ⟨fun _ => rfl⟩
instance : Cel D_laws_System 2 := ⟨fun _ => rfl⟩
attribute [go_sem] D_laws_Sig D_laws_Rule D_laws_System
def mc62 : MCode :=
 (.seq (.reg (sq 4 [mi 0])) (.seq (.reg (sq 5 [mv 1, mv 0, ln 6, bn .sub 5 7] ++ sq 1 [mv 8])) (.seq (.seq (.reg (sq 9 [mv 1, bi .lss 9 0])) (.cond (t0 10) (.seq (.reg (sq 4 [mi (-1)])) .ret) .skip)) (.seq (.reg (sq 11 [mv 1] ++ sq 4 [mv 11])) .ret))))
theorem fn62 : MFn Tryz.prog 62 mc62 12 [.tmp 4] := ⟨_, Tryz.func62, by kernel_rfl, Tryz.ntmps62, by kernel_rfl⟩
noncomputable def F_laws_szInt64S (a : (List Int)) (left : Int) : Option Int :=
 if (decide ((IntKind.i64.wrap (left - (a.length : Int))) < 0)) = true then
  some (-1)
 else
  some (IntKind.i64.wrap (left - (a.length : Int)))
instance c_laws_szInt64S {a : (List Int)} {left : Int} : HasC (F_laws_szInt64S a left) fun rr => PFun Tryz.prog 62 [(slD 1 iD) a, iD left] (iD rr) := ⟨@fun rr h => by
  delta F_laws_szInt64S at h
  refine fn62.pureL (vcm_sound ?_)
  delta mc62
  refine stp ?_
  exact aut⟩
def mc26 : MCode :=
 (.seq (.reg (sq 2 [bo 2 24 0] ++ sq 4 [mi 0])) (.seq (.reg (sq 5 [fa 0 2, ld 5, mv 1, cf 62 [6, 7]] ++ sq 1 [mv 8])) (.seq (.seq (.reg (sq 9 [mv 1, bi .lss 9 0])) (.cond (t0 10) (.seq (.reg (sq 4 [mi (-1)])) .ret) .skip)) (.seq (.reg (sq 11 [mv 1] ++ sq 4 [mv 11])) .ret))))
theorem fn26 : MFn Tryz.prog 26 mc26 12 [.tmp 4] := ⟨_, Tryz.func26, by kernel_rfl, Tryz.ntmps26, by kernel_rfl⟩
noncomputable def F_laws_szSig (a : (List Int)) (left : Int) : Option Int :=
 (F_laws_szInt64S a left).bind fun r =>
 if (decide (r < 0)) = true then
  some (-1)
 else
  some r
instance c_laws_szSig {a : (List Int)} {left : Int} : HasC (F_laws_szSig a left) fun rr => PFun Tryz.prog 26 [D_laws_Sig a, iD left] (iD rr) := ⟨@fun rr h => by
  delta F_laws_szSig at h
  refine fn26.pureL (vcm_sound ?_)
  delta mc26
  refine stp ?_
  exact aut⟩
def mc63 : MCode :=
 (.seq (.reg (sq 2 [bo 2 86 0] ++ sq 4 [mi 0])) (.seq (.reg (sq 5 [fa 0 2, ld 5, mv 1, cf 62 [6, 7]] ++ sq 1 [mv 8])) (.seq (.seq (.reg (sq 9 [mv 1, bi .lss 9 0])) (.cond (t0 10) (.seq (.reg (sq 4 [mi (-1)])) .ret) .skip)) (.seq (.reg (sq 11 [fa 1 2, ld 11, mv 1, cf 62 [12, 13]] ++ sq 1 [mv 14])) (.seq (.seq (.reg (sq 15 [mv 1, bi .lss 15 0])) (.cond (t0 16) (.seq (.reg (sq 4 [mi (-1)])) .ret) .skip)) (.seq (.reg (sq 17 [mv 1] ++ sq 4 [mv 17])) .ret))))))
theorem fn63 : MFn Tryz.prog 63 mc63 18 [.tmp 4] := ⟨_, Tryz.func63, by kernel_rfl, Tryz.ntmps63, by kernel_rfl⟩
noncomputable def F_laws_szRule (a : ((List Int) × (List Int))) (left : Int) : Option Int :=
 (F_laws_szInt64S a.1 left).bind fun r =>
 if (decide (r < 0)) = true then
  some (-1)
 else
  (F_laws_szInt64S a.2 r).bind fun r_1 =>
  if (decide (r_1 < 0)) = true then
   some (-1)
  else
   some r_1
instance c_laws_szRule {a : ((List Int) × (List Int))} {left : Int} : HasC (F_laws_szRule a left) fun rr => PFun Tryz.prog 63 [D_laws_Rule a, iD left] (iD rr) := ⟨@fun rr h => by
  delta F_laws_szRule at h
  refine fn63.pureL (vcm_sound ?_)
  delta mc63
  refine stp ?_
  exact aut⟩
def mc27 : MCode :=
 (.seq (.reg (sq 4 [mi 0])) (.seq (.reg (sq 6 [mv 1, mv 0, ln 7, bn .sub 6 8] ++ sq 1 [mv 9])) (.seq (.seq (.reg (sq 10 [mv 1, bi .lss 10 0])) (.cond (t0 11) (.seq (.reg (sq 4 [mi (-1)])) .ret) .skip)) (.seq (.seq (.reg (sq 5 [mi 0])) (.block 0 (.loop (.seq (.seq (.reg (sq 12 [mv 5, mv 0, ln 13, bn .lss 12 14])) (.cond (t0 15) .skip (.exit 0))) (.seq (.block 1 (.seq (.reg (sq 18 [mv 0, mv 5, ix 2 18 19, la 2 20, mv 1, cf 63 [21, 22]] ++ sq 1 [mv 23])) (.seq (.reg (sq 24 [mv 1, bi .lss 24 0])) (.cond (t0 25) (.seq (.reg (sq 4 [mi (-1)])) .ret) .skip)))) (.reg (sq 16 [mv 5, bi .add 16 1] ++ sq 5 [mv 17]))))))) (.seq (.reg (sq 26 [mv 1] ++ sq 4 [mv 26])) .ret)))))
theorem fn27 : MFn Tryz.prog 27 mc27 27 [.tmp 4] := ⟨_, Tryz.func27, by kernel_rfl, Tryz.ntmps27, by kernel_rfl⟩
noncomputable def F_laws_szRuleS_l1 (a : (List ((List Int) × (List Int)))) : (Int × Int) → Option ((Int × Int) ⊕ Int)
 | (left_1, i) =>
  if (decide (i < (a.length : Int))) = true then
   if 0 ≤ i ∧ i < (a.length : Int) then
    (F_laws_szRule ((a.getD i.toNat default).1, (a.getD i.toNat default).2) left_1).bind fun r =>
    if (decide (r < 0)) = true then
     Option.map Sum.inr (
      some (-1))
    else
     some (.inl (r, (IntKind.i64.wrap (i + 1))))
   else none
  else
   Option.map Sum.inr (
    some left_1)
noncomputable def F_laws_szRuleS (a : (List ((List Int) × (List Int)))) (left : Int) : Option Int :=
 if (decide ((IntKind.i64.wrap (left - (a.length : Int))) < 0)) = true then
  some (-1)
 else
  loopC (F_laws_szRuleS_l1 a) ((IntKind.i64.wrap (left - (a.length : Int))), 0)
instance c_laws_szRuleS {a : (List ((List Int) × (List Int)))} {left : Int} : HasC (F_laws_szRuleS a left) fun rr => PFun Tryz.prog 27 [(slD 2 D_laws_Rule) a, iD left] (iD rr) := ⟨@fun rr h => by
  delta F_laws_szRuleS at h
  refine fn27.pureL (vcm_sound ?_)
  delta mc27
  refine stp ?_
  refine iF h fun hc h => ?_
  refine m_lW h [1, 4, 5, 12, 13, 14, 15, 16, 17, 18, 19, 20, 21, 22, 23, 24, 25] (fun pp => [(1, .d (iD pp.1)), (5, .d (iD pp.2))]) (fun pp => []) ?_
  rintro ⟨left_1, i⟩ t1 h hb1
  unfold F_laws_szRuleS_l1 at h
  try dsimp only at h
  refine vcm_sound (stp ?_)
  exact aut⟩
def mc6 : MCode :=
 (.seq (.reg (sq 2 [bo 2 27 0] ++ sq 4 [mi 0])) (.seq (.reg (sq 5 [fa 0 2, la 1 5, mv 1, cf 26 [6, 7]] ++ sq 1 [mv 8])) (.seq (.seq (.reg (sq 9 [mv 1, bi .lss 9 0])) (.cond (t0 10) (.seq (.reg (sq 4 [mi (-1)])) .ret) .skip)) (.seq (.reg (sq 11 [fa 1 2, ld 11, mv 1, cf 27 [12, 13]] ++ sq 1 [mv 14])) (.seq (.seq (.reg (sq 15 [mv 1, bi .lss 15 0])) (.cond (t0 16) (.seq (.reg (sq 4 [mi (-1)])) .ret) .skip)) (.seq (.reg (sq 17 [mv 1] ++ sq 4 [mv 17])) .ret))))))
theorem fn6 : MFn Tryz.prog 6 mc6 18 [.tmp 4] := ⟨_, Tryz.func6, by kernel_rfl, Tryz.ntmps6, by kernel_rfl⟩
noncomputable def F_laws_szSystem (a : ((List Int) × (List ((List Int) × (List Int))))) (left : Int) : Option Int :=
 (F_laws_szSig a.1 left).bind fun r =>
 if (decide (r < 0)) = true then
  some (-1)
 else
  (F_laws_szRuleS a.2 r).bind fun r_1 =>
  if (decide (r_1 < 0)) = true then
   some (-1)
  else
   some r_1
instance c_laws_szSystem {a : ((List Int) × (List ((List Int) × (List Int))))} {left : Int} : HasC (F_laws_szSystem a left) fun rr => PFun Tryz.prog 6 [D_laws_System a, iD left] (iD rr) := ⟨@fun rr h => by
  delta F_laws_szSystem at h
  refine fn6.pureL (vcm_sound ?_)
  delta mc6
  refine stp ?_
  exact aut⟩
def mc74 : MCode :=
 (.seq (.reg (sq 4 [mb false])) (.seq (.seq (.reg (sq 6 [mv 0, ln 6, mv 1, ln 8, bn .neq 7 9])) (.cond (t0 10) (.seq (.reg (sq 4 [mb false])) .ret) .skip)) (.seq (.seq (.reg (sq 5 [mi 0])) (.block 0 (.loop (.seq (.seq (.reg (sq 11 [mv 5, mv 0, ln 12, bn .lss 11 13])) (.cond (t0 14) .skip (.exit 0))) (.seq (.block 1 (.seq (.draw (sq 17 [mv 0, mv 5, ix 1 17 18, ld 19, mv 1, mv 5, ix 1 21 22, ld 23, bn .neq 20 24]) [[], [], [0, 1], [2], [], [], [4, 5], [6], [3, 7]]) (.cond (t0 25) (.seq (.reg (sq 4 [mb false])) .ret) .skip))) (.reg (sq 15 [mv 5, bi .add 15 1] ++ sq 5 [mv 16]))))))) (.seq (.reg (sq 4 [mb true])) .ret))))
theorem fn74 : MFn Tryz.prog 74 mc74 26 [.tmp 4] := ⟨_, Tryz.func74, by kernel_rfl, Tryz.ntmps74, by kernel_rfl⟩
noncomputable def F_laws_eqInt64S_l1 (a : (List Int)) (b : (List Int)) : Int → Option (Int ⊕ Bool)
 | i =>
  if (decide (i < (a.length : Int))) = true then
   if 0 ≤ i ∧ i < (a.length : Int) then
    if 0 ≤ i ∧ i < (b.length : Int) then
     if ((a.getD i.toNat default) != (b.getD i.toNat default)) = true then
      Option.map Sum.inr (
       some false)
     else
      some (.inl (IntKind.i64.wrap (i + 1)))
    else none
   else none
  else
   Option.map Sum.inr (
    some true)
noncomputable def F_laws_eqInt64S (a : (List Int)) (b : (List Int)) : Option Bool :=
 if ((a.length : Int) != (b.length : Int)) = true then
  some false
 else
  loopC (F_laws_eqInt64S_l1 a b) 0
instance c_laws_eqInt64S {a : (List Int)} {b : (List Int)} : HasC (F_laws_eqInt64S a b) fun rr => PFun Tryz.prog 74 [(slD 1 iD) a, (slD 1 iD) b] (bD rr) := ⟨@fun rr h => by
  delta F_laws_eqInt64S at h
  refine fn74.pureL (vcm_sound ?_)
  delta mc74
  refine stp ?_
  refine iF h fun hc h => ?_
  refine m_lW h [4, 5, 11, 12, 13, 14, 15, 16, 17, 18, 19, 20, 21, 22, 23, 24, 25] (fun pp => [(5, .d (iD pp))]) (fun pp => []) ?_
  rintro i t1 h hb1
  unfold F_laws_eqInt64S_l1 at h
  try dsimp only at h
  refine vcm_sound (stp ?_)
  exact aut⟩
def mc39 : MCode :=
 (.seq (.reg (sq 2 [bo 2 30 0, bo 3 30 1, mb false])) (.seq (.seq (.reg (sq 5 [fa 0 2, ld 5, fa 0 3, ld 7, cf 74 [6, 8], nt 9])) (.cond (t0 10) (.seq (.reg (sq 4 [mb false])) .ret) .skip)) (.seq (.reg (sq 4 [mb true])) .ret)))
theorem fn39 : MFn Tryz.prog 39 mc39 11 [.tmp 4] := ⟨_, Tryz.func39, by kernel_rfl, Tryz.ntmps39, by kernel_rfl⟩
noncomputable def F_laws_eqSig (a : (List Int)) (b : (List Int)) : Option Bool :=
 (F_laws_eqInt64S a b).bind fun r =>
 if r = true then
  some true
 else
  some false
instance c_laws_eqSig {a : (List Int)} {b : (List Int)} : HasC (F_laws_eqSig a b) fun rr => PFun Tryz.prog 39 [D_impl_Sig a, D_impl_Sig b] (bD rr) := ⟨@fun rr h => by
  delta F_laws_eqSig at h
  refine fn39.pureL (vcm_sound ?_)
  delta mc39
  refine stp ?_
  exact aut⟩
def mc75 : MCode :=
 (.seq (.reg (sq 2 [bo 2 68 0, bo 3 68 1, mb false])) (.seq (.seq (.reg (sq 5 [fa 0 2, ld 5, fa 0 3, ld 7, cf 74 [6, 8], nt 9])) (.cond (t0 10) (.seq (.reg (sq 4 [mb false])) .ret) .skip)) (.seq (.seq (.reg (sq 11 [fa 1 2, ld 11, fa 1 3, ld 13, cf 74 [12, 14], nt 15])) (.cond (t0 16) (.seq (.reg (sq 4 [mb false])) .ret) .skip)) (.seq (.reg (sq 4 [mb true])) .ret))))
theorem fn75 : MFn Tryz.prog 75 mc75 17 [.tmp 4] := ⟨_, Tryz.func75, by kernel_rfl, Tryz.ntmps75, by kernel_rfl⟩
noncomputable def F_laws_eqRule (a : ((List Int) × (List Int))) (b : ((List Int) × (List Int))) : Option Bool :=
 (F_laws_eqInt64S a.1 b.1).bind fun r =>
 if r = true then
  (F_laws_eqInt64S a.2 b.2).bind fun r_1 =>
  if r_1 = true then
   some true
  else
   some false
 else
  some false
instance c_laws_eqRule {a : ((List Int) × (List Int))} {b : ((List Int) × (List Int))} : HasC (F_laws_eqRule a b) fun rr => PFun Tryz.prog 75 [D_impl_Rule a, D_impl_Rule b] (bD rr) := ⟨@fun rr h => by
  delta F_laws_eqRule at h
  refine fn75.pureL (vcm_sound ?_)
  delta mc75
  refine stp ?_
  exact aut⟩
def mc40 : MCode :=
 (.seq (.reg (sq 4 [mb false])) (.seq (.seq (.reg (sq 6 [mv 0, ln 6, mv 1, ln 8, bn .neq 7 9])) (.cond (t0 10) (.seq (.reg (sq 4 [mb false])) .ret) .skip)) (.seq (.seq (.reg (sq 5 [mi 0])) (.block 0 (.loop (.seq (.seq (.reg (sq 11 [mv 5, mv 0, ln 12, bn .lss 11 13])) (.cond (t0 14) .skip (.exit 0))) (.seq (.block 1 (.seq (.draw (sq 17 [mv 0, mv 5, ix 2 17 18, la 2 19, mv 1, mv 5, ix 2 21 22, la 2 23, cf 75 [20, 24], nt 25]) [[], [], [0, 1], [2], [], [], [4, 5], [6], [3, 7], [8]]) (.cond (t0 26) (.seq (.reg (sq 4 [mb false])) .ret) .skip))) (.reg (sq 15 [mv 5, bi .add 15 1] ++ sq 5 [mv 16]))))))) (.seq (.reg (sq 4 [mb true])) .ret))))
theorem fn40 : MFn Tryz.prog 40 mc40 27 [.tmp 4] := ⟨_, Tryz.func40, by kernel_rfl, Tryz.ntmps40, by kernel_rfl⟩
noncomputable def F_laws_eqRuleS_l1 (a : (List ((List Int) × (List Int)))) (b : (List ((List Int) × (List Int)))) : Int → Option (Int ⊕ Bool)
 | i =>
  if (decide (i < (a.length : Int))) = true then
   if 0 ≤ i ∧ i < (a.length : Int) then
    if 0 ≤ i ∧ i < (b.length : Int) then
     (F_laws_eqRule ((a.getD i.toNat default).1, (a.getD i.toNat default).2) ((b.getD i.toNat default).1, (b.getD i.toNat default).2)).bind fun r =>
     if r = true then
      some (.inl (IntKind.i64.wrap (i + 1)))
     else
      Option.map Sum.inr (
       some false)
    else none
   else none
  else
   Option.map Sum.inr (
    some true)
noncomputable def F_laws_eqRuleS (a : (List ((List Int) × (List Int)))) (b : (List ((List Int) × (List Int)))) : Option Bool :=
 if ((a.length : Int) != (b.length : Int)) = true then
  some false
 else
  loopC (F_laws_eqRuleS_l1 a b) 0
instance c_laws_eqRuleS {a : (List ((List Int) × (List Int)))} {b : (List ((List Int) × (List Int)))} : HasC (F_laws_eqRuleS a b) fun rr => PFun Tryz.prog 40 [(slD 2 D_impl_Rule) a, (slD 2 D_impl_Rule) b] (bD rr) := ⟨@fun rr h => by
  delta F_laws_eqRuleS at h
  refine fn40.pureL (vcm_sound ?_)
  delta mc40
  refine stp ?_
  refine iF h fun hc h => ?_
  refine m_lW h [4, 5, 11, 12, 13, 14, 15, 16, 17, 18, 19, 20, 21, 22, 23, 24, 25, 26] (fun pp => [(5, .d (iD pp))]) (fun pp => []) ?_
  rintro i t1 h hb1
  unfold F_laws_eqRuleS_l1 at h
  try dsimp only at h
  refine vcm_sound (stp ?_)
  exact aut⟩
def mc10 : MCode :=
 (.seq (.reg (sq 2 [bo 2 33 0, bo 3 33 1, mb false])) (.seq (.seq (.reg (sq 5 [fa 0 2, la 1 5, fa 0 3, la 1 7, cf 39 [6, 8], nt 9])) (.cond (t0 10) (.seq (.reg (sq 4 [mb false])) .ret) .skip)) (.seq (.seq (.reg (sq 11 [fa 1 2, ld 11, fa 1 3, ld 13, cf 40 [12, 14], nt 15])) (.cond (t0 16) (.seq (.reg (sq 4 [mb false])) .ret) .skip)) (.seq (.reg (sq 4 [mb true])) .ret))))
theorem fn10 : MFn Tryz.prog 10 mc10 17 [.tmp 4] := ⟨_, Tryz.func10, by kernel_rfl, Tryz.ntmps10, by kernel_rfl⟩
noncomputable def F_laws_eqSystem (a : ((List Int) × (List ((List Int) × (List Int))))) (b : ((List Int) × (List ((List Int) × (List Int))))) : Option Bool :=
 (F_laws_eqSig a.1 b.1).bind fun r =>
 if r = true then
  (F_laws_eqRuleS a.2 b.2).bind fun r_1 =>
  if r_1 = true then
   some true
  else
   some false
 else
  some false
instance c_laws_eqSystem {a : ((List Int) × (List ((List Int) × (List Int))))} {b : ((List Int) × (List ((List Int) × (List Int))))} : HasC (F_laws_eqSystem a b) fun rr => PFun Tryz.prog 10 [D_impl_System a, D_impl_System b] (bD rr) := ⟨@fun rr h => by
  delta F_laws_eqSystem at h
  refine fn10.pureL (vcm_sound ?_)
  delta mc10
  refine stp ?_
  exact aut⟩
end Go.Proofs.YtglpjlpmijfocaaGreat
namespace Abx
open Go
mutual
inductive Pub (tl : List (Nat × Nat × List D)) : AV → D → Prop
  | lit {u : Value} : Pub tl (.d (.lit u)) (.lit u)
  | gow {e id n : Nat} {ds : List D} (h : WholeP (toks tl) id e ds) (hn : n = ds.length) : Pub tl (.gow e id n) (.sl e none ds)
  | agg {xs : List AV} {ds : List D} (h : Pubs tl xs ds) : Pub tl (.agg xs) (.agg ds)
inductive Pubs (tl : List (Nat × Nat × List D)) : List AV → List D → Prop
  | nil : Pubs tl [] []
  | cons {x : AV} {a : D} {xs : List AV} {ds : List D} (h : Pub tl x a) (hs : Pubs tl xs ds) : Pubs tl (x :: xs) (a :: ds)
end
mutual
theorem Pub.ok {C : Ctx} {β β2 : Beta} {tl : List (Nat × Nat × List D)} {w : World} (h : Inv C β (toks tl) w) : ∀ {x : AV} {a : D} {v : Value}, Pub tl x a → AV.ok β (C.forb β (toks tl)) w x v → D.ok C.O w a v
  | _, _, v, .lit, hv => by simp only [AV.ok, D.ok] at hv ⊢; exact hv
  | _, _, v, .gow hw hn, hv => lent_tok h hw hn hv
  | _, _, v, .agg hl, hv => by
    simp only [AV.ok] at hv
    obtain ⟨vs, rfl, h1, h2⟩ := hv
    simp only [D.ok]
    exact ⟨vs, rfl, Pubs.oks (β2 := β2) h hl h1 h2⟩
theorem Pubs.oks {C : Ctx} {β β2 : Beta} {tl : List (Nat × Nat × List D)} {w : World} (h : Inv C β (toks tl) w) : ∀ {xs : List AV} {ds : List D} {vs : List Value}, Pubs tl xs ds → (∀ u ∈ vs, one u = true) → AV.oks β (C.forb β (toks tl)) w xs vs → D.oks C.O w ds vs
  | _, _, vs, .nil, _, hv => by simpa [AV.oks, D.oks] using hv
  | _, _, vs, .cons hl hs, h1, hv => by
    simp only [AV.oks] at hv
    obtain ⟨v, r, rfl, h2, h3⟩ := hv
    simp only [D.oks]
    exact ⟨v, r, rfl, h1 v (by simp), Pub.ok (β2 := β2) h hl h2, Pubs.oks (β2 := β2) h hs (fun u hu => h1 u (by simp [hu])) h3⟩
end
theorem ACalls.pub {P : Program} {f : Nat} {dz : List D} {y : AV} {t : Sto} {tl : List (Nat × Nat × List D)} {r : D} (hc : ACalls P f (dz.map .d) [] 0 fun x s' => x = y ∧ s' = t) (ht : t = toks tl) (hp : Pub tl y r) : PFun P f dz r := fun C vs hs hk hinv hargs => by
  subst ht
  refine (hc C vs hs hk hinv hargs).mono ?_
  rintro e w' ⟨v, x, β', s', rfl, hi, hx, rfl, rfl⟩
  refine ⟨v, .d r, fun _ => .no, [], rfl, ⟨hi.size, hi.io, hi.keep, hi.blks, fun b o ⟨id, h⟩ => h.elim, fun id b h => h.elim, fun id hid => by omega, hi.low, fun id => rfl, fun i j b h => h.elim⟩, ?_, rfl⟩
  have h1 := Pub.ok (β2 := β') hi hp hx
  simp only [AV.ok]
  exact D.ok_mono (fun b o v hc hn => ⟨hc, fun h => hn (h.elim (fun h => h) fun ⟨_, h⟩ => h.elim)⟩) r v h1
theorem Pub.tok {α : Type} {f : α → D} {e n id : Nat} {xs : List α} {tl : List (Nat × Nat × List D)} [Cel f e] [Cl f] (h : sat (toks tl) id = .prv e n (tolds (xs.map f))) (hn : n = xs.length) : Pub tl (.gow e id n) (slD e f xs) :=
  .gow (WholeP.of h hn) (by rw [hn, List.length_map])
theorem told_flat {α : Type} {f : α → D} [LitF f] : ∀ xs : List α, List.map (aD f) xs = tolds (xs.map f)
  | [] => rfl
  | x :: xs => by
    rw [List.map_cons, List.map_cons, tolds_cons, told_flat xs]
    have := LitF.lit (f := f) x
    cases h : f x with
    | lit u => simp only [dcells, List.map_cons, List.map_nil, toldC, aD, h]; rfl
    | _ => rw [h] at this; cases this
theorem sat_hit {i : Nat} {o : Ob} {s : Sto} : sat ((i, o) :: s) i = o := by simp [sat]
theorem sat_miss {i j : Nat} {o : Ob} {s : Sto} (h : j ≠ i) : sat ((i, o) :: s) j = sat s j := by simp [sat, h]
theorem sat_nil {j : Nat} : sat [] j = .dead := rfl
theorem sset_hit {i : Nat} {o x : Ob} {s : Sto} : sset ((i, o) :: s) i x = (i, x) :: s := by simp [sset]
theorem sset_lt {i j : Nat} {o x : Ob} {s : Sto} (h : i < j) : sset ((j, o) :: s) i x = (i, x) :: (j, o) :: s := by simp [sset, h, Nat.ne_of_lt h]
theorem sset_gt {i j : Nat} {o x : Ob} {s : Sto} (h : j < i) : sset ((j, o) :: s) i x = (j, o) :: sset s i x := by simp [sset, Nat.ne_of_gt h, Nat.not_lt_of_gt h]
theorem sset_nil {i : Nat} {x : Ob} : sset [] i x = [(i, x)] := rfl
attribute [go_sem] sat_hit sat_miss sat_nil sset_hit sset_lt sset_gt sset_nil
end Abx
namespace Go.Proofs.YtglpjlpmijfocaaGreat
open Go Abx
attribute [local irreducible] vcm vgo vdr vrun vdrun MWp GhostQ BrC BrO BrG BrD BrH AmbO callR callD drQ EnvLe StoLe
set_option maxHeartbeats 4000000
instance : Cl D_laws_Rule := Cl.agg _ (fun _ => rfl) (fun _ => rfl)
instance : Cl D_laws_System := Cl.agg _ (fun _ => rfl) (fun _ => rfl)
instance : Cl D_impl_Rule := Cl.agg _ (fun _ => rfl) (fun _ => rfl)
def mcT69 : MCode :=
 (.seq (.reg (sq 2 [.mv (.const (.slice none 0 0))])) (.seq (.reg (sq 5 [mv 0, ln 5, .mkslp 7 2 1 8 [.lit (.int .i64 0)] false (t0 6) (t0 6)] ++ sq 3 [mv 7])) (.seq (.seq (.reg (sq 4 [mi 0])) (.block 0 (.loop (.seq (.seq (.reg (sq 8 [mv 4, mv 0, ln 9, bn .lss 8 10])) (.cond (t0 11) .skip (.exit 0))) (.seq (.block 1 (.reg (sq 14 [mv 3, mv 4, mv 0, mv 4, ix 1 16 17, ld 18, ix 1 14 15] ++ s0 (sr 1 20 19)))) (.reg (sq 12 [mv 4, bi .add 12 1] ++ sq 4 [mv 13]))))))) (.seq (.reg (sq 21 [mv 3] ++ sq 2 [mv 21])) .ret))))
theorem fnT69 : MFn Tryz.prog 69 mcT69 22 [.tmp 2] := ⟨_, Tryz.func69, by kernel_rfl, Tryz.ntmps69, by kernel_rfl⟩
noncomputable def F_to_Int64S_l (a : List Int) : (Int × List Int) → Option ((Int × List Int) ⊕ List Int)
 | (i, out) =>
  if (decide (i < (a.length : Int))) = true then
   if 0 ≤ i ∧ i < (a.length : Int) ∧ i < (out.length : Int) then
    some (.inl ((IntKind.i64.wrap (i + 1)), out.set i.toNat (a.getD i.toNat default)))
   else none
  else
   Option.map Sum.inr (some out)
noncomputable def F_to_Int64S (a : List Int) : Option (List Int) :=
 if 0 ≤ (a.length : Int) ∧ 8 * (a.length : Int) ≤ 281474976710656 ∧ (a.length : Int) < 4611686018427387904 then
  loopC (F_to_Int64S_l a) (0, List.replicate a.length 0)
 else none
instance c_to_Int64S {a : List Int} : HasC (F_to_Int64S a) fun rr => ACalls Tryz.prog 69 [.d ((slD 1 iD) a)] [] 0 fun xx ss => xx = .gow 1 900000 a.length ∧ ss = [(900000, .prv 1 a.length (tolds (List.map iD rr)))] := ⟨@fun rr h => by
  delta F_to_Int64S at h
  refine fnT69.callsD (vcm_sound ?_)
  delta mcT69
  refine stp ?_
  refine ndI h fun hp h => ?_
  refine m_loopF h [4, 8, 9, 10, 11, 12, 13, 14, 15, 16, 17, 18, 19, 20] (fun pp => [(4, .d (iD pp.1))]) (fun pp => [(7, .prv 1 a.length (tolds (List.map iD pp.2)))]) ?_ ?_
  · try dsimp only
    refine (Weak.prvE 7 (tolds (List.map iD (List.replicate a.length 0))) rfl (told_flat _)).trans ?_
    exact wk
  rintro ⟨i, out⟩ t1 h hb1
  unfold F_to_Int64S_l at h
  try dsimp only at h
  refine vcm_sound (stp ?_)
  refine it h (fun hc h => ?_) fun hc h => ?_
  · refine ndI h fun hp h => ?_
    cases h
    refine ⟨_, rfl, ?_⟩
    refine (Weak.prvE 7 (tolds (List.map iD (out.set i.toNat (a.getD i.toNat default)))) rfl (by (try simp only [go_sem, rens_take, rens_drop, rens_tolds, AV.rens, AV.ren]); exact told_segE (i := i.toNat) (by omega) (by omega) (by omega) rfl)).trans ?_
    exact wk
  replace h := inr_some h hb1
  cases h
  exact Done.trans (Done.move 7 900000 (ob := .prv 1 a.length (tolds (List.map iD rr))) (by omega) (by omega) (by omega) rfl (by first | rfl | (simp [sat, smove, Ob.ren, rens_tolds]; done))) (Done.told frd don)⟩
def mcT32 : MCode :=
 (.seq (.reg (sq 1 [bo 1 24 0, .alloc 2 30 [.sl 0 (some true) []]])) (.seq (.reg (sq 3 [.alloc 3 30 [.sl 0 (some true) []]])) (.seq (.reg (sq 4 [fa 0 1, ld 4, cf 69 [5], fa 0 3] ++ s0 (sr 1 7 6))) (.seq (.reg (sq 8 [la 1 3] ++ s0 (sr 1 2 8))) .ret))))
theorem fnT32 : MFn Tryz.prog 32 mcT32 9 [.cell 2 1 true] := ⟨_, Tryz.func32, by kernel_rfl, Tryz.ntmps32, by kernel_rfl⟩
noncomputable def F_to_Sig (x : (List Int)) : Option (List Int) :=
 (F_to_Int64S x).bind fun r0 =>
 some r0
instance c_to_Sig {x : (List Int)} : HasC (F_to_Sig x) fun rr => ACalls Tryz.prog 32 [.d (.agg [(slD 1 iD) x])] [] 0 fun xx ss => xx = .agg [.gow 1 900000 x.length] ∧ ss = [(900000, .prv 1 x.length (tolds (List.map iD rr)))] := ⟨@fun rr h => by
  delta F_to_Sig at h
  refine fnT32.callsD (vcm_sound ?_)
  delta mcT32
  refine stp ?_
  refine rCo [] [(900000, 6)] h fun r0 hr0 h => ?_
  refine nds ?_
  cases h
  exact Done.trans ((Done.trans (Done.move 6 900000 (ob := .prv 1 x.length (tolds (List.map iD rr))) (by omega) (by omega) (by omega) rfl (by first | rfl | (simp [sat, smove, Ob.ren, rens_tolds]; done))) (Done.drops [1, 2, 3] (by simp)))) (Done.told frd don)⟩
def mcT70 : MCode :=
 (.seq (.reg (sq 1 [bo 1 86 0, .alloc 2 68 [.sl 0 (some true) [], .sl 0 (some true) []]])) (.seq (.reg (sq 3 [.alloc 3 68 [.sl 0 (some true) [], .sl 0 (some true) []]])) (.seq (.reg (sq 4 [fa 0 1, ld 4, cf 69 [5], fa 0 3] ++ s0 (sr 1 7 6))) (.seq (.reg (sq 8 [fa 1 1, ld 8, cf 69 [9], fa 1 3] ++ s0 (sr 1 11 10))) (.seq (.reg (sq 12 [la 2 3] ++ s0 (sr 2 2 12))) .ret)))))
theorem fnT70 : MFn Tryz.prog 70 mcT70 13 [.cell 2 2 true] := ⟨_, Tryz.func70, by kernel_rfl, Tryz.ntmps70, by kernel_rfl⟩
noncomputable def F_to_Rule (x : ((List Int) × (List Int))) : Option ((List Int) × (List Int)) :=
 (F_to_Int64S x.1).bind fun r0 =>
 (F_to_Int64S x.2).bind fun r1 =>
 some (r0, r1)
instance c_to_Rule {x : ((List Int) × (List Int))} : HasC (F_to_Rule x) fun rr => ACalls Tryz.prog 70 [.d (.agg [(slD 1 iD) x.1, (slD 1 iD) x.2])] [] 0 fun xx ss => xx = .agg [.gow 1 900000 x.1.length, .gow 1 900001 x.2.length] ∧ ss = [(900000, .prv 1 x.1.length (tolds (List.map iD rr.1))), (900001, .prv 1 x.2.length (tolds (List.map iD rr.2)))] := ⟨@fun rr h => by
  delta F_to_Rule at h
  refine fnT70.callsD (vcm_sound ?_)
  delta mcT70
  refine stp ?_
  refine rCo [] [(900000, 6)] h fun r0 hr0 h => ?_
  refine nds ?_
  refine rCo [] [(900000, 10)] h fun r1 hr1 h => ?_
  refine nds ?_
  cases h
  exact Done.trans ((Done.trans (Done.move 6 900000 (ob := .prv 1 x.1.length (tolds (List.map iD r0))) (by omega) (by omega) (by omega) rfl (by first | rfl | (simp [sat, smove, Ob.ren, rens_tolds]; done))) (Done.trans (Done.move 10 900001 (ob := .prv 1 x.2.length (tolds (List.map iD r1))) (by omega) (by omega) (by omega) rfl (by first | rfl | (simp [sat, smove, Ob.ren, rens_tolds]; done))) (Done.drops [1, 2, 3] (by simp))))) (Done.told frd don)⟩
def mcT33 : MCode :=
 (.seq (.reg (sq 2 [.mv (.const (.slice none 0 0))])) (.seq (.reg (sq 5 [mv 0, ln 5, .mkslp 7 68 2 48 [.sl 0 (some true) [], .sl 0 (some true) []] false (t0 6) (t0 6)] ++ sq 3 [mv 7])) (.seq (.seq (.reg (sq 4 [mi 0])) (.block 0 (.loop (.seq (.seq (.reg (sq 8 [mv 4, mv 0, ln 9, bn .lss 8 10])) (.cond (t0 11) .skip (.exit 0))) (.seq (.block 1 (.reg (sq 14 [mv 3, mv 4, mv 0, mv 4, ix 2 16 17, la 2 18, cf 70 [19], ix 2 14 15] ++ s0 (sr 2 21 20)))) (.reg (sq 12 [mv 4, bi .add 12 1] ++ sq 4 [mv 13]))))))) (.seq (.reg (sq 22 [mv 3] ++ sq 2 [mv 22])) .ret))))
theorem fnT33 : MFn Tryz.prog 33 mcT33 23 [.tmp 2] := ⟨_, Tryz.func33, by kernel_rfl, Tryz.ntmps33, by kernel_rfl⟩
noncomputable def F_to_RuleS_l (a : List ((List Int) × (List Int))) : (Int × List ((List Int) × (List Int))) → Option ((Int × List ((List Int) × (List Int))) ⊕ List ((List Int) × (List Int)))
 | (i, out) =>
  if (decide (i < (a.length : Int))) = true then
   if 0 ≤ i ∧ i < (a.length : Int) ∧ i < (out.length : Int) then
    (F_to_Rule (a.getD i.toNat default)).bind fun r =>
    some (.inl ((IntKind.i64.wrap (i + 1)), out.set i.toNat r))
   else none
  else
   Option.map Sum.inr (some out)
noncomputable def F_to_RuleS (a : List ((List Int) × (List Int))) : Option (List ((List Int) × (List Int))) :=
 if 0 ≤ (a.length : Int) ∧ 48 * (a.length : Int) ≤ 281474976710656 ∧ (a.length : Int) < 4611686018427387904 then
  loopC (F_to_RuleS_l a) (0, List.replicate a.length ([], []))
 else none
instance c_to_RuleS {a : List ((List Int) × (List Int))} : HasC (F_to_RuleS a) fun rr => ACalls Tryz.prog 33 [.d ((slD 2 D_laws_Rule) a)] [] 0 fun xx ss => xx = .gow 2 900000 a.length ∧ ss = [(900000, .prv 2 a.length (tolds (List.map D_impl_Rule rr)))] := ⟨@fun rr h => by
  delta F_to_RuleS at h
  refine fnT33.callsD (vcm_sound ?_)
  delta mcT33
  refine stp ?_
  refine ndI h fun hp h => ?_
  refine m_loopF h [4, 8, 9, 10, 11, 12, 13, 14, 15, 16, 17, 18, 19, 20, 21] (fun pp => [(4, .d (iD pp.1))]) (fun pp => [(7, .prv 2 a.length (tolds (List.map D_impl_Rule pp.2)))]) ?_ ?_
  · try dsimp only
    refine (Weak.prvZ (id := 7) (f := D_impl_Rule) ([], []) rfl (by exact ⟨NLe.nilz, ⟨NLe.nilz, trivial⟩⟩)).trans ?_
    exact wk
  rintro ⟨i, out⟩ t1 h hb1
  unfold F_to_RuleS_l at h
  try dsimp only at h
  refine vcm_sound (stp ?_)
  refine it h (fun hc h => ?_) fun hc h => ?_
  · refine ndI h fun hp h => ?_
    refine rCo [] [(900000, 20), (900001, 200001)] h fun r hr h => ?_
    refine nds ?_
    cases h
    refine ⟨_, rfl, ?_⟩
    refine (Weak.absSeg (f' := iD) (ys := r.1) (m := (a.getD i.toNat default).1.length) (m' := (a.getD i.toNat default).1.length) 7 20 0 rfl rfl (by first | rfl | (simp [sat, sdel, sset, skill, Ob.kill, Ob.ren, rens_tolds]; done)) rfl (by decide) (by omega) (by decide)).trans ?_
    refine (Weak.absSeg (f' := iD) (ys := r.2) (m := (a.getD i.toNat default).2.length) (m' := (a.getD i.toNat default).2.length) 7 200001 1 rfl rfl (by first | rfl | (simp [sat, sdel, sset, skill, Ob.kill, Ob.ren, rens_tolds]; done)) rfl (by decide) (by omega) (by decide)).trans ?_
    refine (Weak.drop 20 (by omega)).trans ?_
    refine (Weak.drop 200001 (by omega)).trans ?_
    refine (Weak.prvE 7 (tolds (List.map D_impl_Rule (out.set i.toNat r))) rfl (by (try simp only [go_sem, rens_take, rens_drop, rens_tolds, AV.rens, AV.ren]); exact told_segE (i := i.toNat) (by omega) (by omega) (by omega) rfl)).trans ?_
    exact wk
  replace h := inr_some h hb1
  cases h
  exact Done.trans (Done.move 7 900000 (ob := .prv 2 a.length (tolds (List.map D_impl_Rule rr))) (by omega) (by omega) (by omega) rfl (by first | rfl | (simp [sat, smove, Ob.ren, rens_tolds]; done))) (Done.told frd don)⟩
def mcT8 : MCode :=
 (.seq (.reg (sq 1 [bo 1 27 0, .alloc 2 33 [.sl 0 (some true) [], .sl 0 (some true) []]])) (.seq (.reg (sq 3 [.alloc 3 33 [.sl 0 (some true) [], .sl 0 (some true) []]])) (.seq (.reg (sq 4 [fa 0 1, la 1 4, cf 32 [5], fa 0 3] ++ s0 (sr 1 7 6))) (.seq (.reg (sq 8 [fa 1 1, ld 8, cf 33 [9], fa 1 3] ++ s0 (sr 1 11 10))) (.seq (.reg (sq 12 [la 2 3] ++ s0 (sr 2 2 12))) .ret)))))
theorem fnT8 : MFn Tryz.prog 8 mcT8 13 [.cell 2 2 true] := ⟨_, Tryz.func8, by kernel_rfl, Tryz.ntmps8, by kernel_rfl⟩
noncomputable def F_to_System (x : ((List Int) × (List ((List Int) × (List Int))))) : Option ((List Int) × (List ((List Int) × (List Int)))) :=
 (F_to_Sig x.1).bind fun r0 =>
 (F_to_RuleS x.2).bind fun r1 =>
 some (r0, r1)
instance c_to_System {x : ((List Int) × (List ((List Int) × (List Int))))} : HasC (F_to_System x) fun rr => ACalls Tryz.prog 8 [.d (.agg [(slD 1 iD) x.1, (slD 2 D_laws_Rule) x.2])] [] 0 fun xx ss => xx = .agg [.gow 1 900000 x.1.length, .gow 2 900001 x.2.length] ∧ ss = [(900000, .prv 1 x.1.length (tolds (List.map iD rr.1))), (900001, .prv 2 x.2.length (tolds (List.map D_impl_Rule rr.2)))] := ⟨@fun rr h => by
  delta F_to_System at h
  refine fnT8.callsD (vcm_sound ?_)
  delta mcT8
  refine stp ?_
  refine rCo [] [(900000, 6)] h fun r0 hr0 h => ?_
  refine nds ?_
  refine rCo [] [(900000, 10)] h fun r1 hr1 h => ?_
  refine nds ?_
  cases h
  exact Done.trans ((Done.trans (Done.move 6 900000 (ob := .prv 1 x.1.length (tolds (List.map iD r0))) (by omega) (by omega) (by omega) rfl (by first | rfl | (simp [sat, smove, Ob.ren, rens_tolds]; done))) (Done.trans (Done.move 10 900001 (ob := .prv 2 x.2.length (tolds (List.map D_impl_Rule r1))) (by omega) (by omega) (by omega) rfl (by first | rfl | (simp [sat, smove, Ob.ren, rens_tolds]; done))) (Done.drops [1, 2, 3] (by simp))))) (Done.told frd don)⟩
noncomputable def F_pub_System (x : ((List Int) × (List ((List Int) × (List Int))))) : Option ((List Int) × (List ((List Int) × (List Int)))) := (F_to_System x).bind fun r => if x.1.length = r.1.length ∧ x.2.length = r.2.length then some r else none
instance c_pub_System {x : ((List Int) × (List ((List Int) × (List Int))))} : HasC (F_pub_System x) fun rr => PFun Tryz.prog 8 [(.agg [(slD 1 iD) x.1, (slD 2 D_laws_Rule) x.2])] (.agg [(slD 1 iD) rr.1, (slD 2 D_impl_Rule) rr.2]) := ⟨@fun rr h => by
  obtain ⟨r, h1, h2⟩ := bind_some h
  obtain ⟨hp, h2⟩ := need_some h2
  cases h2
  exact ACalls.pub (dz := [(.agg [(slD 1 iD) x.1, (slD 2 D_laws_Rule) x.2])]) (tl := [(900000, 1, List.map iD rr.1), (900001, 2, List.map D_impl_Rule rr.2)]) ((c_to_System).c h1) (by simp [toks]; try omega) (.agg (.cons (Pub.tok (f := iD) (by simp [toks, sat]; try omega) (by omega)) (.cons (Pub.tok (f := D_impl_Rule) (by simp [toks, sat]; try omega) (by omega)) .nil)))⟩
noncomputable def F_le_TimeOf_ldd (n0 : Nat) (n1 : Nat) (x0 : ((List Int) × (List ((List Int) × (List Int))))) (x1 : Int) (x2 : Int) : Option Int := if n0 = x0.1.length ∧ n1 = x0.2.length then F_impl_TimeOf x0 x1 x2 else none
instance c_F_le_TimeOf_ldd {n0 : Nat} {n1 : Nat} {x0 : ((List Int) × (List ((List Int) × (List Int))))} {x1 : Int} {x2 : Int} : HasC (F_le_TimeOf_ldd n0 n1 x0 x1 x2) fun rr => ACalls Tryz.prog 9 [.agg [.gow 1 0 n0, .gow 2 1 n1], .d (iD x1), .d (iD x2)] [(0, .prv 1 n0 (tolds (List.map iD x0.1))), (1, .prv 2 n1 (tolds (List.map D_impl_Rule x0.2)))] 2 fun xx ss => xx = .d (iD rr) ∧ ss = [(0, .prv 1 n0 (tolds (List.map iD x0.1))), (1, .prv 2 n1 (tolds (List.map D_impl_Rule x0.2)))] := ⟨@fun rr h => by
  obtain ⟨hp, h⟩ := need_some h
  exact ACalls.lent ((c_impl_TimeOf).c h) (.cons (.agg (.cons (Lent.tok (f := iD) rfl (by omega)) (.cons (Lent.tok (f := D_impl_Rule) rfl (by omega)) .nil))) (.cons (.le (AV.le_refl _)) (.cons (.le (AV.le_refl _)) .nil)))⟩
noncomputable def F_le_eqSystem_ll (n0 : Nat) (n1 : Nat) (n2 : Nat) (n3 : Nat) (x0 : ((List Int) × (List ((List Int) × (List Int))))) (x1 : ((List Int) × (List ((List Int) × (List Int))))) : Option Bool := if n0 = x0.1.length ∧ n1 = x0.2.length ∧ n2 = x1.1.length ∧ n3 = x1.2.length then F_laws_eqSystem x0 x1 else none
instance c_F_le_eqSystem_ll {n0 : Nat} {n1 : Nat} {n2 : Nat} {n3 : Nat} {x0 : ((List Int) × (List ((List Int) × (List Int))))} {x1 : ((List Int) × (List ((List Int) × (List Int))))} : HasC (F_le_eqSystem_ll n0 n1 n2 n3 x0 x1) fun rr => ACalls Tryz.prog 10 [.agg [.gow 1 0 n0, .gow 2 1 n1], .agg [.gow 1 2 n2, .gow 2 3 n3]] [(0, .prv 1 n0 (tolds (List.map iD x0.1))), (1, .prv 2 n1 (tolds (List.map D_impl_Rule x0.2))), (2, .prv 1 n2 (tolds (List.map iD x1.1))), (3, .prv 2 n3 (tolds (List.map D_impl_Rule x1.2)))] 4 fun xx ss => xx = .d (bD rr) ∧ ss = [(0, .prv 1 n0 (tolds (List.map iD x0.1))), (1, .prv 2 n1 (tolds (List.map D_impl_Rule x0.2))), (2, .prv 1 n2 (tolds (List.map iD x1.1))), (3, .prv 2 n3 (tolds (List.map D_impl_Rule x1.2)))] := ⟨@fun rr h => by
  obtain ⟨hp, h⟩ := need_some h
  exact ACalls.lent ((c_laws_eqSystem).c h) (.cons (.agg (.cons (Lent.tok (f := iD) rfl (by omega)) (.cons (Lent.tok (f := D_impl_Rule) rfl (by omega)) .nil))) (.cons (.agg (.cons (Lent.tok (f := iD) rfl (by omega)) (.cons (Lent.tok (f := D_impl_Rule) rfl (by omega)) .nil))) .nil))⟩
end Go.Proofs.YtglpjlpmijfocaaGreat
namespace Go.Proofs.YtglpjlpmijfocaaGreat
open Go Abx
attribute [local irreducible] vcm vgo vdr vrun vdrun MWp GhostQ BrC BrO BrG BrD BrH AmbO callR callD drQ EnvLe StoLe
set_option maxHeartbeats 4000000
attribute [-go_sem] sat sset
def mc3 : MCode :=
 (.seq (.reg (sq 3 [bo 3 27 0] ++ sq 6 [mb false])) (.seq (.reg (sq 7 [mi 1048576])) (.seq (.reg (sq 11 [la 2 3, mv 7, cf 6 [11, 12]] ++ sq 7 [mv 13])) (.seq (.seq (.reg (sq 14 [mv 7, bi .lss 14 0])) (.cond (t0 15) (.seq (.reg (sq 6 [mb true])) .ret) .skip)) (.seq (.reg (sq 16 [la 2 3, cf 8 [16], mv 1, mv 2, cf 7 [17, 18, 19]] ++ sq 8 [mv 20])) (.seq (.reg (sq 21 [la 2 3, cf 8 [21]] ++ sq 9 [.alloc 9 33 [.sl 0 (some true) [], .sl 0 (some true) []]] ++ s0 (sr 2 9 22))) (.seq (.reg (sq 23 [la 2 9, mv 1, mv 2, cf 9 [23, 24, 25]] ++ sq 10 [mv 26])) (.seq (.seq (.reg (sq 27 [mv 10, mv 8, bn .neq 27 28])) (.cond (t0 29) (.seq (.reg (sq 6 [mb false])) .ret) .skip)) (.seq (.seq (.draw (sq 30 [la 2 9, la 2 3, cf 8 [31], cf 10 [30, 32], nt 33]) [[], [], [1], [0, 2, 2], [3]]) (.cond (t0 34) (.seq (.reg (sq 6 [mb false])) .ret) .skip)) (.seq (.reg (sq 6 [mb true])) .ret))))))))))
theorem fn3 : MFn Tryz.prog 3 mc3 35 [.tmp 6] := ⟨_, Tryz.func3, by kernel_rfl, Tryz.ntmps3, by kernel_rfl⟩
noncomputable def F_laws_FnExactTimeOf (aSys : ((List Int) × (List ((List Int) × (List Int))))) (aN : Int) (aSteps : Int) : Option Bool :=
 (F_laws_szSystem aSys 1048576).bind fun r =>
 if (decide (r < 0)) = true then
  some true
 else
  (F_pub_System aSys).bind fun v =>
  (F_spec_TimeOf v aN aSteps).bind fun r_1 =>
  (F_to_System aSys).bind fun v_1 =>
  (F_le_TimeOf_ldd aSys.1.length aSys.2.length v_1 aN aSteps).bind fun q =>
  if (q != r_1) = true then
   some false
  else
   (F_to_System aSys).bind fun v_2 =>
   (F_le_eqSystem_ll aSys.1.length aSys.2.length aSys.1.length aSys.2.length v_1 v_2).bind fun q_1 =>
   if q_1 = true then
    some true
   else
    some false
instance c_laws_FnExactTimeOf {aSys : ((List Int) × (List ((List Int) × (List Int))))} {aN : Int} {aSteps : Int} : HasC (F_laws_FnExactTimeOf aSys aN aSteps) fun rr => PFun Tryz.prog 3 [D_laws_System aSys, iD aN, iD aSteps] (bD rr) := ⟨@fun rr h => by
  delta F_laws_FnExactTimeOf at h
  refine fn3.pureL (vcm_sound ?_)
  delta mc3
  refine stp ?_
  refine rC h fun r hr h => ?_
  refine iF h fun hc h => ?_
  refine rC h fun v hv h => ?_
  refine rC h fun r_1 hr_1 h => ?_
  refine rCo [] [(900000, 22), (900001, 200000)] h fun v_1 hv_1 h => ?_
  refine rCo [(0, 22), (1, 200000)] [] h fun q hq h => ?_
  refine iF h fun hc h => ?_
  refine dCo [] [(900000, 32), (900001, 200001)] h fun v_2 hv_2 h => ?_
  refine dCo [(0, 22), (1, 200000), (2, 32), (3, 200001)] [] h fun q_1 hq_1 h => ?_
  exact aut⟩
end Go.Proofs.YtglpjlpmijfocaaGreat
namespace Go.Proofs.YtglpjlpmijfocaaGreat
open Go Abx
attribute [local irreducible] vcm vgo vdr vrun vdrun MWp GhostQ BrC BrO BrG BrD BrH AmbO callR callD drQ EnvLe StoLe
set_option maxHeartbeats 4000000
attribute [-go_sem] sat sset
end Go.Proofs.YtglpjlpmijfocaaGreat
namespace Go.Proofs.YtglpjlpmijfocaaGreat
open Go Abx Tm
abbrev Mx : Nat := 1048576
abbrev Big {α : Type} (xs : List α) : Prop := xs.length < 9223372036854775808
theorem szI {a : List Int} (ha : Big a) {left : Int} (h0 : 0 ≤ left) (hM : left ≤ Mx) : ∃ r, F_laws_szInt64S a left = some r ∧ -1 ≤ r ∧ r ≤ left ∧ (0 ≤ r → a.length ≤ Mx) := by
  unfold F_laws_szInt64S
  have ha' : a.length < 9223372036854775808 := ha
  have hM' : left ≤ 1048576 := hM
  rw [w64 (n := left - (a.length : Int)) (by omega) (by omega)]
  by_cases h : left - (a.length : Int) < 0
  · exact ⟨-1, by simp [h], by omega, by omega, by omega⟩
  · exact ⟨left - a.length, by simp [h], by omega, by omega, fun _ => by show a.length ≤ 1048576; omega⟩
theorem loop_sz {α : Type} [Inhabited α] {a : List α} {Q : α → Prop} {f : Int × Int → Option ((Int × Int) ⊕ Int)}
    (h : ∀ (i : Nat) (left : Int) (x : α), i < a.length → x ∈ a → a.getD i default = x → 0 ≤ left → left ≤ Mx → (∃ r, 0 ≤ r ∧ r ≤ left ∧ Q x ∧ f (left, (i : Int)) = some (.inl (r, (i : Int) + 1))) ∨ f (left, (i : Int)) = some (.inr (-1)))
    (he : ∀ left, f (left, (a.length : Int)) = some (.inr left)) {left : Int} (h0 : 0 ≤ left) (hM : left ≤ Mx) : ∃ r, loopC f (left, 0) = some r ∧ -1 ≤ r ∧ r ≤ left ∧ (0 ≤ r → ∀ x ∈ a, Q x) := by
  have key : ∀ (rs : List α) (i : Nat) (left : Int), a.drop i = rs → i + rs.length = a.length → 0 ≤ left → left ≤ Mx → ∃ r, loopC f (left, (i : Int)) = some r ∧ -1 ≤ r ∧ r ≤ left ∧ (0 ≤ r → ∀ x ∈ rs, Q x) := by
    intro rs
    induction rs with
    | nil =>
      intro i left hd hl h0 hM
      obtain rfl : i = a.length := by simpa using hl
      exact ⟨left, loopC_inr (he _), by omega, by omega, fun _ x hx => by cases hx⟩
    | cons x rs ih =>
      intro i left hd hl h0 hM
      simp only [List.length_cons] at hl
      obtain ⟨g1, g2, g3⟩ := drop_cons hd
      rcases h i left x g1 (by rw [← g2]; exact getD_mem g1) g2 h0 hM with ⟨r, r0, r1, r2, r3⟩ | hx
      · obtain ⟨r', e1, e2, e3, e4⟩ := ih (i + 1) r g3 (by omega) r0 (by omega)
        rw [loopC_inl r3, show ((i : Int) + 1) = ((i + 1 : Nat) : Int) by omega]
        refine ⟨r', e1, e2, by omega, fun hr y hy => ?_⟩
        rcases List.mem_cons.1 hy with rfl | hy
        · exact r2
        · exact e4 hr y hy
      · exact ⟨-1, loopC_inr hx, by omega, by omega, by omega⟩
  exact key a 0 left (by simp) (by simp) h0 hM
theorem szRule {x : List Int × List Int} (h1 : Big x.1) (h2 : Big x.2) {left : Int} (h0 : 0 ≤ left) (hM : left ≤ Mx) : ∃ r, F_laws_szRule x left = some r ∧ -1 ≤ r ∧ r ≤ left ∧ (0 ≤ r → x.1.length ≤ Mx ∧ x.2.length ≤ Mx) := by
  obtain ⟨r, e1, e2, e3, e4⟩ := szI h1 h0 hM
  unfold F_laws_szRule
  rw [e1, Option.bind_some]
  by_cases hr : r < 0
  · exact ⟨-1, by simp [hr], by omega, by omega, by omega⟩
  · obtain ⟨r', g1, g2, g3, g4⟩ := szI h2 (left := r) (by omega) (by omega)
    rw [g1]
    by_cases hr' : r' < 0
    · exact ⟨-1, by simp [hr, hr'], by omega, by omega, by omega⟩
    · exact ⟨r', by simp [hr, hr'], by omega, by omega, fun _ => ⟨e4 (by omega), g4 (by omega)⟩⟩
structure BigS (s : Sys) : Prop where
  sig : Big s.1
  rules : Big s.2
  to : ∀ r ∈ s.2, Big r.1 ∧ Big r.2
structure SmS (s : Sys) : Prop where
  sig : s.1.length ≤ Mx
  rules : s.2.length ≤ Mx
  to : ∀ r ∈ s.2, r.1.length ≤ Mx ∧ r.2.length ≤ Mx
theorem szRuleS {a : List (List Int × List Int)} (ha : Big a) (ht : ∀ r ∈ a, Big r.1 ∧ Big r.2) {left : Int} (h0 : 0 ≤ left) (hM : left ≤ Mx) :
    ∃ r, F_laws_szRuleS a left = some r ∧ -1 ≤ r ∧ r ≤ left ∧ (0 ≤ r → a.length ≤ Mx ∧ ∀ x ∈ a, x.1.length ≤ Mx ∧ x.2.length ≤ Mx) := by
  unfold F_laws_szRuleS
  have ha' : a.length < 9223372036854775808 := ha
  have hM' : left ≤ 1048576 := hM
  rw [w64 (n := left - (a.length : Int)) (by omega) (by omega)]
  by_cases h : left - (a.length : Int) < 0
  · exact ⟨-1, by simp [h], by omega, by omega, by omega⟩
  · obtain ⟨r, e1, e2, e3, e4⟩ := loop_sz (a := a) (Q := fun x => x.1.length ≤ Mx ∧ x.2.length ≤ Mx) (f := F_laws_szRuleS_l1 a) (left := left - a.length) (fun i left x hi hx hg h0 hM => by
      obtain ⟨r, e1, e2, e3, e4⟩ := szRule (ht x hx).1 (ht x hx).2 h0 hM
      simp only [F_laws_szRuleS_l1, show (i : Int) < a.length by omega, decide_true, if_true, show (0 : Int) ≤ i by omega, and_self, Int.toNat_natCast, hg, e1, Option.bind_some, w64 (n := (i : Int) + 1) (by omega) (by omega)]
      by_cases hr : r < 0
      · exact .inr (by simp [hr])
      · exact .inl ⟨r, by omega, e3, e4 (by omega), by simp [hr]⟩) (fun left => by simp [F_laws_szRuleS_l1]) (by omega) (by show left - a.length ≤ 1048576; omega)
    refine ⟨r, by rw [if_neg (by simpa using h)]; exact e1, e2, by omega, fun hr => ⟨?_, e4 hr⟩⟩
    show a.length ≤ 1048576
    omega
theorem szSystem {s : Sys} (hs : BigS s) : ∃ r, F_laws_szSystem s 1048576 = some r ∧ (0 ≤ r → SmS s) := by
  obtain ⟨r, e1, e2, e3, e4⟩ := szI hs.sig (left := 1048576) (by omega) (by decide)
  unfold F_laws_szSystem F_laws_szSig
  rw [e1, Option.bind_some]
  by_cases hr : r < 0
  · exact ⟨-1, by simp [hr], by omega⟩
  · obtain ⟨r', g1, g2, g3, g4⟩ := szRuleS hs.rules hs.to (left := r) (by omega) (Int.le_trans e3 (by decide))
    simp only [hr, decide_false, Bool.false_eq_true, if_false, Option.bind_some, g1]
    by_cases hr' : r' < 0
    · exact ⟨-1, by simp [hr'], by omega⟩
    · exact ⟨r', by simp [hr'], fun h => ⟨e4 (by omega), (g4 h).1, (g4 h).2⟩⟩
theorem F_to_Int64S_eq {a : List Int} (h : a.length ≤ Mx) : F_to_Int64S a = some a := by
  have h' : a.length ≤ 1048576 := h
  unfold F_to_Int64S
  rw [if_pos ⟨by omega, by omega, by omega⟩]
  have := loop_to (a := a) (z := List.replicate a.length 0) (g := id) (f := F_to_Int64S_l a) (by simp) (fun i out hi ho hm => by
    simp only [F_to_Int64S_l, show (i : Int) < a.length by omega, show (i : Int) < out.length by omega, decide_true, if_true, show (0 : Int) ≤ i by omega, and_self, Int.toNat_natCast, w64 (n := (i : Int) + 1) (by omega) (by omega), id]) (fun out => by simp [F_to_Int64S_l])
  simpa using this
theorem F_to_Rule_eq {x : List Int × List Int} (h : x.1.length ≤ Mx ∧ x.2.length ≤ Mx) : F_to_Rule x = some x := by
  unfold F_to_Rule
  rw [F_to_Int64S_eq h.1, Option.bind_some, F_to_Int64S_eq h.2, Option.bind_some]
theorem F_to_RuleS_eq {a : List (List Int × List Int)} (h : a.length ≤ Mx) (ht : ∀ x ∈ a, x.1.length ≤ Mx ∧ x.2.length ≤ Mx) : F_to_RuleS a = some a := by
  have h' : a.length ≤ 1048576 := h
  unfold F_to_RuleS
  rw [if_pos ⟨by omega, by omega, by omega⟩]
  have := loop_to (a := a) (z := List.replicate a.length ([], [])) (g := id) (f := F_to_RuleS_l a) (by simp) (fun i out hi ho hm => by
    simp only [F_to_RuleS_l, show (i : Int) < a.length by omega, show (i : Int) < out.length by omega, decide_true, if_true, show (0 : Int) ≤ i by omega, and_self, Int.toNat_natCast, F_to_Rule_eq (ht _ hm), Option.bind_some, w64 (n := (i : Int) + 1) (by omega) (by omega), id]) (fun out => by simp [F_to_RuleS_l])
  simpa using this
theorem F_to_System_eq {s : Sys} (h : SmS s) : F_to_System s = some s := by
  unfold F_to_System F_to_Sig
  rw [F_to_Int64S_eq h.sig, Option.bind_some, Option.bind_some, F_to_RuleS_eq h.rules h.to, Option.bind_some]
theorem F_pub_System_eq {s : Sys} (h : SmS s) : F_pub_System s = some s := by
  unfold F_pub_System
  rw [F_to_System_eq h, Option.bind_some, if_pos ⟨rfl, rfl⟩]
theorem eqI_self {a : List Int} (h : Small a) : F_laws_eqInt64S a a = some true := by
  have h' : a.length < 1099511627776 := h
  unfold F_laws_eqInt64S
  rw [if_neg (by simp)]
  refine loop_self (a := a) (fun i hi => ?_) (by simp [F_laws_eqInt64S_l1])
  simp [F_laws_eqInt64S_l1, show (i : Int) < a.length by omega, w64 (n := (i : Int) + 1) (by omega) (by omega)]
theorem eqRule_self {x : List Int × List Int} (h : x.1.length ≤ Mx ∧ x.2.length ≤ Mx) : F_laws_eqRule x x = some true := by
  have h1 : x.1.length ≤ 1048576 := h.1
  have h2 : x.2.length ≤ 1048576 := h.2
  unfold F_laws_eqRule
  rw [eqI_self (show x.1.length < _ by omega), Option.bind_some, if_pos rfl, eqI_self (show x.2.length < _ by omega), Option.bind_some, if_pos rfl]
theorem eqSystem_self {s : Sys} (h : SmS s) : F_laws_eqSystem s s = some true := by
  have h1 : s.1.length ≤ 1048576 := h.sig
  have h2 : s.2.length ≤ 1048576 := h.rules
  have e : F_laws_eqRuleS s.2 s.2 = some true := by
    unfold F_laws_eqRuleS
    rw [if_neg (by simp)]
    refine loop_self (a := s.2) (fun i hi => ?_) (by simp [F_laws_eqRuleS_l1])
    simp only [F_laws_eqRuleS_l1, show (i : Int) < s.2.length by omega, decide_true, if_true, show (0 : Int) ≤ i by omega, and_self, Int.toNat_natCast, eqRule_self (h.to _ (getD_mem hi)), Option.bind_some, w64 (n := (i : Int) + 1) (by omega) (by omega)]
  unfold F_laws_eqSystem F_laws_eqSig
  rw [eqI_self (show s.1.length < _ by omega)]
  simp [e]
end Go.Proofs.YtglpjlpmijfocaaGreat
namespace Go.Proofs.YtglpjlpmijfocaaGreat
open Go Abx Tm
theorem rightB_iff {s : Sys} {t : List Int} {steps : Int} : rightB s t steps = true ↔ sysOk s = true ∧ termOk s.1 t = true ∧ 0 ≤ steps ∧ steps ≤ 20 := by simp [rightB]
theorem F_spec_LongestOf_eq (s : Sys) (t : List Int) (steps : Int) : F_spec_LongestOf s t steps = some (if rightB s t steps = true then lng s t steps else -1) := by
  have hr : F_spec_l9Right s t steps = some (rightB s t steps) := by
    unfold F_spec_l9Right F_spec_l7Right rightB
    rw [F_spec_SystemOk_eq, Option.bind_some]
    cases hs : sysOk s with
    | false => simp
    | true =>
      simp only [if_true, F_spec_TermOk_eq, Option.bind_some, Bool.true_and]
      cases termOk s.1 t with
      | false => simp
      | true => simp [F_spec_l1In_eq]
  unfold F_spec_LongestOf
  rw [hr, Option.bind_some]
  cases hq : rightB s t steps with
  | false => simp
  | true =>
    obtain ⟨h1, h2, h3, h4⟩ := rightB_iff.1 hq
    have hsm := ok_sm h2
    rw [if_pos rfl, if_pos rfl, F_spec_l1Copy_eq (l := t) (by show t.length < _; omega), Option.bind_some]
    exact spec_l1 h1 h4 steps.toNat (by omega) (by omega) (by simp) (by simpa using h2)
def GW (a : List Int) (g : List LL) : Prop := ∀ k, 1 ≤ k → ∀ t ∈ g.getD k default, Wf a 1 t
theorem lst_wf {a : List Int} {g : List LL} (h : GW a g) : ∀ {m l : Nat}, ∀ u ∈ lst g m l, Wf a m u
  | 0, l, u, hu => by
    unfold lst at hu
    split at hu
    · rw [List.mem_singleton.1 hu]; exact Wf.nil
    · cases hu
  | m + 1, l, u, hu => by
    unfold lst at hu
    obtain ⟨j, hj, hu⟩ := List.mem_flatMap.1 hu
    obtain ⟨t, ht, hu⟩ := List.mem_flatMap.1 hu
    obtain ⟨v, hv, rfl⟩ := List.mem_map.1 hu
    rw [List.mem_range'_1] at hj
    have := (h j hj.1 t ht).app (lst_wf h v hv)
    rwa [Nat.add_comm] at this
theorem pl_wf {a : List Int} {g : List LL} (h : GW a g) {f : Nat} (hf : f < a.length) : ∀ t ∈ pl a g f, Wf a 1 t := fun t ht => by
  obtain ⟨u, hu, rfl⟩ := List.mem_map.1 ht
  have := lst_wf h u (List.mem_of_mem_take hu)
  refine Wf.cons_iff.2 ⟨by unfold okx; omega, ?_⟩
  unfold ari
  rw [if_neg (by omega), Nat.zero_add, Int.toNat_natCast]
  exact this
theorem lev_wf {a : List Int} {g : List LL} (h : GW a g) : ∀ t ∈ lev a g, Wf a 1 t := fun t ht => by
  obtain ⟨f, hf, ht⟩ := List.mem_flatMap.1 ((sortT_perm _).mem_iff.1 ht)
  exact pl_wf h (List.mem_range.1 hf) t ht
theorem GW.next {a : List Int} {g : List LL} (h : GW a g) : GW a (g ++ [lev a g]) := fun k hk t ht => by
  by_cases h1 : k < g.length
  · rw [List.getD_eq_getElem?_getD, List.getElem?_append_left h1, ← List.getD_eq_getElem?_getD] at ht
    exact h k hk t ht
  · by_cases h2 : k = g.length
    · subst h2
      rw [List.getD_eq_getElem?_getD, List.getElem?_append_right (Nat.le_refl _)] at ht
      simp at ht
      exact lev_wf h t ht
    · rw [List.getD_eq_getElem?_getD, List.getElem?_eq_none (by simp; omega)] at ht
      cases ht
theorem gr_wf {a : List Int} : ∀ (r : Nat) {g : List LL} {out : LL}, GW a g → (∀ t ∈ out, Wf a 1 t) → ∀ t ∈ (gr a r g out).1, Wf a 1 t
  | 0, g, out, h, h4 => h4
  | r + 1, g, out, h, h4 => by
    rw [gr]
    split
    · simp
    · exact gr_wf r h.next fun t ht => (List.mem_append.1 ht).elim (h4 t) (lev_wf h t)
theorem gw0 {a : List Int} : GW a [[]] := fun k hk t ht => by
  match k, hk with
  | k + 1, _ =>
    simp at ht
    cases (show t ∈ ([] : LL) from ht)
theorem grds_ok {a : List Int} {n : Int} : ∀ t ∈ (grds a n).1, termOk a t = true := fun t ht => by
  obtain ⟨h1, h2⟩ := (grds_el a n).2 t ht
  unfold grds at ht
  split at ht
  · rename_i h
    exact termOk_iff.2 ⟨h.1, h1, h2, gr_wf _ gw0 (by simp) t ht⟩
  · cases ht
theorem spec_gmx {s : Sys} {steps : Int} (hs : sysOk s = true) (h : 0 ≤ steps ∧ steps ≤ 20) {ts : LL} (hl : ts.length ≤ 200) (ht : ∀ t ∈ ts, termOk s.1 t = true) : ∀ (r : LL) {i : Nat} {m : Int}, ts.drop i = r → i ≤ ts.length →
    loopC (F_spec_l25Greatest_l1 s ts steps) (m, (i : Int)) = some (gmx (fun t => lng s t steps) r m)
  | [], i, m, hd, hi => by
    refine loopC_inr ?_
    have : ts.length ≤ i := by simpa using hd
    simp only [F_spec_l25Greatest_l1, show ¬ (i : Int) < ts.length by omega, decide_false, Bool.false_eq_true, if_false, Option.map_some, gmx]
  | t :: r, i, m, hd, hi => by
    obtain ⟨h1, h2, h3⟩ := drop_cons hd
    have hk : termOk s.1 t = true := by rw [← h2]; exact ht _ (getD_mem h1)
    have e : F_spec_l25Greatest_l1 s ts steps (m, (i : Int)) = some (if lng s t steps < 0 then .inr (-1) else .inl (max m (lng s t steps), (i : Int) + 1)) := by
      simp only [F_spec_l25Greatest_l1, show (i : Int) < ts.length by omega, decide_true, if_true, show (0 : Int) ≤ i by omega, and_self, Int.toNat_natCast, h2, F_spec_LongestOf_eq, rightB_iff.2 ⟨hs, hk, h⟩, Option.bind_some, F_spec_l1Max_eq, w64 (n := (i : Int) + 1) (by omega) (by omega)]
      by_cases hn : lng s t steps < 0 <;> simp [hn]
    unfold gmx
    by_cases hn : lng s t steps < 0
    · rw [if_pos hn] at e ⊢
      exact loopC_inr e
    · rw [if_neg hn] at e ⊢
      rw [loopC_inl e]
      exact spec_gmx hs h hl ht r (i := i + 1) h3 (by omega)
theorem impl_gmx {s : Sys} {steps : Int} (hs : sysOk s = true) (h : 0 ≤ steps ∧ steps ≤ 20) {ts : LL} (hl : ts.length ≤ 200) (ht : ∀ t ∈ ts, termOk s.1 t = true) : ∀ (r : LL) {i : Nat} {m : Int}, ts.drop i = r → i ≤ ts.length →
    loopC (F_impl_greatest_l1 ts s.1 s.2 steps) (m, (i : Int)) = some (gmx (fun t => lng s t steps) r m)
  | [], i, m, hd, hi => by
    refine loopC_inr ?_
    have : ts.length ≤ i := by simpa using hd
    simp only [F_impl_greatest_l1, show ¬ (i : Int) < ts.length by omega, decide_false, Bool.false_eq_true, if_false, Option.map_some, gmx]
  | t :: r, i, m, hd, hi => by
    obtain ⟨h1, h2, h3⟩ := drop_cons hd
    have hk : termOk s.1 t = true := by rw [← h2]; exact ht _ (getD_mem h1)
    have hx : F_impl_longest (s.1, s.2) t steps = some (lng s t steps) := F_impl_longest_eq hs hk h
    have hmx : (if lng s t steps > m then lng s t steps else m) = max m (lng s t steps) := by split <;> omega
    have e : F_impl_greatest_l1 ts s.1 s.2 steps (m, (i : Int)) = some (if lng s t steps < 0 then .inr (-1) else .inl (max m (lng s t steps), (i : Int) + 1)) := by
      simp only [F_impl_greatest_l1, F_impl_TimeOf_1, show (i : Int) < ts.length by omega, decide_true, if_true, show (0 : Int) ≤ i by omega, and_self, Int.toNat_natCast, h2, hx, Option.bind_some, hmx, w64 (n := (i : Int) + 1) (by omega) (by omega)]
      by_cases hn : lng s t steps < 0 <;> simp [hn]
    unfold gmx
    by_cases hn : lng s t steps < 0
    · rw [if_pos hn] at e ⊢
      exact loopC_inr e
    · rw [if_neg hn] at e ⊢
      rw [loopC_inl e]
      exact impl_gmx hs h hl ht r (i := i + 1) h3 (by omega)
def dpB (steps : Int) : Bool := decide (0 ≤ steps) && decide (steps ≤ 20)
theorem dpB_iff {steps : Int} : dpB steps = true ↔ 0 ≤ steps ∧ steps ≤ 20 := by simp [dpB]
def tmO (s : Sys) (n steps : Int) : Int := if sysOk s = true ∧ (grds s.1 n).2 = true ∧ dpB steps = true then gmx (fun t => lng s t steps) (grds s.1 n).1 0 else -1
theorem F_impl_deepOk_eq (steps : Int) : F_impl_deepOk steps = some (dpB steps) := by
  unfold F_impl_deepOk dpB
  by_cases h : 0 ≤ steps <;> simp [h]
theorem F_spec_TimeOf_eq (s : Sys) (n steps : Int) : F_spec_TimeOf s n steps = some (tmO s n steps) := by
  unfold F_spec_TimeOf tmO
  rw [F_spec_GroundsOf_eq, Option.bind_some, F_spec_SystemOk_eq, Option.bind_some]
  cases hs : sysOk s with
  | false => simp
  | true =>
    cases hq : (grds s.1 n).2 with
    | false => simp
    | true =>
      simp only [if_true, F_spec_l1In_eq, Option.bind_some, true_and]
      cases hd : dpB steps with
      | false => unfold dpB at hd; simp [hd]
      | true =>
        have hd' := hd
        unfold dpB at hd'
        rw [hd', if_pos rfl, if_pos rfl]
        have := spec_gmx hs (dpB_iff.1 hd) (grds_el s.1 n).1 grds_ok _ (i := 0) (m := 0) rfl (by omega)
        unfold F_spec_l25Greatest
        rw [show ((0 : Nat) : Int) = 0 from rfl] at this
        rw [this]; rfl
theorem F_impl_TimeOf_eq (s : Sys) (n steps : Int) : F_impl_TimeOf s n steps = some (tmO s n steps) := by
  unfold F_impl_TimeOf tmO
  rw [F_impl_SystemOk_eq, Option.bind_some]
  cases hs : sysOk s with
  | false => simp
  | true =>
    simp only [if_true, F_impl_deepOk_eq, Option.bind_some, true_and]
    cases hd : dpB steps with
    | false => simp
    | true =>
      simp only [if_true, F_impl_GroundsOf_eq, Option.bind_some, and_true]
      cases hq : (grds s.1 n).2 with
      | false => simp
      | true =>
        rw [if_pos rfl, if_pos rfl]
        have := impl_gmx hs (dpB_iff.1 hd) (grds_el s.1 n).1 grds_ok _ (i := 0) (m := 0) rfl (by omega)
        unfold F_impl_greatest
        rw [show ((0 : Nat) : Int) = 0 from rfl] at this
        rw [this]; rfl
theorem law_time {s : Sys} {n steps : Int} (hs : BigS s) : F_laws_FnExactTimeOf s n steps = some true := by
  unfold F_laws_FnExactTimeOf
  obtain ⟨r, e1, e2⟩ := szSystem hs
  rw [e1, Option.bind_some]
  by_cases hr : r < 0
  · rw [if_pos (by simpa using hr)]
  rw [if_neg (by simpa using hr)]
  have sm := e2 (by omega)
  have h2 := F_spec_TimeOf_eq s n steps
  have l1 : F_le_TimeOf_ldd s.1.length s.2.length s n steps = some (tmO s n steps) := by
    unfold F_le_TimeOf_ldd; rw [if_pos ⟨rfl, rfl⟩]; exact F_impl_TimeOf_eq s n steps
  have l3 : F_le_eqSystem_ll s.1.length s.2.length s.1.length s.2.length s s = some true := by
    unfold F_le_eqSystem_ll; rw [if_pos ⟨rfl, rfl, rfl, rfl⟩]; exact eqSystem_self sm
  simp only [F_pub_System_eq sm, h2, F_to_System_eq sm, Option.bind_some, l1, l3, bne_self_eq_false, Bool.false_eq_true, if_false, if_true]
theorem law_time_pure {s : Sys} {n steps : Int} (hs : BigS s) : PFun Tryz.prog 3 [D_laws_System s, iD n, iD steps] (bD true) := c_laws_FnExactTimeOf.c (law_time hs)
end Go.Proofs.YtglpjlpmijfocaaGreat
namespace Go.Proofs.YtglpjlpmijfocaaGreat
open Go Abx Go.ChangeShapes Go.WideShapes Go.ChangeAt Go.RowKit
theorem ownZ : ownKnob Tryz.prog.godebug = none := by kernel_rfl
theorem laidZ : laidOutB Tryz.prog = true := by kernel_rfl
theorem cel_agg {α : Type} {f : α → D} (hf : ∀ y, ∃ cs, f y = .agg cs) : ∀ y O w vs, D.oks O w (dcells (f y)) vs → D.cel O w (f y) vs := fun y O w vs h => by
  obtain ⟨cs, e⟩ := hf y
  rw [e] at h ⊢
  exact h
theorem cel_one {α : Type} {f : α → D} (hf : ∀ y, dcells (f y) = [f y]) (ha : ∀ y cs, f y ≠ .agg cs) : ∀ y O w vs, D.oks O w (dcells (f y)) vs → D.cel O w (f y) vs := fun y O w vs h => by
  rw [hf] at h
  obtain ⟨v, r, e, _, h2, h3⟩ := h
  have h3' : r = [] := h3
  subst h3'
  have := ha y
  cases hy : f y with
  | agg cs => exact absurd hy (this cs)
  | _ => rw [hy] at h2; exact ⟨v, e, h2⟩
theorem rd2 : Rd Tryz.prog 2 1 iD (fun _ => True) := Rd.int Tryz.underlying2 (by kernel_rfl)
theorem rd22 : Rd Tryz.prog 22 1 (slD 1 iD) (fun x : (List Int) => (BigL x ∧ ∀ y0 : Int, y0 ∈ x → True)) := Rd.slice Tryz.underlying22 (by kernel_rfl) (by decide) rd2 (cel_one (fun _ => rfl) (fun _ _ h => nomatch h))
theorem rd24 : Rd Tryz.prog 24 1 D_laws_Sig (fun x : (List Int) => ((BigL x ∧ ∀ y0 : Int, y0 ∈ x → True))) := by
  have h := RdF.cons (P := Tryz.prog) (f := { name := "Arity", type := 22, offset := 0, embedded := false, tag := "", pkgPath := "", byteOffset := 0 }) (m := 1) rfl rd22 rfl (RdF.nil)
  exact Rd.struct (fun y : (List Int) × Unit => y.1) Tryz.underlying24 (by kernel_rfl) h (fun _ => rfl) (fun _ h => h.1)
theorem rd86 : Rd Tryz.prog 86 2 D_laws_Rule (fun x : ((List Int) × (List Int)) => ((BigL x.1 ∧ ∀ y0 : Int, y0 ∈ x.1 → True) ∧ (BigL x.2 ∧ ∀ y0 : Int, y0 ∈ x.2 → True))) := by
  have h := RdF.cons (P := Tryz.prog) (f := { name := "L", type := 22, offset := 0, embedded := false, tag := "", pkgPath := "", byteOffset := 0 }) (m := 2) rfl rd22 rfl (RdF.cons (f := { name := "R", type := 22, offset := 1, embedded := false, tag := "", pkgPath := "", byteOffset := 24 }) rfl rd22 rfl (RdF.nil))
  exact Rd.struct (fun y : (List Int) × (List Int) × Unit => (y.1, y.2.1)) Tryz.underlying86 (by kernel_rfl) h (fun _ => rfl) (fun _ h => ⟨h.1, h.2.1⟩)
theorem rd25 : Rd Tryz.prog 25 1 (slD 2 D_laws_Rule) (fun x : (List ((List Int) × (List Int))) => (BigL x ∧ ∀ y0 : ((List Int) × (List Int)), y0 ∈ x → ((BigL y0.1 ∧ ∀ y1 : Int, y1 ∈ y0.1 → True) ∧ (BigL y0.2 ∧ ∀ y1 : Int, y1 ∈ y0.2 → True)))) := Rd.slice Tryz.underlying25 (by kernel_rfl) (by decide) rd86 (cel_agg fun _ => ⟨_, rfl⟩)
theorem rd27 : Rd Tryz.prog 27 2 D_laws_System (fun x : ((List Int) × (List ((List Int) × (List Int)))) => (((BigL x.1 ∧ ∀ y0 : Int, y0 ∈ x.1 → True)) ∧ (BigL x.2 ∧ ∀ y0 : ((List Int) × (List Int)), y0 ∈ x.2 → ((BigL y0.1 ∧ ∀ y1 : Int, y1 ∈ y0.1 → True) ∧ (BigL y0.2 ∧ ∀ y1 : Int, y1 ∈ y0.2 → True))))) := by
  have h := RdF.cons (P := Tryz.prog) (f := { name := "Sig", type := 24, offset := 0, embedded := false, tag := "", pkgPath := "", byteOffset := 0 }) (m := 2) rfl rd24 rfl (RdF.cons (f := { name := "Rules", type := 25, offset := 1, embedded := false, tag := "", pkgPath := "", byteOffset := 24 }) rfl rd25 rfl (RdF.nil))
  exact Rd.struct (fun y : (List Int) × (List ((List Int) × (List Int))) × Unit => (y.1, y.2.1)) Tryz.underlying27 (by kernel_rfl) h (fun _ => rfl) (fun _ h => ⟨h.1, h.2.1⟩)
end Go.Proofs.YtglpjlpmijfocaaGreat
namespace Go.Proofs.YtglpjlpmijfocaaGreat
open Go Abx Go.ChangeShapes Go.WideShapes Go.ChangeAt Go.RowKit
section
variable {H : Type} {enc : TypeId × Value → H} {P : Program} {w : World} {base : Nat} {spare : Nat → Bool} {held : Bool}
theorem trodAll_3x {t0 t1 t2 : TypeId} {args : Array Value} {ds : List (DataW H)} {ps : List MemPlace} (h : DataW.TrodAll enc P w base spare held [t0, t1, t2] args.toList ds ps) :
    ∃ v0 v1 v2 d0 d1 d2 p0 p1 p2, args = #[v0, v1, v2] ∧ ds = [d0, d1, d2] ∧ ps = p0 ++ p1 ++ p2 ∧ DataW.Trod enc P w base spare held t0 v0 d0 p0 ∧ DataW.Trod enc P w base spare held t1 v1 d1 p1 ∧ DataW.Trod enc P w base spare held t2 v2 d2 p2 := by
  obtain ⟨v0, vs0, d0, ds0, p0, q0, hargs, rfl, rfl, k0, h0⟩ := trodAll_cons h
  obtain ⟨v1, vs1, d1, ds1, p1, q1, rfl, rfl, rfl, k1, h1⟩ := trodAll_cons h0
  obtain ⟨v2, vs2, d2, ds2, p2, q2, rfl, rfl, rfl, k2, h2⟩ := trodAll_cons h1
  obtain ⟨rfl, rfl, rfl⟩ := trodAll_nil h2
  exact ⟨v0, v1, v2, d0, d1, d2, p0, p1, p2, by cases args; simp_all, rfl, by simp, k0, k1, k2⟩
end
theorem law_walk3 {W : World} {v0 v1 v2 : Value} {x0 : ((List Int) × (List ((List Int) × (List Int))))} {x1 : Int} {x2 : Int} (g0 : (((BigL x0.1 ∧ ∀ y0 : Int, y0 ∈ x0.1 → True)) ∧ (BigL x0.2 ∧ ∀ y0 : ((List Int) × (List Int)), y0 ∈ x0.2 → ((BigL y0.1 ∧ ∀ y1 : Int, y1 ∈ y0.1 → True) ∧ (BigL y0.2 ∧ ∀ y1 : Int, y1 ∈ y0.2 → True))))) (g1 : True) (g2 : True) (h0 : D.ok NoO W (D_laws_System x0) v0) (h1 : D.ok NoO W (iD x1) v1) (h2 : D.ok NoO W (iD x2) v2) :
    Calls Tryz.prog 3 #[v0, v1, v2] W fun e W' => e = .returned (.bool true) ∧ Below W.heap.size W W' :=
  (pure_belowN (show PFun Tryz.prog 3 [D_laws_System x0, iD x1, iD x2] (bD true) from law_time_pure (hs := ⟨g0.1.1, g0.2.1, fun r hr => ⟨(g0.2.2 r hr).1.1, (g0.2.2 r hr).2.1⟩⟩)) (vs := #[v0, v1, v2]) (fun _ _ => trivial) ⟨v0, _, rfl, h0, v1, _, rfl, h1, v2, _, rfl, h2, rfl⟩).mono fun _ _ ⟨⟨_, h1, h2⟩, h3⟩ => by
    simp only [D.ok] at h2
    exact ⟨by rw [h1, h2.1], h3⟩
set_option maxRecDepth 100000 in
theorem fnExactTimeOf_lifted (os : Os) (started : os.Started) (H : Type) (enc : TypeId × Value → H) :
    ReturnsInHanded {} Tryz.checked os 3 .any (Rows.fnExactTimeOfSpec.pre6 enc Tryz.prog Tryz.f3 Rows.fnExactTimeOfRow.domain false) (Rows.fnExactTimeOfSpec.post enc Tryz.prog Tryz.f3 false true false false) := by
  refine returnsInHanded_of_change (C := Tryz.checked) ownZ started (by kernel_rfl) Tryz.func3
    (ChangeSpec.witness6 (enc := enc) (C := Tryz.checked) false ⟨#[], #[.agg #[.slice none 0 0, .slice none 0 0], .int .i64 0, .int .i64 0], []⟩ 8 (by kernel_rfl) (by kernel_rfl) (by kernel_rfl) (by kernel_rfl)) ?_
  intro W base args ds gs before hval0 hW hcnd _
  have hval : ∀ (j : Nat) t v, Tryz.f3.params[j]? = some t → args[j]? = some v → Value.okWide Tryz.prog W .any base t v := hval0
  have hW' := hW
  obtain ⟨p, q, hA0, hV, rfl, hfz, hnd⟩ := hW
  have hA : DataW.TrodAll enc Tryz.prog W 0 (fun _ => true) true Tryz.f3.params.toList args.toList ds p := hA0
  rw [Tryz.params3] at hA hval
  obtain ⟨v0, v1, v2, d0, d1, d2, p0, p1, p2, rfl, rfl, rfl, t0, t1, t2⟩ := trodAll_3x hA
  obtain ⟨rfl, rfl⟩ := trodVars_none hV
  have k0 := t0
  have lt0 : ∀ x ∈ p0, x.block < W.heap.size := by obtain ⟨m, hm⟩ := t0; exact DataW.trod_lt m _ _ _ hm
  have k1 := t1
  have lt1 : ∀ x ∈ p1, x.block < W.heap.size := by obtain ⟨m, hm⟩ := t1; exact DataW.trod_lt m _ _ _ hm
  have k2 := t2
  have lt2 : ∀ x ∈ p2, x.block < W.heap.size := by obtain ⟨m, hm⟩ := t2; exact DataW.trod_lt m _ _ _ hm
  obtain ⟨x0, g0, h0⟩ := rd27.agg Tryz.underlying27 (fun _ => ⟨_, rfl⟩) (hval 0 _ v0 rfl rfl) t0
  obtain ⟨n1, rfl⟩ := okWide_int Tryz.underlying2 (hval 1 _ v1 rfl rfl)
  obtain ⟨x1, g1, h1⟩ := rd2.cell (fun _ => rfl) rfl t1
  obtain ⟨n2, rfl⟩ := okWide_int Tryz.underlying2 (hval 2 _ v2 rfl rfl)
  obtain ⟨x2, g2, h2⟩ := rd2.cell (fun _ => rfl) rfl t2
  clear hA0 hval0
  refine (law_walk3 g0 g1 g2 h0 h1 h2).mono fun e W' ⟨he, bel⟩ => ?_
  subst he
  have s0 := Below.trod laidZ (by kernel_rfl) (of_decide_eq_true (by kernel_rfl)) k0 bel lt0
  have s1 := Below.trod laidZ (by kernel_rfl) (of_decide_eq_true (by kernel_rfl)) k1 bel lt1
  have s2 := Below.trod laidZ (by kernel_rfl) (of_decide_eq_true (by kernel_rfl)) k2 bel lt2
  exact ⟨_, rfl, _, _, _, [], _, [], hW', trodAll_mk1 (shut_bool Tryz.underlying4 _), trodAll_cons_mk s0 (trodAll_cons_mk s1 (trodAll_mk1 s2)), rfl, bel.frame _, fun h => by cases h⟩
end Go.Proofs.YtglpjlpmijfocaaGreat
namespace Go.Proofs.YtglpjlpmijfocaaGreat
open Go Go.ChangeShapes Go.WideShapes Go.ChangeAt Go.RowKit
theorem and2b3 {a b : Bool} (ha : a = true) (hb : b = true) : (a && b) = true := by rw [ha, hb]; rfl
set_option maxRecDepth 100000 in
set_option maxHeartbeats 4000000 in
theorem closed3 : joinedFacts Tryz.prog 3 Tryz.f3 Rows.fnExactTimeOfSpec Rows.fnExactTimeOfRow = true := by
  unfold joinedFacts
  with_reducible repeat' refine and2b3 ?_ ?_
  all_goals as_aux_lemma => kernel_rfl
end Go.Proofs.YtglpjlpmijfocaaGreat
