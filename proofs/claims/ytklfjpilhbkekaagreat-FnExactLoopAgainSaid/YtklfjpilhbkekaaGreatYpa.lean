/- What the equations of both sides come to: forms, match, fill, step, walks; nothing is assumed. -/
import Derived.Test.YtklfjpilhbkekaaGreatYa
import Derived.Test.YtklfjpilhbkekaaGreatYb
import Derived.Test.YtklfjpilhbkekaaGreatYth
set_option linter.unusedSimpArgs false
set_option linter.unusedVariables false
set_option linter.unusedSectionVars false
set_option linter.unnecessarySimpa false
namespace Go.Proofs.YtklfjpilhbkekaaGreat
open Go Abx Tm
theorem w64 {n : Int} (h1 : -9223372036854775808 ≤ n) (h2 : n < 9223372036854775808) : IntKind.i64.wrap n = n := by
  rw [wrap_i64 h1 h2]
theorem getD_get {α : Type} [Inhabited α] {xs : List α} {i : Nat} (h : i < xs.length) : xs.getD i default = xs[i] := by simp [List.getD_eq_getElem?_getD, List.getElem?_eq_getElem h]
theorem getD_mem {α : Type} [Inhabited α] {xs : List α} {i : Nat} (h : i < xs.length) : xs.getD i default ∈ xs := by rw [getD_get h]; exact List.getElem_mem h
theorem loop_all {α : Type} [Inhabited α] {xs : List α} {p : α → Bool} {f : Int → Option (Int ⊕ Bool)}
    (h : ∀ (i : Nat) (x : α), i < xs.length → (i : Int) < xs.length → x ∈ xs → xs.getD i default = x → f i = some (if p x = true then .inl ((i : Int) + 1) else .inr false)) (he : f xs.length = some (.inr true)) : loopC f 0 = some (xs.all p) := by
  have key : ∀ k i : Nat, i + k = xs.length → loopC f (i : Int) = some ((xs.drop i).all p) := by
    intro k
    induction k with
    | zero =>
      intro i hi
      obtain rfl : i = xs.length := by omega
      rw [loopC_inr he]; simp
    | succ k ih =>
      intro i hi
      have hlt : i < xs.length := by omega
      have e := h i _ hlt (by omega) (List.getElem_mem hlt) (getD_get hlt)
      rw [List.drop_eq_getElem_cons hlt, List.all_cons]
      cases hp : p xs[i] with
      | true =>
        rw [hp, if_pos rfl] at e
        rw [loopC_inl e]
        have := ih (i + 1) (by omega)
        rw [show ((i : Int) + 1) = ((i + 1 : Nat) : Int) by omega, this]; simp
      | false =>
        rw [hp] at e
        simp only [Bool.false_eq_true, if_false] at e
        rw [loopC_inr e]; simp
  simpa using key xs.length 0 (by omega)
theorem loop_any {α β : Type} [Inhabited α] {xs : List α} {p : α → Bool} {f : Int → Option (Int ⊕ β)} {y n : β}
    (h : ∀ (i : Nat) (x : α), i < xs.length → (i : Int) < xs.length → x ∈ xs → xs.getD i default = x → f i = some (if p x = true then .inr y else .inl ((i : Int) + 1))) (he : f xs.length = some (.inr n)) :
    loopC f 0 = some (if xs.any p = true then y else n) := by
  have key : ∀ k i : Nat, i + k = xs.length → loopC f (i : Int) = some (if (xs.drop i).any p = true then y else n) := by
    intro k
    induction k with
    | zero =>
      intro i hi
      obtain rfl : i = xs.length := by omega
      rw [loopC_inr he]; simp
    | succ k ih =>
      intro i hi
      have hlt : i < xs.length := by omega
      have e := h i _ hlt (by omega) (List.getElem_mem hlt) (getD_get hlt)
      rw [List.drop_eq_getElem_cons hlt, List.any_cons]
      cases hp : p xs[i] with
      | false =>
        rw [hp] at e
        simp only [Bool.false_eq_true, if_false] at e
        rw [loopC_inl e]
        have := ih (i + 1) (by omega)
        rw [show ((i : Int) + 1) = ((i + 1 : Nat) : Int) by omega, this]; simp
      | true =>
        rw [hp, if_pos rfl] at e
        rw [loopC_inr e]; simp
  simpa using key xs.length 0 (by omega)
abbrev Small {α : Type} (xs : List α) : Prop := xs.length < 1099511627776
def arOk (n : Int) : Bool := decide (0 ≤ n) && decide (n ≤ 3)
def sigOk (a : List Int) : Bool := decide (1 ≤ a.length) && decide (a.length ≤ 8) && a.all arOk
theorem sigOk_iff {a : List Int} : sigOk a = true ↔ 1 ≤ a.length ∧ a.length ≤ 8 ∧ ∀ n ∈ a, 0 ≤ n ∧ n ≤ 3 := by simp [sigOk, arOk, and_assoc]
theorem F_spec_l1In_eq (x lo hi : Int) : F_spec_l1In x lo hi = some (decide (lo ≤ x) && decide (x ≤ hi)) := by
  unfold F_spec_l1In
  by_cases h1 : lo ≤ x <;> by_cases h2 : x ≤ hi <;> simp [h1, h2]
theorem F_impl_SigOk_eq (a : List Int) : F_impl_SigOk a = some (sigOk a) := by
  unfold F_impl_SigOk
  by_cases h1 : (a.length : Int) < 1
  · have : ¬ 1 ≤ a.length := by omega
    simp [h1, sigOk, this]
  · by_cases h2 : 8 < (a.length : Int)
    · have : ¬ a.length ≤ 8 := by omega
      simp [h1, h2, sigOk, this]
    · have e1 : 1 ≤ a.length := by omega
      have e2 : a.length ≤ 8 := by omega
      simp only [h1, h2, decide_false, Bool.false_eq_true, if_false, sigOk, e1, e2, decide_true, Bool.true_and]
      refine loop_all (fun i x hi hi' _ hx => ?_) (by simp [F_impl_SigOk_l1])
      have hw : IntKind.i64.wrap ((i : Int) + 1) = i + 1 := w64 (by omega) (by omega)
      simp only [F_impl_SigOk_l1, hi', decide_true, if_true, Int.toNat_natCast, hw, show (0 : Int) ≤ i by omega, and_self, arOk, hx]
      by_cases c1 : x < 0
      · simp [c1, show ¬ 0 ≤ x by omega]
      · by_cases c2 : 3 < x
        · simp [c1, c2, show ¬ x ≤ 3 by omega]
        · simp [c1, c2, show 0 ≤ x by omega, show x ≤ 3 by omega]
theorem F_spec_SigOk_eq (a : List Int) : F_spec_SigOk a = some (sigOk a) := by
  unfold F_spec_SigOk
  simp only [F_spec_l1In_eq, Option.bind_some]
  by_cases h : 1 ≤ a.length ∧ a.length ≤ 8
  · have e1 : (1 : Int) ≤ a.length := by omega
    have e2 : (a.length : Int) ≤ 8 := by omega
    simp only [e1, e2, decide_true, Bool.and_self, if_true, sigOk, h.1, h.2, Bool.true_and]
    refine loop_all (fun i x hi hi' _ hx => ?_) (by simp [F_spec_SigOk_l1])
    have hw : IntKind.i64.wrap ((i : Int) + 1) = i + 1 := w64 (by omega) (by omega)
    simp only [F_spec_SigOk_l1, hi', decide_true, if_true, Int.toNat_natCast, hw, show (0 : Int) ≤ i by omega, and_self, arOk, hx, F_spec_l1In_eq, Option.bind_some]
    by_cases h3 : 0 ≤ x <;> by_cases h4 : x ≤ 3 <;> simp [h3, h4]
  · have : (decide ((1 : Int) ≤ a.length) && decide ((a.length : Int) ≤ 8)) = false := by simp; omega
    rw [this]
    have : sigOk a = false := by
      cases hs : sigOk a with
      | false => rfl
      | true => have := sigOk_iff.1 hs; omega
    simp [this]
theorem F_slices_Min_ok {x : List Int} (h0 : 0 < x.length) (hs : Small x) : Okk True (F_slices_Min_int64_int64 x) fun m => ∀ b, b ≤ m ↔ ∀ y ∈ x, b ≤ y := by
  unfold F_slices_Min_int64_int64
  have h1 : ¬ (x.length : Int) < 1 := by omega
  have h2 : (0 : Int) < x.length := by omega
  simp only [h1, h2, decide_false, Bool.false_eq_true, if_false, Int.le_refl, and_self, if_true]
  refine Okk.loop (fun s : Int × Int => ∃ i : Nat, s.2 = (i : Int) ∧ 1 ≤ i ∧ i ≤ x.length ∧ ∀ b, b ≤ s.1 ↔ ∀ y ∈ x.take i, b ≤ y) (fun s : Int × Int => x.length - s.2.toNat) ⟨1, rfl, Nat.le_refl _, by omega, fun b => ?_⟩ ?_
  · cases x with
    | nil => simp at h0
    | cons y x => simp
  · rintro ⟨m, i'⟩ ⟨i, rfl, h3, h4, h5⟩
    simp only [F_slices_Min_int64_int64_l1] at h5 ⊢
    by_cases hi : i < x.length
    · have hi' : (i : Int) < x.length := by omega
      have hw : IntKind.i64.wrap ((i : Int) + 1) = i + 1 := w64 (by omega) (by omega)
      simp only [hi', decide_true, if_true, show (0 : Int) ≤ i by omega, and_self, Int.toNat_natCast, getD_get hi, hw]
      refine .some ⟨⟨i + 1, by simp, by omega, by omega, fun b => ?_⟩, by simp; omega⟩
      rw [List.take_add_one, List.getElem?_eq_getElem hi]
      have := h5 b
      simp only [List.mem_append, Option.toList_some, List.mem_singleton]
      split
      · constructor
        · rintro hb y (hy | rfl)
          · exact (h5 b).1 (by omega) y hy
          · exact hb
        · intro hb; exact hb _ (.inr rfl)
      · constructor
        · rintro hb y (hy | rfl)
          · exact (h5 b).1 hb y hy
          · omega
        · intro hb; exact (h5 b).2 fun y hy => hb y (.inl hy)
    · have hi' : ¬ (i : Int) < x.length := by omega
      simp only [hi', decide_false, Bool.false_eq_true, if_false, Option.map_some]
      refine .some fun b => ?_
      rw [h5 b, List.take_of_length_le (by omega)]
theorem ari_le {a : List Int} (ha : sigOk a = true) (x : Int) : ari a x ≤ 3 := by
  have := (sigOk_iff.1 ha).2.2
  unfold ari
  split
  · omega
  · rw [List.getD_eq_getElem?_getD]
    cases h : a[x.toNat]? with
    | none => simp
    | some y => have := this y (List.mem_of_getElem? h); simp; omega
theorem F_impl_arityAt_eq {a : List Int} (ha : sigOk a = true) {x : Int} (hx : x < a.length) : F_impl_arityAt a x = some (ari a x : Int) := by
  unfold F_impl_arityAt ari
  by_cases h : x < 0
  · simp [h]
  · have h2 : 0 ≤ x := by omega
    simp only [h, decide_false, Bool.false_eq_true, if_false, h2, hx, and_self, if_true]
    have hl : x.toNat < a.length := by omega
    have := (sigOk_iff.1 ha).2.2 _ (getD_mem hl)
    rw [show a.getD x.toNat 0 = a.getD x.toNat default from rfl]
    rw [show ((a.getD x.toNat default).toNat : Int) = a.getD x.toNat default by omega]
theorem F_impl_cursor_next_eq {a t : List Int} (ha : sigOk a = true) (hs : Small t) {i : Nat} (hi : i ≤ t.length) : F_impl_cursor_next a t i =
    some (match t.drop i with | [] => (-1, (i : Int)) | x :: _ => if x < a.length then ((ari a x : Int), (i : Int) + 1) else (-1, i)) := by
  unfold F_impl_cursor_next
  by_cases h : i < t.length
  · have h1 : ¬ (t.length : Int) ≤ i := by omega
    have h2 : (i : Int) < t.length := by omega
    have hw : IntKind.i64.wrap ((i : Int) + 1) = i + 1 := w64 (by omega) (by omega)
    have hw2 : IntKind.i64.wrap ((i : Int) + 1 - 1) = i := by rw [w64 (by omega) (by omega)]; omega
    rw [List.drop_eq_getElem_cons h]
    simp only [h1, h2, decide_false, Bool.false_eq_true, if_false, show (0 : Int) ≤ i by omega, and_self, if_true, Int.toNat_natCast, getD_get h, hw, hw2]
    by_cases h3 : t[i] < a.length
    · have h4 : ¬ (a.length : Int) ≤ t[i] := by omega
      simp [h3, h4, F_impl_arityAt_eq ha h3]
    · have h4 : (a.length : Int) ≤ t[i] := by omega
      simp [h3, h4]
  · have h1 : (t.length : Int) ≤ i := by omega
    rw [List.drop_of_length_le (by omega)]
    simp [h1]
theorem skip_drop {a t : List Int} {i k : Nat} (h : i < t.length) : Tm.skip a (t.drop i) (k + 1) = if okx a (t[i]) then Tm.skip a (t.drop (i + 1)) (k + ari a t[i]) else none := by
  rw [List.drop_eq_getElem_cons h, skip_cons]
def endI (a t : List Int) (i : Nat) : Int := match Tm.skip a (t.drop i) 1 with | some r => (t.length : Int) - r.length | none => -1
theorem skip_len {a : List Int} : ∀ {t r : List Int} {k : Nat}, Tm.skip a t k = some r → r.length + k ≤ t.length := by
  intro t r k h
  obtain ⟨u, rfl, hu⟩ := skip_split h
  have := hu.len
  simp; omega
theorem F_impl_endAt_eq {a t : List Int} (ha : sigOk a = true) (hs : Small t) (hm : ∀ x ∈ t, -24 ≤ x) {i : Nat} (hi : i ≤ t.length) : F_impl_endAt a t i = some (endI a t i) := by
  have key : Okk True (F_impl_cursor_skip a t i) fun r => match Tm.skip a (t.drop i) 1 with | some q => r = (true, (t.length : Int) - q.length) | none => r.1 = false := by
    unfold F_impl_cursor_skip
    refine Okk.loop (fun s => ∃ (k c : Nat), s = ((k : Int), (c : Int)) ∧ c ≤ t.length ∧ k ≤ 1 + 3 * c ∧ Tm.skip a (t.drop c) k = Tm.skip a (t.drop i) 1) (fun s => t.length - s.2.toNat) ⟨1, i, rfl, hi, by omega, rfl⟩ ?_
    rintro _ ⟨k, c, rfl, h1, h2, h3⟩
    simp only [F_impl_cursor_skip_l1]
    cases k with
    | zero =>
      simp only [show ¬ (0 : Int) < ((0 : Nat) : Int) by omega, decide_false, Bool.false_eq_true, if_false, Option.map_some]
      refine .some ?_
      simp only [Rnd]
      rw [← h3, skip_zero]
      simp; omega
    | succ k =>
      simp only [show (0 : Int) < ((k + 1 : Nat) : Int) by omega, decide_true, if_true, F_impl_cursor_next_eq ha hs h1, Option.bind_some]
      by_cases hc : c < t.length
      · rw [List.drop_eq_getElem_cons hc]
        rw [skip_drop hc] at h3
        simp only
        have hx := hm _ (List.getElem_mem hc)
        by_cases hlt : t[c] < a.length
        · have ho : okx a t[c] := ⟨hx, hlt⟩
          rw [if_pos ho] at h3
          have hle := ari_le ha t[c]
          simp only [hlt, if_true, show ¬ ((ari a t[c] : Nat) : Int) < 0 by omega, decide_false, Bool.false_eq_true, if_false]
          have hw1 : IntKind.i64.wrap (((k + 1 : Nat) : Int) + (ari a t[c] : Int)) = (k + 1 : Nat) + ari a t[c] := w64 (by omega) (by omega)
          rw [hw1, w64 (by omega) (by omega)]
          refine .some ⟨⟨k + ari a t[c], c + 1, by simp; omega, by omega, by omega, h3⟩, by simp; omega⟩
        · have ho : ¬ okx a t[c] := fun h => hlt h.2
          rw [if_neg ho] at h3
          simp only [hlt, if_false, show (-1 : Int) < 0 by omega, decide_true, if_true, Option.map_some]
          refine .some ?_
          simp only [Rnd]
          rw [← h3]; trivial
      · rw [List.drop_of_length_le (by omega), skip_nil] at h3
        rw [List.drop_of_length_le (by omega)]
        simp only [show (-1 : Int) < 0 by omega, decide_true, if_true, Option.map_some]
        refine .some ?_
        simp only [Rnd]
        rw [← h3]; trivial
  unfold F_impl_endAt
  obtain ⟨r, h1, h2⟩ := key.get
  rw [h1, Option.bind_some]
  unfold endI
  cases h : Tm.skip a (t.drop i) 1 with
  | none => rw [h] at h2; simp only at h2; simp [h2]
  | some q => rw [h] at h2; simp only at h2; simp [h2]
def termOk (a t : List Int) : Bool := sigOk a && (decide (1 ≤ t.length) && decide (t.length ≤ 60)) && decide (Wf a 1 t)
theorem termOk_iff {a t : List Int} : termOk a t = true ↔ sigOk a = true ∧ 1 ≤ t.length ∧ t.length ≤ 60 ∧ Wf a 1 t := by simp [termOk, and_assoc]
theorem endI_wf {a t : List Int} : endI a t 0 = (t.length : Int) ↔ Wf a 1 t := by
  unfold endI Wf
  rw [List.drop_zero]
  cases h : Tm.skip a t 1 with
  | none =>
    simp only [reduceCtorEq, iff_false]
    try omega
  | some q =>
    simp only [Option.some.injEq]
    constructor
    · intro h; exact List.length_eq_zero_iff.1 (by omega)
    · rintro rfl; simp
theorem F_impl_TermOk_eq (a t : List Int) : F_impl_TermOk a t = some (termOk a t) := by
  unfold F_impl_TermOk termOk
  rw [F_impl_SigOk_eq, Option.bind_some]
  cases ha : sigOk a with
  | false => simp
  | true =>
    simp only [if_true, Bool.true_and]
    by_cases h1 : 1 ≤ t.length
    · by_cases h2 : t.length ≤ 60
      · have e1 : (0 : Int) < t.length := by omega
        have e2 : (t.length : Int) ≤ 60 := by omega
        simp only [e1, e2, h1, h2, decide_true, if_true, Bool.and_self, Bool.true_and]
        obtain ⟨m, h3, h4⟩ := (F_slices_Min_ok (x := t) (by omega) (show t.length < _ by omega)).get
        rw [h3, Option.bind_some]
        by_cases h5 : -24 ≤ m
        · simp only [h5, decide_true, if_true]
          have := F_impl_endAt_eq ha (show t.length < _ by omega) ((h4 _).1 h5) (i := 0) (by omega)
          rw [show ((0 : Nat) : Int) = 0 by rfl] at this
          rw [this, Option.bind_some]
          by_cases hw : Wf a 1 t
          · simp [hw, endI_wf.2 hw]
          · have := mt endI_wf.1 hw
            simp [hw, this]
        · have hw : ¬ Wf a 1 t := fun hw => h5 ((h4 _).2 fun y hy => (hw.all y hy).1)
          simp [h5, hw]
      · have e2 : ¬ (t.length : Int) ≤ 60 := by omega
        have e1 : (0 : Int) < t.length := by omega
        simp [e1, e2, h2]
    · have e1 : ¬ (0 : Int) < t.length := by omega
      simp only [e1, h1, decide_false, Bool.false_eq_true, if_false, Bool.false_and]
theorem F_spec_l1Arity_eq {a : List Int} (ha : sigOk a = true) (x : Int) : F_spec_l1Arity a x = some (if okx a x then (ari a x : Int) else -1) := by
  have hl := (sigOk_iff.1 ha).2.1
  unfold F_spec_l1Arity
  simp only [F_spec_l1In_eq, Option.bind_some, w64 (n := (a.length : Int) - 1) (by omega) (by omega)]
  by_cases h1 : -24 ≤ x
  · by_cases h2 : x ≤ -1
    · simp [h1, h2, okx, ari, show x < 0 by omega, show x < (a.length : Int) by omega]
    · by_cases h3 : x < a.length
      · have hx : x.toNat < a.length := by omega
        have := (sigOk_iff.1 ha).2.2 _ (getD_mem hx)
        simp only [h1, h2, h3, okx, show 0 ≤ x by omega, show x ≤ (a.length : Int) - 1 by omega, decide_true, decide_false, Bool.and_false, Bool.and_self, Bool.false_eq_true, if_false, and_self, if_true, ari, show ¬ x < 0 by omega]
        rw [show a.getD x.toNat 0 = a.getD x.toNat default from rfl]
        rw [show ((a.getD x.toNat default).toNat : Int) = a.getD x.toNat default by omega]
      · simp [h1, h2, h3, okx, show ¬ x ≤ (a.length : Int) - 1 by omega]
  · simp [h1, okx, show ¬ 0 ≤ x by omega]
theorem F_spec_l1End_eq {a t : List Int} (ha : sigOk a = true) (hs : Small t) {i : Nat} (hi : i ≤ t.length) : F_spec_l1End a t i = some (endI a t i) := by
  have key : Okk True (F_spec_l1End a t i) (· = endI a t i) := by
    unfold F_spec_l1End
    refine Okk.loop (fun s : Int × Int => ∃ (k c : Nat), s = (((k + 1 : Nat) : Int), (c : Int)) ∧ c ≤ t.length ∧ k ≤ 3 * c ∧ Tm.skip a (t.drop c) (k + 1) = Tm.skip a (t.drop i) 1) (fun s : Int × Int => t.length - s.2.toNat) ⟨0, i, rfl, hi, by omega, rfl⟩ ?_
    rintro _ ⟨k, c, rfl, h1, h2, h3⟩
    simp only [F_spec_l1End_l1]
    by_cases hc : c < t.length
    · rw [skip_drop hc] at h3
      have hc' : (c : Int) < t.length := by omega
      simp only [hc', decide_true, if_true, show (0 : Int) ≤ c by omega, and_self, Int.toNat_natCast, getD_get hc, F_spec_l1Arity_eq ha, Option.bind_some]
      have hle := ari_le ha t[c]
      by_cases ho : okx a t[c]
      · rw [if_pos ho] at h3
        simp only [ho, if_true, show ¬ ((ari a t[c] : Nat) : Int) < 0 by omega, decide_false, Bool.false_eq_true, if_false]
        rw [w64 (n := ((k + 1 : Nat) : Int) + (ari a t[c] : Int)) (by omega) (by omega), w64 (n := ((k + 1 : Nat) : Int) + (ari a t[c] : Int) - 1) (by omega) (by omega), w64 (n := (c : Int) + 1) (by omega) (by omega)]
        cases hk : k + ari a t[c] with
        | zero =>
          rw [hk, skip_zero] at h3
          have : (((k + 1 : Nat) : Int) + (ari a t[c] : Int) - 1 == 0) = true := by simp; omega
          simp only [this, if_true, Option.map_some]
          refine .some ?_
          simp only [Rnd, endI]
          rw [← h3]
          simp; omega
        | succ q =>
          have : ¬ (((k + 1 : Nat) : Int) + (ari a t[c] : Int) - 1 == 0) = true := by simp; omega
          simp only [this, if_false]
          refine .some ⟨⟨q, c + 1, by simp; omega, by omega, by omega, by rw [← hk]; exact h3⟩, by simp; omega⟩
      · rw [if_neg ho] at h3
        simp only [ho, if_false, show (-1 : Int) < 0 by omega, decide_true, if_true, Option.map_some]
        refine .some ?_
        simp only [Rnd, endI]
        rw [← h3]
    · have hc' : ¬ (c : Int) < t.length := by omega
      rw [List.drop_of_length_le (by omega), skip_nil] at h3
      simp only [hc', decide_false, Bool.false_eq_true, if_false, Option.map_some]
      refine .some ?_
      simp only [Rnd, endI]
      rw [← h3]
  exact key.eq
theorem F_spec_TermOk_eq (a t : List Int) : F_spec_TermOk a t = some (termOk a t) := by
  unfold F_spec_TermOk termOk
  rw [F_spec_SigOk_eq, Option.bind_some]
  cases ha : sigOk a with
  | false => simp
  | true =>
    simp only [if_true, Bool.true_and, F_spec_l1In_eq, Option.bind_some]
    have e : (decide ((1 : Int) ≤ t.length) && decide ((t.length : Int) ≤ 60)) = (decide (1 ≤ t.length) && decide (t.length ≤ 60)) := by
      congr 1 <;> exact decide_eq_decide.2 (by omega)
    rw [e]
    by_cases h : 1 ≤ t.length ∧ t.length ≤ 60
    · simp only [h.1, h.2, decide_true, Bool.and_self, if_true, Bool.true_and]
      have := F_spec_l1End_eq ha (show Small t by show t.length < _; omega) (i := 0) (by omega)
      rw [show ((0 : Nat) : Int) = 0 by rfl] at this
      rw [this, Option.bind_some]
      by_cases hw : Wf a 1 t
      · simp [hw, endI_wf.2 hw]
      · have := mt endI_wf.1 hw
        simp [hw, this]
    · have : (decide (1 ≤ t.length) && decide (t.length ≤ 60)) = false := by simp; omega
      simp [this]
theorem F_slices_Contains_eq {s : List Int} (hs : Small s) (v : Int) : F_slices_Contains_int64_int64 s v = some (decide (v ∈ s)) := by
  have key : Okk True (F_slices_Index_int64_int64 s v) fun r => 0 ≤ r ↔ v ∈ s := by
    unfold F_slices_Index_int64_int64
    refine Okk.loop (fun i' : Int => ∃ i : Nat, i' = i ∧ i ≤ s.length ∧ v ∉ s.take i) (fun i' : Int => s.length - i'.toNat) ⟨0, rfl, by omega, by simp⟩ ?_
    rintro _ ⟨i, rfl, h1, h2⟩
    simp only [F_slices_Index_int64_int64_l1]
    by_cases hi : i < s.length
    · have hi' : (i : Int) < s.length := by omega
      simp only [hi', decide_true, if_true, show (0 : Int) ≤ i by omega, and_self, Int.toNat_natCast, getD_get hi, w64 (n := (i : Int) + 1) (by omega) (by omega)]
      by_cases hv : v = s[i]
      · simp only [hv, beq_self_eq_true, if_true, Option.map_some]
        refine .some ?_
        simp only [Rnd]
        exact ⟨fun _ => List.getElem_mem hi, fun _ => by omega⟩
      · have : ¬ (v == s[i]) = true := by simpa using hv
        simp only [this, if_false]
        refine .some ⟨⟨i + 1, by simp, by omega, ?_⟩, by simp; omega⟩
        rw [List.take_add_one, List.getElem?_eq_getElem hi, List.mem_append]
        rintro (h | h)
        · exact h2 h
        · exact hv (by simpa using h)
    · have hi' : ¬ (i : Int) < s.length := by omega
      simp only [hi', decide_false, Bool.false_eq_true, if_false, Option.map_some]
      refine .some ?_
      rw [List.take_of_length_le (by omega)] at h2
      simp only [Rnd]
      exact ⟨fun h => by omega, fun h => absurd h h2⟩
  unfold F_slices_Contains_int64_int64
  obtain ⟨r, h1, h2⟩ := key.get
  rw [h1, Option.bind_some]
  congr 1
  exact decide_eq_decide.2 h2
theorem F_spec_l1Has_eq {s : List Int} (hs : Small s) (v : Int) : F_spec_l1Has s v = some (decide (v ∈ s)) := by
  unfold F_spec_l1Has
  rw [loop_any (xs := s) (p := fun x => x == v) (y := true) (n := false) (fun i x hi hi' _ hx => ?_) (by simp [F_spec_l1Has_l1])]
  · congr 1
    by_cases h : v ∈ s
    · have : s.any (fun x => x == v) = true := List.any_eq_true.2 ⟨v, h, by simp⟩
      simp [this, h]
    · have : s.any (fun x => x == v) = false := by
        rw [List.any_eq_false]
        intro x hx he
        have : x = v := by simpa using he
        subst this; exact h hx
      simp [this, h]
  · simp only [F_spec_l1Has_l1, hi', decide_true, if_true, Int.toNat_natCast, show (0 : Int) ≤ i by omega, and_self, hx, w64 (n := (i : Int) + 1) (by have := hs; omega) (by have := hs; omega)]
    by_cases h : (x == v) = true
    · simp [h]
    · simp [h]
def varIn (l : List Int) (x : Int) : Bool := decide (x < 0 → x ∈ l)
def ruleOk (a : List Int) (r : List Int × List Int) : Bool := termOk a r.1 && (termOk a r.2 && (decide (0 ≤ r.1.headD 0) && r.2.all (varIn r.1)))
def sysOk (s : List Int × List (List Int × List Int)) : Bool := sigOk s.1 && (decide (s.2.length ≤ 12) && s.2.all (ruleOk s.1))
theorem headD_getD {l : List Int} (h : 0 < l.length) : l.getD 0 default = l.headD 0 := by cases l with | nil => simp at h | cons x l => rfl
theorem F_impl_RuleOk_eq (a : List Int) (r : List Int × List Int) : F_impl_RuleOk a r = some (ruleOk a r) := by
  unfold F_impl_RuleOk ruleOk
  rw [F_impl_TermOk_eq, F_impl_TermOk_eq, Option.bind_some]
  cases h1 : termOk a r.1 with
  | false => simp
  | true =>
    rw [Option.bind_some]
    cases h2 : termOk a r.2 with
    | false => simp
    | true =>
      have e1 := termOk_iff.1 h1
      have e2 := termOk_iff.1 h2
      have e3 : (0 : Int) < r.1.length := by omega
      simp only [if_true, Int.le_refl, e3, and_self, Bool.true_and, and_true]
      rw [headD_getD (by omega)]
      by_cases h3 : r.1.headD 0 < 0
      · simp [-List.headD_eq_head?_getD, h3, show ¬ 0 ≤ r.1.headD 0 by omega]
      · simp only [h3, decide_false, Bool.false_eq_true, if_false, show 0 ≤ r.1.headD 0 by omega, decide_true, Bool.true_and]
        refine loop_all (fun i x hi hi' _ hx => ?_) (by simp [F_impl_RuleOk_l1])
        simp only [F_impl_RuleOk_l1, hi', decide_true, if_true, Int.toNat_natCast, show (0 : Int) ≤ i by omega, and_self, hx, w64 (n := (i : Int) + 1) (by omega) (by omega), varIn,
          F_slices_Contains_eq (show Small r.1 by show r.1.length < _; omega), Option.bind_some]
        by_cases h4 : x < 0 <;> by_cases h5 : x ∈ r.1 <;> simp [h4, h5]
theorem F_spec_RuleOk_eq (a : List Int) (r : List Int × List Int) : F_spec_RuleOk a r = some (ruleOk a r) := by
  unfold F_spec_RuleOk ruleOk
  rw [F_spec_TermOk_eq, F_spec_TermOk_eq, Option.bind_some]
  cases h1 : termOk a r.1 with
  | false => simp
  | true =>
    rw [Option.bind_some]
    cases h2 : termOk a r.2 with
    | false => simp
    | true =>
      have e1 := termOk_iff.1 h1
      have e2 := termOk_iff.1 h2
      have e3 : (0 : Int) < r.1.length := by omega
      simp only [if_true, Int.le_refl, e3, and_self, Bool.true_and, and_true]
      rw [headD_getD (by omega)]
      by_cases h3 : r.1.headD 0 < 0
      · simp [-List.headD_eq_head?_getD, h3, show ¬ 0 ≤ r.1.headD 0 by omega]
      · simp only [h3, decide_false, Bool.false_eq_true, if_false, show 0 ≤ r.1.headD 0 by omega, decide_true, Bool.true_and]
        refine loop_all (fun i x hi hi' _ hx => ?_) (by simp [F_spec_RuleOk_l1])
        simp only [F_spec_RuleOk_l1, hi', decide_true, if_true, Int.toNat_natCast, show (0 : Int) ≤ i by omega, and_self, hx, w64 (n := (i : Int) + 1) (by omega) (by omega), varIn,
          F_spec_l1Has_eq (show Small r.1 by show r.1.length < _; omega), Option.bind_some]
        by_cases h4 : x < 0 <;> by_cases h5 : x ∈ r.1 <;> simp [h4, h5]
theorem F_impl_SystemOk_eq (s : List Int × List (List Int × List Int)) : F_impl_SystemOk s = some (sysOk s) := by
  unfold F_impl_SystemOk sysOk
  rw [F_impl_SigOk_eq, Option.bind_some]
  cases h1 : sigOk s.1 with
  | false => simp
  | true =>
    by_cases h2 : 12 < (s.2.length : Int)
    · simp [h2, show ¬ s.2.length ≤ 12 by omega]
    · simp only [if_true, h2, decide_false, Bool.false_eq_true, if_false, Bool.true_and, show s.2.length ≤ 12 by omega, decide_true]
      refine loop_all (fun i x hi hi' _ hx => ?_) (by simp [F_impl_SystemOk_l1])
      simp only [F_impl_SystemOk_l1, hi', decide_true, if_true, Int.toNat_natCast, show (0 : Int) ≤ i by omega, and_self, hx, w64 (n := (i : Int) + 1) (by omega) (by omega), F_impl_RuleOk_eq, Option.bind_some]
      cases ruleOk s.1 x <;> simp
theorem F_spec_SystemOk_eq (s : List Int × List (List Int × List Int)) : F_spec_SystemOk s = some (sysOk s) := by
  unfold F_spec_SystemOk sysOk
  rw [F_spec_SigOk_eq, Option.bind_some]
  cases h1 : sigOk s.1 with
  | false => simp
  | true =>
    by_cases h2 : 12 < (s.2.length : Int)
    · simp [h2, show ¬ s.2.length ≤ 12 by omega]
    · simp only [if_true, h2, decide_false, Bool.false_eq_true, if_false, Bool.true_and, show s.2.length ≤ 12 by omega, decide_true]
      refine loop_all (fun i x hi hi' _ hx => ?_) (by simp [F_spec_SystemOk_l1])
      simp only [F_spec_SystemOk_l1, hi', decide_true, if_true, Int.toNat_natCast, show (0 : Int) ≤ i by omega, and_self, hx, w64 (n := (i : Int) + 1) (by omega) (by omega), F_spec_RuleOk_eq, Option.bind_some]
      cases ruleOk s.1 x <;> simp
theorem getD_ext {s t : List Int} (hl : s.length = t.length) : (s == t) = decide (∀ i < s.length, s.getD i default = t.getD i default) := by
  have : (s == t) = decide (s = t) := by by_cases h : s = t <;> simp [h]
  rw [this]
  refine decide_eq_decide.2 ⟨fun h => by subst h; simp, fun h => ?_⟩
  refine List.ext_getElem hl fun i h1 h2 => ?_
  have := h i h1
  rwa [getD_get h1, getD_get h2] at this
theorem loop_eq {s t : List Int} (hs : Small s) (hl : s.length = t.length) {f : Int → Option (Int ⊕ Bool)}
    (h : ∀ i : Nat, i < s.length → f i = some (if s.getD i default = t.getD i default then .inl ((i : Int) + 1) else .inr false)) (he : f s.length = some (.inr true)) : loopC f 0 = some (s == t) := by
  have key : Okk True (loopC f 0) fun r => r = decide (∀ i < s.length, s.getD i default = t.getD i default) := by
    refine Okk.loop (fun i' : Int => ∃ i : Nat, i' = i ∧ i ≤ s.length ∧ ∀ j < i, s.getD j default = t.getD j default) (fun i' : Int => s.length - i'.toNat) ⟨0, rfl, by omega, by omega⟩ ?_
    rintro _ ⟨i, rfl, h1, h2⟩
    by_cases hi : i < s.length
    · rw [h i hi]
      by_cases e : s.getD i default = t.getD i default
      · rw [if_pos e]
        refine .some ⟨⟨i + 1, by simp, by omega, fun j hj => ?_⟩, by simp; omega⟩
        rcases Nat.lt_or_ge j i with h3 | h3
        · exact h2 j h3
        · obtain rfl : j = i := by omega
          exact e
      · rw [if_neg e]
        refine .some ?_
        simp only [Rnd]
        exact (decide_eq_false fun h => e (h i hi)).symm
    · obtain rfl : i = s.length := by omega
      rw [he]
      refine .some ?_
      simp only [Rnd]
      exact (decide_eq_true h2).symm
  rw [getD_ext hl]
  obtain ⟨r, h1, h2⟩ := key.get
  rw [h1, h2]
theorem F_slices_Equal_eq {s t : List Int} (hs : Small s) : F_slices_Equal_int64_int64 s t = some (s == t) := by
  unfold F_slices_Equal_int64_int64
  by_cases hl : s.length = t.length
  · have : ¬ ((s.length : Int) != (t.length : Int)) = true := by simp; omega
    rw [if_neg this]
    refine loop_eq hs hl (fun i hi => ?_) (by simp [F_slices_Equal_int64_int64_l1])
    simp only [F_slices_Equal_int64_int64_l1, show (i : Int) < s.length by omega, show (i : Int) < t.length by omega, decide_true, if_true, show (0 : Int) ≤ i by omega, and_self, Int.toNat_natCast,
      w64 (n := (i : Int) + 1) (by have := hs; omega) (by have := hs; omega)]
    by_cases e : s.getD i default = t.getD i default
    · simp only [e, bne_self_eq_false, Bool.false_eq_true, if_false, if_true]
    · have : (s.getD i default != t.getD i default) = true := by simpa using e
      simp only [this, e, if_true, if_false, Option.map_some]
  · have : ((s.length : Int) != (t.length : Int)) = true := by simp; omega
    rw [if_pos this]
    congr 1
    symm
    rw [beq_eq_false_iff_ne]
    rintro rfl; exact hl rfl
theorem F_spec_SameTerm_eq {s t : List Int} (hs : Small s) : F_spec_SameTerm s t = some (s == t) := by
  unfold F_spec_SameTerm
  by_cases hl : s.length = t.length
  · have : ¬ ((s.length : Int) != (t.length : Int)) = true := by simp; omega
    rw [if_neg this]
    refine loop_eq hs hl (fun i hi => ?_) (by simp [F_spec_SameTerm_l1])
    simp only [F_spec_SameTerm_l1, show (i : Int) < s.length by omega, show (i : Int) < t.length by omega, decide_true, if_true, show (0 : Int) ≤ i by omega, and_self, Int.toNat_natCast,
      w64 (n := (i : Int) + 1) (by have := hs; omega) (by have := hs; omega)]
    by_cases e : s.getD i default = t.getD i default
    · simp only [e, bne_self_eq_false, Bool.false_eq_true, if_false, if_true]
    · have : (s.getD i default != t.getD i default) = true := by simpa using e
      simp only [this, e, if_true, if_false, Option.map_some]
  · have : ((s.length : Int) != (t.length : Int)) = true := by simp; omega
    rw [if_pos this]
    congr 1
    symm
    rw [beq_eq_false_iff_ne]
    rintro rfl; exact hl rfl
theorem F_spec_l1Copy_eq {l : List Int} (hs : Small l) : F_spec_l1Copy l = some l := by
  unfold F_spec_l1Copy; rw [if_pos (by have := hs; omega)]
theorem F_slices_Clone_eq {l : List Int} (hs : Small l) : F_slices_Clone_int64_int64 l = some l := by
  unfold F_slices_Clone_int64_int64
  refine (Okk.amb (t := True) (P := (· = l)) ?_ fun h => ?_).eq
  · rw [if_pos (by have := hs; omega)]; exact .some rfl
  · subst h; simp
theorem endI_app {a t u r : List Int} {i : Nat} (h : t.drop i = u ++ r) (hu : Wf a 1 u) : endI a t i = (t.length : Int) - r.length := by
  unfold endI; rw [h, hu.skip]
theorem take_sub {t u r : List Int} {i : Nat} (h : t.drop i = u ++ r) (hi : i ≤ t.length) : (t.take (t.length - r.length)).drop i = u := by
  have hl := congrArg List.length h
  simp at hl
  rw [List.drop_take, h, List.take_append_of_le_length (by omega), List.take_of_length_le (by omega)]
theorem F_impl_subAt_eq {a t u r : List Int} (ha : sigOk a = true) (hs : Small t) (hm : ∀ x ∈ t, -24 ≤ x) {i : Nat} (h : t.drop i = u ++ r) (hu : Wf a 1 u) : F_impl_subAt a t i = some u := by
  have hl := congrArg List.length h
  have hul := hu.len
  simp at hl
  have hi : i ≤ t.length := by omega
  unfold F_impl_subAt
  rw [F_impl_endAt_eq ha hs hm hi, Option.bind_some, endI_app h hu, if_pos (by omega), show ((t.length : Int) - r.length).toNat = t.length - r.length by omega, Int.toNat_natCast, take_sub h hi]
theorem F_spec_l1Sub_eq {a t u r : List Int} (ha : sigOk a = true) (hs : Small t) {i : Nat} (h : t.drop i = u ++ r) (hu : Wf a 1 u) : F_spec_l1Sub a t i = some u := by
  have hl := congrArg List.length h
  have hul := hu.len
  simp at hl
  have hi : i ≤ t.length := by omega
  unfold F_spec_l1Sub
  rw [F_spec_l1End_eq ha hs hi, Option.bind_some, endI_app h hu, if_pos (by omega), show ((t.length : Int) - r.length).toNat = t.length - r.length by omega, Int.toNat_natCast, take_sub h hi,
    F_spec_l1Copy_eq (by show u.length < _; have := hs; omega)]
  rfl
def encB (o : Option Bd) (r : Bd × Bool) : Prop := match o with | some b => r = (b, true) | none => r.2 = false
structure MSt (a p t : List Int) (b0 b : Bd) (i c : Nat) : Prop where
  hi : i ≤ p.length
  hc : c ≤ t.length
  hb : b.length = 24
  hsm : ∀ u ∈ b, u.length ≤ 60
  k : ∃ k, Wf a k (p.drop i) ∧ Wf a k (t.drop c)
  m : mat a (p.drop i) (t.drop c) b = mat a p t b0
theorem MSt.var {a p t : List Int} {b0 b : Bd} {i c : Nat} (h : MSt a p t b0 b i c) (hi : i < p.length) (hn : p[i] < 0) : ∃ u r, t.drop c = u ++ r ∧ Wf a 1 u ∧ c + u.length ≤ t.length ∧ okx a p[i] ∧
    mat a p t b0 = (if bget b p[i] = [] then mat a (p.drop (i + 1)) (t.drop (c + u.length)) (bset b p[i] u) else if bget b p[i] = u then mat a (p.drop (i + 1)) (t.drop (c + u.length)) b else none) ∧
    ∃ k, Wf a k (p.drop (i + 1)) ∧ Wf a k (t.drop (c + u.length)) := by
  obtain ⟨k, h1, h2⟩ := h.k
  rw [List.drop_eq_getElem_cons hi] at h1
  cases k with
  | zero => have := h1.zero; cases this
  | succ k =>
    obtain ⟨ho, h1⟩ := Wf.cons_iff.1 h1
    rw [show k + 1 = 1 + k by omega] at h2
    obtain ⟨u, r, e, hu, hr⟩ := h2.split
    have hr' : t.drop (c + u.length) = r := by rw [← List.drop_drop, e, List.drop_left]
    have hl := congrArg List.length e
    simp at hl
    have := hu.len
    refine ⟨u, r, e, hu, by omega, ho, ?_, k, ?_, by rw [hr']; exact hr⟩
    · rw [← h.m, List.drop_eq_getElem_cons hi, e, mat_var hn hu, hr']
    · have ha : ari a p[i] = 0 := by simp [ari, hn]
      rwa [ha, Nat.add_zero] at h1
theorem MSt.sym {a p t : List Int} {b0 b : Bd} {i c : Nat} (h : MSt a p t b0 b i c) (hi : i < p.length) (hn : ¬ p[i] < 0) : ∃ hc : c < t.length, okx a p[i] ∧ mat a p t b0 = (if t[c] = p[i] then mat a (p.drop (i + 1)) (t.drop (c + 1)) b else none) ∧
    (t[c] = p[i] → ∃ k, Wf a k (p.drop (i + 1)) ∧ Wf a k (t.drop (c + 1))) := by
  obtain ⟨k, h1, h2⟩ := h.k
  rw [List.drop_eq_getElem_cons hi] at h1
  cases k with
  | zero => have := h1.zero; cases this
  | succ k =>
    obtain ⟨ho, h1⟩ := Wf.cons_iff.1 h1
    have hc : c < t.length := by
      rcases Nat.lt_or_ge c t.length with h | h
      · exact h
      · rw [List.drop_of_length_le h] at h2; have := h2.len; simp at this
    rw [List.drop_eq_getElem_cons hc] at h2
    obtain ⟨ho', h2⟩ := Wf.cons_iff.1 h2
    refine ⟨hc, ho, ?_, fun e => ⟨k + ari a p[i], h1, by rw [← e]; exact h2⟩⟩
    rw [← h.m, List.drop_eq_getElem_cons hi, List.drop_eq_getElem_cons hc, mat_sym hn]
theorem MSt.at_lt {a p t : List Int} {b0 b : Bd} {i c : Nat} (h : MSt a p t b0 b i c) (hi : i < p.length) : c < t.length := by
  obtain ⟨k, h1, h2⟩ := h.k
  rw [List.drop_eq_getElem_cons hi] at h1
  cases k with
  | zero => have := h1.zero; cases this
  | succ k =>
    rcases Nat.lt_or_ge c t.length with h | h
    · exact h
    · rw [List.drop_of_length_le h] at h2; have := h2.len; simp at this
theorem bset_small {b : Bd} {n : Int} {u : List Int} (hs : ∀ u ∈ b, u.length ≤ 60) (hu : u.length ≤ 60) : ∀ v ∈ bset b n u, v.length ≤ 60 := fun v hv => by
  rcases List.mem_or_eq_of_mem_set hv with h | h
  · exact hs v h
  · subst h; exact hu
theorem bget_small {b : Bd} {n : Int} (hs : ∀ u ∈ b, u.length ≤ 60) : (bget b n).length ≤ 60 := by
  unfold bget
  rw [List.getD_eq_getElem?_getD]
  cases h : b[(-1 - n).toNat]? with
  | none => simp
  | some u => exact hs u (List.mem_of_getElem? h)
theorem F_impl_matchInto_ok {a p t : List Int} {b0 : Bd} (ha : sigOk a = true) (hp : Wf a 1 p) (ht : Wf a 1 t) (hpl : p.length ≤ 60) (htl : t.length ≤ 60) (hb : b0.length = 24) (hbs : ∀ u ∈ b0, u.length ≤ 60) :
    Okk True (F_impl_matchInto a p t b0) (fun r => encB (mat a p t b0) r ∧ r.1.length = 24) := by
  unfold F_impl_matchInto
  refine Okk.loop (fun s : Int × Int × Bd => ∃ i c : Nat, s.1 = (c : Int) ∧ s.2.1 = (i : Int) ∧ MSt a p t b0 s.2.2 i c) (fun s : Int × Int × Bd => p.length - s.2.1.toNat)
    ⟨0, 0, rfl, rfl, by omega, by omega, hb, hbs, ⟨1, by simpa using hp, by simpa using ht⟩, by simp⟩ ?_
  rintro ⟨_, _, b⟩ ⟨i, c, rfl, rfl, h⟩
  simp only at h
  have hb := h.hb
  simp only [F_impl_matchInto_l1]
  by_cases hi : i < p.length
  · have hc := h.at_lt hi
    simp only [show (i : Int) < p.length by omega, show ¬ (t.length : Int) ≤ c by omega, decide_true, decide_false, if_true, show (0 : Int) ≤ i by omega, show (0 : Int) ≤ c by omega, show (c : Int) < t.length by omega, and_self,
      Bool.false_eq_true, if_false, Int.toNat_natCast, getD_get hi, getD_get hc, w64 (n := (i : Int) + 1) (by omega) (by omega), w64 (n := (c : Int) + 1) (by omega) (by omega)]
    by_cases hn : p[i] < 0
    · obtain ⟨u, r, e, hu, hl, ho, hm, hk⟩ := h.var hi hn
      have hul := hu.len
      have hx : -24 ≤ p[i] := ho.1
      have hlt : (-1 - p[i]).toNat < b.length := by omega
      simp only [show ¬ 0 ≤ p[i] by omega, decide_false, Bool.false_eq_true, if_false, F_impl_subAt_eq ha (show Small t by show t.length < _; omega) (fun x hx => (ht.all x hx).1) e hu, Option.bind_some,
        w64 (n := -1 - p[i]) (by omega) (by omega), show 0 ≤ -1 - p[i] by omega, show -1 - p[i] < 24 by omega, show -1 - p[i] < (b.length : Int) by omega, and_self, if_true, hb, show ((-1 : Int) - p[i] < ((24 : Nat) : Int)) by omega,
        w64 (n := (c : Int) + u.length) (by omega) (by omega)]
      have eg : b.getD (-1 - p[i]).toNat default = bget b p[i] := rfl
      rw [eg]
      by_cases h0 : bget b p[i] = []
      · rw [if_pos h0] at hm
        simp only [h0, List.isEmpty_nil, if_true, show 0 < u.length by omega]
        exact .some ⟨⟨i + 1, c + u.length, by simp, by simp, by omega, by omega, by simpa using hb, bset_small h.hsm (by omega), hk, by rw [hm]; rfl⟩, by simp; omega⟩
      · rw [if_neg h0] at hm
        have : ¬ (bget b p[i]).isEmpty = true := by simpa using h0
        simp only [this, if_false, F_slices_Equal_eq (show Small (bget b p[i]) by show List.length _ < _; have := bget_small (n := p[i]) h.hsm; omega), Option.bind_some]
        by_cases h1 : bget b p[i] = u
        · rw [if_pos h1] at hm
          simp only [h1, beq_self_eq_true, if_true]
          exact .some ⟨⟨i + 1, c + u.length, by simp, by simp, by omega, by omega, hb, h.hsm, hk, hm.symm⟩, by simp; omega⟩
        · rw [if_neg h1] at hm
          have : ¬ (bget b p[i] == u) = true := by simpa using h1
          simp only [this, if_false, Option.map_some]
          refine .some ?_
          simp only [Rnd, encB, hm]
          exact ⟨trivial, hb⟩
    · obtain ⟨hc', ho, hm, hk⟩ := h.sym hi hn
      simp only [show 0 ≤ p[i] by omega, decide_true, if_true]
      by_cases e : t[c] = p[i]
      · rw [if_pos e] at hm
        simp only [e, bne_self_eq_false, Bool.false_eq_true, if_false]
        exact .some ⟨⟨i + 1, c + 1, by simp, by simp, by omega, by omega, hb, h.hsm, hk e, hm.symm⟩, by simp; omega⟩
      · rw [if_neg e] at hm
        have : (t[c] != p[i]) = true := by simpa using e
        simp only [this, if_true, hb, Option.map_some]
        refine .some ?_
        simp only [Rnd, encB, hm]
        exact ⟨trivial, hb⟩
  · have hm := h.m
    rw [List.drop_of_length_le (by omega), mat_nil] at hm
    simp only [show ¬ (i : Int) < p.length by omega, decide_false, Bool.false_eq_true, if_false, hb, if_true, Option.map_some]
    refine .some ?_
    simp only [Rnd, encB, ← hm]
    exact ⟨trivial, hb⟩
def plainAt (s : Bd) (i : Nat) : List Int := if s.getD i [] = [] ∨ s.getD i [] = [-1 - (i : Int)] then [] else s.getD i []
theorem plain_sig {s o : Bd} (h : ∀ i, o.getD i [] = plainAt s i) {n : Int} (hn : n < 0) : Tm.sig o n = Tm.sig s n := by
  unfold Tm.sig bget
  rw [h]
  unfold plainAt
  rw [show -1 - ((-1 - n).toNat : Int) = n by omega]
  by_cases h1 : s.getD (-1 - n).toNat [] = []
  · simp only [h1, true_or, if_true]
  · by_cases h2 : s.getD (-1 - n).toNat [] = [n]
    · simp only [h2, or_true, if_true]; simp
    · simp only [h1, h2, or_self, if_false]
theorem getD_append {s : Bd} {u : List Int} {i : Nat} : (s ++ [u]).getD i [] = if i < s.length then s.getD i [] else if i = s.length then u else [] := by
  rw [List.getD_eq_getElem?_getD]
  by_cases h : i < s.length
  · rw [if_pos h, List.getElem?_append_left h, List.getD_eq_getElem?_getD]
  · rw [if_neg h, List.getElem?_append_right (by omega)]
    by_cases h2 : i = s.length
    · subst h2; simp
    · rw [if_neg h2, List.getElem?_eq_none (by simp; omega)]; rfl
theorem getD_out {s : Bd} {i : Nat} (h : s.length ≤ i) : s.getD i [] = [] := by
  rw [List.getD_eq_getElem?_getD, List.getElem?_eq_none h]; rfl
structure PSt (s : Bd) (o : Bd) (i : Nat) : Prop where
  hi : i ≤ s.length
  hl : o.length ≤ i
  he : ∀ j < i, o.getD j [] = plainAt s j
theorem F_impl_plain_ok {s : Bd} (hl : s.length ≤ 24) (hs : ∀ u ∈ s, u.length ≤ 60) : Okk True (F_impl_plain s) fun o => o.length ≤ 24 ∧ ∀ i, o.getD i [] = plainAt s i := by
  unfold F_impl_plain
  refine Okk.loop (fun q : Int × Bd => ∃ i : Nat, q.1 = i ∧ PSt s q.2 i) (fun q : Int × Bd => s.length - q.1.toNat) ⟨0, rfl, by omega, by simp, by omega⟩ ?_
  rintro ⟨_, o⟩ ⟨i, rfl, h⟩
  simp only at h
  simp only [F_impl_plain_l1]
  by_cases hi : i < s.length
  · have hu := hs _ (List.getElem_mem hi)
    have hg : s.getD i [] = s[i] := getD_get hi
    simp only [show (i : Int) < s.length by omega, decide_true, if_true, show (0 : Int) ≤ i by omega, and_self, Int.toNat_natCast, getD_get hi, w64 (n := (i : Int) + 1) (by omega) (by omega)]
    have skip : plainAt s i = [] → Okk True (some (Sum.inl ((i : Int) + 1, o)) : Option ((Int × Bd) ⊕ Bd)) (Rnd (fun q : Int × Bd => ∃ i : Nat, q.1 = i ∧ PSt s q.2 i) (fun q : Int × Bd => s.length - q.1.toNat) (fun o => o.length ≤ 24 ∧ ∀ i, o.getD i [] = plainAt s i) (s.length - i)) := fun hp =>
      .some ⟨⟨i + 1, by simp, by omega, Nat.le_succ_of_le h.hl, fun j hj => by
        rcases Nat.lt_or_ge j i with h3 | h3
        · exact h.he j h3
        · obtain rfl : j = i := by omega
          rw [hp, getD_out h.hl]⟩, by simp; omega⟩
    by_cases h0 : s[i] = []
    · simp only [h0, List.length_nil, Int.natCast_zero, beq_self_eq_true, if_true]
      exact skip (by unfold plainAt; rw [hg, if_pos (.inl h0)])
    · have hne : ¬ (((s[i]).length : Int) == 0) = true := by
        have := List.length_pos_iff.2 h0
        simp only [beq_iff_eq]; omega
      simp only [hne, if_false, F_impl_variable, Option.bind_some, w64 (n := -1 - (i : Int)) (by omega) (by omega), F_slices_Equal_eq (show Small s[i] by show List.length _ < _; omega)]
      by_cases h1 : s[i] = [-1 - (i : Int)]
      · simp only [h1, beq_self_eq_true, if_true]
        exact skip (by unfold plainAt; rw [hg, if_pos (.inr h1)])
      · have : ¬ (s[i] == [-1 - (i : Int)]) = true := by simpa using h1
        simp only [this, if_false]
        have hp : plainAt s i = s[i] := by unfold plainAt; rw [hg, if_neg (by simp [h0, h1])]
        refine Okk.loop (fun o' : Bd => o'.length ≤ i ∧ ∀ j < i, o'.getD j [] = plainAt s j) (fun o' : Bd => i - o'.length) ⟨h.hl, h.he⟩ ?_
        rintro o' ⟨h3, h4⟩
        simp only [F_impl_plain_l2]
        by_cases h5 : o'.length < i
        · simp only [show (o'.length : Int) < i by omega, decide_true, if_true, show (o'.length + 1) * 24 ≤ 140737488355328 by omega]
          refine .some ⟨⟨by simp; omega, fun j hj => ?_⟩, by simp; omega⟩
          rw [getD_append]
          split
          · exact h4 j hj
          · have := h4 j hj
            rw [getD_out (by omega)] at this
            simp [← this]
        · simp only [show ¬ (o'.length : Int) < i by omega, decide_false, Bool.false_eq_true, if_false, show (o'.length + 1) * 24 ≤ 140737488355328 by omega, if_true]
          rw [Int.toNat_natCast, getD_get hi, F_slices_Clone_eq (show Small s[i] by show List.length _ < _; omega), Option.bind_some, Option.map_some]
          refine .some ?_
          refine ⟨⟨i + 1, by simp [w64 (n := (i : Int) + 1) (by omega) (by omega)], by omega, by simp; omega, fun j hj => ?_⟩, by simp [w64 (n := (i : Int) + 1) (by omega) (by omega)]; omega⟩
          rw [getD_append]
          split
          · exact h4 j (by omega)
          · obtain rfl : j = i := by omega
            rw [if_pos (by omega), hp]
  · simp only [show ¬ (i : Int) < s.length by omega, decide_false, Bool.false_eq_true, if_false, Option.map_some]
    refine .some ⟨by have := h.hl; have := h.hi; omega, fun j => ?_⟩
    by_cases hj : j < i
    · exact h.he j hj
    · rw [getD_out (by have := h.hl; omega)]
      unfold plainAt
      rw [getD_out (s := s) (by omega)]; simp
def MRes (o : Option Bd) (r : Bd × Bool) : Prop := match o with
  | some b => r.2 = true ∧ r.1.length ≤ 24 ∧ ∀ i, r.1.getD i [] = plainAt b i
  | none => r.2 = false
theorem mat_small {a : List Int} : ∀ {p t : List Int} {b b' : Bd}, mat a p t b = some b' → (∀ u ∈ b, u.length ≤ 60) → t.length ≤ 60 → b.length = 24 → b'.length = 24 ∧ ∀ u ∈ b', u.length ≤ 60
  | [], t, b, b', h, hs, _, hb => by rw [mat_nil] at h; cases h; exact ⟨hb, hs⟩
  | n :: p, t, b, b', h, hs, ht, hb => by
    unfold mat at h
    split at h
    · split at h
      · cases h
      · rename_i r hr
        have := skip_len hr
        simp only at h
        split at h
        · exact mat_small (b := Tm.bset b n _) h (bset_small hs (by simp; omega)) (by omega) (by simpa [Tm.bset] using hb)
        · split at h
          · exact mat_small h hs (by omega) hb
          · cases h
    · split at h
      · cases h
      · split at h
        · exact mat_small h hs (by simp at ht; omega) hb
        · cases h
theorem F_impl_match_ok {a p t : List Int} (ha : sigOk a = true) (hp : Wf a 1 p) (ht : Wf a 1 t) (hpl : p.length ≤ 60) (htl : t.length ≤ 60) : Okk True (F_impl_match a p t) (MRes (mat a p t none24)) := by
  unfold F_impl_match
  have hn : ∀ u ∈ none24, u.length ≤ 60 := by intro u hu; simp [none24] at hu; subst hu; simp
  obtain ⟨r, h1, h2, h3⟩ := (F_impl_matchInto_ok ha hp ht hpl htl (b0 := none24) (by simp [none24]) hn).get
  rw [show (List.replicate 24 [] : Bd) = none24 from rfl, h1, Option.bind_some, if_pos h3]
  cases hm : mat a p t none24 with
  | none =>
    rw [hm] at h2
    simp only [encB] at h2
    simp only [h2, Bool.false_eq_true, if_false]
    exact .some rfl
  | some b =>
    rw [hm] at h2
    simp only [encB] at h2
    subst h2
    obtain ⟨h4, h5⟩ := mat_small hm hn htl (by simp [none24])
    simp only [if_true, h4, F_impl_bindings_subst, Option.bind_some]
    refine Okk.bind (F_impl_plain_ok (by omega) h5) fun o ho => .some ⟨rfl, ho.1, ho.2⟩
theorem F_spec_l2Gives_eq {s : Bd} (hs : ∀ u ∈ s, u.length ≤ 60) (hl : s.length ≤ 24) {i : Nat} (hi : i ≤ 24) : F_spec_l2Gives s i = some (if s.getD i [] = [] then [-1 - (i : Int)] else s.getD i []) := by
  unfold F_spec_l2Gives
  rw [w64 (n := -1 - (i : Int)) (by omega) (by omega)]
  by_cases h : i < s.length
  · have hu := hs _ (List.getElem_mem h)
    have hg : s.getD i [] = s[i] := getD_get h
    simp only [show (i : Int) < s.length by omega, decide_true, if_true, show (0 : Int) ≤ i by omega, and_self, Int.toNat_natCast, getD_get h, hg]
    by_cases h0 : s[i] = []
    · simp [h0]
    · have := List.length_pos_iff.2 h0
      simp only [h0, if_false, show (0 : Int) < s[i].length by omega, decide_true, if_true, F_spec_l1Copy_eq (show Small s[i] by show List.length _ < _; omega), Option.bind_some]
  · simp only [show ¬ (i : Int) < s.length by omega, decide_false, Bool.false_eq_true, if_false, getD_out (s := s) (i := i) (by omega), if_true]
theorem F_spec_l2Plain_ok {s : Bd} (hl : s.length ≤ 24) (hs : ∀ u ∈ s, u.length ≤ 60) : Okk True (F_spec_l2Plain s) fun o => o.length ≤ 24 ∧ ∀ i, o.getD i [] = plainAt s i := by
  unfold F_spec_l2Plain
  refine Okk.loop (fun q : Int × Bd => ∃ i : Nat, q.1 = i ∧ i ≤ s.length ∧ q.2.length = i ∧ ∀ j < i, q.2.getD j [] = plainAt s j) (fun q : Int × Bd => s.length - q.1.toNat) ⟨0, rfl, by omega, rfl, by omega⟩ ?_
  rintro ⟨_, o⟩ ⟨i, rfl, h1, h2, h3⟩
  simp only at h2 h3
  simp only [F_spec_l2Plain_l1]
  by_cases hi : i < s.length
  · have hw : IntKind.i64.wrap ((i : Int) + 1) = i + 1 := w64 (by omega) (by omega)
    have hw2 : IntKind.i64.wrap (-1 - (i : Int)) = -1 - i := w64 (by omega) (by omega)
    have hm : (o.length + 1) * 24 ≤ 140737488355328 := by omega
    have hg : s.getD i [] = s[i] := getD_get hi
    have step : ∀ u : List Int, plainAt s i = u → Okk True (some (Sum.inl ((i : Int) + 1, o ++ [u])) : Option ((Int × Bd) ⊕ Bd)) (Rnd (fun q : Int × Bd => ∃ i : Nat, q.1 = i ∧ i ≤ s.length ∧ q.2.length = i ∧ ∀ j < i, q.2.getD j [] = plainAt s j) (fun q : Int × Bd => s.length - q.1.toNat) (fun o => o.length ≤ 24 ∧ ∀ i, o.getD i [] = plainAt s i) (s.length - i)) := fun u hu =>
      .some ⟨⟨i + 1, by simp, by omega, by simp [h2], fun j hj => by
        rw [getD_append]
        split
        · exact h3 j (by omega)
        · rw [if_pos (by omega), show j = i by omega, hu]⟩, by simp; omega⟩
    simp only [show (i : Int) < s.length by omega, decide_true, if_true, F_spec_l2Gives_eq hs hl (i := i) (by omega), Option.bind_some, hm, hw, hw2]
    by_cases h0 : s[i] = []
    · simp only [hg, h0, if_true, List.length_singleton, Int.natCast_one, beq_self_eq_true, Int.le_refl, show (0 : Int) < 1 by omega, and_self, List.getD_cons_zero]
      exact step [] (by unfold plainAt; rw [hg, if_pos (.inl h0)])
    · simp only [hg, h0, if_false]
      by_cases hlen : s[i].length = 1
      · obtain ⟨x, hx⟩ := List.length_eq_one_iff.1 hlen
        simp only [hx, List.length_singleton, Int.natCast_one, beq_self_eq_true, if_true, Int.le_refl, show (0 : Int) < 1 by omega, and_self, List.getD_cons_zero]
        by_cases e : x = -1 - (i : Int)
        · simp only [e, beq_self_eq_true, if_true]
          exact step [] (by unfold plainAt; rw [hg, if_pos (.inr (by rw [hx, e]))])
        · have : ¬ (x == -1 - (i : Int)) = true := by simpa using e
          simp only [this, if_false]
          exact step [x] (by unfold plainAt; rw [hg, hx, if_neg (by simp [e])])
      · have : ¬ ((s[i].length : Int) == 1) = true := by simp only [beq_iff_eq]; omega
        simp only [this, if_false]
        refine step s[i] ?_
        unfold plainAt
        rw [hg, if_neg]
        rintro (h | h)
        · exact h0 h
        · exact hlen (by rw [h]; rfl)
  · simp only [show ¬ (i : Int) < s.length by omega, decide_false, Bool.false_eq_true, if_false]
    have hall : ∀ j, o.getD j [] = plainAt s j := fun j => by
      by_cases hj : j < i
      · exact h3 j hj
      · rw [getD_out (by omega)]; unfold plainAt; rw [getD_out (s := s) (by omega)]; simp
    refine Okk.inr ?_
    simp only [Rnd]
    refine Okk.loop (fun o' : Bd => o'.length ≤ 24 ∧ ∀ j, o'.getD j [] = plainAt s j) (fun o' : Bd => o'.length) ⟨by omega, hall⟩ ?_
    rintro o' ⟨h4, h5⟩
    simp only [F_spec_l2Plain_l2]
    by_cases h6 : 0 < o'.length
    · have hw : IntKind.i64.wrap ((o'.length : Int) - 1) = o'.length - 1 := w64 (by omega) (by omega)
      have ht : ((o'.length : Int) - 1).toNat = o'.length - 1 := by omega
      have hlt : o'.length - 1 < o'.length := by omega
      simp only [show (0 : Int) < o'.length by omega, decide_true, if_true, hw, show 0 ≤ (o'.length : Int) - 1 by omega, show (o'.length : Int) - 1 < o'.length by omega, show (o'.length : Int) - 1 ≤ o'.length by omega, and_self, ht, getD_get hlt]
      by_cases h7 : o'[o'.length - 1] = []
      · simp only [h7, List.length_nil, Int.natCast_zero, beq_self_eq_true, if_true]
        refine .some ⟨⟨by simp; omega, fun j => ?_⟩, by simp; omega⟩
        rw [← h5 j, List.getD_eq_getElem?_getD, List.getD_eq_getElem?_getD, List.getElem?_take]
        split
        · rfl
        · by_cases hj : j = o'.length - 1
          · subst hj; rw [List.getElem?_eq_getElem hlt, h7]; rfl
          · rw [List.getElem?_eq_none (by omega)]
      · have := List.length_pos_iff.2 h7
        have : ¬ ((o'[o'.length - 1].length : Int) == 0) = true := by simp only [beq_iff_eq]; omega
        simp only [this, if_false, Option.map_some]
        exact .some ⟨h4, h5⟩
    · simp only [show ¬ (0 : Int) < o'.length by omega, decide_false, Bool.false_eq_true, if_false, Option.map_some]
      exact .some ⟨h4, h5⟩
theorem F_spec_l4Match_ok {a p t : List Int} (ha : sigOk a = true) (hp : Wf a 1 p) (ht : Wf a 1 t) (hpl : p.length ≤ 60) (htl : t.length ≤ 60) : Okk True (F_spec_l4Match a p t) (MRes (mat a p t none24)) := by
  have hn : ∀ u ∈ none24, u.length ≤ 60 := by intro u hu; simp [none24] at hu; subst hu; simp
  unfold F_spec_l4Match
  rw [show (List.replicate 24 [] : Bd) = none24 from rfl]
  refine Okk.loop (fun s : Int × Int × Bd => ∃ i c : Nat, s.1 = (c : Int) ∧ s.2.1 = (i : Int) ∧ MSt a p t none24 s.2.2 i c) (fun s : Int × Int × Bd => p.length - s.2.1.toNat)
    ⟨0, 0, rfl, rfl, by omega, by omega, by simp [none24], hn, ⟨1, by simpa using hp, by simpa using ht⟩, by simp⟩ ?_
  rintro ⟨_, _, b⟩ ⟨i, c, rfl, rfl, h⟩
  simp only at h
  have hb := h.hb
  simp only [F_spec_l4Match_l1]
  by_cases hi : i < p.length
  · have hc := h.at_lt hi
    simp only [show (i : Int) < p.length by omega, show ¬ (t.length : Int) ≤ c by omega, decide_true, decide_false, if_true, show (0 : Int) ≤ i by omega, show (0 : Int) ≤ c by omega, show (c : Int) < t.length by omega, and_self,
      Bool.false_eq_true, if_false, Int.toNat_natCast, getD_get hi, getD_get hc, w64 (n := (i : Int) + 1) (by omega) (by omega), w64 (n := (c : Int) + 1) (by omega) (by omega)]
    by_cases hn : p[i] < 0
    · obtain ⟨u, r, e, hu, hl, ho, hm, hk⟩ := h.var hi hn
      have hul := hu.len
      have hx : -24 ≤ p[i] := ho.1
      have hlt : (-1 - p[i]).toNat < b.length := by omega
      simp only [show ¬ 0 ≤ p[i] by omega, decide_false, Bool.false_eq_true, if_false, F_spec_l1Sub_eq ha (show Small t by show t.length < _; omega) e hu, Option.bind_some,
        w64 (n := -1 - p[i]) (by omega) (by omega), show 0 ≤ -1 - p[i] by omega, show -1 - p[i] < 24 by omega, and_self, if_true, hb, show ((-1 : Int) - p[i] < ((24 : Nat) : Int)) by omega,
        w64 (n := (c : Int) + u.length) (by omega) (by omega)]
      have eg : b.getD (-1 - p[i]).toNat default = bget b p[i] := rfl
      rw [eg]
      by_cases h0 : bget b p[i] = []
      · rw [if_pos h0] at hm
        simp only [h0, List.length_nil, Int.natCast_zero, Int.lt_irrefl, decide_false, Bool.false_eq_true, if_false]
        exact .some ⟨⟨i + 1, c + u.length, by simp, by simp, by omega, by omega, by simpa using hb, bset_small h.hsm (by omega), hk, by rw [hm]; rfl⟩, by simp; omega⟩
      · rw [if_neg h0] at hm
        have hp0 := List.length_pos_iff.2 h0
        simp only [show (0 : Int) < ((bget b p[i]).length : Int) by omega, decide_true, if_true, F_spec_SameTerm_eq (show Small (bget b p[i]) by show List.length _ < _; have := bget_small (n := p[i]) h.hsm; omega), Option.bind_some]
        by_cases h1 : bget b p[i] = u
        · rw [if_pos h1] at hm
          simp only [h1, beq_self_eq_true, if_true]
          have hset : b.set (-1 - p[i]).toNat u = b := by
            have : b[(-1 - p[i]).toNat] = u := by rw [← h1]; exact (getD_get hlt).symm
            rw [← this]; exact List.set_getElem_self hlt
          rw [hset]
          exact .some ⟨⟨i + 1, c + u.length, by simp, by simp, by omega, by omega, hb, h.hsm, hk, hm.symm⟩, by simp; omega⟩
        · rw [if_neg h1] at hm
          have : ¬ (bget b p[i] == u) = true := by simpa using h1
          simp only [this, if_false, Option.map_some]
          refine .some ?_
          simp only [Rnd, MRes, hm]
    · obtain ⟨hc', ho, hm, hk⟩ := h.sym hi hn
      simp only [show 0 ≤ p[i] by omega, decide_true, if_true]
      by_cases e : t[c] = p[i]
      · rw [if_pos e] at hm
        simp only [e, bne_self_eq_false, Bool.false_eq_true, if_false]
        exact .some ⟨⟨i + 1, c + 1, by simp, by simp, by omega, by omega, hb, h.hsm, hk e, hm.symm⟩, by simp; omega⟩
      · rw [if_neg e] at hm
        have : (p[i] != t[c]) = true := by simpa using fun h => e h.symm
        simp only [this, if_true, Option.map_some]
        refine .some ?_
        simp only [Rnd, MRes, hm]
  · have hm := h.m
    rw [List.drop_of_length_le (by omega), mat_nil] at hm
    simp only [show ¬ (i : Int) < p.length by omega, decide_false, Bool.false_eq_true, if_false, hb, if_true]
    refine Okk.inr ?_
    refine Okk.bind (F_spec_l2Plain_ok (by omega) h.hsm) fun o ho => .some ?_
    simp only [Rnd, MRes, ← hm]
    exact ⟨trivial, ho.1, ho.2⟩
theorem sub_take {σ : Int → List Int} {t : List Int} {i : Nat} (hi : i < t.length) : sub σ (t.take (i + 1)) = sub σ (t.take i) ++ (if t[i] < 0 then σ t[i] else [t[i]]) := by
  rw [List.take_add_one, List.getElem?_eq_getElem hi, sub_app]
  simp [sub]
theorem sub_take_le {σ : Int → List Int} {t : List Int} {i : Nat} : (sub σ (t.take i)).length ≤ (sub σ t).length := by
  have : sub σ t = sub σ (t.take i) ++ sub σ (t.drop i) := by rw [← sub_app, List.take_append_drop]
  rw [this]; simp
def fillO (σ : Int → List Int) (t : List Int) : Option (List Int) := if (sub σ t).length ≤ 60 then some (sub σ t) else none
def encO (o : Option (List Int)) : List Int × Bool := match o with | some x => (x, true) | none => ([], false)
theorem F_impl_byVar_eq {s : Bd} (hl : s.length ≤ 24) {i : Nat} (hi : i ≤ 24) : F_impl_Subst_byVar s i = some (s.getD i []) := by
  unfold F_impl_Subst_byVar
  by_cases h : i < s.length
  · have hg : s.getD i [] = s[i] := getD_get h
    simp only [show ¬ (s.length : Int) ≤ i by omega, decide_false, Bool.false_eq_true, if_false, show (0 : Int) ≤ i by omega, show (i : Int) < s.length by omega, and_self, if_true, Int.toNat_natCast, getD_get h, hg]
    by_cases h0 : s[i] = []
    · simp [h0]
    · have := List.length_pos_iff.2 h0
      have h2 : ¬ ((s[i].length : Int) == 0) = true := by simp only [beq_iff_eq]; omega
      simp only [h2, Bool.false_eq_true, if_false, this, if_true]
  · simp only [show (s.length : Int) ≤ i by omega, decide_true, if_true, getD_out (s := s) (i := i) (by omega)]
theorem fill_step {σ : Int → List Int} {t : List Int} {i : Nat} (hi : i < t.length) {out u : List Int} (ho : out = sub σ (t.take i)) (hu : u = if t[i] < 0 then σ t[i] else [t[i]]) :
    (60 < (out ++ u).length → fillO σ t = none) ∧ out ++ u = sub σ (t.take (i + 1)) := by
  have e : out ++ u = sub σ (t.take (i + 1)) := by rw [sub_take hi, ho, hu]
  refine ⟨fun h => ?_, e⟩
  rw [e] at h
  unfold fillO
  rw [if_neg]
  have := sub_take_le (σ := σ) (t := t) (i := i + 1)
  omega
theorem F_impl_fill_eq {s : Bd} {t : List Int} (hl : s.length ≤ 24) (hs : ∀ i, (s.getD i []).length ≤ 60) (ht : t.length ≤ 60) (hx : ∀ x ∈ t, -24 ≤ x) : F_impl_fill s t = some (encO (fillO (Tm.sig s) t)) := by
  have key : Okk True (F_impl_fill s t) (· = encO (fillO (Tm.sig s) t)) := by
    unfold F_impl_fill
    simp only [F_impl_Subst_lookup, Option.bind_some, show 0 ≤ (t.length : Int) ∧ 8 * (t.length : Int) ≤ 281474976710656 by omega, and_self, if_true]
    refine Okk.loop (fun q : List Int × Int => ∃ i : Nat, q.2 = i ∧ i ≤ t.length ∧ q.1 = sub (Tm.sig s) (t.take i) ∧ q.1.length ≤ 60) (fun q : List Int × Int => t.length - q.2.toNat) ⟨0, rfl, by omega, by simp [sub], by simp⟩ ?_
    rintro ⟨out, _⟩ ⟨i, rfl, h1, h2, h3⟩
    simp only at h2 h3
    simp only [F_impl_fill_l1]
    by_cases hi : i < t.length
    · have hxi := hx _ (List.getElem_mem hi)
      simp only [show (i : Int) < t.length by omega, decide_true, if_true, show (0 : Int) ≤ i by omega, and_self, Int.toNat_natCast, getD_get hi, w64 (n := (i : Int) + 1) (by omega) (by omega)]
      have fin : ∀ u : List Int, u.length ≤ 60 → u = (if t[i] < 0 then Tm.sig s t[i] else [t[i]]) → Okk True (if decide (60 < ((out ++ u).length : Int)) = true then Option.map Sum.inr (some (([] : List Int), false)) else some (Sum.inl (out ++ u, (i : Int) + 1)))
          (Rnd (fun q : List Int × Int => ∃ i : Nat, q.2 = i ∧ i ≤ t.length ∧ q.1 = sub (Tm.sig s) (t.take i) ∧ q.1.length ≤ 60) (fun q : List Int × Int => t.length - q.2.toNat) (· = encO (fillO (Tm.sig s) t)) (t.length - i)) := fun u hu e => by
        obtain ⟨h4, h5⟩ := fill_step hi h2 e
        by_cases h6 : 60 < (out ++ u).length
        · simp only [show (60 : Int) < ((out ++ u).length : Int) by omega, decide_true, if_true, Option.map_some]
          refine .some ?_
          simp only [Rnd, h4 h6, encO]
        · simp only [show ¬ (60 : Int) < ((out ++ u).length : Int) by omega, decide_false, Bool.false_eq_true, if_false]
          exact .some ⟨⟨i + 1, by simp, by omega, h5, by simp only; omega⟩, by simp; omega⟩
      unfold F_impl_Subst_lookup_1
      by_cases hn : t[i] < 0
      · have hi24 : ((-1 - t[i]).toNat : Int) = -1 - t[i] := by omega
        simp only [show ¬ 0 ≤ t[i] by omega, decide_false, Bool.false_eq_true, if_false, w64 (n := -1 - t[i]) (by omega) (by omega)]
        rw [← hi24, F_impl_byVar_eq hl (by omega), Option.bind_some, Option.bind_some]
        have hb : s.getD (-1 - t[i]).toNat [] = bget s t[i] := rfl
        rw [hb]
        have hbl : (bget s t[i]).length ≤ 60 := hs _
        by_cases h0 : bget s t[i] = []
        · simp only [h0, List.isEmpty_nil, if_true, show (out.length + 1) * 8 ≤ 140737488355328 by omega]
          exact fin [t[i]] (by simp) (by rw [if_pos hn]; unfold Tm.sig; rw [if_pos h0])
        · have : ¬ (bget s t[i]).isEmpty = true := by simpa using h0
          simp only [this, if_false, show (out.length + (bget s t[i]).length) * 8 ≤ 140737488355328 by omega, if_true]
          exact fin (bget s t[i]) hbl (by rw [if_pos hn]; unfold Tm.sig; rw [if_neg h0])
      · simp only [show 0 ≤ t[i] by omega, decide_true, if_true, Option.bind_some, List.isEmpty_nil, show (out.length + 1) * 8 ≤ 140737488355328 by omega]
        exact fin [t[i]] (by simp) (by rw [if_neg hn])
    · simp only [show ¬ (i : Int) < t.length by omega, decide_false, Bool.false_eq_true, if_false, Option.map_some]
      refine .some ?_
      rw [List.take_of_length_le (by omega)] at h2
      simp only [Rnd, fillO, ← h2, h3, if_true, encO]
  exact key.eq
theorem F_spec_l2Filled_eq {s : Bd} {t : List Int} (hl : s.length ≤ 24) (hs : ∀ u ∈ s, u.length ≤ 60) (ht : t.length ≤ 60) (hx : ∀ x ∈ t, -24 ≤ x) : F_spec_l2Filled s t = some (encO (fillO (Tm.sig s) t)) := by
  have key : Okk True (F_spec_l2Filled s t) (· = encO (fillO (Tm.sig s) t)) := by
    unfold F_spec_l2Filled
    refine Okk.loop (fun q : List Int × Int => ∃ i : Nat, q.2 = i ∧ i ≤ t.length ∧ q.1 = sub (Tm.sig s) (t.take i) ∧ q.1.length ≤ 60) (fun q : List Int × Int => t.length - q.2.toNat) ⟨0, rfl, by omega, by simp [sub], by simp⟩ ?_
    rintro ⟨out, _⟩ ⟨i, rfl, h1, h2, h3⟩
    simp only at h2 h3
    simp only [F_spec_l2Filled_l1]
    by_cases hi : i < t.length
    · have hxi := hx _ (List.getElem_mem hi)
      simp only [show (i : Int) < t.length by omega, decide_true, if_true, show (0 : Int) ≤ i by omega, and_self, Int.toNat_natCast, getD_get hi, w64 (n := (i : Int) + 1) (by omega) (by omega)]
      have fin : ∀ u : List Int, u.length ≤ 60 → u = (if t[i] < 0 then Tm.sig s t[i] else [t[i]]) → Okk True (if decide (60 < ((out ++ u).length : Int)) = true then Option.map Sum.inr (some (([] : List Int), false)) else some (Sum.inl (out ++ u, (i : Int) + 1)))
          (Rnd (fun q : List Int × Int => ∃ i : Nat, q.2 = i ∧ i ≤ t.length ∧ q.1 = sub (Tm.sig s) (t.take i) ∧ q.1.length ≤ 60) (fun q : List Int × Int => t.length - q.2.toNat) (· = encO (fillO (Tm.sig s) t)) (t.length - i)) := fun u hu e => by
        obtain ⟨h4, h5⟩ := fill_step hi h2 e
        by_cases h6 : 60 < (out ++ u).length
        · simp only [show (60 : Int) < ((out ++ u).length : Int) by omega, decide_true, if_true, Option.map_some]
          refine .some ?_
          simp only [Rnd, h4 h6, encO]
        · simp only [show ¬ (60 : Int) < ((out ++ u).length : Int) by omega, decide_false, Bool.false_eq_true, if_false]
          exact .some ⟨⟨i + 1, by simp, by omega, h5, by simp only; omega⟩, by simp; omega⟩
      by_cases hn : t[i] < 0
      · have hi24 : ((-1 - t[i]).toNat : Int) = -1 - t[i] := by omega
        simp only [hn, decide_true, if_true, w64 (n := -1 - t[i]) (by omega) (by omega)]
        rw [← hi24, F_spec_l2Gives_eq hs hl (by omega), Option.bind_some, hi24]
        have hb : s.getD (-1 - t[i]).toNat [] = bget s t[i] := rfl
        rw [hb]
        have hbl : (bget s t[i]).length ≤ 60 := bget_small hs
        by_cases h0 : bget s t[i] = []
        · simp only [h0, if_true, List.length_singleton, show (out.length + 1) * 8 ≤ 140737488355328 by omega, show -1 - (-1 - t[i]) = t[i] by omega]
          exact fin [t[i]] (by simp) (by rw [if_pos hn]; unfold Tm.sig; rw [if_pos h0])
        · simp only [h0, if_false, show (out.length + (bget s t[i]).length) * 8 ≤ 140737488355328 by omega, if_true]
          exact fin (bget s t[i]) hbl (by rw [if_pos hn]; unfold Tm.sig; rw [if_neg h0])
      · simp only [hn, decide_false, Bool.false_eq_true, if_false, show (out.length + 1) * 8 ≤ 140737488355328 by omega, if_true]
        exact fin [t[i]] (by simp) (by rw [if_neg hn])
    · simp only [show ¬ (i : Int) < t.length by omega, decide_false, Bool.false_eq_true, if_false, Option.map_some]
      refine .some ?_
      rw [List.take_of_length_le (by omega)] at h2
      simp only [Rnd, fillO, ← h2, h3, if_true, encO]
  exact key.eq
theorem F_slices_Concat_eq {xs : List (List Int)} (hl : xs.length ≤ 3) (hs : ∀ u ∈ xs, u.length ≤ 60) : F_slices_Concat_int64_int64 xs = some xs.flatten := by
  have hfl : ∀ i, i ≤ xs.length → (xs.take i).flatten.length ≤ 60 * i := fun i => by
    induction i with
    | zero => simp
    | succ i ih =>
      intro hi
      have h1 : i < xs.length := by omega
      rw [List.take_add_one, List.getElem?_eq_getElem h1, List.flatten_append, List.length_append]
      have := ih (by omega)
      have := hs _ (List.getElem_mem h1)
      simp only [Option.toList_some, List.flatten_cons, List.flatten_nil, List.append_nil]; omega
  have tk : ∀ i (h1 : i < xs.length), (xs.take (i + 1)).flatten = (xs.take i).flatten ++ xs[i] := fun i h1 => by
    rw [List.take_add_one, List.getElem?_eq_getElem h1, List.flatten_append]; simp
  have key : Okk True (F_slices_Concat_int64_int64 xs) (· = xs.flatten) := by
    unfold F_slices_Concat_int64_int64
    refine Okk.loop (fun q : Int × Int => ∃ i : Nat, q.2 = i ∧ i ≤ xs.length ∧ q.1 = ((xs.take i).flatten.length : Int)) (fun q : Int × Int => xs.length - q.2.toNat) ⟨0, rfl, by omega, by simp⟩ ?_
    rintro ⟨_, _⟩ ⟨i, rfl, h1, rfl⟩
    simp only [F_slices_Concat_int64_int64_l1]
    have hb := hfl i h1
    by_cases hi : i < xs.length
    · have hu := hs _ (List.getElem_mem hi)
      simp only [show (i : Int) < xs.length by omega, decide_true, if_true, show (0 : Int) ≤ i by omega, and_self, Int.toNat_natCast, getD_get hi, w64 (n := (i : Int) + 1) (by omega) (by omega),
        w64 (n := ((xs.take i).flatten.length : Int) + (xs[i].length : Int)) (by omega) (by omega), show ¬ ((xs.take i).flatten.length : Int) + (xs[i].length : Int) < 0 by omega, decide_false, Bool.false_eq_true, if_false]
      exact .some ⟨⟨i + 1, by simp, by omega, by rw [tk i hi]; simp⟩, by simp; omega⟩
    · simp only [show ¬ (i : Int) < xs.length by omega, decide_false, Bool.false_eq_true, if_false, F_slices_Grow_int64_int64, show 0 ≤ ((xs.take i).flatten.length : Int) ∧ ((xs.take i).flatten.length : Int) * 8 ≤ 140737488355328 by omega, and_self, if_true, Option.bind_some]
      refine Okk.inr ?_
      simp only [Rnd]
      refine Okk.loop (fun q : List Int × Int => ∃ i : Nat, q.2 = i ∧ i ≤ xs.length ∧ q.1 = (xs.take i).flatten) (fun q : List Int × Int => xs.length - q.2.toNat) ⟨0, rfl, by omega, by simp⟩ ?_
      rintro ⟨_, _⟩ ⟨j, rfl, h2, rfl⟩
      simp only [F_slices_Concat_int64_int64_l2]
      have hb := hfl j h2
      by_cases hj : j < xs.length
      · have hu := hs _ (List.getElem_mem hj)
        simp only [show (j : Int) < xs.length by omega, decide_true, if_true, show (0 : Int) ≤ j by omega, and_self, Int.toNat_natCast, getD_get hj, w64 (n := (j : Int) + 1) (by omega) (by omega),
          show ((xs.take j).flatten.length + xs[j].length) * 8 ≤ 140737488355328 by omega]
        exact .some ⟨⟨j + 1, by simp, by omega, by rw [tk j hj]⟩, by simp; omega⟩
      · simp only [show ¬ (j : Int) < xs.length by omega, decide_false, Bool.false_eq_true, if_false, Option.map_some]
        refine .some ?_
        simp only [Rnd]
        rw [List.take_of_length_le (by omega)]
  exact key.eq
def putO (a t : List Int) (i : Nat) (v : List Int) : Option (List Int) := if (putp a t i v).length ≤ 60 then some (putp a t i v) else none
theorem F_impl_put_eq {a p u s v : List Int} (ha : sigOk a = true) (hu : Wf a 1 u) (hm : ∀ x ∈ p ++ (u ++ s), -24 ≤ x) (hl : (p ++ (u ++ s)).length ≤ 60) (hv : v.length ≤ 60) :
    F_impl_put a (p ++ (u ++ s)) (p.length : Int) v = some (encO (putO a (p ++ (u ++ s)) p.length v)) := by
  have hd : (p ++ (u ++ s)).drop p.length = u ++ s := List.drop_left
  have hl' := hl
  simp only [List.length_append] at hl'
  unfold F_impl_put
  rw [if_pos (by simp only [List.length_append]; omega), F_impl_endAt_eq ha (by show List.length _ < _; omega) hm (by simp), Option.bind_some, endI_app hd hu]
  have e1 : ((p ++ (u ++ s)).length : Int) - s.length = ((p.length + u.length : Nat) : Int) := by simp; omega
  rw [e1, if_pos (by simp; omega), Int.toNat_natCast, Int.toNat_natCast, List.take_left, ← List.drop_drop, hd, List.drop_left]
  rw [F_slices_Concat_eq (by simp) (by intro w hw; simp at hw; rcases hw with rfl | rfl | rfl <;> omega), Option.bind_some]
  unfold putO
  rw [putp_eq hu]
  have e2 : [p, v, s].flatten = p ++ (v ++ s) := by simp
  rw [e2]
  by_cases h : (p ++ (v ++ s)).length ≤ 60
  · simp only [show ¬ (60 : Int) < ((p ++ (v ++ s)).length : Int) by omega, decide_false, Bool.false_eq_true, if_false, h, if_true, encO]
  · simp only [show (60 : Int) < ((p ++ (v ++ s)).length : Int) by omega, decide_true, if_true, h, if_false, encO]
theorem F_spec_l3Put_eq {a p u s v : List Int} (ha : sigOk a = true) (hu : Wf a 1 u) (hl : (p ++ (u ++ s)).length ≤ 60) (hv : v.length ≤ 60) :
    F_spec_l3Put a (p ++ (u ++ s)) (p.length : Int) v = some (encO (putO a (p ++ (u ++ s)) p.length v)) := by
  have hd : (p ++ (u ++ s)).drop p.length = u ++ s := List.drop_left
  have hl' := hl
  simp only [List.length_append] at hl'
  unfold F_spec_l3Put
  rw [if_pos (by simp only [List.length_append]; omega), Int.toNat_natCast, List.take_left, F_spec_l1Copy_eq (by show List.length _ < _; omega), Option.bind_some, if_pos (by omega), F_spec_l1End_eq ha (by show List.length _ < _; omega) (by simp), Option.bind_some, endI_app hd hu]
  have e1 : ((p ++ (u ++ s)).length : Int) - s.length = ((p.length + u.length : Nat) : Int) := by simp; omega
  rw [e1, if_pos (by simp; omega), Int.toNat_natCast, ← List.drop_drop, hd, List.drop_left, if_pos (by simp; omega), List.append_assoc]
  unfold putO
  rw [putp_eq hu]
  by_cases h : (p ++ (v ++ s)).length ≤ 60
  · simp only [show ¬ (60 : Int) < ((p ++ (v ++ s)).length : Int) by omega, decide_false, Bool.false_eq_true, if_false, h, if_true, encO]
  · simp only [show (60 : Int) < ((p ++ (v ++ s)).length : Int) by omega, decide_true, if_true, h, if_false, encO]
abbrev Sys := List Int × List (List Int × List Int)
theorem sysOk_iff {s : Sys} : sysOk s = true ↔ sigOk s.1 = true ∧ s.2.length ≤ 12 ∧ ∀ r ∈ s.2, ruleOk s.1 r = true := by simp [sysOk]
theorem ruleOk_iff {a : List Int} {r : List Int × List Int} : ruleOk a r = true ↔ termOk a r.1 = true ∧ termOk a r.2 = true ∧ 0 ≤ r.1.headD 0 ∧ ∀ x ∈ r.2, x < 0 → x ∈ r.1 := by
  simp only [ruleOk, varIn, Bool.and_eq_true, decide_eq_true_eq, List.all_eq_true]
def stepO (s : Sys) (t : List Int) (i rule : Nat) : Option (List Int) := stepp s.1 (s.2.getD rule default).1 (s.2.getD rule default).2 t i
theorem plain_small {b o : Bd} (hb : ∀ u ∈ b, u.length ≤ 60) (h : ∀ i, o.getD i [] = plainAt b i) : (∀ i, (o.getD i []).length ≤ 60) ∧ ∀ u ∈ o, u.length ≤ 60 := by
  have h1 : ∀ i, (o.getD i []).length ≤ 60 := fun i => by
    rw [h]
    unfold plainAt
    split
    · simp
    · rw [List.getD_eq_getElem?_getD]
      cases hx : b[i]? with
      | none => simp
      | some u => exact hb u (List.mem_of_getElem? hx)
  refine ⟨h1, fun u hu => ?_⟩
  obtain ⟨i, hi, rfl⟩ := List.getElem_of_mem hu
  have := h1 i
  rwa [show o.getD i [] = o[i] from getD_get hi] at this
theorem fill_plain {b o : Bd} (h : ∀ i, o.getD i [] = plainAt b i) (t : List Int) : fillO (Tm.sig o) t = fillO (Tm.sig b) t := by
  unfold fillO
  rw [sub_congr fun x _ hx => plain_sig h hx]
theorem stepp_eq {a l r p u s : List Int} (hu : Wf a 1 u) : stepp a l r (p ++ (u ++ s)) p.length = (mat a l u none24).bind fun b => (fillO (Tm.sig b) r).bind fun v => putO a (p ++ (u ++ s)) p.length v := by
  unfold stepp
  rw [at_eq hu]
  congr 1
  funext b
  unfold fillO putO
  by_cases h1 : (sub (Tm.sig b) r).length ≤ 60
  · rw [if_pos h1, Option.bind_some]
    by_cases h2 : (putp a (p ++ (u ++ s)) p.length (sub (Tm.sig b) r)).length ≤ 60
    · rw [if_pos ⟨h1, h2⟩, if_pos h2]
    · rw [if_neg (fun h => h2 h.2), if_neg h2]
  · rw [if_neg (fun h => h1 h.1), if_neg h1]; rfl
theorem F_impl_step_eq {s : Sys} {t : List Int} {i rule : Nat} (hs : sysOk s = true) (ht : termOk s.1 t = true) (hi : i < t.length) (hr : rule < s.2.length) : F_impl_step s t i rule = some (encO (stepO s t i rule)) := by
  obtain ⟨ha, _, hrs⟩ := sysOk_iff.1 hs
  obtain ⟨_, h1, h2, hw⟩ := termOk_iff.1 ht
  obtain ⟨p, u, q, rfl, rfl, hu⟩ := hw.place hi
  have hrule := ruleOk_iff.1 (hrs _ (getD_mem hr))
  obtain ⟨hL, hR, _, hv⟩ := hrule
  obtain ⟨_, hL1, hL2, hL3⟩ := termOk_iff.1 hL
  obtain ⟨_, hR1, hR2, hR3⟩ := termOk_iff.1 hR
  have hm : ∀ x ∈ p ++ (u ++ q), -24 ≤ x := fun x hx => (hw.all x hx).1
  have hul : u.length ≤ 60 := by simp at h2; omega
  unfold F_impl_step stepO
  rw [if_pos (by omega), F_impl_subAt_eq ha (by show List.length _ < _; omega) hm List.drop_left hu, Option.bind_some, Int.toNat_natCast]
  obtain ⟨o, e1, e2⟩ := (F_impl_match_ok ha hL3 hu hL2 hul).get
  rw [e1, Option.bind_some, stepp_eq hu]
  cases hmat : mat s.1 (s.2.getD rule default).1 u none24 with
  | none =>
    rw [hmat] at e2
    simp only [MRes] at e2
    simp only [e2, Bool.false_eq_true, if_false, Option.bind_none, encO]
  | some b =>
    rw [hmat] at e2
    obtain ⟨e3, e4, e5⟩ := e2
    obtain ⟨hb1, hb2⟩ := mat_small hmat (by intro u hu; simp [none24] at hu; subst hu; simp) hul (by simp [none24])
    obtain ⟨hp1, hp2⟩ := plain_small hb2 e5
    rw [if_pos e3, if_pos (by omega), F_impl_fill_eq e4 hp1 hR2 (fun x hx => (hR3.all x hx).1), Option.bind_some, Option.bind_some, fill_plain e5]
    cases hf : fillO (Tm.sig b) (s.2.getD rule default).2 with
    | none => simp [encO]
    | some v =>
      have hv60 : v.length ≤ 60 := by
        unfold fillO at hf
        split at hf
        · rename_i h; cases hf; exact h
        · cases hf
      simp only [encO, if_true, Option.bind_some]
      rw [F_impl_put_eq ha hu hm h2 hv60]; rfl
theorem F_spec_l7Step_eq {s : Sys} {t : List Int} {i rule : Nat} (hs : sysOk s = true) (ht : termOk s.1 t = true) (hi : i < t.length) (hr : rule < s.2.length) : F_spec_l7Step s t i rule = some (encO (stepO s t i rule)) := by
  obtain ⟨ha, _, hrs⟩ := sysOk_iff.1 hs
  obtain ⟨_, h1, h2, hw⟩ := termOk_iff.1 ht
  obtain ⟨p, u, q, rfl, rfl, hu⟩ := hw.place hi
  have hrule := ruleOk_iff.1 (hrs _ (getD_mem hr))
  obtain ⟨hL, hR, _, hv⟩ := hrule
  obtain ⟨_, hL1, hL2, hL3⟩ := termOk_iff.1 hL
  obtain ⟨_, hR1, hR2, hR3⟩ := termOk_iff.1 hR
  have hul : u.length ≤ 60 := by simp at h2; omega
  unfold F_spec_l7Step stepO
  rw [if_pos (by omega), F_spec_l1Sub_eq ha (by show List.length _ < _; omega) List.drop_left hu, Option.bind_some, Int.toNat_natCast]
  obtain ⟨o, e1, e2⟩ := (F_spec_l4Match_ok ha hL3 hu hL2 hul).get
  rw [e1, Option.bind_some, stepp_eq hu]
  cases hmat : mat s.1 (s.2.getD rule default).1 u none24 with
  | none =>
    rw [hmat] at e2
    simp only [MRes] at e2
    simp only [e2, Bool.false_eq_true, if_false, Option.bind_none, encO]
  | some b =>
    rw [hmat] at e2
    obtain ⟨e3, e4, e5⟩ := e2
    obtain ⟨hb1, hb2⟩ := mat_small hmat (by intro u hu; simp [none24] at hu; subst hu; simp) hul (by simp [none24])
    obtain ⟨hp1, hp2⟩ := plain_small hb2 e5
    rw [if_pos e3, F_spec_l2Filled_eq e4 hp2 hR2 (fun x hx => (hR3.all x hx).1), Option.bind_some, Option.bind_some, fill_plain e5]
    cases hf : fillO (Tm.sig b) (s.2.getD rule default).2 with
    | none => simp [encO]
    | some v =>
      have hv60 : v.length ≤ 60 := by
        unfold fillO at hf
        split at hf
        · rename_i h; cases hf; exact h
        · cases hf
      simp only [encO, if_true, Option.bind_some]
      rw [F_spec_l3Put_eq ha hu h2 hv60]; rfl
def stepAtO (s : Sys) (t : List Int) (i rule : Int) : Option (List Int) :=
  if (sysOk s = true ∧ termOk s.1 t = true) ∧ (0 ≤ i ∧ i < t.length) ∧ (0 ≤ rule ∧ rule < s.2.length) then stepO s t i.toNat rule.toNat else none
theorem F_impl_StepAt_eq (s : Sys) (t : List Int) (i rule : Int) : F_impl_StepAt s t i rule = some (encO (stepAtO s t i rule)) := by
  unfold F_impl_StepAt F_impl_stepArgs F_impl_posOk stepAtO
  rw [F_impl_SystemOk_eq, Option.bind_some]
  cases h1 : sysOk s with
  | false => simp [encO]
  | true =>
    simp only [if_true, F_impl_TermOk_eq, Option.bind_some]
    cases h2 : termOk s.1 t with
    | false => simp [encO]
    | true =>
      simp only [if_true, and_self, true_and]
      by_cases h3 : 0 ≤ i
      · by_cases h4 : i < t.length
        · by_cases h5 : 0 ≤ rule
          · by_cases h6 : rule < s.2.length
            · have := F_impl_step_eq h1 h2 (i := i.toNat) (rule := rule.toNat) (by omega) (by omega)
              rw [show ((i.toNat : Nat) : Int) = i by omega, show ((rule.toNat : Nat) : Int) = rule by omega] at this
              simp [h3, h4, h5, h6, this]
            · simp [h3, h4, h5, h6, encO]
          · simp [h3, h4, h5, encO]
        · simp [h3, h4, encO]
      · simp [h3, encO]
theorem F_spec_l7Right_eq (s : Sys) (t : List Int) : F_spec_l7Right s t = some (sysOk s && termOk s.1 t) := by
  unfold F_spec_l7Right
  rw [F_spec_SystemOk_eq, Option.bind_some]
  cases h1 : sysOk s with
  | false => simp
  | true => simp [F_spec_TermOk_eq]
theorem F_spec_StepAt_eq (s : Sys) (t : List Int) (i rule : Int) : F_spec_StepAt s t i rule = some (encO (stepAtO s t i rule)) := by
  unfold F_spec_StepAt F_spec_l1There stepAtO
  rw [F_spec_l7Right_eq, Option.bind_some]
  cases h1 : sysOk s with
  | false => simp [encO]
  | true =>
    cases h2 : termOk s.1 t with
    | false => simp [encO]
    | true =>
      obtain ⟨_, h7, h8, _⟩ := termOk_iff.1 h2
      obtain ⟨_, h9, _⟩ := sysOk_iff.1 h1
      simp only [Bool.and_self, if_true, F_spec_l1In_eq, Option.bind_some, and_self, true_and, w64 (n := (t.length : Int) - 1) (by omega) (by omega), w64 (n := (s.2.length : Int) - 1) (by omega) (by omega)]
      by_cases h3 : 0 ≤ i
      · by_cases h4 : i < t.length
        · by_cases h5 : 0 ≤ rule
          · by_cases h6 : rule < s.2.length
            · have := F_spec_l7Step_eq h1 h2 (i := i.toNat) (rule := rule.toNat) (by omega) (by omega)
              rw [show ((i.toNat : Nat) : Int) = i by omega, show ((rule.toNat : Nat) : Int) = rule by omega] at this
              simp [h3, h4, h5, h6, this, show i ≤ (t.length : Int) - 1 by omega, show rule ≤ (s.2.length : Int) - 1 by omega]
            · simp [h3, h4, h5, h6, encO, show i ≤ (t.length : Int) - 1 by omega, show ¬ rule ≤ (s.2.length : Int) - 1 by omega]
          · simp [h3, h4, h5, encO, show i ≤ (t.length : Int) - 1 by omega]
        · simp [h3, h4, encO, show ¬ i ≤ (t.length : Int) - 1 by omega]
      · simp [h3, encO]
theorem stepAtO_small {s : Sys} {t u : List Int} {i rule : Int} (h : stepAtO s t i rule = some u) : u.length ≤ 60 := by
  unfold stepAtO at h
  split at h
  · unfold stepO stepp at h
    obtain ⟨b, _, h⟩ := Option.bind_eq_some_iff.1 h
    split at h
    · rename_i hc; cases h; exact hc.2
    · cases h
  · cases h
abbrev Stp := Int × Int × List Int
def walkFrom (s : Sys) : List Int → List Stp → Bool
  | _, [] => true
  | t, x :: r => match stepAtO s t x.1 x.2.1 with
    | some u => u == x.2.2 && walkFrom s u r
    | none => false
def walkB (s : Sys) (w : List Int × List Stp) : Bool := sysOk s && (termOk s.1 w.1 && (decide (w.2.length ≤ 60) && walkFrom s w.1 w.2))
theorem walk_loop {s : Sys} {w : List Int × List Stp} {f : List Int × Int → Option ((List Int × Int) ⊕ Bool)}
    (h : ∀ (t : List Int) (i : Nat) (x : Stp), i < w.2.length → w.2.getD i default = x → f (t, i) = some (match stepAtO s t x.1 x.2.1 with | some u => if u == x.2.2 then .inl (u, (i : Int) + 1) else .inr false | none => .inr false))
    (he : ∀ t, f (t, w.2.length) = some (.inr true)) : loopC f (w.1, 0) = some (walkFrom s w.1 w.2) := by
  have key : ∀ (k i : Nat) (t : List Int), i + k = w.2.length → loopC f (t, (i : Int)) = some (walkFrom s t (w.2.drop i)) := by
    intro k
    induction k with
    | zero =>
      intro i t hi
      obtain rfl : i = w.2.length := by omega
      rw [loopC_inr (he t)]; simp [walkFrom]
    | succ k ih =>
      intro i t hi
      have hlt : i < w.2.length := by omega
      have e := h t i _ hlt (getD_get hlt)
      rw [List.drop_eq_getElem_cons hlt, walkFrom]
      cases hs : stepAtO s t (w.2[i]).1 (w.2[i]).2.1 with
      | none =>
        rw [hs] at e
        rw [loopC_inr e]
      | some u =>
        rw [hs] at e
        simp only at e
        by_cases hu : (u == (w.2[i]).2.2) = true
        · rw [if_pos hu] at e
          rw [loopC_inl e, show ((i : Int) + 1) = ((i + 1 : Nat) : Int) by omega, ih (i + 1) u (by omega)]
          simp only [hu, Bool.true_and]
        · rw [if_neg hu] at e
          rw [loopC_inr e]
          simp only [Bool.not_eq_true] at hu
          simp [hu]
  simpa using key w.2.length 0 w.1 (by omega)
theorem F_impl_WalkOk_eq (s : Sys) (w : List Int × List Stp) : F_impl_WalkOk s w = some (walkB s w) := by
  unfold F_impl_WalkOk F_impl_walkOk walkB
  rw [F_impl_SystemOk_eq, Option.bind_some]
  cases h1 : sysOk s with
  | false => simp
  | true =>
    simp only [if_true, F_impl_TermOk_eq, Option.bind_some, Bool.true_and]
    cases h2 : termOk s.1 w.1 with
    | false => simp
    | true =>
      by_cases h3 : 60 < (w.2.length : Int)
      · simp [h3, show ¬ w.2.length ≤ 60 by omega]
      · simp only [if_true, h3, decide_false, Bool.false_eq_true, if_false, show w.2.length ≤ 60 by omega, decide_true, Bool.true_and]
        rw [walk_loop (s := s) (w := w) (fun t i x hi hx => ?_) (fun t => by simp [F_impl_walkOk_l1])]
        · rfl
        · simp only [F_impl_walkOk_l1, show (i : Int) < w.2.length by omega, decide_true, if_true, show (0 : Int) ≤ i by omega, and_self, Int.toNat_natCast, hx, F_impl_StepAt_eq, Option.bind_some, w64 (n := (i : Int) + 1) (by omega) (by omega)]
          cases hs : stepAtO s t x.1 x.2.1 with
          | none => simp [encO]
          | some u =>
            have := stepAtO_small hs
            simp only [encO, if_true, F_slices_Equal_eq (show Small u by show u.length < _; omega), Option.bind_some]
            cases (u == x.2.2) <;> simp
theorem F_spec_WalkOk_eq (s : Sys) (w : List Int × List Stp) : F_spec_WalkOk s w = some (walkB s w) := by
  unfold F_spec_WalkOk walkB
  rw [F_spec_l7Right_eq, Option.bind_some]
  cases h1 : sysOk s with
  | false => simp
  | true =>
    cases h2 : termOk s.1 w.1 with
    | false => simp
    | true =>
      by_cases h3 : 60 < (w.2.length : Int)
      · simp [h3, show ¬ w.2.length ≤ 60 by omega]
      · simp only [Bool.and_self, if_true, h3, decide_false, Bool.false_eq_true, if_false, show w.2.length ≤ 60 by omega, decide_true, Bool.true_and]
        rw [walk_loop (s := s) (w := w) (fun t i x hi hx => ?_) (fun t => by simp [F_spec_WalkOk_l1])]
        simp only [F_spec_WalkOk_l1, show (i : Int) < w.2.length by omega, decide_true, if_true, show (0 : Int) ≤ i by omega, and_self, Int.toNat_natCast, hx, F_spec_StepAt_eq, Option.bind_some, w64 (n := (i : Int) + 1) (by omega) (by omega)]
        cases hs : stepAtO s t x.1 x.2.1 with
        | none => simp [encO]
        | some u =>
          have := stepAtO_small hs
          simp only [encO, if_true, F_spec_SameTerm_eq (show Small u by show u.length < _; omega), Option.bind_some]
          cases (u == x.2.2) <;> simp
end Go.Proofs.YtklfjpilhbkekaaGreat
