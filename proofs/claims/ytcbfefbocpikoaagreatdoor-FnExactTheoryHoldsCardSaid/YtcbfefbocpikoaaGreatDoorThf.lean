/- Plain theory of terms and what the equations of the functions come to; Functions of the program and the equations that they compute; The law lifted to the statement; What the tool asks of the program for the law, by computation; nothing is assumed. -/
import Derived.Test.YtcbfefbocpikoaaGreatDoorThe
import Derived.Carry
import Derived.Test.YtcbfefbocpikoaaGreatDoorRows
import Derived.ProofKit
import Derived.JoinedOf
import Derived.KernelRfl
set_option linter.unusedSimpArgs false
set_option linter.unusedVariables false
set_option linter.unusedSectionVars false
set_option linter.unnecessarySimpa false
namespace Go.Proofs.YtcbfefbocpikoaaGreatDoor
open Go Abx Tm
theorem w64 {n : Int} (h1 : -9223372036854775808 ≤ n) (h2 : n < 9223372036854775808) : IntKind.i64.wrap n = n := by
  rw [wrap_i64 h1 h2]
theorem getD_get {α : Type} [Inhabited α] {xs : List α} {i : Nat} (h : i < xs.length) : xs.getD i default = xs[i] := by simp [List.getD_eq_getElem?_getD, List.getElem?_eq_getElem h]
theorem getD_mem {α : Type} [Inhabited α] {xs : List α} {i : Nat} (h : i < xs.length) : xs.getD i default ∈ xs := by rw [getD_get h]; exact List.getElem_mem h
theorem loop_all {α : Type} [Inhabited α] {xs : List α} {p : α → Bool} {f : Int → Option (Int ⊕ Bool)}
    (h : ∀ (i : Nat) (x : α), i < xs.length → (i : Int) < xs.length → x ∈ xs → xs.getD i default = x → f i = some (if p x = true then .inl ((i : Int) + 1) else .inr false)) (he : f xs.length = some (.inr true)) : loopC f 0 = some (xs.all p) := by
  have key : ∀ k i : Nat, i + k = xs.length → loopC f (i : Int) = some ((xs.drop i).all p) := by
    intro k
    induction k with
    | zero =>
      intro i hi
      obtain rfl : i = xs.length := by omega
      rw [loopC_inr he]; simp
    | succ k ih =>
      intro i hi
      have hlt : i < xs.length := by omega
      have e := h i _ hlt (by omega) (List.getElem_mem hlt) (getD_get hlt)
      rw [List.drop_eq_getElem_cons hlt, List.all_cons]
      cases hp : p xs[i] with
      | true =>
        rw [hp, if_pos rfl] at e
        rw [loopC_inl e]
        have := ih (i + 1) (by omega)
        rw [show ((i : Int) + 1) = ((i + 1 : Nat) : Int) by omega, this]; simp
      | false =>
        rw [hp] at e
        simp only [Bool.false_eq_true, if_false] at e
        rw [loopC_inr e]; simp
  simpa using key xs.length 0 (by omega)
theorem loop_any {α β : Type} [Inhabited α] {xs : List α} {p : α → Bool} {f : Int → Option (Int ⊕ β)} {y n : β}
    (h : ∀ (i : Nat) (x : α), i < xs.length → (i : Int) < xs.length → x ∈ xs → xs.getD i default = x → f i = some (if p x = true then .inr y else .inl ((i : Int) + 1))) (he : f xs.length = some (.inr n)) :
    loopC f 0 = some (if xs.any p = true then y else n) := by
  have key : ∀ k i : Nat, i + k = xs.length → loopC f (i : Int) = some (if (xs.drop i).any p = true then y else n) := by
    intro k
    induction k with
    | zero =>
      intro i hi
      obtain rfl : i = xs.length := by omega
      rw [loopC_inr he]; simp
    | succ k ih =>
      intro i hi
      have hlt : i < xs.length := by omega
      have e := h i _ hlt (by omega) (List.getElem_mem hlt) (getD_get hlt)
      rw [List.drop_eq_getElem_cons hlt, List.any_cons]
      cases hp : p xs[i] with
      | false =>
        rw [hp] at e
        simp only [Bool.false_eq_true, if_false] at e
        rw [loopC_inl e]
        have := ih (i + 1) (by omega)
        rw [show ((i : Int) + 1) = ((i + 1 : Nat) : Int) by omega, this]; simp
      | true =>
        rw [hp, if_pos rfl] at e
        rw [loopC_inr e]; simp
  simpa using key xs.length 0 (by omega)
abbrev Small {α : Type} (xs : List α) : Prop := xs.length < 1099511627776
def arOk (n : Int) : Bool := decide (0 ≤ n) && decide (n ≤ 3)
def sigOk (a : List Int) : Bool := decide (1 ≤ a.length) && decide (a.length ≤ 8) && a.all arOk
theorem sigOk_iff {a : List Int} : sigOk a = true ↔ 1 ≤ a.length ∧ a.length ≤ 8 ∧ ∀ n ∈ a, 0 ≤ n ∧ n ≤ 3 := by simp [sigOk, arOk, and_assoc]
theorem F_spec_l1In_eq (x lo hi : Int) : F_spec_l1In x lo hi = some (decide (lo ≤ x) && decide (x ≤ hi)) := by
  unfold F_spec_l1In
  by_cases h1 : lo ≤ x <;> by_cases h2 : x ≤ hi <;> simp [h1, h2]
theorem F_impl_SigOk_eq (a : List Int) : F_impl_SigOk a = some (sigOk a) := by
  unfold F_impl_SigOk
  by_cases h1 : (a.length : Int) < 1
  · have : ¬ 1 ≤ a.length := by omega
    simp [h1, sigOk, this]
  · by_cases h2 : 8 < (a.length : Int)
    · have : ¬ a.length ≤ 8 := by omega
      simp [h1, h2, sigOk, this]
    · have e1 : 1 ≤ a.length := by omega
      have e2 : a.length ≤ 8 := by omega
      simp only [h1, h2, decide_false, Bool.false_eq_true, if_false, sigOk, e1, e2, decide_true, Bool.true_and]
      refine loop_all (fun i x hi hi' _ hx => ?_) (by simp [F_impl_SigOk_l1])
      have hw : IntKind.i64.wrap ((i : Int) + 1) = i + 1 := w64 (by omega) (by omega)
      simp only [F_impl_SigOk_l1, hi', decide_true, if_true, Int.toNat_natCast, hw, show (0 : Int) ≤ i by omega, and_self, arOk, hx]
      by_cases c1 : x < 0
      · simp [c1, show ¬ 0 ≤ x by omega]
      · by_cases c2 : 3 < x
        · simp [c1, c2, show ¬ x ≤ 3 by omega]
        · simp [c1, c2, show 0 ≤ x by omega, show x ≤ 3 by omega]
theorem F_spec_SigOk_eq (a : List Int) : F_spec_SigOk a = some (sigOk a) := by
  unfold F_spec_SigOk
  simp only [F_spec_l1In_eq, Option.bind_some]
  by_cases h : 1 ≤ a.length ∧ a.length ≤ 8
  · have e1 : (1 : Int) ≤ a.length := by omega
    have e2 : (a.length : Int) ≤ 8 := by omega
    simp only [e1, e2, decide_true, Bool.and_self, if_true, sigOk, h.1, h.2, Bool.true_and]
    refine loop_all (fun i x hi hi' _ hx => ?_) (by simp [F_spec_SigOk_l1])
    have hw : IntKind.i64.wrap ((i : Int) + 1) = i + 1 := w64 (by omega) (by omega)
    simp only [F_spec_SigOk_l1, hi', decide_true, if_true, Int.toNat_natCast, hw, show (0 : Int) ≤ i by omega, and_self, arOk, hx, F_spec_l1In_eq, Option.bind_some]
    by_cases h3 : 0 ≤ x <;> by_cases h4 : x ≤ 3 <;> simp [h3, h4]
  · have : (decide ((1 : Int) ≤ a.length) && decide ((a.length : Int) ≤ 8)) = false := by simp; omega
    rw [this]
    have : sigOk a = false := by
      cases hs : sigOk a with
      | false => rfl
      | true => have := sigOk_iff.1 hs; omega
    simp [this]
theorem F_slices_Min_ok {x : List Int} (h0 : 0 < x.length) (hs : Small x) : Okk True (F_slices_Min_int64_int64 x) fun m => ∀ b, b ≤ m ↔ ∀ y ∈ x, b ≤ y := by
  unfold F_slices_Min_int64_int64
  have h1 : ¬ (x.length : Int) < 1 := by omega
  have h2 : (0 : Int) < x.length := by omega
  simp only [h1, h2, decide_false, Bool.false_eq_true, if_false, Int.le_refl, and_self, if_true]
  refine Okk.loop (fun s : Int × Int => ∃ i : Nat, s.2 = (i : Int) ∧ 1 ≤ i ∧ i ≤ x.length ∧ ∀ b, b ≤ s.1 ↔ ∀ y ∈ x.take i, b ≤ y) (fun s : Int × Int => x.length - s.2.toNat) ⟨1, rfl, Nat.le_refl _, by omega, fun b => ?_⟩ ?_
  · cases x with
    | nil => simp at h0
    | cons y x => simp
  · rintro ⟨m, i'⟩ ⟨i, rfl, h3, h4, h5⟩
    simp only [F_slices_Min_int64_int64_l1] at h5 ⊢
    by_cases hi : i < x.length
    · have hi' : (i : Int) < x.length := by omega
      have hw : IntKind.i64.wrap ((i : Int) + 1) = i + 1 := w64 (by omega) (by omega)
      simp only [hi', decide_true, if_true, show (0 : Int) ≤ i by omega, and_self, Int.toNat_natCast, getD_get hi, hw]
      refine .some ⟨⟨i + 1, by simp, by omega, by omega, fun b => ?_⟩, by simp; omega⟩
      rw [List.take_add_one, List.getElem?_eq_getElem hi]
      have := h5 b
      simp only [List.mem_append, Option.toList_some, List.mem_singleton]
      split
      · constructor
        · rintro hb y (hy | rfl)
          · exact (h5 b).1 (by omega) y hy
          · exact hb
        · intro hb; exact hb _ (.inr rfl)
      · constructor
        · rintro hb y (hy | rfl)
          · exact (h5 b).1 hb y hy
          · omega
        · intro hb; exact (h5 b).2 fun y hy => hb y (.inl hy)
    · have hi' : ¬ (i : Int) < x.length := by omega
      simp only [hi', decide_false, Bool.false_eq_true, if_false, Option.map_some]
      refine .some fun b => ?_
      rw [h5 b, List.take_of_length_le (by omega)]
theorem ari_le {a : List Int} (ha : sigOk a = true) (x : Int) : ari a x ≤ 3 := by
  have := (sigOk_iff.1 ha).2.2
  unfold ari
  split
  · omega
  · rw [List.getD_eq_getElem?_getD]
    cases h : a[x.toNat]? with
    | none => simp
    | some y => have := this y (List.mem_of_getElem? h); simp; omega
theorem F_impl_arityAt_eq {a : List Int} (ha : sigOk a = true) {x : Int} (hx : x < a.length) : F_impl_arityAt a x = some (ari a x : Int) := by
  unfold F_impl_arityAt ari
  by_cases h : x < 0
  · simp [h]
  · have h2 : 0 ≤ x := by omega
    simp only [h, decide_false, Bool.false_eq_true, if_false, h2, hx, and_self, if_true]
    have hl : x.toNat < a.length := by omega
    have := (sigOk_iff.1 ha).2.2 _ (getD_mem hl)
    rw [show a.getD x.toNat 0 = a.getD x.toNat default from rfl]
    rw [show ((a.getD x.toNat default).toNat : Int) = a.getD x.toNat default by omega]
theorem F_impl_cursor_next_eq {a t : List Int} (ha : sigOk a = true) (hs : Small t) {i : Nat} (hi : i ≤ t.length) : F_impl_cursor_next a t i =
    some (match t.drop i with | [] => (-1, (i : Int)) | x :: _ => if x < a.length then ((ari a x : Int), (i : Int) + 1) else (-1, i)) := by
  unfold F_impl_cursor_next
  by_cases h : i < t.length
  · have h1 : ¬ (t.length : Int) ≤ i := by omega
    have h2 : (i : Int) < t.length := by omega
    have hw : IntKind.i64.wrap ((i : Int) + 1) = i + 1 := w64 (by omega) (by omega)
    have hw2 : IntKind.i64.wrap ((i : Int) + 1 - 1) = i := by rw [w64 (by omega) (by omega)]; omega
    rw [List.drop_eq_getElem_cons h]
    simp only [h1, h2, decide_false, Bool.false_eq_true, if_false, show (0 : Int) ≤ i by omega, and_self, if_true, Int.toNat_natCast, getD_get h, hw, hw2]
    by_cases h3 : t[i] < a.length
    · have h4 : ¬ (a.length : Int) ≤ t[i] := by omega
      simp [h3, h4, F_impl_arityAt_eq ha h3]
    · have h4 : (a.length : Int) ≤ t[i] := by omega
      simp [h3, h4]
  · have h1 : (t.length : Int) ≤ i := by omega
    rw [List.drop_of_length_le (by omega)]
    simp [h1]
theorem skip_drop {a t : List Int} {i k : Nat} (h : i < t.length) : Tm.skip a (t.drop i) (k + 1) = if okx a (t[i]) then Tm.skip a (t.drop (i + 1)) (k + ari a t[i]) else none := by
  rw [List.drop_eq_getElem_cons h, skip_cons]
def endI (a t : List Int) (i : Nat) : Int := match Tm.skip a (t.drop i) 1 with | some r => (t.length : Int) - r.length | none => -1
theorem skip_len {a : List Int} : ∀ {t r : List Int} {k : Nat}, Tm.skip a t k = some r → r.length + k ≤ t.length := by
  intro t r k h
  obtain ⟨u, rfl, hu⟩ := skip_split h
  have := hu.len
  simp; omega
theorem F_impl_endAt_eq {a t : List Int} (ha : sigOk a = true) (hs : Small t) (hm : ∀ x ∈ t, -24 ≤ x) {i : Nat} (hi : i ≤ t.length) : F_impl_endAt a t i = some (endI a t i) := by
  have key : Okk True (F_impl_cursor_skip a t i) fun r => match Tm.skip a (t.drop i) 1 with | some q => r = (true, (t.length : Int) - q.length) | none => r.1 = false := by
    unfold F_impl_cursor_skip
    refine Okk.loop (fun s => ∃ (k c : Nat), s = ((k : Int), (c : Int)) ∧ c ≤ t.length ∧ k ≤ 1 + 3 * c ∧ Tm.skip a (t.drop c) k = Tm.skip a (t.drop i) 1) (fun s => t.length - s.2.toNat) ⟨1, i, rfl, hi, by omega, rfl⟩ ?_
    rintro _ ⟨k, c, rfl, h1, h2, h3⟩
    simp only [F_impl_cursor_skip_l1]
    cases k with
    | zero =>
      simp only [show ¬ (0 : Int) < ((0 : Nat) : Int) by omega, decide_false, Bool.false_eq_true, if_false, Option.map_some]
      refine .some ?_
      simp only [Rnd]
      rw [← h3, skip_zero]
      simp; omega
    | succ k =>
      simp only [show (0 : Int) < ((k + 1 : Nat) : Int) by omega, decide_true, if_true, F_impl_cursor_next_eq ha hs h1, Option.bind_some]
      by_cases hc : c < t.length
      · rw [List.drop_eq_getElem_cons hc]
        rw [skip_drop hc] at h3
        simp only
        have hx := hm _ (List.getElem_mem hc)
        by_cases hlt : t[c] < a.length
        · have ho : okx a t[c] := ⟨hx, hlt⟩
          rw [if_pos ho] at h3
          have hle := ari_le ha t[c]
          simp only [hlt, if_true, show ¬ ((ari a t[c] : Nat) : Int) < 0 by omega, decide_false, Bool.false_eq_true, if_false]
          have hw1 : IntKind.i64.wrap (((k + 1 : Nat) : Int) + (ari a t[c] : Int)) = (k + 1 : Nat) + ari a t[c] := w64 (by omega) (by omega)
          rw [hw1, w64 (by omega) (by omega)]
          refine .some ⟨⟨k + ari a t[c], c + 1, by simp; omega, by omega, by omega, h3⟩, by simp; omega⟩
        · have ho : ¬ okx a t[c] := fun h => hlt h.2
          rw [if_neg ho] at h3
          simp only [hlt, if_false, show (-1 : Int) < 0 by omega, decide_true, if_true, Option.map_some]
          refine .some ?_
          simp only [Rnd]
          rw [← h3]; trivial
      · rw [List.drop_of_length_le (by omega), skip_nil] at h3
        rw [List.drop_of_length_le (by omega)]
        simp only [show (-1 : Int) < 0 by omega, decide_true, if_true, Option.map_some]
        refine .some ?_
        simp only [Rnd]
        rw [← h3]; trivial
  unfold F_impl_endAt
  obtain ⟨r, h1, h2⟩ := key.get
  rw [h1, Option.bind_some]
  unfold endI
  cases h : Tm.skip a (t.drop i) 1 with
  | none => rw [h] at h2; simp only at h2; simp [h2]
  | some q => rw [h] at h2; simp only at h2; simp [h2]
def termOk (a t : List Int) : Bool := sigOk a && (decide (1 ≤ t.length) && decide (t.length ≤ 60)) && decide (Wf a 1 t)
theorem termOk_iff {a t : List Int} : termOk a t = true ↔ sigOk a = true ∧ 1 ≤ t.length ∧ t.length ≤ 60 ∧ Wf a 1 t := by simp [termOk, and_assoc]
theorem endI_wf {a t : List Int} : endI a t 0 = (t.length : Int) ↔ Wf a 1 t := by
  unfold endI Wf
  rw [List.drop_zero]
  cases h : Tm.skip a t 1 with
  | none =>
    simp only [reduceCtorEq, iff_false]
    try omega
  | some q =>
    simp only [Option.some.injEq]
    constructor
    · intro h; exact List.length_eq_zero_iff.1 (by omega)
    · rintro rfl; simp
theorem F_impl_TermOk_eq (a t : List Int) : F_impl_TermOk a t = some (termOk a t) := by
  unfold F_impl_TermOk termOk
  rw [F_impl_SigOk_eq, Option.bind_some]
  cases ha : sigOk a with
  | false => simp
  | true =>
    simp only [if_true, Bool.true_and]
    by_cases h1 : 1 ≤ t.length
    · by_cases h2 : t.length ≤ 60
      · have e1 : (0 : Int) < t.length := by omega
        have e2 : (t.length : Int) ≤ 60 := by omega
        simp only [e1, e2, h1, h2, decide_true, if_true, Bool.and_self, Bool.true_and]
        obtain ⟨m, h3, h4⟩ := (F_slices_Min_ok (x := t) (by omega) (show t.length < _ by omega)).get
        rw [h3, Option.bind_some]
        by_cases h5 : -24 ≤ m
        · simp only [h5, decide_true, if_true]
          have := F_impl_endAt_eq ha (show t.length < _ by omega) ((h4 _).1 h5) (i := 0) (by omega)
          rw [show ((0 : Nat) : Int) = 0 by rfl] at this
          rw [this, Option.bind_some]
          by_cases hw : Wf a 1 t
          · simp [hw, endI_wf.2 hw]
          · have := mt endI_wf.1 hw
            simp [hw, this]
        · have hw : ¬ Wf a 1 t := fun hw => h5 ((h4 _).2 fun y hy => (hw.all y hy).1)
          simp [h5, hw]
      · have e2 : ¬ (t.length : Int) ≤ 60 := by omega
        have e1 : (0 : Int) < t.length := by omega
        simp [e1, e2, h2]
    · have e1 : ¬ (0 : Int) < t.length := by omega
      simp only [e1, h1, decide_false, Bool.false_eq_true, if_false, Bool.false_and]
theorem F_spec_l1Arity_eq {a : List Int} (ha : sigOk a = true) (x : Int) : F_spec_l1Arity a x = some (if okx a x then (ari a x : Int) else -1) := by
  have hl := (sigOk_iff.1 ha).2.1
  unfold F_spec_l1Arity
  simp only [F_spec_l1In_eq, Option.bind_some, w64 (n := (a.length : Int) - 1) (by omega) (by omega)]
  by_cases h1 : -24 ≤ x
  · by_cases h2 : x ≤ -1
    · simp [h1, h2, okx, ari, show x < 0 by omega, show x < (a.length : Int) by omega]
    · by_cases h3 : x < a.length
      · have hx : x.toNat < a.length := by omega
        have := (sigOk_iff.1 ha).2.2 _ (getD_mem hx)
        simp only [h1, h2, h3, okx, show 0 ≤ x by omega, show x ≤ (a.length : Int) - 1 by omega, decide_true, decide_false, Bool.and_false, Bool.and_self, Bool.false_eq_true, if_false, and_self, if_true, ari, show ¬ x < 0 by omega]
        rw [show a.getD x.toNat 0 = a.getD x.toNat default from rfl]
        rw [show ((a.getD x.toNat default).toNat : Int) = a.getD x.toNat default by omega]
      · simp [h1, h2, h3, okx, show ¬ x ≤ (a.length : Int) - 1 by omega]
  · simp [h1, okx, show ¬ 0 ≤ x by omega]
theorem F_spec_l1End_eq {a t : List Int} (ha : sigOk a = true) (hs : Small t) {i : Nat} (hi : i ≤ t.length) : F_spec_l1End a t i = some (endI a t i) := by
  have key : Okk True (F_spec_l1End a t i) (· = endI a t i) := by
    unfold F_spec_l1End
    refine Okk.loop (fun s : Int × Int => ∃ (k c : Nat), s = (((k + 1 : Nat) : Int), (c : Int)) ∧ c ≤ t.length ∧ k ≤ 3 * c ∧ Tm.skip a (t.drop c) (k + 1) = Tm.skip a (t.drop i) 1) (fun s : Int × Int => t.length - s.2.toNat) ⟨0, i, rfl, hi, by omega, rfl⟩ ?_
    rintro _ ⟨k, c, rfl, h1, h2, h3⟩
    simp only [F_spec_l1End_l1]
    by_cases hc : c < t.length
    · rw [skip_drop hc] at h3
      have hc' : (c : Int) < t.length := by omega
      simp only [hc', decide_true, if_true, show (0 : Int) ≤ c by omega, and_self, Int.toNat_natCast, getD_get hc, F_spec_l1Arity_eq ha, Option.bind_some]
      have hle := ari_le ha t[c]
      by_cases ho : okx a t[c]
      · rw [if_pos ho] at h3
        simp only [ho, if_true, show ¬ ((ari a t[c] : Nat) : Int) < 0 by omega, decide_false, Bool.false_eq_true, if_false]
        rw [w64 (n := ((k + 1 : Nat) : Int) + (ari a t[c] : Int)) (by omega) (by omega), w64 (n := ((k + 1 : Nat) : Int) + (ari a t[c] : Int) - 1) (by omega) (by omega), w64 (n := (c : Int) + 1) (by omega) (by omega)]
        cases hk : k + ari a t[c] with
        | zero =>
          rw [hk, skip_zero] at h3
          have : (((k + 1 : Nat) : Int) + (ari a t[c] : Int) - 1 == 0) = true := by simp; omega
          simp only [this, if_true, Option.map_some]
          refine .some ?_
          simp only [Rnd, endI]
          rw [← h3]
          simp; omega
        | succ q =>
          have : ¬ (((k + 1 : Nat) : Int) + (ari a t[c] : Int) - 1 == 0) = true := by simp; omega
          simp only [this, if_false]
          refine .some ⟨⟨q, c + 1, by simp; omega, by omega, by omega, by rw [← hk]; exact h3⟩, by simp; omega⟩
      · rw [if_neg ho] at h3
        simp only [ho, if_false, show (-1 : Int) < 0 by omega, decide_true, if_true, Option.map_some]
        refine .some ?_
        simp only [Rnd, endI]
        rw [← h3]
    · have hc' : ¬ (c : Int) < t.length := by omega
      rw [List.drop_of_length_le (by omega), skip_nil] at h3
      simp only [hc', decide_false, Bool.false_eq_true, if_false, Option.map_some]
      refine .some ?_
      simp only [Rnd, endI]
      rw [← h3]
  exact key.eq
theorem F_spec_TermOk_eq (a t : List Int) : F_spec_TermOk a t = some (termOk a t) := by
  unfold F_spec_TermOk termOk
  rw [F_spec_SigOk_eq, Option.bind_some]
  cases ha : sigOk a with
  | false => simp
  | true =>
    simp only [if_true, Bool.true_and, F_spec_l1In_eq, Option.bind_some]
    have e : (decide ((1 : Int) ≤ t.length) && decide ((t.length : Int) ≤ 60)) = (decide (1 ≤ t.length) && decide (t.length ≤ 60)) := by
      congr 1 <;> exact decide_eq_decide.2 (by omega)
    rw [e]
    by_cases h : 1 ≤ t.length ∧ t.length ≤ 60
    · simp only [h.1, h.2, decide_true, Bool.and_self, if_true, Bool.true_and]
      have := F_spec_l1End_eq ha (show Small t by show t.length < _; omega) (i := 0) (by omega)
      rw [show ((0 : Nat) : Int) = 0 by rfl] at this
      rw [this, Option.bind_some]
      by_cases hw : Wf a 1 t
      · simp [hw, endI_wf.2 hw]
      · have := mt endI_wf.1 hw
        simp [hw, this]
    · have : (decide (1 ≤ t.length) && decide (t.length ≤ 60)) = false := by simp; omega
      simp [this]
theorem F_slices_Contains_eq {s : List Int} (hs : Small s) (v : Int) : F_slices_Contains_int64_int64 s v = some (decide (v ∈ s)) := by
  have key : Okk True (F_slices_Index_int64_int64 s v) fun r => 0 ≤ r ↔ v ∈ s := by
    unfold F_slices_Index_int64_int64
    refine Okk.loop (fun i' : Int => ∃ i : Nat, i' = i ∧ i ≤ s.length ∧ v ∉ s.take i) (fun i' : Int => s.length - i'.toNat) ⟨0, rfl, by omega, by simp⟩ ?_
    rintro _ ⟨i, rfl, h1, h2⟩
    simp only [F_slices_Index_int64_int64_l1]
    by_cases hi : i < s.length
    · have hi' : (i : Int) < s.length := by omega
      simp only [hi', decide_true, if_true, show (0 : Int) ≤ i by omega, and_self, Int.toNat_natCast, getD_get hi, w64 (n := (i : Int) + 1) (by omega) (by omega)]
      by_cases hv : v = s[i]
      · simp only [hv, beq_self_eq_true, if_true, Option.map_some]
        refine .some ?_
        simp only [Rnd]
        exact ⟨fun _ => List.getElem_mem hi, fun _ => by omega⟩
      · have : ¬ (v == s[i]) = true := by simpa using hv
        simp only [this, if_false]
        refine .some ⟨⟨i + 1, by simp, by omega, ?_⟩, by simp; omega⟩
        rw [List.take_add_one, List.getElem?_eq_getElem hi, List.mem_append]
        rintro (h | h)
        · exact h2 h
        · exact hv (by simpa using h)
    · have hi' : ¬ (i : Int) < s.length := by omega
      simp only [hi', decide_false, Bool.false_eq_true, if_false, Option.map_some]
      refine .some ?_
      rw [List.take_of_length_le (by omega)] at h2
      simp only [Rnd]
      exact ⟨fun h => by omega, fun h => absurd h h2⟩
  unfold F_slices_Contains_int64_int64
  obtain ⟨r, h1, h2⟩ := key.get
  rw [h1, Option.bind_some]
  congr 1
  exact decide_eq_decide.2 h2
theorem F_spec_l1Has_eq {s : List Int} (hs : Small s) (v : Int) : F_spec_l1Has s v = some (decide (v ∈ s)) := by
  unfold F_spec_l1Has
  rw [loop_any (xs := s) (p := fun x => x == v) (y := true) (n := false) (fun i x hi hi' _ hx => ?_) (by simp [F_spec_l1Has_l1])]
  · congr 1
    by_cases h : v ∈ s
    · have : s.any (fun x => x == v) = true := List.any_eq_true.2 ⟨v, h, by simp⟩
      simp [this, h]
    · have : s.any (fun x => x == v) = false := by
        rw [List.any_eq_false]
        intro x hx he
        have : x = v := by simpa using he
        subst this; exact h hx
      simp [this, h]
  · simp only [F_spec_l1Has_l1, hi', decide_true, if_true, Int.toNat_natCast, show (0 : Int) ≤ i by omega, and_self, hx, w64 (n := (i : Int) + 1) (by have := hs; omega) (by have := hs; omega)]
    by_cases h : (x == v) = true
    · simp [h]
    · simp [h]
def varIn (l : List Int) (x : Int) : Bool := decide (x < 0 → x ∈ l)
def ruleOk (a : List Int) (r : List Int × List Int) : Bool := termOk a r.1 && (termOk a r.2 && (decide (0 ≤ r.1.headD 0) && r.2.all (varIn r.1)))
def sysOk (s : List Int × List (List Int × List Int)) : Bool := sigOk s.1 && (decide (s.2.length ≤ 12) && s.2.all (ruleOk s.1))
theorem headD_getD {l : List Int} (h : 0 < l.length) : l.getD 0 default = l.headD 0 := by cases l with | nil => simp at h | cons x l => rfl
theorem F_impl_RuleOk_eq (a : List Int) (r : List Int × List Int) : F_impl_RuleOk a r = some (ruleOk a r) := by
  unfold F_impl_RuleOk ruleOk
  rw [F_impl_TermOk_eq, F_impl_TermOk_eq, Option.bind_some]
  cases h1 : termOk a r.1 with
  | false => simp
  | true =>
    rw [Option.bind_some]
    cases h2 : termOk a r.2 with
    | false => simp
    | true =>
      have e1 := termOk_iff.1 h1
      have e2 := termOk_iff.1 h2
      have e3 : (0 : Int) < r.1.length := by omega
      simp only [if_true, Int.le_refl, e3, and_self, Bool.true_and, and_true]
      rw [headD_getD (by omega)]
      by_cases h3 : r.1.headD 0 < 0
      · simp [-List.headD_eq_head?_getD, h3, show ¬ 0 ≤ r.1.headD 0 by omega]
      · simp only [h3, decide_false, Bool.false_eq_true, if_false, show 0 ≤ r.1.headD 0 by omega, decide_true, Bool.true_and]
        refine loop_all (fun i x hi hi' _ hx => ?_) (by simp [F_impl_RuleOk_l1])
        simp only [F_impl_RuleOk_l1, hi', decide_true, if_true, Int.toNat_natCast, show (0 : Int) ≤ i by omega, and_self, hx, w64 (n := (i : Int) + 1) (by omega) (by omega), varIn,
          F_slices_Contains_eq (show Small r.1 by show r.1.length < _; omega), Option.bind_some]
        by_cases h4 : x < 0 <;> by_cases h5 : x ∈ r.1 <;> simp [h4, h5]
theorem F_spec_RuleOk_eq (a : List Int) (r : List Int × List Int) : F_spec_RuleOk a r = some (ruleOk a r) := by
  unfold F_spec_RuleOk ruleOk
  rw [F_spec_TermOk_eq, F_spec_TermOk_eq, Option.bind_some]
  cases h1 : termOk a r.1 with
  | false => simp
  | true =>
    rw [Option.bind_some]
    cases h2 : termOk a r.2 with
    | false => simp
    | true =>
      have e1 := termOk_iff.1 h1
      have e2 := termOk_iff.1 h2
      have e3 : (0 : Int) < r.1.length := by omega
      simp only [if_true, Int.le_refl, e3, and_self, Bool.true_and, and_true]
      rw [headD_getD (by omega)]
      by_cases h3 : r.1.headD 0 < 0
      · simp [-List.headD_eq_head?_getD, h3, show ¬ 0 ≤ r.1.headD 0 by omega]
      · simp only [h3, decide_false, Bool.false_eq_true, if_false, show 0 ≤ r.1.headD 0 by omega, decide_true, Bool.true_and]
        refine loop_all (fun i x hi hi' _ hx => ?_) (by simp [F_spec_RuleOk_l1])
        simp only [F_spec_RuleOk_l1, hi', decide_true, if_true, Int.toNat_natCast, show (0 : Int) ≤ i by omega, and_self, hx, w64 (n := (i : Int) + 1) (by omega) (by omega), varIn,
          F_spec_l1Has_eq (show Small r.1 by show r.1.length < _; omega), Option.bind_some]
        by_cases h4 : x < 0 <;> by_cases h5 : x ∈ r.1 <;> simp [h4, h5]
theorem F_impl_SystemOk_eq (s : List Int × List (List Int × List Int)) : F_impl_SystemOk s = some (sysOk s) := by
  unfold F_impl_SystemOk sysOk
  rw [F_impl_SigOk_eq, Option.bind_some]
  cases h1 : sigOk s.1 with
  | false => simp
  | true =>
    by_cases h2 : 12 < (s.2.length : Int)
    · simp [h2, show ¬ s.2.length ≤ 12 by omega]
    · simp only [if_true, h2, decide_false, Bool.false_eq_true, if_false, Bool.true_and, show s.2.length ≤ 12 by omega, decide_true]
      refine loop_all (fun i x hi hi' _ hx => ?_) (by simp [F_impl_SystemOk_l1])
      simp only [F_impl_SystemOk_l1, hi', decide_true, if_true, Int.toNat_natCast, show (0 : Int) ≤ i by omega, and_self, hx, w64 (n := (i : Int) + 1) (by omega) (by omega), F_impl_RuleOk_eq, Option.bind_some]
      cases ruleOk s.1 x <;> simp
theorem F_spec_SystemOk_eq (s : List Int × List (List Int × List Int)) : F_spec_SystemOk s = some (sysOk s) := by
  unfold F_spec_SystemOk sysOk
  rw [F_spec_SigOk_eq, Option.bind_some]
  cases h1 : sigOk s.1 with
  | false => simp
  | true =>
    by_cases h2 : 12 < (s.2.length : Int)
    · simp [h2, show ¬ s.2.length ≤ 12 by omega]
    · simp only [if_true, h2, decide_false, Bool.false_eq_true, if_false, Bool.true_and, show s.2.length ≤ 12 by omega, decide_true]
      refine loop_all (fun i x hi hi' _ hx => ?_) (by simp [F_spec_SystemOk_l1])
      simp only [F_spec_SystemOk_l1, hi', decide_true, if_true, Int.toNat_natCast, show (0 : Int) ≤ i by omega, and_self, hx, w64 (n := (i : Int) + 1) (by omega) (by omega), F_spec_RuleOk_eq, Option.bind_some]
      cases ruleOk s.1 x <;> simp
theorem getD_ext {s t : List Int} (hl : s.length = t.length) : (s == t) = decide (∀ i < s.length, s.getD i default = t.getD i default) := by
  have : (s == t) = decide (s = t) := by by_cases h : s = t <;> simp [h]
  rw [this]
  refine decide_eq_decide.2 ⟨fun h => by subst h; simp, fun h => ?_⟩
  refine List.ext_getElem hl fun i h1 h2 => ?_
  have := h i h1
  rwa [getD_get h1, getD_get h2] at this
theorem loop_eq {s t : List Int} (hs : Small s) (hl : s.length = t.length) {f : Int → Option (Int ⊕ Bool)}
    (h : ∀ i : Nat, i < s.length → f i = some (if s.getD i default = t.getD i default then .inl ((i : Int) + 1) else .inr false)) (he : f s.length = some (.inr true)) : loopC f 0 = some (s == t) := by
  have key : Okk True (loopC f 0) fun r => r = decide (∀ i < s.length, s.getD i default = t.getD i default) := by
    refine Okk.loop (fun i' : Int => ∃ i : Nat, i' = i ∧ i ≤ s.length ∧ ∀ j < i, s.getD j default = t.getD j default) (fun i' : Int => s.length - i'.toNat) ⟨0, rfl, by omega, by omega⟩ ?_
    rintro _ ⟨i, rfl, h1, h2⟩
    by_cases hi : i < s.length
    · rw [h i hi]
      by_cases e : s.getD i default = t.getD i default
      · rw [if_pos e]
        refine .some ⟨⟨i + 1, by simp, by omega, fun j hj => ?_⟩, by simp; omega⟩
        rcases Nat.lt_or_ge j i with h3 | h3
        · exact h2 j h3
        · obtain rfl : j = i := by omega
          exact e
      · rw [if_neg e]
        refine .some ?_
        simp only [Rnd]
        exact (decide_eq_false fun h => e (h i hi)).symm
    · obtain rfl : i = s.length := by omega
      rw [he]
      refine .some ?_
      simp only [Rnd]
      exact (decide_eq_true h2).symm
  rw [getD_ext hl]
  obtain ⟨r, h1, h2⟩ := key.get
  rw [h1, h2]
theorem F_slices_Equal_eq {s t : List Int} (hs : Small s) : F_slices_Equal_int64_int64 s t = some (s == t) := by
  unfold F_slices_Equal_int64_int64
  by_cases hl : s.length = t.length
  · have : ¬ ((s.length : Int) != (t.length : Int)) = true := by simp; omega
    rw [if_neg this]
    refine loop_eq hs hl (fun i hi => ?_) (by simp [F_slices_Equal_int64_int64_l1])
    simp only [F_slices_Equal_int64_int64_l1, show (i : Int) < s.length by omega, show (i : Int) < t.length by omega, decide_true, if_true, show (0 : Int) ≤ i by omega, and_self, Int.toNat_natCast,
      w64 (n := (i : Int) + 1) (by have := hs; omega) (by have := hs; omega)]
    by_cases e : s.getD i default = t.getD i default
    · simp only [e, bne_self_eq_false, Bool.false_eq_true, if_false, if_true]
    · have : (s.getD i default != t.getD i default) = true := by simpa using e
      simp only [this, e, if_true, if_false, Option.map_some]
  · have : ((s.length : Int) != (t.length : Int)) = true := by simp; omega
    rw [if_pos this]
    congr 1
    symm
    rw [beq_eq_false_iff_ne]
    rintro rfl; exact hl rfl
theorem F_spec_SameTerm_eq {s t : List Int} (hs : Small s) : F_spec_SameTerm s t = some (s == t) := by
  unfold F_spec_SameTerm
  by_cases hl : s.length = t.length
  · have : ¬ ((s.length : Int) != (t.length : Int)) = true := by simp; omega
    rw [if_neg this]
    refine loop_eq hs hl (fun i hi => ?_) (by simp [F_spec_SameTerm_l1])
    simp only [F_spec_SameTerm_l1, show (i : Int) < s.length by omega, show (i : Int) < t.length by omega, decide_true, if_true, show (0 : Int) ≤ i by omega, and_self, Int.toNat_natCast,
      w64 (n := (i : Int) + 1) (by have := hs; omega) (by have := hs; omega)]
    by_cases e : s.getD i default = t.getD i default
    · simp only [e, bne_self_eq_false, Bool.false_eq_true, if_false, if_true]
    · have : (s.getD i default != t.getD i default) = true := by simpa using e
      simp only [this, e, if_true, if_false, Option.map_some]
  · have : ((s.length : Int) != (t.length : Int)) = true := by simp; omega
    rw [if_pos this]
    congr 1
    symm
    rw [beq_eq_false_iff_ne]
    rintro rfl; exact hl rfl
theorem F_spec_l1Copy_eq {l : List Int} (hs : Small l) : F_spec_l1Copy l = some l := by
  unfold F_spec_l1Copy; rw [if_pos (by have := hs; omega)]
theorem F_slices_Clone_eq {l : List Int} (hs : Small l) : F_slices_Clone_int64_int64 l = some l := by
  unfold F_slices_Clone_int64_int64
  refine (Okk.amb (t := True) (P := (· = l)) ?_ fun h => ?_).eq
  · rw [if_pos (by have := hs; omega)]; exact .some rfl
  · subst h; simp
theorem endI_app {a t u r : List Int} {i : Nat} (h : t.drop i = u ++ r) (hu : Wf a 1 u) : endI a t i = (t.length : Int) - r.length := by
  unfold endI; rw [h, hu.skip]
theorem take_sub {t u r : List Int} {i : Nat} (h : t.drop i = u ++ r) (hi : i ≤ t.length) : (t.take (t.length - r.length)).drop i = u := by
  have hl := congrArg List.length h
  simp at hl
  rw [List.drop_take, h, List.take_append_of_le_length (by omega), List.take_of_length_le (by omega)]
theorem F_impl_subAt_eq {a t u r : List Int} (ha : sigOk a = true) (hs : Small t) (hm : ∀ x ∈ t, -24 ≤ x) {i : Nat} (h : t.drop i = u ++ r) (hu : Wf a 1 u) : F_impl_subAt a t i = some u := by
  have hl := congrArg List.length h
  have hul := hu.len
  simp at hl
  have hi : i ≤ t.length := by omega
  unfold F_impl_subAt
  rw [F_impl_endAt_eq ha hs hm hi, Option.bind_some, endI_app h hu, if_pos (by omega), show ((t.length : Int) - r.length).toNat = t.length - r.length by omega, Int.toNat_natCast, take_sub h hi]
theorem F_spec_l1Sub_eq {a t u r : List Int} (ha : sigOk a = true) (hs : Small t) {i : Nat} (h : t.drop i = u ++ r) (hu : Wf a 1 u) : F_spec_l1Sub a t i = some u := by
  have hl := congrArg List.length h
  have hul := hu.len
  simp at hl
  have hi : i ≤ t.length := by omega
  unfold F_spec_l1Sub
  rw [F_spec_l1End_eq ha hs hi, Option.bind_some, endI_app h hu, if_pos (by omega), show ((t.length : Int) - r.length).toNat = t.length - r.length by omega, Int.toNat_natCast, take_sub h hi,
    F_spec_l1Copy_eq (by show u.length < _; have := hs; omega)]
  rfl
def encB (o : Option Bd) (r : Bd × Bool) : Prop := match o with | some b => r = (b, true) | none => r.2 = false
structure MSt (a p t : List Int) (b0 b : Bd) (i c : Nat) : Prop where
  hi : i ≤ p.length
  hc : c ≤ t.length
  hb : b.length = 24
  hsm : ∀ u ∈ b, u.length ≤ 60
  k : ∃ k, Wf a k (p.drop i) ∧ Wf a k (t.drop c)
  m : mat a (p.drop i) (t.drop c) b = mat a p t b0
theorem MSt.var {a p t : List Int} {b0 b : Bd} {i c : Nat} (h : MSt a p t b0 b i c) (hi : i < p.length) (hn : p[i] < 0) : ∃ u r, t.drop c = u ++ r ∧ Wf a 1 u ∧ c + u.length ≤ t.length ∧ okx a p[i] ∧
    mat a p t b0 = (if bget b p[i] = [] then mat a (p.drop (i + 1)) (t.drop (c + u.length)) (bset b p[i] u) else if bget b p[i] = u then mat a (p.drop (i + 1)) (t.drop (c + u.length)) b else none) ∧
    ∃ k, Wf a k (p.drop (i + 1)) ∧ Wf a k (t.drop (c + u.length)) := by
  obtain ⟨k, h1, h2⟩ := h.k
  rw [List.drop_eq_getElem_cons hi] at h1
  cases k with
  | zero => have := h1.zero; cases this
  | succ k =>
    obtain ⟨ho, h1⟩ := Wf.cons_iff.1 h1
    rw [show k + 1 = 1 + k by omega] at h2
    obtain ⟨u, r, e, hu, hr⟩ := h2.split
    have hr' : t.drop (c + u.length) = r := by rw [← List.drop_drop, e, List.drop_left]
    have hl := congrArg List.length e
    simp at hl
    have := hu.len
    refine ⟨u, r, e, hu, by omega, ho, ?_, k, ?_, by rw [hr']; exact hr⟩
    · rw [← h.m, List.drop_eq_getElem_cons hi, e, mat_var hn hu, hr']
    · have ha : ari a p[i] = 0 := by simp [ari, hn]
      rwa [ha, Nat.add_zero] at h1
theorem MSt.sym {a p t : List Int} {b0 b : Bd} {i c : Nat} (h : MSt a p t b0 b i c) (hi : i < p.length) (hn : ¬ p[i] < 0) : ∃ hc : c < t.length, okx a p[i] ∧ mat a p t b0 = (if t[c] = p[i] then mat a (p.drop (i + 1)) (t.drop (c + 1)) b else none) ∧
    (t[c] = p[i] → ∃ k, Wf a k (p.drop (i + 1)) ∧ Wf a k (t.drop (c + 1))) := by
  obtain ⟨k, h1, h2⟩ := h.k
  rw [List.drop_eq_getElem_cons hi] at h1
  cases k with
  | zero => have := h1.zero; cases this
  | succ k =>
    obtain ⟨ho, h1⟩ := Wf.cons_iff.1 h1
    have hc : c < t.length := by
      rcases Nat.lt_or_ge c t.length with h | h
      · exact h
      · rw [List.drop_of_length_le h] at h2; have := h2.len; simp at this
    rw [List.drop_eq_getElem_cons hc] at h2
    obtain ⟨ho', h2⟩ := Wf.cons_iff.1 h2
    refine ⟨hc, ho, ?_, fun e => ⟨k + ari a p[i], h1, by rw [← e]; exact h2⟩⟩
    rw [← h.m, List.drop_eq_getElem_cons hi, List.drop_eq_getElem_cons hc, mat_sym hn]
theorem MSt.at_lt {a p t : List Int} {b0 b : Bd} {i c : Nat} (h : MSt a p t b0 b i c) (hi : i < p.length) : c < t.length := by
  obtain ⟨k, h1, h2⟩ := h.k
  rw [List.drop_eq_getElem_cons hi] at h1
  cases k with
  | zero => have := h1.zero; cases this
  | succ k =>
    rcases Nat.lt_or_ge c t.length with h | h
    · exact h
    · rw [List.drop_of_length_le h] at h2; have := h2.len; simp at this
theorem bset_small {b : Bd} {n : Int} {u : List Int} (hs : ∀ u ∈ b, u.length ≤ 60) (hu : u.length ≤ 60) : ∀ v ∈ bset b n u, v.length ≤ 60 := fun v hv => by
  rcases List.mem_or_eq_of_mem_set hv with h | h
  · exact hs v h
  · subst h; exact hu
theorem bget_small {b : Bd} {n : Int} (hs : ∀ u ∈ b, u.length ≤ 60) : (bget b n).length ≤ 60 := by
  unfold bget
  rw [List.getD_eq_getElem?_getD]
  cases h : b[(-1 - n).toNat]? with
  | none => simp
  | some u => exact hs u (List.mem_of_getElem? h)
theorem F_impl_matchInto_ok {a p t : List Int} {b0 : Bd} (ha : sigOk a = true) (hp : Wf a 1 p) (ht : Wf a 1 t) (hpl : p.length ≤ 60) (htl : t.length ≤ 60) (hb : b0.length = 24) (hbs : ∀ u ∈ b0, u.length ≤ 60) :
    Okk True (F_impl_matchInto a p t b0) (fun r => encB (mat a p t b0) r ∧ r.1.length = 24) := by
  unfold F_impl_matchInto
  refine Okk.loop (fun s : Int × Int × Bd => ∃ i c : Nat, s.1 = (c : Int) ∧ s.2.1 = (i : Int) ∧ MSt a p t b0 s.2.2 i c) (fun s : Int × Int × Bd => p.length - s.2.1.toNat)
    ⟨0, 0, rfl, rfl, by omega, by omega, hb, hbs, ⟨1, by simpa using hp, by simpa using ht⟩, by simp⟩ ?_
  rintro ⟨_, _, b⟩ ⟨i, c, rfl, rfl, h⟩
  simp only at h
  have hb := h.hb
  simp only [F_impl_matchInto_l1]
  by_cases hi : i < p.length
  · have hc := h.at_lt hi
    simp only [show (i : Int) < p.length by omega, show ¬ (t.length : Int) ≤ c by omega, decide_true, decide_false, if_true, show (0 : Int) ≤ i by omega, show (0 : Int) ≤ c by omega, show (c : Int) < t.length by omega, and_self,
      Bool.false_eq_true, if_false, Int.toNat_natCast, getD_get hi, getD_get hc, w64 (n := (i : Int) + 1) (by omega) (by omega), w64 (n := (c : Int) + 1) (by omega) (by omega)]
    by_cases hn : p[i] < 0
    · obtain ⟨u, r, e, hu, hl, ho, hm, hk⟩ := h.var hi hn
      have hul := hu.len
      have hx : -24 ≤ p[i] := ho.1
      have hlt : (-1 - p[i]).toNat < b.length := by omega
      simp only [show ¬ 0 ≤ p[i] by omega, decide_false, Bool.false_eq_true, if_false, F_impl_subAt_eq ha (show Small t by show t.length < _; omega) (fun x hx => (ht.all x hx).1) e hu, Option.bind_some,
        w64 (n := -1 - p[i]) (by omega) (by omega), show 0 ≤ -1 - p[i] by omega, show -1 - p[i] < 24 by omega, show -1 - p[i] < (b.length : Int) by omega, and_self, if_true, hb, show ((-1 : Int) - p[i] < ((24 : Nat) : Int)) by omega,
        w64 (n := (c : Int) + u.length) (by omega) (by omega)]
      have eg : b.getD (-1 - p[i]).toNat default = bget b p[i] := rfl
      rw [eg]
      by_cases h0 : bget b p[i] = []
      · rw [if_pos h0] at hm
        simp only [h0, List.isEmpty_nil, if_true, show 0 < u.length by omega]
        exact .some ⟨⟨i + 1, c + u.length, by simp, by simp, by omega, by omega, by simpa using hb, bset_small h.hsm (by omega), hk, by rw [hm]; rfl⟩, by simp; omega⟩
      · rw [if_neg h0] at hm
        have : ¬ (bget b p[i]).isEmpty = true := by simpa using h0
        simp only [this, if_false, F_slices_Equal_eq (show Small (bget b p[i]) by show List.length _ < _; have := bget_small (n := p[i]) h.hsm; omega), Option.bind_some]
        by_cases h1 : bget b p[i] = u
        · rw [if_pos h1] at hm
          simp only [h1, beq_self_eq_true, if_true]
          exact .some ⟨⟨i + 1, c + u.length, by simp, by simp, by omega, by omega, hb, h.hsm, hk, hm.symm⟩, by simp; omega⟩
        · rw [if_neg h1] at hm
          have : ¬ (bget b p[i] == u) = true := by simpa using h1
          simp only [this, if_false, Option.map_some]
          refine .some ?_
          simp only [Rnd, encB, hm]
          exact ⟨trivial, hb⟩
    · obtain ⟨hc', ho, hm, hk⟩ := h.sym hi hn
      simp only [show 0 ≤ p[i] by omega, decide_true, if_true]
      by_cases e : t[c] = p[i]
      · rw [if_pos e] at hm
        simp only [e, bne_self_eq_false, Bool.false_eq_true, if_false]
        exact .some ⟨⟨i + 1, c + 1, by simp, by simp, by omega, by omega, hb, h.hsm, hk e, hm.symm⟩, by simp; omega⟩
      · rw [if_neg e] at hm
        have : (t[c] != p[i]) = true := by simpa using e
        simp only [this, if_true, hb, Option.map_some]
        refine .some ?_
        simp only [Rnd, encB, hm]
        exact ⟨trivial, hb⟩
  · have hm := h.m
    rw [List.drop_of_length_le (by omega), mat_nil] at hm
    simp only [show ¬ (i : Int) < p.length by omega, decide_false, Bool.false_eq_true, if_false, hb, if_true, Option.map_some]
    refine .some ?_
    simp only [Rnd, encB, ← hm]
    exact ⟨trivial, hb⟩
def plainAt (s : Bd) (i : Nat) : List Int := if s.getD i [] = [] ∨ s.getD i [] = [-1 - (i : Int)] then [] else s.getD i []
theorem plain_sig {s o : Bd} (h : ∀ i, o.getD i [] = plainAt s i) {n : Int} (hn : n < 0) : Tm.sig o n = Tm.sig s n := by
  unfold Tm.sig bget
  rw [h]
  unfold plainAt
  rw [show -1 - ((-1 - n).toNat : Int) = n by omega]
  by_cases h1 : s.getD (-1 - n).toNat [] = []
  · simp only [h1, true_or, if_true]
  · by_cases h2 : s.getD (-1 - n).toNat [] = [n]
    · simp only [h2, or_true, if_true]; simp
    · simp only [h1, h2, or_self, if_false]
theorem getD_append {s : Bd} {u : List Int} {i : Nat} : (s ++ [u]).getD i [] = if i < s.length then s.getD i [] else if i = s.length then u else [] := by
  rw [List.getD_eq_getElem?_getD]
  by_cases h : i < s.length
  · rw [if_pos h, List.getElem?_append_left h, List.getD_eq_getElem?_getD]
  · rw [if_neg h, List.getElem?_append_right (by omega)]
    by_cases h2 : i = s.length
    · subst h2; simp
    · rw [if_neg h2, List.getElem?_eq_none (by simp; omega)]; rfl
theorem getD_out {s : Bd} {i : Nat} (h : s.length ≤ i) : s.getD i [] = [] := by
  rw [List.getD_eq_getElem?_getD, List.getElem?_eq_none h]; rfl
structure PSt (s : Bd) (o : Bd) (i : Nat) : Prop where
  hi : i ≤ s.length
  hl : o.length ≤ i
  he : ∀ j < i, o.getD j [] = plainAt s j
theorem F_impl_plain_ok {s : Bd} (hl : s.length ≤ 24) (hs : ∀ u ∈ s, u.length ≤ 60) : Okk True (F_impl_plain s) fun o => o.length ≤ 24 ∧ ∀ i, o.getD i [] = plainAt s i := by
  unfold F_impl_plain
  refine Okk.loop (fun q : Int × Bd => ∃ i : Nat, q.1 = i ∧ PSt s q.2 i) (fun q : Int × Bd => s.length - q.1.toNat) ⟨0, rfl, by omega, by simp, by omega⟩ ?_
  rintro ⟨_, o⟩ ⟨i, rfl, h⟩
  simp only at h
  simp only [F_impl_plain_l1]
  by_cases hi : i < s.length
  · have hu := hs _ (List.getElem_mem hi)
    have hg : s.getD i [] = s[i] := getD_get hi
    simp only [show (i : Int) < s.length by omega, decide_true, if_true, show (0 : Int) ≤ i by omega, and_self, Int.toNat_natCast, getD_get hi, w64 (n := (i : Int) + 1) (by omega) (by omega)]
    have skip : plainAt s i = [] → Okk True (some (Sum.inl ((i : Int) + 1, o)) : Option ((Int × Bd) ⊕ Bd)) (Rnd (fun q : Int × Bd => ∃ i : Nat, q.1 = i ∧ PSt s q.2 i) (fun q : Int × Bd => s.length - q.1.toNat) (fun o => o.length ≤ 24 ∧ ∀ i, o.getD i [] = plainAt s i) (s.length - i)) := fun hp =>
      .some ⟨⟨i + 1, by simp, by omega, Nat.le_succ_of_le h.hl, fun j hj => by
        rcases Nat.lt_or_ge j i with h3 | h3
        · exact h.he j h3
        · obtain rfl : j = i := by omega
          rw [hp, getD_out h.hl]⟩, by simp; omega⟩
    by_cases h0 : s[i] = []
    · simp only [h0, List.length_nil, Int.natCast_zero, beq_self_eq_true, if_true]
      exact skip (by unfold plainAt; rw [hg, if_pos (.inl h0)])
    · have hne : ¬ (((s[i]).length : Int) == 0) = true := by
        have := List.length_pos_iff.2 h0
        simp only [beq_iff_eq]; omega
      simp only [hne, if_false, F_impl_variable, Option.bind_some, w64 (n := -1 - (i : Int)) (by omega) (by omega), F_slices_Equal_eq (show Small s[i] by show List.length _ < _; omega)]
      by_cases h1 : s[i] = [-1 - (i : Int)]
      · simp only [h1, beq_self_eq_true, if_true]
        exact skip (by unfold plainAt; rw [hg, if_pos (.inr h1)])
      · have : ¬ (s[i] == [-1 - (i : Int)]) = true := by simpa using h1
        simp only [this, if_false]
        have hp : plainAt s i = s[i] := by unfold plainAt; rw [hg, if_neg (by simp [h0, h1])]
        refine Okk.loop (fun o' : Bd => o'.length ≤ i ∧ ∀ j < i, o'.getD j [] = plainAt s j) (fun o' : Bd => i - o'.length) ⟨h.hl, h.he⟩ ?_
        rintro o' ⟨h3, h4⟩
        simp only [F_impl_plain_l2]
        by_cases h5 : o'.length < i
        · simp only [show (o'.length : Int) < i by omega, decide_true, if_true, show (o'.length + 1) * 24 ≤ 140737488355328 by omega]
          refine .some ⟨⟨by simp; omega, fun j hj => ?_⟩, by simp; omega⟩
          rw [getD_append]
          split
          · exact h4 j hj
          · have := h4 j hj
            rw [getD_out (by omega)] at this
            simp [← this]
        · simp only [show ¬ (o'.length : Int) < i by omega, decide_false, Bool.false_eq_true, if_false, show (o'.length + 1) * 24 ≤ 140737488355328 by omega, if_true]
          rw [Int.toNat_natCast, getD_get hi, F_slices_Clone_eq (show Small s[i] by show List.length _ < _; omega), Option.bind_some, Option.map_some]
          refine .some ?_
          refine ⟨⟨i + 1, by simp [w64 (n := (i : Int) + 1) (by omega) (by omega)], by omega, by simp; omega, fun j hj => ?_⟩, by simp [w64 (n := (i : Int) + 1) (by omega) (by omega)]; omega⟩
          rw [getD_append]
          split
          · exact h4 j (by omega)
          · obtain rfl : j = i := by omega
            rw [if_pos (by omega), hp]
  · simp only [show ¬ (i : Int) < s.length by omega, decide_false, Bool.false_eq_true, if_false, Option.map_some]
    refine .some ⟨by have := h.hl; have := h.hi; omega, fun j => ?_⟩
    by_cases hj : j < i
    · exact h.he j hj
    · rw [getD_out (by have := h.hl; omega)]
      unfold plainAt
      rw [getD_out (s := s) (by omega)]; simp
def MRes (o : Option Bd) (r : Bd × Bool) : Prop := match o with
  | some b => r.2 = true ∧ r.1.length ≤ 24 ∧ ∀ i, r.1.getD i [] = plainAt b i
  | none => r.2 = false
theorem mat_small {a : List Int} : ∀ {p t : List Int} {b b' : Bd}, mat a p t b = some b' → (∀ u ∈ b, u.length ≤ 60) → t.length ≤ 60 → b.length = 24 → b'.length = 24 ∧ ∀ u ∈ b', u.length ≤ 60
  | [], t, b, b', h, hs, _, hb => by rw [mat_nil] at h; cases h; exact ⟨hb, hs⟩
  | n :: p, t, b, b', h, hs, ht, hb => by
    unfold mat at h
    split at h
    · split at h
      · cases h
      · rename_i r hr
        have := skip_len hr
        simp only at h
        split at h
        · exact mat_small (b := Tm.bset b n _) h (bset_small hs (by simp; omega)) (by omega) (by simpa [Tm.bset] using hb)
        · split at h
          · exact mat_small h hs (by omega) hb
          · cases h
    · split at h
      · cases h
      · split at h
        · exact mat_small h hs (by simp at ht; omega) hb
        · cases h
theorem F_impl_match_ok {a p t : List Int} (ha : sigOk a = true) (hp : Wf a 1 p) (ht : Wf a 1 t) (hpl : p.length ≤ 60) (htl : t.length ≤ 60) : Okk True (F_impl_match a p t) (MRes (mat a p t none24)) := by
  unfold F_impl_match
  have hn : ∀ u ∈ none24, u.length ≤ 60 := by intro u hu; simp [none24] at hu; subst hu; simp
  obtain ⟨r, h1, h2, h3⟩ := (F_impl_matchInto_ok ha hp ht hpl htl (b0 := none24) (by simp [none24]) hn).get
  rw [show (List.replicate 24 [] : Bd) = none24 from rfl, h1, Option.bind_some, if_pos h3]
  cases hm : mat a p t none24 with
  | none =>
    rw [hm] at h2
    simp only [encB] at h2
    simp only [h2, Bool.false_eq_true, if_false]
    exact .some rfl
  | some b =>
    rw [hm] at h2
    simp only [encB] at h2
    subst h2
    obtain ⟨h4, h5⟩ := mat_small hm hn htl (by simp [none24])
    simp only [if_true, h4, F_impl_bindings_subst, Option.bind_some]
    refine Okk.bind (F_impl_plain_ok (by omega) h5) fun o ho => .some ⟨rfl, ho.1, ho.2⟩
theorem F_spec_l2Gives_eq {s : Bd} (hs : ∀ u ∈ s, u.length ≤ 60) (hl : s.length ≤ 24) {i : Nat} (hi : i ≤ 24) : F_spec_l2Gives s i = some (if s.getD i [] = [] then [-1 - (i : Int)] else s.getD i []) := by
  unfold F_spec_l2Gives
  rw [w64 (n := -1 - (i : Int)) (by omega) (by omega)]
  by_cases h : i < s.length
  · have hu := hs _ (List.getElem_mem h)
    have hg : s.getD i [] = s[i] := getD_get h
    simp only [show (i : Int) < s.length by omega, decide_true, if_true, show (0 : Int) ≤ i by omega, and_self, Int.toNat_natCast, getD_get h, hg]
    by_cases h0 : s[i] = []
    · simp [h0]
    · have := List.length_pos_iff.2 h0
      simp only [h0, if_false, show (0 : Int) < s[i].length by omega, decide_true, if_true, F_spec_l1Copy_eq (show Small s[i] by show List.length _ < _; omega), Option.bind_some]
  · simp only [show ¬ (i : Int) < s.length by omega, decide_false, Bool.false_eq_true, if_false, getD_out (s := s) (i := i) (by omega), if_true]
theorem F_spec_l2Plain_ok {s : Bd} (hl : s.length ≤ 24) (hs : ∀ u ∈ s, u.length ≤ 60) : Okk True (F_spec_l2Plain s) fun o => o.length ≤ 24 ∧ ∀ i, o.getD i [] = plainAt s i := by
  unfold F_spec_l2Plain
  refine Okk.loop (fun q : Int × Bd => ∃ i : Nat, q.1 = i ∧ i ≤ s.length ∧ q.2.length = i ∧ ∀ j < i, q.2.getD j [] = plainAt s j) (fun q : Int × Bd => s.length - q.1.toNat) ⟨0, rfl, by omega, rfl, by omega⟩ ?_
  rintro ⟨_, o⟩ ⟨i, rfl, h1, h2, h3⟩
  simp only at h2 h3
  simp only [F_spec_l2Plain_l1]
  by_cases hi : i < s.length
  · have hw : IntKind.i64.wrap ((i : Int) + 1) = i + 1 := w64 (by omega) (by omega)
    have hw2 : IntKind.i64.wrap (-1 - (i : Int)) = -1 - i := w64 (by omega) (by omega)
    have hm : (o.length + 1) * 24 ≤ 140737488355328 := by omega
    have hg : s.getD i [] = s[i] := getD_get hi
    have step : ∀ u : List Int, plainAt s i = u → Okk True (some (Sum.inl ((i : Int) + 1, o ++ [u])) : Option ((Int × Bd) ⊕ Bd)) (Rnd (fun q : Int × Bd => ∃ i : Nat, q.1 = i ∧ i ≤ s.length ∧ q.2.length = i ∧ ∀ j < i, q.2.getD j [] = plainAt s j) (fun q : Int × Bd => s.length - q.1.toNat) (fun o => o.length ≤ 24 ∧ ∀ i, o.getD i [] = plainAt s i) (s.length - i)) := fun u hu =>
      .some ⟨⟨i + 1, by simp, by omega, by simp [h2], fun j hj => by
        rw [getD_append]
        split
        · exact h3 j (by omega)
        · rw [if_pos (by omega), show j = i by omega, hu]⟩, by simp; omega⟩
    simp only [show (i : Int) < s.length by omega, decide_true, if_true, F_spec_l2Gives_eq hs hl (i := i) (by omega), Option.bind_some, hm, hw, hw2]
    by_cases h0 : s[i] = []
    · simp only [hg, h0, if_true, List.length_singleton, Int.natCast_one, beq_self_eq_true, Int.le_refl, show (0 : Int) < 1 by omega, and_self, List.getD_cons_zero]
      exact step [] (by unfold plainAt; rw [hg, if_pos (.inl h0)])
    · simp only [hg, h0, if_false]
      by_cases hlen : s[i].length = 1
      · obtain ⟨x, hx⟩ := List.length_eq_one_iff.1 hlen
        simp only [hx, List.length_singleton, Int.natCast_one, beq_self_eq_true, if_true, Int.le_refl, show (0 : Int) < 1 by omega, and_self, List.getD_cons_zero]
        by_cases e : x = -1 - (i : Int)
        · simp only [e, beq_self_eq_true, if_true]
          exact step [] (by unfold plainAt; rw [hg, if_pos (.inr (by rw [hx, e]))])
        · have : ¬ (x == -1 - (i : Int)) = true := by simpa using e
          simp only [this, if_false]
          exact step [x] (by unfold plainAt; rw [hg, hx, if_neg (by simp [e])])
      · have : ¬ ((s[i].length : Int) == 1) = true := by simp only [beq_iff_eq]; omega
        simp only [this, if_false]
        refine step s[i] ?_
        unfold plainAt
        rw [hg, if_neg]
        rintro (h | h)
        · exact h0 h
        · exact hlen (by rw [h]; rfl)
  · simp only [show ¬ (i : Int) < s.length by omega, decide_false, Bool.false_eq_true, if_false]
    have hall : ∀ j, o.getD j [] = plainAt s j := fun j => by
      by_cases hj : j < i
      · exact h3 j hj
      · rw [getD_out (by omega)]; unfold plainAt; rw [getD_out (s := s) (by omega)]; simp
    refine Okk.inr ?_
    simp only [Rnd]
    refine Okk.loop (fun o' : Bd => o'.length ≤ 24 ∧ ∀ j, o'.getD j [] = plainAt s j) (fun o' : Bd => o'.length) ⟨by omega, hall⟩ ?_
    rintro o' ⟨h4, h5⟩
    simp only [F_spec_l2Plain_l2]
    by_cases h6 : 0 < o'.length
    · have hw : IntKind.i64.wrap ((o'.length : Int) - 1) = o'.length - 1 := w64 (by omega) (by omega)
      have ht : ((o'.length : Int) - 1).toNat = o'.length - 1 := by omega
      have hlt : o'.length - 1 < o'.length := by omega
      simp only [show (0 : Int) < o'.length by omega, decide_true, if_true, hw, show 0 ≤ (o'.length : Int) - 1 by omega, show (o'.length : Int) - 1 < o'.length by omega, show (o'.length : Int) - 1 ≤ o'.length by omega, and_self, ht, getD_get hlt]
      by_cases h7 : o'[o'.length - 1] = []
      · simp only [h7, List.length_nil, Int.natCast_zero, beq_self_eq_true, if_true]
        refine .some ⟨⟨by simp; omega, fun j => ?_⟩, by simp; omega⟩
        rw [← h5 j, List.getD_eq_getElem?_getD, List.getD_eq_getElem?_getD, List.getElem?_take]
        split
        · rfl
        · by_cases hj : j = o'.length - 1
          · subst hj; rw [List.getElem?_eq_getElem hlt, h7]; rfl
          · rw [List.getElem?_eq_none (by omega)]
      · have := List.length_pos_iff.2 h7
        have : ¬ ((o'[o'.length - 1].length : Int) == 0) = true := by simp only [beq_iff_eq]; omega
        simp only [this, if_false, Option.map_some]
        exact .some ⟨h4, h5⟩
    · simp only [show ¬ (0 : Int) < o'.length by omega, decide_false, Bool.false_eq_true, if_false, Option.map_some]
      exact .some ⟨h4, h5⟩
theorem F_spec_l4Match_ok {a p t : List Int} (ha : sigOk a = true) (hp : Wf a 1 p) (ht : Wf a 1 t) (hpl : p.length ≤ 60) (htl : t.length ≤ 60) : Okk True (F_spec_l4Match a p t) (MRes (mat a p t none24)) := by
  have hn : ∀ u ∈ none24, u.length ≤ 60 := by intro u hu; simp [none24] at hu; subst hu; simp
  unfold F_spec_l4Match
  rw [show (List.replicate 24 [] : Bd) = none24 from rfl]
  refine Okk.loop (fun s : Int × Int × Bd => ∃ i c : Nat, s.1 = (c : Int) ∧ s.2.1 = (i : Int) ∧ MSt a p t none24 s.2.2 i c) (fun s : Int × Int × Bd => p.length - s.2.1.toNat)
    ⟨0, 0, rfl, rfl, by omega, by omega, by simp [none24], hn, ⟨1, by simpa using hp, by simpa using ht⟩, by simp⟩ ?_
  rintro ⟨_, _, b⟩ ⟨i, c, rfl, rfl, h⟩
  simp only at h
  have hb := h.hb
  simp only [F_spec_l4Match_l1]
  by_cases hi : i < p.length
  · have hc := h.at_lt hi
    simp only [show (i : Int) < p.length by omega, show ¬ (t.length : Int) ≤ c by omega, decide_true, decide_false, if_true, show (0 : Int) ≤ i by omega, show (0 : Int) ≤ c by omega, show (c : Int) < t.length by omega, and_self,
      Bool.false_eq_true, if_false, Int.toNat_natCast, getD_get hi, getD_get hc, w64 (n := (i : Int) + 1) (by omega) (by omega), w64 (n := (c : Int) + 1) (by omega) (by omega)]
    by_cases hn : p[i] < 0
    · obtain ⟨u, r, e, hu, hl, ho, hm, hk⟩ := h.var hi hn
      have hul := hu.len
      have hx : -24 ≤ p[i] := ho.1
      have hlt : (-1 - p[i]).toNat < b.length := by omega
      simp only [show ¬ 0 ≤ p[i] by omega, decide_false, Bool.false_eq_true, if_false, F_spec_l1Sub_eq ha (show Small t by show t.length < _; omega) e hu, Option.bind_some,
        w64 (n := -1 - p[i]) (by omega) (by omega), show 0 ≤ -1 - p[i] by omega, show -1 - p[i] < 24 by omega, and_self, if_true, hb, show ((-1 : Int) - p[i] < ((24 : Nat) : Int)) by omega,
        w64 (n := (c : Int) + u.length) (by omega) (by omega)]
      have eg : b.getD (-1 - p[i]).toNat default = bget b p[i] := rfl
      rw [eg]
      by_cases h0 : bget b p[i] = []
      · rw [if_pos h0] at hm
        simp only [h0, List.length_nil, Int.natCast_zero, Int.lt_irrefl, decide_false, Bool.false_eq_true, if_false]
        exact .some ⟨⟨i + 1, c + u.length, by simp, by simp, by omega, by omega, by simpa using hb, bset_small h.hsm (by omega), hk, by rw [hm]; rfl⟩, by simp; omega⟩
      · rw [if_neg h0] at hm
        have hp0 := List.length_pos_iff.2 h0
        simp only [show (0 : Int) < ((bget b p[i]).length : Int) by omega, decide_true, if_true, F_spec_SameTerm_eq (show Small (bget b p[i]) by show List.length _ < _; have := bget_small (n := p[i]) h.hsm; omega), Option.bind_some]
        by_cases h1 : bget b p[i] = u
        · rw [if_pos h1] at hm
          simp only [h1, beq_self_eq_true, if_true]
          have hset : b.set (-1 - p[i]).toNat u = b := by
            have : b[(-1 - p[i]).toNat] = u := by rw [← h1]; exact (getD_get hlt).symm
            rw [← this]; exact List.set_getElem_self hlt
          rw [hset]
          exact .some ⟨⟨i + 1, c + u.length, by simp, by simp, by omega, by omega, hb, h.hsm, hk, hm.symm⟩, by simp; omega⟩
        · rw [if_neg h1] at hm
          have : ¬ (bget b p[i] == u) = true := by simpa using h1
          simp only [this, if_false, Option.map_some]
          refine .some ?_
          simp only [Rnd, MRes, hm]
    · obtain ⟨hc', ho, hm, hk⟩ := h.sym hi hn
      simp only [show 0 ≤ p[i] by omega, decide_true, if_true]
      by_cases e : t[c] = p[i]
      · rw [if_pos e] at hm
        simp only [e, bne_self_eq_false, Bool.false_eq_true, if_false]
        exact .some ⟨⟨i + 1, c + 1, by simp, by simp, by omega, by omega, hb, h.hsm, hk e, hm.symm⟩, by simp; omega⟩
      · rw [if_neg e] at hm
        have : (p[i] != t[c]) = true := by simpa using fun h => e h.symm
        simp only [this, if_true, Option.map_some]
        refine .some ?_
        simp only [Rnd, MRes, hm]
  · have hm := h.m
    rw [List.drop_of_length_le (by omega), mat_nil] at hm
    simp only [show ¬ (i : Int) < p.length by omega, decide_false, Bool.false_eq_true, if_false, hb, if_true]
    refine Okk.inr ?_
    refine Okk.bind (F_spec_l2Plain_ok (by omega) h.hsm) fun o ho => .some ?_
    simp only [Rnd, MRes, ← hm]
    exact ⟨trivial, ho.1, ho.2⟩
theorem sub_take {σ : Int → List Int} {t : List Int} {i : Nat} (hi : i < t.length) : sub σ (t.take (i + 1)) = sub σ (t.take i) ++ (if t[i] < 0 then σ t[i] else [t[i]]) := by
  rw [List.take_add_one, List.getElem?_eq_getElem hi, sub_app]
  simp [sub]
theorem sub_take_le {σ : Int → List Int} {t : List Int} {i : Nat} : (sub σ (t.take i)).length ≤ (sub σ t).length := by
  have : sub σ t = sub σ (t.take i) ++ sub σ (t.drop i) := by rw [← sub_app, List.take_append_drop]
  rw [this]; simp
def fillO (σ : Int → List Int) (t : List Int) : Option (List Int) := if (sub σ t).length ≤ 60 then some (sub σ t) else none
def encO (o : Option (List Int)) : List Int × Bool := match o with | some x => (x, true) | none => ([], false)
theorem F_impl_byVar_eq {s : Bd} (hl : s.length ≤ 24) {i : Nat} (hi : i ≤ 24) : F_impl_Subst_byVar s i = some (s.getD i []) := by
  unfold F_impl_Subst_byVar
  by_cases h : i < s.length
  · have hg : s.getD i [] = s[i] := getD_get h
    simp only [show ¬ (s.length : Int) ≤ i by omega, decide_false, Bool.false_eq_true, if_false, show (0 : Int) ≤ i by omega, show (i : Int) < s.length by omega, and_self, if_true, Int.toNat_natCast, getD_get h, hg]
    by_cases h0 : s[i] = []
    · simp [h0]
    · have := List.length_pos_iff.2 h0
      have h2 : ¬ ((s[i].length : Int) == 0) = true := by simp only [beq_iff_eq]; omega
      simp only [h2, Bool.false_eq_true, if_false, this, if_true]
  · simp only [show (s.length : Int) ≤ i by omega, decide_true, if_true, getD_out (s := s) (i := i) (by omega)]
theorem fill_step {σ : Int → List Int} {t : List Int} {i : Nat} (hi : i < t.length) {out u : List Int} (ho : out = sub σ (t.take i)) (hu : u = if t[i] < 0 then σ t[i] else [t[i]]) :
    (60 < (out ++ u).length → fillO σ t = none) ∧ out ++ u = sub σ (t.take (i + 1)) := by
  have e : out ++ u = sub σ (t.take (i + 1)) := by rw [sub_take hi, ho, hu]
  refine ⟨fun h => ?_, e⟩
  rw [e] at h
  unfold fillO
  rw [if_neg]
  have := sub_take_le (σ := σ) (t := t) (i := i + 1)
  omega
theorem F_impl_fill_eq {s : Bd} {t : List Int} (hl : s.length ≤ 24) (hs : ∀ i, (s.getD i []).length ≤ 60) (ht : t.length ≤ 60) (hx : ∀ x ∈ t, -24 ≤ x) : F_impl_fill s t = some (encO (fillO (Tm.sig s) t)) := by
  have key : Okk True (F_impl_fill s t) (· = encO (fillO (Tm.sig s) t)) := by
    unfold F_impl_fill
    simp only [F_impl_Subst_lookup, Option.bind_some, show 0 ≤ (t.length : Int) ∧ 8 * (t.length : Int) ≤ 281474976710656 by omega, and_self, if_true]
    refine Okk.loop (fun q : List Int × Int => ∃ i : Nat, q.2 = i ∧ i ≤ t.length ∧ q.1 = sub (Tm.sig s) (t.take i) ∧ q.1.length ≤ 60) (fun q : List Int × Int => t.length - q.2.toNat) ⟨0, rfl, by omega, by simp [sub], by simp⟩ ?_
    rintro ⟨out, _⟩ ⟨i, rfl, h1, h2, h3⟩
    simp only at h2 h3
    simp only [F_impl_fill_l1]
    by_cases hi : i < t.length
    · have hxi := hx _ (List.getElem_mem hi)
      simp only [show (i : Int) < t.length by omega, decide_true, if_true, show (0 : Int) ≤ i by omega, and_self, Int.toNat_natCast, getD_get hi, w64 (n := (i : Int) + 1) (by omega) (by omega)]
      have fin : ∀ u : List Int, u.length ≤ 60 → u = (if t[i] < 0 then Tm.sig s t[i] else [t[i]]) → Okk True (if decide (60 < ((out ++ u).length : Int)) = true then Option.map Sum.inr (some (([] : List Int), false)) else some (Sum.inl (out ++ u, (i : Int) + 1)))
          (Rnd (fun q : List Int × Int => ∃ i : Nat, q.2 = i ∧ i ≤ t.length ∧ q.1 = sub (Tm.sig s) (t.take i) ∧ q.1.length ≤ 60) (fun q : List Int × Int => t.length - q.2.toNat) (· = encO (fillO (Tm.sig s) t)) (t.length - i)) := fun u hu e => by
        obtain ⟨h4, h5⟩ := fill_step hi h2 e
        by_cases h6 : 60 < (out ++ u).length
        · simp only [show (60 : Int) < ((out ++ u).length : Int) by omega, decide_true, if_true, Option.map_some]
          refine .some ?_
          simp only [Rnd, h4 h6, encO]
        · simp only [show ¬ (60 : Int) < ((out ++ u).length : Int) by omega, decide_false, Bool.false_eq_true, if_false]
          exact .some ⟨⟨i + 1, by simp, by omega, h5, by simp only; omega⟩, by simp; omega⟩
      unfold F_impl_Subst_lookup_1
      by_cases hn : t[i] < 0
      · have hi24 : ((-1 - t[i]).toNat : Int) = -1 - t[i] := by omega
        simp only [show ¬ 0 ≤ t[i] by omega, decide_false, Bool.false_eq_true, if_false, w64 (n := -1 - t[i]) (by omega) (by omega)]
        rw [← hi24, F_impl_byVar_eq hl (by omega), Option.bind_some, Option.bind_some]
        have hb : s.getD (-1 - t[i]).toNat [] = bget s t[i] := rfl
        rw [hb]
        have hbl : (bget s t[i]).length ≤ 60 := hs _
        by_cases h0 : bget s t[i] = []
        · simp only [h0, List.isEmpty_nil, if_true, show (out.length + 1) * 8 ≤ 140737488355328 by omega]
          exact fin [t[i]] (by simp) (by rw [if_pos hn]; unfold Tm.sig; rw [if_pos h0])
        · have : ¬ (bget s t[i]).isEmpty = true := by simpa using h0
          simp only [this, if_false, show (out.length + (bget s t[i]).length) * 8 ≤ 140737488355328 by omega, if_true]
          exact fin (bget s t[i]) hbl (by rw [if_pos hn]; unfold Tm.sig; rw [if_neg h0])
      · simp only [show 0 ≤ t[i] by omega, decide_true, if_true, Option.bind_some, List.isEmpty_nil, show (out.length + 1) * 8 ≤ 140737488355328 by omega]
        exact fin [t[i]] (by simp) (by rw [if_neg hn])
    · simp only [show ¬ (i : Int) < t.length by omega, decide_false, Bool.false_eq_true, if_false, Option.map_some]
      refine .some ?_
      rw [List.take_of_length_le (by omega)] at h2
      simp only [Rnd, fillO, ← h2, h3, if_true, encO]
  exact key.eq
theorem F_spec_l2Filled_eq {s : Bd} {t : List Int} (hl : s.length ≤ 24) (hs : ∀ u ∈ s, u.length ≤ 60) (ht : t.length ≤ 60) (hx : ∀ x ∈ t, -24 ≤ x) : F_spec_l2Filled s t = some (encO (fillO (Tm.sig s) t)) := by
  have key : Okk True (F_spec_l2Filled s t) (· = encO (fillO (Tm.sig s) t)) := by
    unfold F_spec_l2Filled
    refine Okk.loop (fun q : List Int × Int => ∃ i : Nat, q.2 = i ∧ i ≤ t.length ∧ q.1 = sub (Tm.sig s) (t.take i) ∧ q.1.length ≤ 60) (fun q : List Int × Int => t.length - q.2.toNat) ⟨0, rfl, by omega, by simp [sub], by simp⟩ ?_
    rintro ⟨out, _⟩ ⟨i, rfl, h1, h2, h3⟩
    simp only at h2 h3
    simp only [F_spec_l2Filled_l1]
    by_cases hi : i < t.length
    · have hxi := hx _ (List.getElem_mem hi)
      simp only [show (i : Int) < t.length by omega, decide_true, if_true, show (0 : Int) ≤ i by omega, and_self, Int.toNat_natCast, getD_get hi, w64 (n := (i : Int) + 1) (by omega) (by omega)]
      have fin : ∀ u : List Int, u.length ≤ 60 → u = (if t[i] < 0 then Tm.sig s t[i] else [t[i]]) → Okk True (if decide (60 < ((out ++ u).length : Int)) = true then Option.map Sum.inr (some (([] : List Int), false)) else some (Sum.inl (out ++ u, (i : Int) + 1)))
          (Rnd (fun q : List Int × Int => ∃ i : Nat, q.2 = i ∧ i ≤ t.length ∧ q.1 = sub (Tm.sig s) (t.take i) ∧ q.1.length ≤ 60) (fun q : List Int × Int => t.length - q.2.toNat) (· = encO (fillO (Tm.sig s) t)) (t.length - i)) := fun u hu e => by
        obtain ⟨h4, h5⟩ := fill_step hi h2 e
        by_cases h6 : 60 < (out ++ u).length
        · simp only [show (60 : Int) < ((out ++ u).length : Int) by omega, decide_true, if_true, Option.map_some]
          refine .some ?_
          simp only [Rnd, h4 h6, encO]
        · simp only [show ¬ (60 : Int) < ((out ++ u).length : Int) by omega, decide_false, Bool.false_eq_true, if_false]
          exact .some ⟨⟨i + 1, by simp, by omega, h5, by simp only; omega⟩, by simp; omega⟩
      by_cases hn : t[i] < 0
      · have hi24 : ((-1 - t[i]).toNat : Int) = -1 - t[i] := by omega
        simp only [hn, decide_true, if_true, w64 (n := -1 - t[i]) (by omega) (by omega)]
        rw [← hi24, F_spec_l2Gives_eq hs hl (by omega), Option.bind_some, hi24]
        have hb : s.getD (-1 - t[i]).toNat [] = bget s t[i] := rfl
        rw [hb]
        have hbl : (bget s t[i]).length ≤ 60 := bget_small hs
        by_cases h0 : bget s t[i] = []
        · simp only [h0, if_true, List.length_singleton, show (out.length + 1) * 8 ≤ 140737488355328 by omega, show -1 - (-1 - t[i]) = t[i] by omega]
          exact fin [t[i]] (by simp) (by rw [if_pos hn]; unfold Tm.sig; rw [if_pos h0])
        · simp only [h0, if_false, show (out.length + (bget s t[i]).length) * 8 ≤ 140737488355328 by omega, if_true]
          exact fin (bget s t[i]) hbl (by rw [if_pos hn]; unfold Tm.sig; rw [if_neg h0])
      · simp only [hn, decide_false, Bool.false_eq_true, if_false, show (out.length + 1) * 8 ≤ 140737488355328 by omega, if_true]
        exact fin [t[i]] (by simp) (by rw [if_neg hn])
    · simp only [show ¬ (i : Int) < t.length by omega, decide_false, Bool.false_eq_true, if_false, Option.map_some]
      refine .some ?_
      rw [List.take_of_length_le (by omega)] at h2
      simp only [Rnd, fillO, ← h2, h3, if_true, encO]
  exact key.eq
theorem F_slices_Concat_eq {xs : List (List Int)} (hl : xs.length ≤ 3) (hs : ∀ u ∈ xs, u.length ≤ 60) : F_slices_Concat_int64_int64 xs = some xs.flatten := by
  have hfl : ∀ i, i ≤ xs.length → (xs.take i).flatten.length ≤ 60 * i := fun i => by
    induction i with
    | zero => simp
    | succ i ih =>
      intro hi
      have h1 : i < xs.length := by omega
      rw [List.take_add_one, List.getElem?_eq_getElem h1, List.flatten_append, List.length_append]
      have := ih (by omega)
      have := hs _ (List.getElem_mem h1)
      simp only [Option.toList_some, List.flatten_cons, List.flatten_nil, List.append_nil]; omega
  have tk : ∀ i (h1 : i < xs.length), (xs.take (i + 1)).flatten = (xs.take i).flatten ++ xs[i] := fun i h1 => by
    rw [List.take_add_one, List.getElem?_eq_getElem h1, List.flatten_append]; simp
  have key : Okk True (F_slices_Concat_int64_int64 xs) (· = xs.flatten) := by
    unfold F_slices_Concat_int64_int64
    refine Okk.loop (fun q : Int × Int => ∃ i : Nat, q.2 = i ∧ i ≤ xs.length ∧ q.1 = ((xs.take i).flatten.length : Int)) (fun q : Int × Int => xs.length - q.2.toNat) ⟨0, rfl, by omega, by simp⟩ ?_
    rintro ⟨_, _⟩ ⟨i, rfl, h1, rfl⟩
    simp only [F_slices_Concat_int64_int64_l1]
    have hb := hfl i h1
    by_cases hi : i < xs.length
    · have hu := hs _ (List.getElem_mem hi)
      simp only [show (i : Int) < xs.length by omega, decide_true, if_true, show (0 : Int) ≤ i by omega, and_self, Int.toNat_natCast, getD_get hi, w64 (n := (i : Int) + 1) (by omega) (by omega),
        w64 (n := ((xs.take i).flatten.length : Int) + (xs[i].length : Int)) (by omega) (by omega), show ¬ ((xs.take i).flatten.length : Int) + (xs[i].length : Int) < 0 by omega, decide_false, Bool.false_eq_true, if_false]
      exact .some ⟨⟨i + 1, by simp, by omega, by rw [tk i hi]; simp⟩, by simp; omega⟩
    · simp only [show ¬ (i : Int) < xs.length by omega, decide_false, Bool.false_eq_true, if_false, F_slices_Grow_int64_int64, show 0 ≤ ((xs.take i).flatten.length : Int) ∧ ((xs.take i).flatten.length : Int) * 8 ≤ 140737488355328 by omega, and_self, if_true, Option.bind_some]
      refine Okk.inr ?_
      simp only [Rnd]
      refine Okk.loop (fun q : List Int × Int => ∃ i : Nat, q.2 = i ∧ i ≤ xs.length ∧ q.1 = (xs.take i).flatten) (fun q : List Int × Int => xs.length - q.2.toNat) ⟨0, rfl, by omega, by simp⟩ ?_
      rintro ⟨_, _⟩ ⟨j, rfl, h2, rfl⟩
      simp only [F_slices_Concat_int64_int64_l2]
      have hb := hfl j h2
      by_cases hj : j < xs.length
      · have hu := hs _ (List.getElem_mem hj)
        simp only [show (j : Int) < xs.length by omega, decide_true, if_true, show (0 : Int) ≤ j by omega, and_self, Int.toNat_natCast, getD_get hj, w64 (n := (j : Int) + 1) (by omega) (by omega),
          show ((xs.take j).flatten.length + xs[j].length) * 8 ≤ 140737488355328 by omega]
        exact .some ⟨⟨j + 1, by simp, by omega, by rw [tk j hj]⟩, by simp; omega⟩
      · simp only [show ¬ (j : Int) < xs.length by omega, decide_false, Bool.false_eq_true, if_false, Option.map_some]
        refine .some ?_
        simp only [Rnd]
        rw [List.take_of_length_le (by omega)]
  exact key.eq
def putO (a t : List Int) (i : Nat) (v : List Int) : Option (List Int) := if (putp a t i v).length ≤ 60 then some (putp a t i v) else none
theorem F_impl_put_eq {a p u s v : List Int} (ha : sigOk a = true) (hu : Wf a 1 u) (hm : ∀ x ∈ p ++ (u ++ s), -24 ≤ x) (hl : (p ++ (u ++ s)).length ≤ 60) (hv : v.length ≤ 60) :
    F_impl_put a (p ++ (u ++ s)) (p.length : Int) v = some (encO (putO a (p ++ (u ++ s)) p.length v)) := by
  have hd : (p ++ (u ++ s)).drop p.length = u ++ s := List.drop_left
  have hl' := hl
  simp only [List.length_append] at hl'
  unfold F_impl_put
  rw [if_pos (by simp only [List.length_append]; omega), F_impl_endAt_eq ha (by show List.length _ < _; omega) hm (by simp), Option.bind_some, endI_app hd hu]
  have e1 : ((p ++ (u ++ s)).length : Int) - s.length = ((p.length + u.length : Nat) : Int) := by simp; omega
  rw [e1, if_pos (by simp; omega), Int.toNat_natCast, Int.toNat_natCast, List.take_left, ← List.drop_drop, hd, List.drop_left]
  rw [F_slices_Concat_eq (by simp) (by intro w hw; simp at hw; rcases hw with rfl | rfl | rfl <;> omega), Option.bind_some]
  unfold putO
  rw [putp_eq hu]
  have e2 : [p, v, s].flatten = p ++ (v ++ s) := by simp
  rw [e2]
  by_cases h : (p ++ (v ++ s)).length ≤ 60
  · simp only [show ¬ (60 : Int) < ((p ++ (v ++ s)).length : Int) by omega, decide_false, Bool.false_eq_true, if_false, h, if_true, encO]
  · simp only [show (60 : Int) < ((p ++ (v ++ s)).length : Int) by omega, decide_true, if_true, h, if_false, encO]
theorem F_spec_l3Put_eq {a p u s v : List Int} (ha : sigOk a = true) (hu : Wf a 1 u) (hl : (p ++ (u ++ s)).length ≤ 60) (hv : v.length ≤ 60) :
    F_spec_l3Put a (p ++ (u ++ s)) (p.length : Int) v = some (encO (putO a (p ++ (u ++ s)) p.length v)) := by
  have hd : (p ++ (u ++ s)).drop p.length = u ++ s := List.drop_left
  have hl' := hl
  simp only [List.length_append] at hl'
  unfold F_spec_l3Put
  rw [if_pos (by simp only [List.length_append]; omega), Int.toNat_natCast, List.take_left, F_spec_l1Copy_eq (by show List.length _ < _; omega), Option.bind_some, if_pos (by omega), F_spec_l1End_eq ha (by show List.length _ < _; omega) (by simp), Option.bind_some, endI_app hd hu]
  have e1 : ((p ++ (u ++ s)).length : Int) - s.length = ((p.length + u.length : Nat) : Int) := by simp; omega
  rw [e1, if_pos (by simp; omega), Int.toNat_natCast, ← List.drop_drop, hd, List.drop_left, if_pos (by simp; omega), List.append_assoc]
  unfold putO
  rw [putp_eq hu]
  by_cases h : (p ++ (v ++ s)).length ≤ 60
  · simp only [show ¬ (60 : Int) < ((p ++ (v ++ s)).length : Int) by omega, decide_false, Bool.false_eq_true, if_false, h, if_true, encO]
  · simp only [show (60 : Int) < ((p ++ (v ++ s)).length : Int) by omega, decide_true, if_true, h, if_false, encO]
abbrev Sys := List Int × List (List Int × List Int)
theorem sysOk_iff {s : Sys} : sysOk s = true ↔ sigOk s.1 = true ∧ s.2.length ≤ 12 ∧ ∀ r ∈ s.2, ruleOk s.1 r = true := by simp [sysOk]
theorem ruleOk_iff {a : List Int} {r : List Int × List Int} : ruleOk a r = true ↔ termOk a r.1 = true ∧ termOk a r.2 = true ∧ 0 ≤ r.1.headD 0 ∧ ∀ x ∈ r.2, x < 0 → x ∈ r.1 := by
  simp only [ruleOk, varIn, Bool.and_eq_true, decide_eq_true_eq, List.all_eq_true]
def stepO (s : Sys) (t : List Int) (i rule : Nat) : Option (List Int) := stepp s.1 (s.2.getD rule default).1 (s.2.getD rule default).2 t i
theorem plain_small {b o : Bd} (hb : ∀ u ∈ b, u.length ≤ 60) (h : ∀ i, o.getD i [] = plainAt b i) : (∀ i, (o.getD i []).length ≤ 60) ∧ ∀ u ∈ o, u.length ≤ 60 := by
  have h1 : ∀ i, (o.getD i []).length ≤ 60 := fun i => by
    rw [h]
    unfold plainAt
    split
    · simp
    · rw [List.getD_eq_getElem?_getD]
      cases hx : b[i]? with
      | none => simp
      | some u => exact hb u (List.mem_of_getElem? hx)
  refine ⟨h1, fun u hu => ?_⟩
  obtain ⟨i, hi, rfl⟩ := List.getElem_of_mem hu
  have := h1 i
  rwa [show o.getD i [] = o[i] from getD_get hi] at this
theorem fill_plain {b o : Bd} (h : ∀ i, o.getD i [] = plainAt b i) (t : List Int) : fillO (Tm.sig o) t = fillO (Tm.sig b) t := by
  unfold fillO
  rw [sub_congr fun x _ hx => plain_sig h hx]
theorem stepp_eq {a l r p u s : List Int} (hu : Wf a 1 u) : stepp a l r (p ++ (u ++ s)) p.length = (mat a l u none24).bind fun b => (fillO (Tm.sig b) r).bind fun v => putO a (p ++ (u ++ s)) p.length v := by
  unfold stepp
  rw [at_eq hu]
  congr 1
  funext b
  unfold fillO putO
  by_cases h1 : (sub (Tm.sig b) r).length ≤ 60
  · rw [if_pos h1, Option.bind_some]
    by_cases h2 : (putp a (p ++ (u ++ s)) p.length (sub (Tm.sig b) r)).length ≤ 60
    · rw [if_pos ⟨h1, h2⟩, if_pos h2]
    · rw [if_neg (fun h => h2 h.2), if_neg h2]
  · rw [if_neg (fun h => h1 h.1), if_neg h1]; rfl
theorem F_impl_step_eq {s : Sys} {t : List Int} {i rule : Nat} (hs : sysOk s = true) (ht : termOk s.1 t = true) (hi : i < t.length) (hr : rule < s.2.length) : F_impl_step s t i rule = some (encO (stepO s t i rule)) := by
  obtain ⟨ha, _, hrs⟩ := sysOk_iff.1 hs
  obtain ⟨_, h1, h2, hw⟩ := termOk_iff.1 ht
  obtain ⟨p, u, q, rfl, rfl, hu⟩ := hw.place hi
  have hrule := ruleOk_iff.1 (hrs _ (getD_mem hr))
  obtain ⟨hL, hR, _, hv⟩ := hrule
  obtain ⟨_, hL1, hL2, hL3⟩ := termOk_iff.1 hL
  obtain ⟨_, hR1, hR2, hR3⟩ := termOk_iff.1 hR
  have hm : ∀ x ∈ p ++ (u ++ q), -24 ≤ x := fun x hx => (hw.all x hx).1
  have hul : u.length ≤ 60 := by simp at h2; omega
  unfold F_impl_step stepO
  rw [if_pos (by omega), F_impl_subAt_eq ha (by show List.length _ < _; omega) hm List.drop_left hu, Option.bind_some, Int.toNat_natCast]
  obtain ⟨o, e1, e2⟩ := (F_impl_match_ok ha hL3 hu hL2 hul).get
  rw [e1, Option.bind_some, stepp_eq hu]
  cases hmat : mat s.1 (s.2.getD rule default).1 u none24 with
  | none =>
    rw [hmat] at e2
    simp only [MRes] at e2
    simp only [e2, Bool.false_eq_true, if_false, Option.bind_none, encO]
  | some b =>
    rw [hmat] at e2
    obtain ⟨e3, e4, e5⟩ := e2
    obtain ⟨hb1, hb2⟩ := mat_small hmat (by intro u hu; simp [none24] at hu; subst hu; simp) hul (by simp [none24])
    obtain ⟨hp1, hp2⟩ := plain_small hb2 e5
    rw [if_pos e3, if_pos (by omega), F_impl_fill_eq e4 hp1 hR2 (fun x hx => (hR3.all x hx).1), Option.bind_some, Option.bind_some, fill_plain e5]
    cases hf : fillO (Tm.sig b) (s.2.getD rule default).2 with
    | none => simp [encO]
    | some v =>
      have hv60 : v.length ≤ 60 := by
        unfold fillO at hf
        split at hf
        · rename_i h; cases hf; exact h
        · cases hf
      simp only [encO, if_true, Option.bind_some]
      rw [F_impl_put_eq ha hu hm h2 hv60]; rfl
theorem F_spec_l7Step_eq {s : Sys} {t : List Int} {i rule : Nat} (hs : sysOk s = true) (ht : termOk s.1 t = true) (hi : i < t.length) (hr : rule < s.2.length) : F_spec_l7Step s t i rule = some (encO (stepO s t i rule)) := by
  obtain ⟨ha, _, hrs⟩ := sysOk_iff.1 hs
  obtain ⟨_, h1, h2, hw⟩ := termOk_iff.1 ht
  obtain ⟨p, u, q, rfl, rfl, hu⟩ := hw.place hi
  have hrule := ruleOk_iff.1 (hrs _ (getD_mem hr))
  obtain ⟨hL, hR, _, hv⟩ := hrule
  obtain ⟨_, hL1, hL2, hL3⟩ := termOk_iff.1 hL
  obtain ⟨_, hR1, hR2, hR3⟩ := termOk_iff.1 hR
  have hul : u.length ≤ 60 := by simp at h2; omega
  unfold F_spec_l7Step stepO
  rw [if_pos (by omega), F_spec_l1Sub_eq ha (by show List.length _ < _; omega) List.drop_left hu, Option.bind_some, Int.toNat_natCast]
  obtain ⟨o, e1, e2⟩ := (F_spec_l4Match_ok ha hL3 hu hL2 hul).get
  rw [e1, Option.bind_some, stepp_eq hu]
  cases hmat : mat s.1 (s.2.getD rule default).1 u none24 with
  | none =>
    rw [hmat] at e2
    simp only [MRes] at e2
    simp only [e2, Bool.false_eq_true, if_false, Option.bind_none, encO]
  | some b =>
    rw [hmat] at e2
    obtain ⟨e3, e4, e5⟩ := e2
    obtain ⟨hb1, hb2⟩ := mat_small hmat (by intro u hu; simp [none24] at hu; subst hu; simp) hul (by simp [none24])
    obtain ⟨hp1, hp2⟩ := plain_small hb2 e5
    rw [if_pos e3, F_spec_l2Filled_eq e4 hp2 hR2 (fun x hx => (hR3.all x hx).1), Option.bind_some, Option.bind_some, fill_plain e5]
    cases hf : fillO (Tm.sig b) (s.2.getD rule default).2 with
    | none => simp [encO]
    | some v =>
      have hv60 : v.length ≤ 60 := by
        unfold fillO at hf
        split at hf
        · rename_i h; cases hf; exact h
        · cases hf
      simp only [encO, if_true, Option.bind_some]
      rw [F_spec_l3Put_eq ha hu h2 hv60]; rfl
def stepAtO (s : Sys) (t : List Int) (i rule : Int) : Option (List Int) :=
  if (sysOk s = true ∧ termOk s.1 t = true) ∧ (0 ≤ i ∧ i < t.length) ∧ (0 ≤ rule ∧ rule < s.2.length) then stepO s t i.toNat rule.toNat else none
theorem F_spec_l7Right_eq (s : Sys) (t : List Int) : F_spec_l7Right s t = some (sysOk s && termOk s.1 t) := by
  unfold F_spec_l7Right
  rw [F_spec_SystemOk_eq, Option.bind_some]
  cases h1 : sysOk s with
  | false => simp
  | true => simp [F_spec_TermOk_eq]
theorem stepAtO_small {s : Sys} {t u : List Int} {i rule : Int} (h : stepAtO s t i rule = some u) : u.length ≤ 60 := by
  unfold stepAtO at h
  split at h
  · unfold stepO stepp at h
    obtain ⟨b, _, h⟩ := Option.bind_eq_some_iff.1 h
    split at h
    · rename_i hc; cases h; exact hc.2
    · cases h
  · cases h
abbrev Stp := Int × Int × List Int
def walkFrom (s : Sys) : List Int → List Stp → Bool
  | _, [] => true
  | t, x :: r => match stepAtO s t x.1 x.2.1 with
    | some u => u == x.2.2 && walkFrom s u r
    | none => false
def walkB (s : Sys) (w : List Int × List Stp) : Bool := sysOk s && (termOk s.1 w.1 && (decide (w.2.length ≤ 60) && walkFrom s w.1 w.2))
end Go.Proofs.YtcbfefbocpikoaaGreatDoor
namespace Go.Proofs.YtcbfefbocpikoaaGreatDoor
open Go Abx Tm
abbrev Mvv := Int × Int × Bool × List Int
abbrev Chn := List Int × List Mvv
def chW (w : List Int × List Stp) : Chn := (w.1, w.2.map fun s => (s.2.1, s.1, false, s.2.2))
def chEnd (c : Chn) : List Int := if c.2.length = 0 then c.1 else (c.2.getD (c.2.length - 1) default).2.2.2
structure SmC (c : Chn) : Prop where
  from' : c.1.length ≤ 60
  len : c.2.length ≤ 60
  to : ∀ m ∈ c.2, m.2.2.2.length ≤ 60
structure SmW (w : List Int × List Stp) : Prop where
  from' : w.1.length ≤ 60
  len : w.2.length ≤ 60
  to : ∀ m ∈ w.2, m.2.2.length ≤ 60
theorem SmW.ch {w : List Int × List Stp} (h : SmW w) : SmC (chW w) :=
  ⟨h.from', by simpa [chW] using h.len, fun m hm => by obtain ⟨s, hs, rfl⟩ := List.mem_map.1 hm; exact h.to s hs⟩
theorem SmC.at {c : Chn} (h : SmC c) {i : Nat} (hi : i < c.2.length) : (c.2.getD i default).2.2.2.length ≤ 60 := h.to _ (getD_mem hi)
theorem SmC.end' {c : Chn} (h : SmC c) : (chEnd c).length ≤ 60 := by
  unfold chEnd
  split
  · exact h.from'
  · exact h.at (by omega)
abbrev Eqq := List Int × List Int
def eqOkB (a : List Int) (e : Eqq) : Bool := termOk a e.1 && termOk a e.2
def eqsOkB (a : List Int) (eqs : List Eqq) : Bool := sigOk a && (decide (eqs.length ≤ 12) && eqs.all (eqOkB a))
theorem eqOk_iff {a : List Int} {e : Eqq} : eqOkB a e = true ↔ termOk a e.1 = true ∧ termOk a e.2 = true := by simp [eqOkB]
theorem eqsOk_iff {a : List Int} {eqs : List Eqq} : eqsOkB a eqs = true ↔ sigOk a = true ∧ eqs.length ≤ 12 ∧ ∀ e ∈ eqs, eqOkB a e = true := by simp [eqsOkB]
def sideF (eqs : List Eqq) (m : Mvv) : List Int := if m.2.2.1 = true then (eqs.getD m.1.toNat default).2 else (eqs.getD m.1.toNat default).1
def sideO (eqs : List Eqq) (m : Mvv) : List Int := if m.2.2.1 = true then (eqs.getD m.1.toNat default).1 else (eqs.getD m.1.toNat default).2
def inB (eqs : List Eqq) (t : List Int) (m : Mvv) : Prop := (0 ≤ m.1 ∧ m.1 < eqs.length) ∧ (0 ≤ m.2.1 ∧ m.2.1 < t.length) ∧ m.2.1 < m.2.2.2.length
instance (eqs : List Eqq) (t : List Int) (m : Mvv) : Decidable (inB eqs t m) := by unfold inB; infer_instance
def moveB (a : List Int) (eqs : List Eqq) (t : List Int) (m : Mvv) : Bool := decide (inB eqs t m) && (termOk a m.2.2.2 && mvB a (sideF eqs m) (sideO eqs m) t m.2.2.2 m.2.1.toNat)
def chFrom (a : List Int) (eqs : List Eqq) : List Int → List Mvv → Bool
  | _, [] => true
  | t, m :: ms => moveB a eqs t m && chFrom a eqs m.2.2.2 ms
theorem moveB_to {a : List Int} {eqs : List Eqq} {t : List Int} {m : Mvv} (h : moveB a eqs t m = true) : termOk a m.2.2.2 = true := by
  simp only [moveB, Bool.and_eq_true] at h; exact h.2.1
def endR : List Int → List Mvv → List Int
  | t, [] => t
  | _, m :: ms => endR m.2.2.2 ms
theorem moveB_iff {a : List Int} {eqs : List Eqq} {t : List Int} {m : Mvv} (he : eqsOkB a eqs = true) (ht : termOk a t = true) :
    moveB a eqs t m = true ↔ (0 ≤ m.1 ∧ m.1 < eqs.length) ∧ 0 ≤ m.2.1 ∧ termOk a m.2.2.2 = true ∧ Mv a (sideF eqs m) (sideO eqs m) t m.2.2.2 m.2.1.toNat := by
  obtain ⟨ha, hel, hall⟩ := eqsOk_iff.1 he
  obtain ⟨_, t1, t2, t3⟩ := termOk_iff.1 ht
  have sides : (0 ≤ m.1 ∧ m.1 < eqs.length) → Wf a 1 (sideF eqs m) ∧ Wf a 1 (sideO eqs m) := fun h => by
    obtain ⟨hL, hR⟩ := eqOk_iff.1 (hall _ (getD_mem (show m.1.toNat < eqs.length by omega)))
    unfold sideF sideO
    cases m.2.2.1 with
    | true => exact ⟨(termOk_iff.1 hR).2.2.2, (termOk_iff.1 hL).2.2.2⟩
    | false => exact ⟨(termOk_iff.1 hL).2.2.2, (termOk_iff.1 hR).2.2.2⟩
  simp only [moveB, Bool.and_eq_true, decide_eq_true_eq]
  unfold inB
  constructor
  · rintro ⟨⟨h1, h2, h3⟩, h4, h5⟩
    exact ⟨h1, h2.1, h4, (mvB_iff (sides h1).1 (sides h1).2 t3 (termOk_iff.1 h4).2.2.2 (by omega) (by omega)).1 h5⟩
  · rintro ⟨h1, h2, h4, h5⟩
    have h5' := h5
    obtain ⟨p, s, σ, hp, e1, e2, hσ⟩ := h5'
    have l1 := ((sides h1).1.sub fun x _ hx => hσ x hx).len
    have l2 := ((sides h1).2.sub fun x _ hx => hσ x hx).len
    have e1 := congrArg List.length e1
    have e2 := congrArg List.length e2
    simp only [List.length_append] at e1 e2
    exact ⟨⟨h1, ⟨h2, by omega⟩, by omega⟩, h4, (mvB_iff (sides h1).1 (sides h1).2 t3 (termOk_iff.1 h4).2.2.2 (by omega) (by omega)).2 h5⟩
theorem sys_eqs {s : Sys} (h : sysOk s = true) : eqsOkB s.1 s.2 = true := by
  obtain ⟨h1, h2, h3⟩ := sysOk_iff.1 h
  exact eqsOk_iff.2 ⟨h1, h2, fun e he => let h := ruleOk_iff.1 (h3 e he); eqOk_iff.2 ⟨h.1, h.2.1⟩⟩
theorem stepAt_move {s : Sys} {t u : List Int} {x : Stp} (h : stepAtO s t x.1 x.2.1 = some u) (hu : (u == x.2.2) = true) : moveB s.1 s.2 t (x.2.1, x.1, false, x.2.2) = true := by
  have hl := stepAtO_small h
  unfold stepAtO at h
  split at h
  · rename_i hc
    obtain ⟨⟨hs, ht⟩, hi, hr⟩ := hc
    obtain rfl : u = x.2.2 := by simpa using hu
    obtain ⟨_, _, h3⟩ := sysOk_iff.1 hs
    obtain ⟨hL, hR, _, hv⟩ := ruleOk_iff.1 (h3 _ (getD_mem (show x.2.1.toNat < s.2.length by omega)))
    have wL := (termOk_iff.1 hL).2.2.2
    have wR := (termOk_iff.1 hR).2.2.2
    obtain ⟨ha, _, _, wt⟩ := termOk_iff.1 ht
    obtain ⟨hm, _⟩ := stepp_mv wL wR wt (show x.1.toNat < t.length by omega) hv h
    have wu := hm.wf wL wR wt
    exact (moveB_iff (sys_eqs hs) ht).2 ⟨hr, hi.1, termOk_iff.2 ⟨ha, wu.len, hl, wu⟩, hm⟩
  · cases h
theorem walk_small {s : Sys} : ∀ {ms : List Stp} {t : List Int}, walkFrom s t ms = true → ∀ m ∈ ms, m.2.2.length ≤ 60
  | [], _, _, m, hm => by cases hm
  | x :: ms, t, h, m, hm => by
    rw [walkFrom] at h
    cases hs : stepAtO s t x.1 x.2.1 with
    | none => rw [hs] at h; cases h
    | some u =>
      rw [hs] at h
      simp only [Bool.and_eq_true] at h
      have hu : u = x.2.2 := by simpa using h.1
      rcases List.mem_cons.1 hm with rfl | hm
      · rw [← hu]; exact stepAtO_small hs
      · exact walk_small h.2 m hm
theorem walkB_iff {s : Sys} {w : List Int × List Stp} : walkB s w = true ↔ sysOk s = true ∧ termOk s.1 w.1 = true ∧ w.2.length ≤ 60 ∧ walkFrom s w.1 w.2 = true := by simp [walkB]
theorem walkB_sm {s : Sys} {w : List Int × List Stp} (h : walkB s w = true) : SmW w := by
  obtain ⟨_, h2, h3, h4⟩ := walkB_iff.1 h
  exact ⟨(termOk_iff.1 h2).2.2.1, h3, walk_small h4⟩
theorem F_spec_l7End_eq {w : List Int × List Stp} (h : SmW w) : F_spec_l7End w = some (chEnd (chW w)) := by
  unfold F_spec_l7End chEnd chW
  have hl := h.len
  simp only [List.length_map]
  by_cases h0 : w.2.length = 0
  · simp only [h0, Int.ofNat_zero, beq_self_eq_true, if_true]
    rw [F_spec_l1Copy_eq (show w.1.length < _ by have := h.from'; omega), Option.bind_some]
  · have : ((w.2.length : Int) == 0) = false := beq_eq_false_iff_ne.2 (by omega)
    simp only [this, Bool.false_eq_true, if_false, h0, w64 (n := (w.2.length : Int) - 1) (by omega) (by omega)]
    rw [if_pos (by omega), show ((w.2.length : Int) - 1).toNat = w.2.length - 1 by omega]
    have hlt : w.2.length - 1 < w.2.length := by omega
    have e : ((w.2.map fun s => (s.2.1, s.1, false, s.2.2)).getD (w.2.length - 1) default) = ((w.2.getD (w.2.length - 1) default).2.1, (w.2.getD (w.2.length - 1) default).1, false, (w.2.getD (w.2.length - 1) default).2.2) := by
      rw [getD_get (by simpa using hlt), getD_get hlt, List.getElem_map]
    rw [e, F_spec_l1Copy_eq (show List.length _ < _ by have := h.to _ (getD_mem hlt); omega), Option.bind_some]
end Go.Proofs.YtcbfefbocpikoaaGreatDoor
namespace Go.Proofs.YtcbfefbocpikoaaGreatDoor
open Go Abx Tm
def firstI {α : Type} (p : α → Bool) (xs : List α) : Int := match xs.findIdx? p with | some j => (j : Int) | none => -1
theorem loop_first {α : Type} [Inhabited α] {xs : List α} {p : α → Bool} {f : Int → Option (Int ⊕ Int)}
    (h : ∀ (i : Nat) (x : α), i < xs.length → x ∈ xs → xs.getD i default = x → f (i : Int) = some (if p x = true then .inr (i : Int) else .inl ((i : Int) + 1)))
    (he : f xs.length = some (.inr (-1))) : loopC f 0 = some (firstI p xs) := by
  have key : ∀ (k i : Nat), i + k = xs.length → loopC f (i : Int) = some (match (xs.drop i).findIdx? p with | some j => ((i + j : Nat) : Int) | none => -1) := by
    intro k
    induction k with
    | zero =>
      intro i hi
      obtain rfl : i = xs.length := by omega
      rw [loopC_inr he, List.drop_length]; rfl
    | succ k ih =>
      intro i hi
      have hlt : i < xs.length := by omega
      have e := h i _ hlt (List.getElem_mem hlt) (getD_get hlt)
      rw [List.drop_eq_getElem_cons hlt, List.findIdx?_cons]
      cases hp : p (xs[i]) with
      | true => rw [hp] at e; rw [loopC_inr e]; simp
      | false =>
        rw [hp] at e
        rw [loopC_inl e, show ((i : Int) + 1) = ((i + 1 : Nat) : Int) by omega, ih (i + 1) (by omega)]
        cases hf : (xs.drop (i + 1)).findIdx? p with
        | none => simp
        | some j =>
          simp only [Bool.false_eq_true, if_false, Option.map_some]
          show some (((i + 1 + j : Nat) : Int)) = some (((i + (j + 1) : Nat) : Int))
          rw [show i + 1 + j = i + (j + 1) by omega]
  have := key xs.length 0 (by omega)
  simp only [List.drop_zero, Nat.zero_add] at this
  exact this
theorem loop_filter {γ : Type} {n : Nat} {p : Nat → Bool} {g : Nat → Int} {c : γ} {f : List Int × Int → Option ((List Int × Int) ⊕ γ)}
    (h : ∀ (i : Nat) (out : List Int), i < n → out.length ≤ i → f (out, (i : Int)) = some (.inl (if p i = true then out ++ [g i] else out, (i : Int) + 1)))
    (he : f (((List.range n).filter p).map g, (n : Int)) = some (.inr c)) : loopC f ([], 0) = some c := by
  have key : ∀ (k i : Nat), i + k = n → loopC f (((List.range i).filter p).map g, (i : Int)) = some c := by
    intro k
    induction k with
    | zero => intro i hi; obtain rfl : i = n := (by omega); exact loopC_inr he
    | succ k ih =>
      intro i hi
      have hl : (((List.range i).filter p).map g).length ≤ i := by
        rw [List.length_map]
        exact Nat.le_trans (List.length_filter_le _ _) (by simp)
      rw [loopC_inl (h i _ (by omega) hl), show ((i : Int) + 1) = ((i + 1 : Nat) : Int) by omega]
      have e : (if p i = true then ((List.range i).filter p).map g ++ [g i] else ((List.range i).filter p).map g) = ((List.range (i + 1)).filter p).map g := by
        rw [List.range_succ, List.filter_append, List.map_append]
        cases hp : p i <;> simp [hp]
      rw [e]
      exact ih (i + 1) (by omega)
  exact key n 0 (by omega)
def ruleI (s : Sys) (u : List Int) : Int := firstI (fun r => (mat s.1 r.1 u none24).isSome) s.2
theorem firstI_lt {α : Type} {p : α → Bool} {xs : List α} : -1 ≤ firstI p xs ∧ firstI p xs < xs.length := by
  unfold firstI
  cases h : xs.findIdx? p with
  | none => simp only; omega
  | some j => have := (List.findIdx?_eq_some_iff_getElem.1 h).1; simp only; omega
theorem firstI_none {α : Type} {p : α → Bool} {xs : List α} (h : ∀ x ∈ xs, p x = false) : firstI p xs = -1 := by
  unfold firstI
  rw [List.findIdx?_eq_none_iff.2 h]
theorem firstI_at {α : Type} {p : α → Bool} {xs : List α} {x : α} (hx : x ∈ xs) (hp : p x = true) : 0 ≤ firstI p xs := by
  unfold firstI
  cases h : xs.findIdx? p with
  | none => have := List.findIdx?_eq_none_iff.1 h x hx; rw [hp] at this; cases this
  | some j => simp only; omega
theorem ruleI_var {s : Sys} (hs : sysOk s = true) {y : Int} {u : List Int} (hy : y < 0) : ruleI s (y :: u) = -1 := by
  obtain ⟨_, _, hr⟩ := sysOk_iff.1 hs
  refine firstI_none fun r hm => ?_
  obtain ⟨hL, _, h0, _⟩ := ruleOk_iff.1 (hr r hm)
  obtain ⟨_, _, _, w⟩ := termOk_iff.1 hL
  obtain ⟨n, p, e, _, _⟩ := w.pos
  rw [e] at h0 ⊢
  simp only [List.headD_cons] at h0
  rw [mat_sym (by omega), if_neg (by omega)]; rfl
theorem at_place {a t : List Int} (ht : termOk a t = true) {i : Nat} (hi : i < t.length) : ∃ q, t.drop i = at' a t i ++ q ∧ Wf a 1 (at' a t i) ∧ (at' a t i).length ≤ 60 ∧ ∃ u, at' a t i = t[i] :: u := by
  obtain ⟨_, _, t2, t3⟩ := termOk_iff.1 ht
  obtain ⟨p, u, q, e, hp, hu⟩ := t3.place hi
  have ha : at' a t i = u := by rw [e, ← hp]; exact at_eq hu
  have hd : t.drop i = u ++ q := by rw [e, ← hp]; exact List.drop_left
  rw [ha]
  refine ⟨q, hd, hu, ?_, ?_⟩
  · have := congrArg List.length e; simp only [List.length_append] at this; omega
  · obtain ⟨y, r, e2, _, _⟩ := hu.pos
    subst e2
    rw [List.drop_eq_getElem_cons hi, List.cons_append] at hd
    exact ⟨r, by rw [(List.cons.inj hd).1]⟩
theorem match_isSome {a p t : List Int} {r : Bd × Bool} (h : MRes (mat a p t none24) r) : r.2 = (mat a p t none24).isSome := by
  cases hm : mat a p t none24 with
  | none => rw [hm] at h; exact h
  | some b => rw [hm] at h; exact h.1
theorem F_impl_ruleAt_eq {s : Sys} {t : List Int} (hs : sysOk s = true) (ht : termOk s.1 t = true) {i : Nat} (hi : i < t.length) : F_impl_ruleAt s t i = some (ruleI s (at' s.1 t i)) := by
  obtain ⟨ha, hl, hr⟩ := sysOk_iff.1 hs
  obtain ⟨_, t1, t2, t3⟩ := termOk_iff.1 ht
  obtain ⟨q, hd, hu, hul, _⟩ := at_place ht hi
  unfold F_impl_ruleAt
  refine loop_first (fun j r hj hm hg => ?_) (by simp [F_impl_ruleAt_l1])
  obtain ⟨hL, _⟩ := ruleOk_iff.1 (hr r hm)
  obtain ⟨_, _, l2, l3⟩ := termOk_iff.1 hL
  obtain ⟨r5, e1, e2⟩ := (F_impl_match_ok ha l3 hu l2 hul).get
  have e3 := match_isSome e2
  simp only [F_impl_ruleAt_l1, F_impl_redex, F_impl_instance, show (j : Int) < s.2.length by omega, decide_true, if_true, show (0 : Int) ≤ j by omega, and_self, Int.toNat_natCast, hg, w64 (n := (j : Int) + 1) (by omega) (by omega)]
  rw [F_impl_subAt_eq ha (show List.length _ < _ by omega) (fun x hx => (t3.all x hx).1) hd hu, Option.bind_some, e1]
  simp only [Option.bind_some, e3]
  cases (mat s.1 r.1 (at' s.1 t i) none24).isSome <;> simp
theorem F_spec_l8Redex_eq {s : Sys} {t : List Int} (hs : sysOk s = true) (ht : termOk s.1 t = true) {i : Nat} (hi : i < t.length) : F_spec_l8Redex s t i = some (ruleI s (at' s.1 t i)) := by
  obtain ⟨ha, hl, hr⟩ := sysOk_iff.1 hs
  obtain ⟨_, t1, t2, t3⟩ := termOk_iff.1 ht
  obtain ⟨q, hd, hu, hul, _⟩ := at_place ht hi
  unfold F_spec_l8Redex
  rw [F_spec_l1Sub_eq ha (show List.length _ < _ by omega) hd hu, Option.bind_some]
  refine loop_first (fun j r hj hm hg => ?_) (by simp [F_spec_l8Redex_l1])
  obtain ⟨hL, _⟩ := ruleOk_iff.1 (hr r hm)
  obtain ⟨_, _, l2, l3⟩ := termOk_iff.1 hL
  obtain ⟨r5, e1, e2⟩ := (F_spec_l4Match_ok ha l3 hu l2 hul).get
  have e3 := match_isSome e2
  simp only [F_spec_l8Redex_l1, show (j : Int) < s.2.length by omega, decide_true, if_true, show (0 : Int) ≤ j by omega, and_self, Int.toNat_natCast, hg, w64 (n := (j : Int) + 1) (by omega) (by omega)]
  rw [e1, Option.bind_some, e3]
  cases (mat s.1 r.1 (at' s.1 t i) none24).isSome <;> simp
def isR (s : Sys) (t : List Int) (i : Nat) : Bool := decide (0 ≤ ruleI s (at' s.1 t i))
def posR (s : Sys) (t : List Int) : List Int := ((List.range t.length).filter (isR s t)).map (fun i : Nat => (i : Int))
theorem posR_mem {s : Sys} {t : List Int} {x : Int} (h : x ∈ posR s t) : ∃ i : Nat, x = i ∧ i < t.length ∧ 0 ≤ ruleI s (at' s.1 t i) := by
  obtain ⟨i, hi, rfl⟩ := List.mem_map.1 h
  obtain ⟨h1, h2⟩ := List.mem_filter.1 hi
  exact ⟨i, rfl, List.mem_range.1 h1, of_decide_eq_true h2⟩
theorem posR_len {s : Sys} {t : List Int} : (posR s t).length ≤ t.length := by
  unfold posR
  rw [List.length_map]
  exact Nat.le_trans (List.length_filter_le _ _) (by simp)
theorem posR_sorted (s : Sys) (t : List Int) : (posR s t).Pairwise (· < ·) := by
  unfold posR
  rw [List.pairwise_map]
  exact (List.pairwise_lt_range.filter _).imp fun h => by omega
theorem posR_nil {s : Sys} {t : List Int} : posR s t = [] ↔ ∀ i, i < t.length → ruleI s (at' s.1 t i) = -1 := by
  constructor
  · intro h i hi
    have h1 := (firstI_lt (p := fun r : List Int × List Int => (mat s.1 r.1 (at' s.1 t i) none24).isSome) (xs := s.2)).1
    by_cases h0 : 0 ≤ ruleI s (at' s.1 t i)
    · have : (i : Int) ∈ posR s t := List.mem_map.2 ⟨i, List.mem_filter.2 ⟨List.mem_range.2 hi, decide_eq_true h0⟩, rfl⟩
      rw [h] at this; cases this
    · have h1' : -1 ≤ ruleI s (at' s.1 t i) := h1
      omega
  · intro h
    refine List.eq_nil_iff_forall_not_mem.2 fun x hx => ?_
    obtain ⟨i, rfl, hi, h0⟩ := posR_mem hx
    rw [h i hi] at h0; omega
theorem F_impl_redexes_eq {s : Sys} {t : List Int} (hs : sysOk s = true) (ht : termOk s.1 t = true) : F_impl_redexes s t = some (posR s t) := by
  obtain ⟨_, t1, t2, t3⟩ := termOk_iff.1 ht
  unfold F_impl_redexes
  refine loop_filter (n := t.length) (p := isR s t) (g := fun i => (i : Int)) (fun i out hi ho => ?_) (by simp [F_impl_redexes_l1, posR])
  simp only [F_impl_redexes_l1, show (i : Int) < t.length by omega, decide_true, if_true, show (0 : Int) ≤ i by omega, and_self, Int.toNat_natCast, getD_get hi, w64 (n := (i : Int) + 1) (by omega) (by omega)]
  by_cases h0 : 0 ≤ t[i]
  · simp only [h0, decide_true, if_true]
    rw [F_impl_ruleAt_eq hs ht hi, Option.bind_some, if_pos (show (out.length + 1) * 8 ≤ 140737488355328 by omega)]
    unfold isR
    by_cases h1 : 0 ≤ ruleI s (at' s.1 t i)
    · simp [h1]
    · simp [h1]
  · obtain ⟨_, _, _, _, u, e⟩ := at_place ht hi
    have : isR s t i = false := by
      unfold isR
      rw [e, ruleI_var hs (by omega)]; rfl
    simp [h0, this]
theorem F_spec_RedexesIn_eq {s : Sys} {t : List Int} (hs : sysOk s = true) (ht : termOk s.1 t = true) : F_spec_RedexesIn s t = some (posR s t) := by
  obtain ⟨_, t1, t2, t3⟩ := termOk_iff.1 ht
  unfold F_spec_RedexesIn
  refine loop_filter (n := t.length) (p := isR s t) (g := fun i => (i : Int)) (fun i out hi ho => ?_) (by simp [F_spec_RedexesIn_l1, posR])
  simp only [F_spec_RedexesIn_l1, show (i : Int) < t.length by omega, decide_true, if_true, F_spec_l7Right_eq, hs, ht, Bool.and_self, Option.bind_some, w64 (n := (i : Int) + 1) (by omega) (by omega)]
  rw [F_spec_l8Redex_eq hs ht hi, Option.bind_some, if_pos (show (out.length + 1) * 8 ≤ 140737488355328 by omega)]
  unfold isR
  by_cases h1 : 0 ≤ ruleI s (at' s.1 t i)
  · simp [h1]
  · simp [h1]
def keepB (s : Sys) (t r : List Int) (k : Nat) : Bool := decide (k + 1 = r.length) || decide (endI s.1 t (r.getD k default).toNat ≤ r.getD (k + 1) default)
def inmL (s : Sys) (t : List Int) : List Int := ((List.range (posR s t).length).filter (keepB s t (posR s t))).map fun k => (posR s t).getD k default
theorem inmL_ne {s : Sys} {t : List Int} (h : posR s t ≠ []) : 0 < (inmL s t).length := by
  have h0 : 0 < (posR s t).length := List.length_pos_iff.2 h
  have : (posR s t).getD ((posR s t).length - 1) default ∈ inmL s t :=
    List.mem_map.2 ⟨(posR s t).length - 1, List.mem_filter.2 ⟨List.mem_range.2 (by omega), by unfold keepB; rw [decide_eq_true (by omega)]; rfl⟩, rfl⟩
  exact List.length_pos_iff.2 fun e => by rw [e] at this; cases this
theorem inmL_mem {s : Sys} {t : List Int} {x : Int} (h : x ∈ inmL s t) : x ∈ posR s t := by
  obtain ⟨k, hk, rfl⟩ := List.mem_map.1 h
  exact getD_mem (List.mem_range.1 (List.mem_filter.1 hk).1)
theorem F_impl_inmost_eq {s : Sys} {t : List Int} (hs : sysOk s = true) (ht : termOk s.1 t = true) : F_impl_inmost s t = some (inmL s t) := by
  obtain ⟨ha, t1, t2, t3⟩ := termOk_iff.1 ht
  have hl := posR_len (s := s) (t := t)
  unfold F_impl_inmost
  rw [F_impl_redexes_eq hs ht, Option.bind_some]
  refine loop_filter (n := (posR s t).length) (p := keepB s t (posR s t)) (g := fun k => (posR s t).getD k default) (fun k out hk ho => ?_) (by simp [F_impl_inmost_l1, inmL])
  obtain ⟨i, e, hi, _⟩ := posR_mem (getD_mem hk)
  simp only [F_impl_inmost_l1, show (k : Int) < (posR s t).length by omega, decide_true, if_true, show (0 : Int) ≤ k by omega, and_self, Int.toNat_natCast, w64 (n := (k : Int) + 1) (by omega) (by omega), show (out.length + 1) * 8 ≤ 140737488355328 by omega]
  unfold keepB
  by_cases hlast : k + 1 = (posR s t).length
  · have h1 : (((k : Int) + 1) == (((posR s t).length : Nat) : Int)) = true := by rw [beq_iff_eq]; omega
    simp [h1, hlast]
  · have h1 : (((k : Int) + 1) == (((posR s t).length : Nat) : Int)) = false := by rw [beq_eq_false_iff_ne]; omega
    have hk1 : k + 1 < (posR s t).length := by omega
    have hlt : (posR s t).getD k default ≤ (posR s t).getD (k + 1) default := by
      rw [getD_get hk, getD_get hk1]
      exact Int.le_of_lt (List.pairwise_iff_getElem.1 (posR_sorted s t) k (k + 1) hk hk1 (by omega))
    simp only [h1, Bool.false_eq_true, if_false, show (0 : Int) ≤ (k : Int) + 1 by omega, show (k : Int) + 1 < (posR s t).length by omega, and_self, if_true, show ((k : Int) + 1).toNat = k + 1 by omega, hlast, decide_false, Bool.false_or]
    unfold F_impl_inside
    simp only [hlt, decide_true, if_true]
    have he := F_impl_endAt_eq ha (show Small t by show List.length _ < _; omega) (fun x hx => (t3.all x hx).1) (i := i) (by omega)
    rw [← e] at he
    rw [he, Option.bind_some, Option.bind_some, show i = ((posR s t).getD k default).toNat by omega]
    by_cases hc : endI s.1 t ((posR s t).getD k default).toNat ≤ (posR s t).getD (k + 1) default
    · simp only [hc, show ¬ (posR s t).getD (k + 1) default < endI s.1 t ((posR s t).getD k default).toNat by omega, decide_true, decide_false, Bool.false_eq_true, if_false, if_true]
    · simp only [hc, show (posR s t).getD (k + 1) default < endI s.1 t ((posR s t).getD k default).toNat by omega, decide_true, decide_false, Bool.false_eq_true, if_false, if_true]
theorem F_spec_InmostIn_eq {s : Sys} {t : List Int} (hs : sysOk s = true) (ht : termOk s.1 t = true) : F_spec_InmostIn s t = some (inmL s t) := by
  obtain ⟨ha, t1, t2, t3⟩ := termOk_iff.1 ht
  have hl := posR_len (s := s) (t := t)
  unfold F_spec_InmostIn
  rw [F_spec_RedexesIn_eq hs ht, Option.bind_some]
  refine loop_filter (n := (posR s t).length) (p := keepB s t (posR s t)) (g := fun k => (posR s t).getD k default) (fun k out hk ho => ?_) (by simp [F_spec_InmostIn_l1, inmL])
  obtain ⟨i, e, hi, _⟩ := posR_mem (getD_mem hk)
  have he := F_spec_l1End_eq ha (show Small t by show List.length _ < _; omega) (i := i) (by omega)
  rw [← e] at he
  simp only [F_spec_InmostIn_l1, show (k : Int) < (posR s t).length by omega, decide_true, if_true, show (0 : Int) ≤ k by omega, and_self, Int.toNat_natCast, w64 (n := (k : Int) + 1) (by omega) (by omega), show (out.length + 1) * 8 ≤ 140737488355328 by omega, he, Option.bind_some]
  unfold keepB
  by_cases hlast : k + 1 = (posR s t).length
  · have h1 : (((k : Int) + 1) == (((posR s t).length : Nat) : Int)) = true := by rw [beq_iff_eq]; omega
    simp [h1, hlast]
  · have h1 : (((k : Int) + 1) == (((posR s t).length : Nat) : Int)) = false := by rw [beq_eq_false_iff_ne]; omega
    simp only [h1, Bool.false_eq_true, if_false, show (0 : Int) ≤ (k : Int) + 1 by omega, show (k : Int) + 1 < (posR s t).length by omega, and_self, if_true, show ((k : Int) + 1).toNat = k + 1 by omega, hlast, decide_false, Bool.false_or]
    rw [show i = ((posR s t).getD k default).toNat by omega]
    by_cases hc : endI s.1 t ((posR s t).getD k default).toNat ≤ (posR s t).getD (k + 1) default
    · simp only [hc, decide_true, if_true]
    · simp only [hc, decide_false, Bool.false_eq_true, if_false]
def pickI (s : Sys) (t : List Int) : Int := if posR s t = [] then -1 else (inmL s t).getD 0 default
theorem pickI_at {s : Sys} {t : List Int} (h : posR s t ≠ []) : ∃ i : Nat, pickI s t = i ∧ i < t.length ∧ 0 ≤ ruleI s (at' s.1 t i) := by
  unfold pickI
  rw [if_neg h]
  exact posR_mem (inmL_mem (getD_mem (inmL_ne h)))
theorem ruleI_lt (s : Sys) (u : List Int) : ruleI s u < s.2.length := firstI_lt.2
theorem F_impl_pick_eq {s : Sys} {t : List Int} (hs : sysOk s = true) (ht : termOk s.1 t = true) : F_impl_pick s t 1 = some (pickI s t) := by
  unfold F_impl_pick pickI
  rw [F_impl_redexes_eq hs ht, Option.bind_some, w64 (n := (1 : Int) - 1) (by omega) (by omega)]
  by_cases h : posR s t = []
  · rw [if_pos h, h]; rfl
  · have h0 := List.length_pos_iff.2 h
    have h1 : (((posR s t).length : Int) == 0) = false := beq_eq_false_iff_ne.2 (by omega)
    have h2 : (((1 : Int) - 1) == 0) = true := rfl
    have h3 := inmL_ne h
    simp only [h1, Bool.false_eq_true, if_false, h2, if_true, h]
    unfold F_impl_choice_inmost
    have e : F_impl_inmost (s.1, s.2) t = some (inmL s t) := F_impl_inmost_eq hs ht
    simp only [e, Option.bind_some]
    rw [if_pos (by omega), Option.bind_some]
theorem F_spec_l8Right_eq {s : Sys} {t : List Int} (hs : sysOk s = true) (ht : termOk s.1 t = true) : F_spec_l8Right s t 1 = some true := by
  unfold F_spec_l8Right
  rw [F_spec_l7Right_eq, Option.bind_some, hs, ht]
  simp only [Bool.and_self, if_true]
  rw [F_spec_l1In_eq, Option.bind_some]; rfl
theorem F_spec_PickBy_eq {s : Sys} {t : List Int} (hs : sysOk s = true) (ht : termOk s.1 t = true) :
    F_spec_PickBy s t 1 = some (if posR s t = [] then (0, 0, false) else (pickI s t, ruleI s (at' s.1 t (pickI s t).toNat), true)) := by
  unfold F_spec_PickBy F_spec_l8Places
  have h2 : ((1 : Int) == 1) = true := rfl
  rw [F_spec_l8Right_eq hs ht, Option.bind_some, if_pos rfl, if_pos h2, F_spec_InmostIn_eq hs ht, Option.bind_some, Option.bind_some]
  by_cases h : posR s t = []
  · have : inmL s t = [] := List.eq_nil_iff_forall_not_mem.2 fun x hx => by have := inmL_mem hx; rw [h] at this; cases this
    rw [if_pos h, this]; rfl
  · have h3 := inmL_ne h
    have h1 : (((inmL s t).length : Int) == 0) = false := beq_eq_false_iff_ne.2 (by omega)
    obtain ⟨i, e, hi, _⟩ := pickI_at h
    have e' : (inmL s t).getD 0 default = pickI s t := by unfold pickI; rw [if_neg h]
    simp only [h1, Bool.false_eq_true, if_false, h, e']
    rw [if_pos (by omega), if_pos (by omega), e, F_spec_l8Redex_eq hs ht hi, Option.bind_some, Int.toNat_natCast]
theorem F_spec_NormalIn_eq {s : Sys} {t : List Int} (hs : sysOk s = true) (ht : termOk s.1 t = true) : F_spec_NormalIn s t = some (decide (posR s t = [])) := by
  obtain ⟨ha, hl, hr⟩ := sysOk_iff.1 hs
  obtain ⟨_, t1, t2, t3⟩ := termOk_iff.1 ht
  unfold F_spec_NormalIn
  rw [F_spec_l7Right_eq, Option.bind_some, hs, ht]
  simp only [Bool.and_self, if_true]
  have key : Okk True (F_spec_l7Redexes s t) fun m => (m = 0 ↔ posR s t = []) := by
    unfold F_spec_l7Redexes
    refine Okk.loop (fun q : Int × Int => ∃ i : Nat, q.2 = i ∧ i ≤ t.length ∧ 0 ≤ q.1 ∧ q.1 ≤ 12 * i ∧ (q.1 = 0 ↔ ∀ j, j < i → ruleI s (at' s.1 t j) = -1)) (fun q : Int × Int => t.length - q.2.toNat) ⟨0, rfl, by omega, by omega, by simp, by simp⟩ ?_
    rintro ⟨many, _⟩ ⟨i, rfl, h1, h2, h3, h4⟩
    simp only at h2 h3 h4
    simp only [F_spec_l7Redexes_l1]
    by_cases hi : i < t.length
    · obtain ⟨q, hd, hu, hul, _⟩ := at_place ht hi
      simp only [show (i : Int) < t.length by omega, decide_true, if_true]
      refine Okk.loop (fun q : Int × Int => ∃ j : Nat, q.2 = j ∧ j ≤ s.2.length ∧ many ≤ q.1 ∧ q.1 ≤ many + j ∧ (q.1 = many ↔ ∀ r ∈ s.2.take j, (mat s.1 r.1 (at' s.1 t i) none24).isSome = false)) (fun q : Int × Int => s.2.length - q.2.toNat) ⟨0, rfl, by omega, by simp, by simp, by simp⟩ ?_
      rintro ⟨m2, _⟩ ⟨j, rfl, hj, h5, h6, h7⟩
      simp only at h5 h6 h7
      simp only [F_spec_l7Redexes_l2]
      by_cases hlt : j < s.2.length
      · obtain ⟨hL, _⟩ := ruleOk_iff.1 (hr _ (getD_mem hlt))
        obtain ⟨_, _, l2, l3⟩ := termOk_iff.1 hL
        simp only [show (j : Int) < s.2.length by omega, decide_true, if_true, show (0 : Int) ≤ j by omega, and_self, Int.toNat_natCast, w64 (n := (j : Int) + 1) (by omega) (by omega), w64 (n := m2 + 1) (by omega) (by omega)]
        rw [F_spec_l1Sub_eq ha (show List.length _ < _ by omega) hd hu, Option.bind_some]
        have ht1 : s.2.take (j + 1) = s.2.take j ++ [s.2[j]] := by rw [List.take_add_one, List.getElem?_eq_getElem hlt]; rfl
        refine Okk.bind (F_spec_l4Match_ok ha l3 hu l2 hul) fun r1 hr1 => ?_
        have e3 := match_isSome hr1
        rw [getD_get hlt] at e3
        refine Okk.ite (fun hc => .some ⟨⟨j + 1, by simp, hlt, by simp only; omega, by simp only; omega, ?_⟩, by simp; omega⟩) fun hc => .some ⟨⟨j + 1, by simp, hlt, h5, by simp only; omega, ?_⟩, by simp; omega⟩
        · simp only
          rw [hc] at e3
          constructor
          · intro h; omega
          · intro h
            have := h (s.2[j]) (by rw [ht1]; exact List.mem_append_right _ (List.mem_singleton.2 rfl))
            rw [← e3] at this; cases this
        · simp only
          rw [hc] at e3
          rw [h7, ht1]
          constructor
          · intro h r hm
            rcases List.mem_append.1 hm with hm | hm
            · exact h r hm
            · rw [List.mem_singleton.1 hm]; exact e3.symm
          · intro h r hm; exact h r (List.mem_append_left _ hm)
      · obtain rfl : j = s.2.length := by omega
        rw [List.take_length] at h7
        simp only [Int.lt_irrefl, decide_false, Bool.false_eq_true, if_false, Option.map_some, w64 (n := (i : Int) + 1) (by omega) (by omega)]
        refine .some ⟨⟨i + 1, by simp, hi, by simp only; omega, by simp only; omega, ?_⟩, by simp; omega⟩
        simp only
        constructor
        · intro h k hk
          by_cases hki : k < i
          · exact h4.1 (by omega) k hki
          · obtain rfl : k = i := by omega
            exact firstI_none (h7.1 (by omega))
        · intro h
          have e1 : many = 0 := h4.2 fun k hk => h k (by omega)
          have e2 : m2 = many := h7.2 fun r hm => by
            cases hp : (mat s.1 r.1 (at' s.1 t i) none24).isSome with
            | false => rfl
            | true =>
              have := firstI_at (p := fun r : List Int × List Int => (mat s.1 r.1 (at' s.1 t i) none24).isSome) hm hp
              have h0 := h i (by omega)
              unfold ruleI at h0
              omega
          omega
    · obtain rfl : i = t.length := by omega
      simp only [Int.lt_irrefl, decide_false, Bool.false_eq_true, if_false, Option.map_some]
      refine .some ?_
      simp only [Rnd]
      rw [h4, posR_nil]
  obtain ⟨m, e1, e2⟩ := key.get
  rw [e1, Option.bind_some]
  congr 1
  by_cases h : posR s t = []
  · rw [decide_eq_true h, e2.2 h]; rfl
  · rw [decide_eq_false h]
    exact beq_eq_false_iff_ne.2 fun e => h (e2.1 e)
theorem stepO_sm {s : Sys} {t u : List Int} {i rule : Nat} (h : stepO s t i rule = some u) : u.length ≤ 60 := by
  unfold stepO stepp at h
  obtain ⟨b, _, h⟩ := Option.bind_eq_some_iff.1 h
  split at h
  · rename_i hc; cases h; exact hc.2
  · cases h
def wlk (s : Sys) : Nat → List Int → List Stp × Bool
  | 0, t => ([], decide (posR s t = []))
  | n + 1, t => if posR s t = [] then ([], true) else
    match stepO s t (pickI s t).toNat (ruleI s (at' s.1 t (pickI s t).toNat)).toNat with
    | none => ([], false)
    | some u => ((pickI s t, ruleI s (at' s.1 t (pickI s t).toNat), u) :: (wlk s n u).1, (wlk s n u).2)
theorem pick_step {s : Sys} {t u : List Int} (hs : sysOk s = true) (ht : termOk s.1 t = true) (h : posR s t ≠ []) (hu : stepO s t (pickI s t).toNat (ruleI s (at' s.1 t (pickI s t).toNat)).toNat = some u) :
    stepAtO s t (pickI s t) (ruleI s (at' s.1 t (pickI s t).toNat)) = some u ∧ termOk s.1 u = true := by
  obtain ⟨i, e, hi, h0⟩ := pickI_at h
  have h1 := ruleI_lt s (at' s.1 t (pickI s t).toNat)
  have h0' : 0 ≤ ruleI s (at' s.1 t (pickI s t).toNat) := by rw [e, Int.toNat_natCast]; exact h0
  have hst : stepAtO s t (pickI s t) (ruleI s (at' s.1 t (pickI s t).toNat)) = some u := by
    unfold stepAtO
    rw [if_pos ⟨⟨hs, ht⟩, ⟨by omega, by omega⟩, h0', h1⟩, hu]
  exact ⟨hst, moveB_to (m := (ruleI s (at' s.1 t (pickI s t).toNat), pickI s t, false, u)) (stepAt_move (x := (pickI s t, ruleI s (at' s.1 t (pickI s t).toNat), u)) hst (by simp))⟩
theorem wlk_from {s : Sys} (hs : sysOk s = true) : ∀ (n : Nat) {t : List Int}, termOk s.1 t = true → walkFrom s t (wlk s n t).1 = true ∧ (wlk s n t).1.length ≤ n ∧ ((wlk s n t).2 = true → posR s (endR t ((wlk s n t).1.map fun x => (x.2.1, x.1, false, x.2.2))) = [])
  | 0, t, _ => ⟨rfl, Nat.le_refl _, fun h => of_decide_eq_true h⟩
  | n + 1, t, ht => by
    unfold wlk
    by_cases h : posR s t = []
    · rw [if_pos h]; exact ⟨rfl, Nat.zero_le _, fun _ => h⟩
    · rw [if_neg h]
      cases hu : stepO s t (pickI s t).toNat (ruleI s (at' s.1 t (pickI s t).toNat)).toNat with
      | none => exact ⟨rfl, Nat.zero_le _, fun h => by cases h⟩
      | some u =>
        obtain ⟨h1, h2⟩ := pick_step hs ht h hu
        obtain ⟨h3, h4, h5⟩ := wlk_from hs n h2
        refine ⟨?_, by simp only [List.length_cons]; omega, h5⟩
        simp only [walkFrom, h1, beq_self_eq_true, Bool.true_and]
        exact h3
theorem impl_walk_loop {s : Sys} (hs : sysOk s = true) {fuel : Int} (hf : fuel ≤ 60) {r : List Int} : ∀ (n : Nat) {t : List Int} {w : List Stp}, termOk s.1 t = true → (w.length : Int) + n = fuel →
    loopC (F_impl_walkBy_l1 s 1 fuel r) (t, w) = some ((r, w ++ (wlk s n t).1), (wlk s n t).2) := by
  intro n
  induction n with
  | zero =>
    intro t w ht hn
    refine loopC_inr ?_
    simp only [F_impl_walkBy_l1, F_impl_pick_eq hs ht, Option.bind_some, wlk]
    by_cases h : posR s t = []
    · have : pickI s t = -1 := by unfold pickI; rw [if_pos h]
      simp [this, h]
    · obtain ⟨i, e, hi, h0⟩ := pickI_at h
      simp [e, h, show ¬ (i : Int) < 0 by omega, show (w.length : Int) = fuel by omega]
  | succ n ih =>
    intro t w ht hn
    by_cases h : posR s t = []
    · refine loopC_inr ?_
      have : pickI s t = -1 := by unfold pickI; rw [if_pos h]
      simp [F_impl_walkBy_l1, F_impl_pick_eq hs ht, wlk, this, h]
    · obtain ⟨i, e, hi, h0⟩ := pickI_at h
      have h1 := ruleI_lt s (at' s.1 t i)
      have hne : ((w.length : Int) == fuel) = false := beq_eq_false_iff_ne.2 (by omega)
      have hst := F_impl_step_eq hs ht hi (rule := (ruleI s (at' s.1 t i)).toNat) (by omega)
      rw [show (((ruleI s (at' s.1 t i)).toNat : Nat) : Int) = ruleI s (at' s.1 t i) by omega] at hst
      have step : F_impl_walkBy_l1 s 1 fuel r (t, w) = (match stepO s t i (ruleI s (at' s.1 t i)).toNat with
          | none => some (.inr ((r, w), false))
          | some u => some (.inl (u, w ++ [((i : Int), ruleI s (at' s.1 t i), u)]))) := by
        simp only [F_impl_walkBy_l1, F_impl_pick_eq hs ht, Option.bind_some, e, show ¬ (i : Int) < 0 by omega, decide_false, Bool.false_eq_true, if_false, hne, F_impl_ruleAt_eq hs ht hi, hst]
        cases stepO s t i (ruleI s (at' s.1 t i)).toNat with
        | none => simp [encO]
        | some u => simp only [encO, if_true]; rw [if_pos (by omega)]
      simp only [wlk, h, if_false, e, Int.toNat_natCast]
      cases hu : stepO s t i (ruleI s (at' s.1 t i)).toNat with
      | none =>
        rw [hu] at step
        rw [loopC_inr step]; simp
      | some u =>
        rw [hu] at step
        rw [loopC_inl step]
        have h2 := (pick_step hs ht h (u := u) (by rw [e, Int.toNat_natCast]; exact hu)).2
        rw [ih h2 (by simp; omega)]
        simp
theorem F_impl_walkBy_eq {s : Sys} {t : List Int} (hs : sysOk s = true) (ht : termOk s.1 t = true) {fuel : Int} (h0 : 0 ≤ fuel) (h60 : fuel ≤ 60) : F_impl_walkBy s t 1 fuel = some ((t, (wlk s fuel.toNat t).1), (wlk s fuel.toNat t).2) := by
  unfold F_impl_walkBy
  rw [F_slices_Clone_eq (show List.length _ < _ by have := (termOk_iff.1 ht).2.2.1; omega), Option.bind_some, impl_walk_loop hs h60 fuel.toNat ht (by simp; omega)]
  simp
theorem spec_walk_loop {s : Sys} (hs : sysOk s = true) {fuel : Int} (hf : fuel ≤ 60) {r : List Int} : ∀ (n : Nat) {t : List Int} {w : List Stp}, termOk s.1 t = true → (w.length : Int) + n = fuel →
    loopC (F_spec_WalkBy_l1 s 1 fuel r) (t, w) = some ((r, w ++ (wlk s n t).1), (wlk s n t).2) := by
  intro n
  induction n with
  | zero =>
    intro t w ht hn
    refine loopC_inr ?_
    simp [F_spec_WalkBy_l1, F_spec_NormalIn_eq hs ht, wlk, show ¬ (w.length : Int) < fuel by omega]
  | succ n ih =>
    intro t w ht hn
    have hlt : (w.length : Int) < fuel := by omega
    by_cases h : posR s t = []
    · refine loopC_inr ?_
      simp [F_spec_WalkBy_l1, F_spec_PickBy_eq hs ht, F_spec_NormalIn_eq hs ht, wlk, h, hlt]
    · obtain ⟨i, e, hi, h0⟩ := pickI_at h
      have h1 := ruleI_lt s (at' s.1 t i)
      have hst := F_spec_l7Step_eq hs ht hi (rule := (ruleI s (at' s.1 t i)).toNat) (by omega)
      rw [show (((ruleI s (at' s.1 t i)).toNat : Nat) : Int) = ruleI s (at' s.1 t i) by omega] at hst
      have step : F_spec_WalkBy_l1 s 1 fuel r (t, w) = (match stepO s t i (ruleI s (at' s.1 t i)).toNat with
          | none => some (.inr ((r, w), false))
          | some u => some (.inl (u, w ++ [((i : Int), ruleI s (at' s.1 t i), u)]))) := by
        simp only [F_spec_WalkBy_l1, hlt, decide_true, if_true, F_spec_PickBy_eq hs ht, h, if_false, Option.bind_some, e, Int.toNat_natCast, hst]
        cases hu : stepO s t i (ruleI s (at' s.1 t i)).toNat with
        | none => simp [encO, F_spec_NormalIn_eq hs ht, h]
        | some u =>
          have := stepO_sm hu
          simp only [encO, if_true]
          rw [if_pos (by omega), F_spec_l1Copy_eq (show List.length _ < _ by omega), Option.bind_some]
      simp only [wlk, h, if_false, e, Int.toNat_natCast]
      cases hu : stepO s t i (ruleI s (at' s.1 t i)).toNat with
      | none =>
        rw [hu] at step
        rw [loopC_inr step]; simp
      | some u =>
        rw [hu] at step
        rw [loopC_inl step]
        have h2 := (pick_step hs ht h (u := u) (by rw [e, Int.toNat_natCast]; exact hu)).2
        rw [ih h2 (by simp; omega)]
        simp
theorem F_spec_WalkBy_eq {s : Sys} {t : List Int} (hs : sysOk s = true) (ht : termOk s.1 t = true) {fuel : Int} (h0 : 0 ≤ fuel) (h60 : fuel ≤ 60) : F_spec_WalkBy s t 1 fuel = some ((t, (wlk s fuel.toNat t).1), (wlk s fuel.toNat t).2) := by
  have hl := (termOk_iff.1 ht).2.2.1
  unfold F_spec_WalkBy
  rw [F_spec_l8Right_eq hs ht, Option.bind_some, if_pos rfl, F_spec_l1In_eq, Option.bind_some, if_pos (by simp [h0, h60]), F_spec_l1Copy_eq (show List.length _ < _ by omega), Option.bind_some, Option.bind_some, spec_walk_loop hs h60 fuel.toNat ht (by simp; omega)]
  simp
def wordB (s : Sys) (a b : List Int) (fuel : Int) : Bool := sysOk s && (decide (0 ≤ fuel ∧ fuel ≤ 60) && (termOk s.1 a && termOk s.1 b))
theorem wordB_iff {s : Sys} {a b : List Int} {fuel : Int} : wordB s a b fuel = true ↔ sysOk s = true ∧ (0 ≤ fuel ∧ fuel ≤ 60) ∧ termOk s.1 a = true ∧ termOk s.1 b = true := by simp [wordB]
theorem F_indexOk_eq {ts : List (List Int)} (hl : ts.length ≤ 1000) (g : List Int) (rs : List (List Int × List Int)) : F_slices_IndexFunc_int64_int64 ts g rs = some (firstI (fun t => !termOk g t) ts) := by
  unfold F_slices_IndexFunc_int64_int64
  refine loop_first (fun i t hi hm hg => ?_) (by simp [F_slices_IndexFunc_int64_int64_l1])
  simp only [F_slices_IndexFunc_int64_int64_l1, F_impl_wordOk_1, show (i : Int) < ts.length by omega, decide_true, if_true, show (0 : Int) ≤ i by omega, and_self, Int.toNat_natCast, hg, F_impl_TermOk_eq, Option.bind_some, w64 (n := (i : Int) + 1) (by omega) (by omega)]
  cases termOk g t <;> simp
theorem F_impl_wordOk_eq (s : Sys) (a b : List Int) (fuel : Int) : F_impl_wordOk s fuel [a, b] = some (wordB s a b fuel) := by
  unfold F_impl_wordOk wordB
  rw [F_impl_SystemOk_eq, Option.bind_some]
  cases hs : sysOk s with
  | false => simp
  | true =>
    by_cases h0 : fuel < 0
    · simp [h0, show ¬ (0 ≤ fuel ∧ fuel ≤ 60) by omega]
    · by_cases h60 : 60 < fuel
      · simp [h0, h60, show ¬ (0 ≤ fuel ∧ fuel ≤ 60) by omega]
      · simp only [if_true, h0, h60, decide_false, Bool.false_eq_true, if_false, show 0 ≤ fuel ∧ fuel ≤ 60 by omega, decide_true, Bool.true_and]
        unfold F_slices_ContainsFunc_int64_int64
        rw [F_indexOk_eq (by simp), Option.bind_some, Option.bind_some]
        congr 1
        cases ha : termOk s.1 a with
        | false => simp [firstI, List.findIdx?_cons, ha]
        | true =>
          cases hb : termOk s.1 b with
          | false => simp [firstI, List.findIdx?_cons, ha, hb]
          | true => simp [firstI, List.findIdx?_cons, ha, hb]
def vv (s : Sys) (fuel : Int) (t : List Int) : List Int × List Stp := (t, (wlk s fuel.toNat t).1)
theorem vv_ok {s : Sys} {t : List Int} {fuel : Int} (hs : sysOk s = true) (ht : termOk s.1 t = true) (h60 : fuel ≤ 60) : walkB s (vv s fuel t) = true := by
  obtain ⟨h1, h2, _⟩ := wlk_from hs fuel.toNat ht
  exact walkB_iff.2 ⟨hs, ht, by simp only [vv]; omega, h1⟩
theorem F_impl_Walk_end_eq {w : List Int × List Stp} (h : SmW w) : F_impl_Walk_end w = some (chEnd (chW w)) := by
  unfold F_impl_Walk_end chEnd chW
  have hl := h.len
  simp only [List.length_map]
  by_cases h0 : w.2.length = 0
  · simp [h0]
  · simp only [show (0 : Int) < w.2.length by omega, decide_true, if_true, h0, if_false, w64 (n := (w.2.length : Int) - 1) (by omega) (by omega)]
    rw [if_pos (by omega), show ((w.2.length : Int) - 1).toNat = w.2.length - 1 by omega]
    have hlt : w.2.length - 1 < w.2.length := by omega
    rw [getD_get (xs := w.2.map _) (by simpa using hlt), getD_get hlt, List.getElem_map]
theorem F_impl_normalOf_eq {s : Sys} {t : List Int} {fuel : Int} (hs : sysOk s = true) (ht : termOk s.1 t = true) (h0 : 0 ≤ fuel) (h60 : fuel ≤ 60) : F_impl_normalOf s t fuel = some (chEnd (chW (vv s fuel t)), (wlk s fuel.toNat t).2) := by
  unfold F_impl_normalOf
  rw [F_impl_walkBy_eq hs ht h0 h60, Option.bind_some]
  have := F_impl_Walk_end_eq (walkB_sm (vv_ok hs ht h60))
  simp only [vv] at this
  rw [this, Option.bind_some]; rfl
def eqV (s : Sys) (a b : List Int) (fuel : Int) : Int :=
  if wordB s a b fuel = true then if (wlk s fuel.toNat a).2 = true ∧ (wlk s fuel.toNat b).2 = true then if chEnd (chW (vv s fuel a)) = chEnd (chW (vv s fuel b)) then 1 else 0 else -1 else -1
theorem end_small {s : Sys} {t : List Int} {fuel : Int} (hs : sysOk s = true) (ht : termOk s.1 t = true) (h60 : fuel ≤ 60) : (chEnd (chW (vv s fuel t))).length ≤ 60 := (walkB_sm (vv_ok hs ht h60)).ch.end'
theorem F_impl_EqualBy_eq (s : Sys) (a b : List Int) (fuel : Int) : F_impl_EqualBy s a b fuel = some (eqV s a b fuel) := by
  unfold F_impl_EqualBy eqV
  rw [F_impl_wordOk_eq, Option.bind_some]
  cases hw : wordB s a b fuel with
  | false => simp
  | true =>
    obtain ⟨hs, ⟨h0, h60⟩, ha, hb⟩ := wordB_iff.1 hw
    simp only [if_true]
    unfold F_impl_equalBy F_impl_both_int64 F_impl_equalBy_1
    have ea : F_impl_normalOf (s.1, s.2) a fuel = some (chEnd (chW (vv s fuel a)), (wlk s fuel.toNat a).2) := F_impl_normalOf_eq hs ha h0 h60
    have eb : F_impl_normalOf (s.1, s.2) b fuel = some (chEnd (chW (vv s fuel b)), (wlk s fuel.toNat b).2) := F_impl_normalOf_eq hs hb h0 h60
    simp only [ea, eb, Option.bind_some]
    have hsm := end_small hs ha h60
    cases h1 : (wlk s fuel.toNat a).2 with
    | false => simp
    | true =>
      cases h2 : (wlk s fuel.toNat b).2 with
      | false => simp
      | true =>
        simp only [if_true, Option.bind_some, and_self]
        rw [F_slices_Equal_eq (show List.length _ < _ by omega), Option.bind_some]
        by_cases he : chEnd (chW (vv s fuel a)) = chEnd (chW (vv s fuel b))
        · simp [he]
        · have : (chEnd (chW (vv s fuel a)) == chEnd (chW (vv s fuel b))) = false := by simpa using he
          simp [he]
theorem F_spec_NormalBy_eq {s : Sys} {t : List Int} {fuel : Int} (hs : sysOk s = true) (ht : termOk s.1 t = true) (h0 : 0 ≤ fuel) (h60 : fuel ≤ 60) :
    F_spec_NormalBy s t 1 fuel = some (if (wlk s fuel.toNat t).2 = true then (chEnd (chW (vv s fuel t)), true) else ([], false)) := by
  unfold F_spec_NormalBy
  rw [F_spec_WalkBy_eq hs ht h0 h60, Option.bind_some]
  cases h : (wlk s fuel.toNat t).2 with
  | false => simp
  | true =>
    have := F_spec_l7End_eq (walkB_sm (vv_ok hs ht h60))
    simp only [vv] at this
    simp only [if_true, this, Option.bind_some]; rfl
theorem F_spec_l22Right_eq (s : Sys) (t : List Int) (fuel : Int) : F_spec_l22Right s t fuel = some (sysOk s && termOk s.1 t && decide (0 ≤ fuel ∧ fuel ≤ 60)) := by
  unfold F_spec_l22Right
  rw [F_spec_l7Right_eq, Option.bind_some]
  cases h : (sysOk s && termOk s.1 t) with
  | false => simp
  | true => simp [F_spec_l1In_eq]
theorem F_spec_EqualBy_eq (s : Sys) (a b : List Int) (fuel : Int) : F_spec_EqualBy s a b fuel = some (eqV s a b fuel) := by
  unfold F_spec_EqualBy eqV
  rw [F_spec_l22Right_eq, Option.bind_some, F_spec_l22Right_eq, Option.bind_some]
  cases hw : wordB s a b fuel with
  | false =>
    unfold wordB at hw
    cases hs : sysOk s with
    | false => simp
    | true =>
      rw [hs] at hw
      by_cases hf : 0 ≤ fuel ∧ fuel ≤ 60
      · cases ha : termOk s.1 a with
        | false => simp
        | true =>
          cases hb : termOk s.1 b with
          | false => simp
          | true => simp [hf, ha, hb] at hw
      · simp [hf]
  | true =>
    obtain ⟨hs, hf, ha, hb⟩ := wordB_iff.1 hw
    obtain ⟨h0, h60⟩ := hf
    have hsm := end_small hs ha h60
    simp only [hs, ha, hb, h0, h60, and_self, decide_true, Bool.and_self, if_true]
    rw [F_spec_NormalBy_eq hs ha h0 h60, Option.bind_some, F_spec_NormalBy_eq hs hb h0 h60, Option.bind_some]
    cases h1 : (wlk s fuel.toNat a).2 with
    | false => simp
    | true =>
      cases h2 : (wlk s fuel.toNat b).2 with
      | false => simp
      | true =>
        simp only [if_true, and_self]
        rw [F_spec_SameTerm_eq (show List.length _ < _ by omega), Option.bind_some]
        unfold F_spec_l1Flag
        by_cases he : chEnd (chW (vv s fuel a)) = chEnd (chW (vv s fuel b))
        · simp [he]
        · have : (chEnd (chW (vv s fuel a)) == chEnd (chW (vv s fuel b))) = false := by simpa using he
          simp [he]
end Go.Proofs.YtcbfefbocpikoaaGreatDoor
namespace Go.Proofs.YtcbfefbocpikoaaGreatDoor
open Go Abx
def txsG (g : Nat → Option (List UInt8 × Nat)) : Nat → UInt8 → Nat → Option (List UInt8 × Nat)
  | 0, _, at' => some ([], at')
  | m + 1, c, at' => (g at').bind fun p => (txsG g m 44 p.2).map fun q => (c :: p.1 ++ q.1, q.2)
def txG (ar t : List Int) : Nat → Nat → Option (List UInt8 × Nat)
  | 0, _ => none
  | f + 1, at' => match t[at']? with
    | none => none
    | some n => if n < 0 then (if -11 < n then some ([120, dg1 (-1 - n).toNat], at' + 1) else none) else
      if n < 10 then
        match ar[n.toNat]? with
        | none => none
        | some k => if 0 ≤ k then (txsG (txG ar t f) k.toNat 40 (at' + 1)).map fun p => ([102, dg1 n.toNat] ++ p.1 ++ (if 0 < k then [41] else []), p.2) else none
      else none
theorem txs_G (ar t : List Int) (f : Nat) : ∀ m c a, txs ar t f m c a = txsG (tx ar t f) m c a
  | 0, c, a => by rw [txs, txsG]
  | m + 1, c, a => by
    rw [txs, txsG]
    congr 1
    funext p
    rw [txs_G ar t f m 44 p.2]
theorem tx_G (ar t : List Int) : ∀ f a, tx ar t f a = txG ar t f a
  | 0, a => by rw [tx, txG]
  | f + 1, a => by
    have h : tx ar t f = txG ar t f := funext (tx_G ar t f)
    rw [tx, txG]
    simp only [txs_G, h]
    cases t[a]? with
    | none => rfl
    | some n =>
      simp only
      split
      · rfl
      · split
        · cases ar[n.toNat]? with
          | none => rfl
          | some k => rfl
        · rfl
def E_impl_text (sig t : List Int) : Option ByteArray := if t.length < 2 ^ 62 then (match txG sig t (t.length + 1) 0 with | some (x, _) => if x.length < 2 ^ 39 then some ⟨x.toArray⟩ else none | none => none) else none
theorem F_impl_text_E (sig t : List Int) : F_impl_text sig t = E_impl_text sig t := by
  unfold F_impl_text E_impl_text
  rw [tx_G]
  cases txG sig t (t.length + 1) 0 with
  | none => rfl
  | some p => rfl
end Go.Proofs.YtcbfefbocpikoaaGreatDoor
namespace Go.Proofs.YtcbfefbocpikoaaGreatDoor
open Go Abx
def Mo {α : Type} (x y : Option α) : Prop := ∀ a, x = some a → y = some a
theorem Mo.rfl {α : Type} {x : Option α} : Mo x x := fun _ h => h
theorem Mo.bind {α β : Type} {x y : Option α} {f g : α → Option β} (h : Mo x y) (hf : ∀ a, Mo (f a) (g a)) : Mo (x.bind f) (y.bind g) := fun b hb => by
  obtain ⟨a, h1, h2⟩ := Option.bind_eq_some_iff.1 hb
  exact Option.bind_eq_some_iff.2 ⟨a, h a h1, hf a b h2⟩
theorem Mo.map {α β : Type} {x y : Option α} {f : α → β} (h : Mo x y) : Mo (x.map f) (y.map f) := fun b hb => by
  obtain ⟨a, h1, h2⟩ := Option.map_eq_some_iff.1 hb
  exact Option.map_eq_some_iff.2 ⟨a, h a h1, h2⟩
theorem Mo.ite {α : Type} {p : Prop} [Decidable p] {x y x' y' : Option α} (h : Mo x x') (h2 : Mo y y') : Mo (if p then x else y) (if p then x' else y') := by
  split
  · exact h
  · exact h2
attribute [local irreducible] Mo
def loopE {σ β : Type} (f : σ → Option (σ ⊕ β)) : Nat → σ → Option β
  | 0, _ => none
  | n + 1, s => match f s with
    | some (.inl s') => loopE f n s'
    | some (.inr b) => some b
    | none => none
theorem loopE_runs {σ β : Type} {f g : σ → Option (σ ⊕ β)} (h : ∀ s, Mo (f s) (g s)) : ∀ (n : Nat) (s : σ) (b : β), loopE f n s = some b → RunsN g n s b
  | 0, _, _, hb => by cases hb
  | n + 1, s, b, hb => by
    have h0 := h
    delta Mo at h
    rw [loopE] at hb
    cases hf : f s with
    | none => rw [hf] at hb; cases hb
    | some t =>
      rw [hf] at hb
      cases t with
      | inl s' => exact .inr ⟨s', h s _ hf, loopE_runs h0 n s' b hb⟩
      | inr c => cases hb; exact .inl (h s _ hf)
theorem Mo.loop {σ β : Type} {f g : σ → Option (σ ⊕ β)} (h : ∀ s, Mo (f s) (g s)) (n : Nat) (s : σ) : Mo (loopE f n s) (loopC g s) := by
  delta Mo; exact fun b hb => (loopE_runs h n s b hb).loopC
def E_spec_l1In (x : Int) (lo : Int) (hi : Int) : Option Bool :=
  if (decide (lo ≤ x)) = true then
    some (decide (x ≤ hi))
  else
    some false
def E_spec_l33There (k : Int) : Option Bool :=
  (E_spec_l1In k 0 6).bind fun r =>
  some r
def E_spec_l33Sig  : Option (List Int) :=
  some [2, 1, 0]
def E_spec_l33Regroup  : Option ((List Int) × (List Int)) :=
  some ([0, 0, (-1), (-2), (-3)], [0, (-1), 0, (-2), (-3)])
def E_spec_TheoryEqs (k : Int) : Option (List ((List Int) × (List Int))) :=
  if (k == 0) = true then
    some [([0, 2, (-1)], [(-1)]), ([0, 1, (-1), (-2)], [1, 0, (-1), (-2)])]
  else
    if (k == 1) = true then
      (E_spec_l33Regroup).bind fun r =>
      some [r]
    else
      if (k == 2) = true then
        (E_spec_l33Regroup).bind fun r_1 =>
        some [([0, 2, (-1)], [(-1)]), ([0, (-1), 2], [(-1)]), r_1]
      else
        if (k == 3) = true then
          some [([1, 1, (-1)], [(-1)]), ([1, 0, (-1), (-2)], [0, 1, (-2), 1, (-1)])]
        else
          if (k == 4) = true then
            some [([0, (-1), (-1)], [(-1)]), ([1, (-1)], [(-1)])]
          else
            if (k == 5) = true then
              some [([0, 0, (-1), (-2), 0, (-2), (-3)], [(-2)])]
            else
              if (k == 6) = true then
                (E_spec_l33Regroup).bind fun r_2 =>
                some [([0, 2, (-1)], [(-1)]), ([0, 1, (-1), (-1)], [2]), r_2]
              else
                some []
def E_spec_l33More (k : Int) : Option (List ((List Int) × (List Int))) :=
  if (k == 5) = true then
    some [([0, (-1), 0, 0, (-1), (-2), (-3)], [0, (-1), (-2)]), ([0, 0, (-1), 0, (-2), (-3), (-3)], [0, (-2), (-3)])]
  else
    if (k == 6) = true then
      some [([0, 1, (-1), 0, (-1), (-2)], [(-2)]), ([0, (-1), 2], [(-1)]), ([1, 2], [2]), ([1, 1, (-1)], [(-1)]), ([0, (-1), 1, (-1)], [2]), ([0, (-1), 0, 1, (-1), (-2)], [(-2)]), ([1, 0, (-1), (-2)], [0, 1, (-2), 1, (-1)])]
    else
      some []
def E_spec_TheoryRules_l1 (k : Int) (r_1 : (List Int)) (r_2 : (List ((List Int) × (List Int)))) : (Int × (List ((List Int) × (List Int)))) → Option ((Int × (List ((List Int) × (List Int)))) ⊕ ((List Int) × (List ((List Int) × (List Int)))))
  | (i, out) =>
    if (decide (i < (r_2.length : Int))) = true then
      if 0 ≤ i ∧ i < (r_2.length : Int) then
        if 0 ≤ i ∧ i < (r_2.length : Int) then
          if (out.length + 1) * 48 ≤ 140737488355328 then
            some (.inl ((IntKind.i64.wrap (i + 1)), (out ++ [((r_2.getD i.toNat default).1, (r_2.getD i.toNat default).2)])))
          else none
        else none
      else none
    else
      Option.map Sum.inr (
        (E_spec_l33More k).bind fun r_3 =>
        if (out.length + r_3.length) * 48 ≤ 140737488355328 then
          some (r_1, (out ++ r_3))
        else none)
def E_spec_TheoryRules (k : Int) : Option ((List Int) × (List ((List Int) × (List Int)))) :=
  (E_spec_l33There k).bind fun r =>
  if r = true then
    (E_spec_l33Sig).bind fun r_1 =>
    (E_spec_TheoryEqs k).bind fun r_2 =>
    loopE (E_spec_TheoryRules_l1 k r_1 r_2) 200 (0, [])
  else
    some ([], [])
def E_impl_theorySig  : Option (List Int) :=
  some [2, 1, 0]
def E_impl_parseNum_l1 (s : ByteArray) : (Int × Int) → Option ((Int × Int) ⊕ (Int × Bool))
  | (n, v26) =>
    if (decide (v26 < (s.size : Int))) = true then
      if 0 ≤ v26 ∧ v26 < (s.size : Int) then
        if (decide ((sget s v26.toNat) < 48)) = true then
          Option.map Sum.inr (
            some (0, false))
        else
          if 0 ≤ v26 ∧ v26 < (s.size : Int) then
            if (decide (57 < (sget s v26.toNat))) = true then
              Option.map Sum.inr (
                some (0, false))
            else
              if 0 ≤ v26 ∧ v26 < (s.size : Int) then
                some (.inl ((IntKind.i64.wrap ((IntKind.i64.wrap (10 * n)) + (IntKind.i64.wrap (IntKind.u8.wrap ((sget s v26.toNat) - 48))))), (IntKind.i64.wrap (v26 + 1))))
              else none
          else none
      else none
    else
      Option.map Sum.inr (
        some (n, true))
def E_impl_parseNum_l2 (s : ByteArray) : (Int × Int) → Option ((Int × Int) ⊕ (Int × Bool))
  | (n_1, v26_1) =>
    if (decide (v26_1 < (s.size : Int))) = true then
      if 0 ≤ v26_1 ∧ v26_1 < (s.size : Int) then
        if (decide ((sget s v26_1.toNat) < 48)) = true then
          Option.map Sum.inr (
            some (0, false))
        else
          if 0 ≤ v26_1 ∧ v26_1 < (s.size : Int) then
            if (decide (57 < (sget s v26_1.toNat))) = true then
              Option.map Sum.inr (
                some (0, false))
            else
              if 0 ≤ v26_1 ∧ v26_1 < (s.size : Int) then
                some (.inl ((IntKind.i64.wrap ((IntKind.i64.wrap (10 * n_1)) + (IntKind.i64.wrap (IntKind.u8.wrap ((sget s v26_1.toNat) - 48))))), (IntKind.i64.wrap (v26_1 + 1))))
              else none
          else none
      else none
    else
      Option.map Sum.inr (
        some (n_1, true))
def E_impl_parseNum (s : ByteArray) : Option (Int × Bool) :=
  if ((s.size : Int) == 0) = true then
    some (0, false)
  else
    if (decide (9 < (s.size : Int))) = true then
      some (0, false)
    else
      if (decide (1 < (s.size : Int))) = true then
        if 0 ≤ 0 ∧ 0 < (s.size : Int) then
          if ((sget s 0) == 48) = true then
            some (0, false)
          else
            loopE (E_impl_parseNum_l1 s) 200 (0, 0)
        else none
      else
        loopE (E_impl_parseNum_l2 s) 200 (0, 0)
def E_impl_parseTerm_l2 (s : ByteArray) (t : (List Int)) (i : Int) : Int → Option (Int ⊕ (((List Int) × Int) ⊕ ((List Int) × Bool)))
  | end' =>
    if (decide (end' < (s.size : Int))) = true then
      if 0 ≤ end' ∧ end' < (s.size : Int) then
        if (decide (48 ≤ (sget s end'.toNat))) = true then
          if 0 ≤ end' ∧ end' < (s.size : Int) then
            if (decide ((sget s end'.toNat) ≤ 57)) = true then
              some (.inl (IntKind.i64.wrap (end' + 1)))
            else
              Option.map Sum.inr (
                if 0 ≤ (IntKind.i64.wrap (i + 1)) ∧ (IntKind.i64.wrap (i + 1)) ≤ end' ∧ end' ≤ (s.size : Int) then
                  (E_impl_parseNum (s.extract (IntKind.i64.wrap (i + 1)).toNat end'.toNat)).bind fun r =>
                  if r.2 = true then
                    if ((sget s i.toNat) != 120) = true then
                      if ((sget s i.toNat) != 102) = true then
                        Option.map Sum.inr (
                          some ([], false))
                      else
                        if ((sget s i.toNat) == 120) = true then
                          if (t.length + 1) * 8 ≤ 140737488355328 then
                            some (.inl ((t ++ [(IntKind.i64.wrap ((-1) - r.1))]), end'))
                          else none
                        else
                          if (t.length + 1) * 8 ≤ 140737488355328 then
                            some (.inl ((t ++ [r.1]), end'))
                          else none
                    else
                      if ((sget s i.toNat) == 120) = true then
                        if (t.length + 1) * 8 ≤ 140737488355328 then
                          some (.inl ((t ++ [(IntKind.i64.wrap ((-1) - r.1))]), end'))
                        else none
                      else
                        if (t.length + 1) * 8 ≤ 140737488355328 then
                          some (.inl ((t ++ [r.1]), end'))
                        else none
                  else
                    Option.map Sum.inr (
                      some ([], false))
                else none)
          else none
        else
          Option.map Sum.inr (
            if 0 ≤ (IntKind.i64.wrap (i + 1)) ∧ (IntKind.i64.wrap (i + 1)) ≤ end' ∧ end' ≤ (s.size : Int) then
              (E_impl_parseNum (s.extract (IntKind.i64.wrap (i + 1)).toNat end'.toNat)).bind fun r_1 =>
              if r_1.2 = true then
                if ((sget s i.toNat) != 120) = true then
                  if ((sget s i.toNat) != 102) = true then
                    Option.map Sum.inr (
                      some ([], false))
                  else
                    if ((sget s i.toNat) == 120) = true then
                      if (t.length + 1) * 8 ≤ 140737488355328 then
                        some (.inl ((t ++ [(IntKind.i64.wrap ((-1) - r_1.1))]), end'))
                      else none
                    else
                      if (t.length + 1) * 8 ≤ 140737488355328 then
                        some (.inl ((t ++ [r_1.1]), end'))
                      else none
                else
                  if ((sget s i.toNat) == 120) = true then
                    if (t.length + 1) * 8 ≤ 140737488355328 then
                      some (.inl ((t ++ [(IntKind.i64.wrap ((-1) - r_1.1))]), end'))
                    else none
                  else
                    if (t.length + 1) * 8 ≤ 140737488355328 then
                      some (.inl ((t ++ [r_1.1]), end'))
                    else none
              else
                Option.map Sum.inr (
                  some ([], false))
            else none)
      else none
    else
      Option.map Sum.inr (
        if 0 ≤ (IntKind.i64.wrap (i + 1)) ∧ (IntKind.i64.wrap (i + 1)) ≤ end' ∧ end' ≤ (s.size : Int) then
          (E_impl_parseNum (s.extract (IntKind.i64.wrap (i + 1)).toNat end'.toNat)).bind fun r_2 =>
          if r_2.2 = true then
            if ((sget s i.toNat) != 120) = true then
              if ((sget s i.toNat) != 102) = true then
                Option.map Sum.inr (
                  some ([], false))
              else
                if ((sget s i.toNat) == 120) = true then
                  if (t.length + 1) * 8 ≤ 140737488355328 then
                    some (.inl ((t ++ [(IntKind.i64.wrap ((-1) - r_2.1))]), end'))
                  else none
                else
                  if (t.length + 1) * 8 ≤ 140737488355328 then
                    some (.inl ((t ++ [r_2.1]), end'))
                  else none
            else
              if ((sget s i.toNat) == 120) = true then
                if (t.length + 1) * 8 ≤ 140737488355328 then
                  some (.inl ((t ++ [(IntKind.i64.wrap ((-1) - r_2.1))]), end'))
                else none
              else
                if (t.length + 1) * 8 ≤ 140737488355328 then
                  some (.inl ((t ++ [r_2.1]), end'))
                else none
          else
            Option.map Sum.inr (
              some ([], false))
        else none)
def E_impl_parseTerm_l1 (sig : (List Int)) (s : ByteArray) : ((List Int) × Int) → Option (((List Int) × Int) ⊕ ((List Int) × Bool))
  | (t, i) =>
    if (decide (i < (s.size : Int))) = true then
      if 0 ≤ i ∧ i < (s.size : Int) then
        if ((sget s i.toNat) == 40) = true then
          some (.inl (t, (IntKind.i64.wrap (i + 1))))
        else
          if ((sget s i.toNat) == 44) = true then
            some (.inl (t, (IntKind.i64.wrap (i + 1))))
          else
            if ((sget s i.toNat) == 41) = true then
              some (.inl (t, (IntKind.i64.wrap (i + 1))))
            else
              loopE (E_impl_parseTerm_l2 s t i) 200 (IntKind.i64.wrap (i + 1))
      else none
    else
      Option.map Sum.inr (
        (some <| termOk sig t).bind fun r_3 =>
        if r_3 = true then
          (E_impl_text sig t).bind fun r_4 =>
          some (t, (r_4.data.toList == s.data.toList))
        else
          some (t, false))
def E_impl_parseTerm (sig : (List Int)) (s : ByteArray) : Option ((List Int) × Bool) :=
  loopE (E_impl_parseTerm_l1 sig s) 200 ([], 0)
def E_impl_parsePair (sig : (List Int)) (s : ByteArray) (separator : ByteArray) : Option ((List Int) × (List Int) × Bool) :=
  (F_strings_Cut s separator).bind fun r =>
  if r.2.2 = true then
    (E_impl_parseTerm sig r.1).bind fun r_1 =>
    (E_impl_parseTerm sig r.2.1).bind fun r_2 =>
    if r_1.2 = true then
      some (r_1.1, r_2.1, r_2.2)
    else
      some (r_1.1, r_2.1, false)
  else
    some ([], [], false)
def E_impl_parseRule (sig : (List Int)) (s : ByteArray) : Option (((List Int) × (List Int)) × Bool) :=
  (E_impl_parsePair sig s ({ data := #[32, 45, 62, 32] } : ByteArray)).bind fun r =>
  if r.2.2 = true then
    (some <| ruleOk sig (r.1, r.2.1)).bind fun r_1 =>
    if r_1 = true then
      some ((r.1, r.2.1), true)
    else
      some (([], []), false)
  else
    some (([], []), false)
def E_impl_theorySystem_l1 (r : ((List ByteArray) × Int)) (r_1 : (List Int)) : (Int × (List ((List Int) × (List Int)))) → Option ((Int × (List ((List Int) × (List Int)))) ⊕ (((List Int) × (List ((List Int) × (List Int)))) × Int))
  | (v20, sys) =>
    if (decide (v20 < (r.1.length : Int))) = true then
      if 0 ≤ v20 ∧ v20 < (r.1.length : Int) then
        (E_impl_parseRule r_1 (r.1.getD v20.toNat default)).bind fun r_2 =>
        if (sys.length + 1) * 48 ≤ 140737488355328 then
          some (.inl ((IntKind.i64.wrap (v20 + 1)), (sys ++ [r_2.1])))
        else none
      else none
    else
      Option.map Sum.inr (
        some ((r_1, sys), r.2))
def E_impl_theorySystem (k : Int) : Option (((List Int) × (List ((List Int) × (List Int)))) × Int) :=
  (F_impl_theoryTexts k).bind fun r =>
  (E_impl_theorySig).bind fun r_1 =>
  loopE (E_impl_theorySystem_l1 r r_1) 200 (0, [])
def E_impl_theoryNames  : Option (List ByteArray) :=
  some [({ data := #[115, 117, 109, 115] } : ByteArray), ({ data := #[115, 101, 109, 105, 103, 114, 111, 117, 112] } : ByteArray), ({ data := #[109, 111, 110, 111, 105, 100] } : ByteArray), ({ data := #[105, 110, 118, 111, 108, 117, 116, 105, 111, 110] } : ByteArray), ({ data := #[105, 100, 108, 101] } : ByteArray), ({ data := #[103, 114, 111, 117, 112, 111, 105, 100] } : ByteArray), ({ data := #[103, 114, 111, 117, 112] } : ByteArray)]
def E_impl_theoryOk (k : Int) : Option Bool :=
  if (decide (0 ≤ k)) = true then
    (E_impl_theoryNames).bind fun r =>
    some (decide (k < (r.length : Int)))
  else
    some false
def E_impl_TheoryRules (k : Int) : Option ((List Int) × (List ((List Int) × (List Int)))) :=
  (E_impl_theoryOk k).bind fun r =>
  if r = true then
    (E_impl_theorySystem k).bind fun r_1 =>
    some r_1.1
  else
    some ([], [])
def E_impl_TheoryEqs_l1 (r_1 : (((List Int) × (List ((List Int) × (List Int)))) × Int)) : ((List ((List Int) × (List Int))) × Int) → Option (((List ((List Int) × (List Int))) × Int) ⊕ (List ((List Int) × (List Int))))
  | (out, v21) =>
    if (decide (v21 < ((r_1.1.2.take r_1.2.toNat).length : Int))) = true then
      if 0 ≤ v21 ∧ v21 < ((r_1.1.2.take r_1.2.toNat).length : Int) then
        if (out.length + 1) * 48 ≤ 140737488355328 then
          some (.inl ((out ++ [(((r_1.1.2.take r_1.2.toNat).getD v21.toNat default).1, ((r_1.1.2.take r_1.2.toNat).getD v21.toNat default).2)]), (IntKind.i64.wrap (v21 + 1))))
        else none
      else none
    else
      Option.map Sum.inr (
        some out)
def E_impl_TheoryEqs (k : Int) : Option (List ((List Int) × (List Int))) :=
  (E_impl_theoryOk k).bind fun r =>
  if r = true then
    (E_impl_theorySystem k).bind fun r_1 =>
    if 0 ≤ r_1.2 ∧ r_1.2 ≤ (r_1.1.2.length : Int) then
      loopE (E_impl_TheoryEqs_l1 r_1) 200 ([], 0)
    else none
  else
    some []
theorem M_spec_l1In (x : Int) (lo : Int) (hi : Int) : Mo (E_spec_l1In x lo hi) (F_spec_l1In x lo hi) := by
  unfold E_spec_l1In F_spec_l1In
  (try simp only [F_impl_TermOk_eq, F_impl_RuleOk_eq, F_impl_text_E, Lib.toList_data])
  repeat' (with_reducible first | refine Mo.ite ?_ ?_ | (intro _) | refine Mo.bind ?_ ?_ | refine Mo.map ?_ | refine Mo.loop ?_ _ _ | fail | exact Mo.rfl)
theorem M_spec_l33There (k : Int) : Mo (E_spec_l33There k) (F_spec_l33There k) := by
  unfold E_spec_l33There F_spec_l33There
  (try simp only [F_impl_TermOk_eq, F_impl_RuleOk_eq, F_impl_text_E, Lib.toList_data])
  repeat' (with_reducible first | refine Mo.ite ?_ ?_ | (intro _) | refine Mo.bind ?_ ?_ | refine Mo.map ?_ | refine Mo.loop ?_ _ _ | apply M_spec_l1In | exact Mo.rfl)
theorem M_spec_l33Sig  : Mo (E_spec_l33Sig ) (F_spec_l33Sig ) := by
  unfold E_spec_l33Sig F_spec_l33Sig
  (try simp only [F_impl_TermOk_eq, F_impl_RuleOk_eq, F_impl_text_E, Lib.toList_data])
  repeat' (with_reducible first | refine Mo.ite ?_ ?_ | (intro _) | refine Mo.bind ?_ ?_ | refine Mo.map ?_ | refine Mo.loop ?_ _ _ | apply M_spec_l1In | apply M_spec_l33There | exact Mo.rfl)
theorem M_spec_l33Regroup  : Mo (E_spec_l33Regroup ) (F_spec_l33Regroup ) := by
  unfold E_spec_l33Regroup F_spec_l33Regroup
  (try simp only [F_impl_TermOk_eq, F_impl_RuleOk_eq, F_impl_text_E, Lib.toList_data])
  repeat' (with_reducible first | refine Mo.ite ?_ ?_ | (intro _) | refine Mo.bind ?_ ?_ | refine Mo.map ?_ | refine Mo.loop ?_ _ _ | apply M_spec_l1In | apply M_spec_l33There | apply M_spec_l33Sig | exact Mo.rfl)
theorem M_spec_TheoryEqs (k : Int) : Mo (E_spec_TheoryEqs k) (F_spec_TheoryEqs k) := by
  unfold E_spec_TheoryEqs F_spec_TheoryEqs
  (try simp only [F_impl_TermOk_eq, F_impl_RuleOk_eq, F_impl_text_E, Lib.toList_data])
  repeat' (with_reducible first | refine Mo.ite ?_ ?_ | (intro _) | refine Mo.bind ?_ ?_ | refine Mo.map ?_ | refine Mo.loop ?_ _ _ | apply M_spec_l1In | apply M_spec_l33There | apply M_spec_l33Sig | apply M_spec_l33Regroup | exact Mo.rfl)
theorem M_spec_l33More (k : Int) : Mo (E_spec_l33More k) (F_spec_l33More k) := by
  unfold E_spec_l33More F_spec_l33More
  (try simp only [F_impl_TermOk_eq, F_impl_RuleOk_eq, F_impl_text_E, Lib.toList_data])
  repeat' (with_reducible first | refine Mo.ite ?_ ?_ | (intro _) | refine Mo.bind ?_ ?_ | refine Mo.map ?_ | refine Mo.loop ?_ _ _ | apply M_spec_l1In | apply M_spec_l33There | apply M_spec_l33Sig | apply M_spec_l33Regroup | apply M_spec_TheoryEqs | exact Mo.rfl)
theorem M_spec_TheoryRules_l1 (k : Int) (r_1 : (List Int)) (r_2 : (List ((List Int) × (List Int)))) : ∀ x, Mo (E_spec_TheoryRules_l1 k r_1 r_2 x) (F_spec_TheoryRules_l1 k r_1 r_2 x) := by
  intro x
  unfold E_spec_TheoryRules_l1 F_spec_TheoryRules_l1
  (try simp only [F_impl_TermOk_eq, F_impl_RuleOk_eq, F_impl_text_E, Lib.toList_data])
  repeat' (with_reducible first | refine Mo.ite ?_ ?_ | (intro _) | refine Mo.bind ?_ ?_ | refine Mo.map ?_ | refine Mo.loop ?_ _ _ | apply M_spec_l1In | apply M_spec_l33There | apply M_spec_l33Sig | apply M_spec_l33Regroup | apply M_spec_TheoryEqs | apply M_spec_l33More | exact Mo.rfl)
theorem M_spec_TheoryRules (k : Int) : Mo (E_spec_TheoryRules k) (F_spec_TheoryRules k) := by
  unfold E_spec_TheoryRules F_spec_TheoryRules
  (try simp only [F_impl_TermOk_eq, F_impl_RuleOk_eq, F_impl_text_E, Lib.toList_data])
  repeat' (with_reducible first | refine Mo.ite ?_ ?_ | (intro _) | refine Mo.bind ?_ ?_ | refine Mo.map ?_ | refine Mo.loop ?_ _ _ | apply M_spec_l1In | apply M_spec_l33There | apply M_spec_l33Sig | apply M_spec_l33Regroup | apply M_spec_TheoryEqs | apply M_spec_l33More | apply M_spec_TheoryRules_l1 | exact Mo.rfl)
theorem M_impl_theorySig  : Mo (E_impl_theorySig ) (F_impl_theorySig ) := by
  unfold E_impl_theorySig F_impl_theorySig
  (try simp only [F_impl_TermOk_eq, F_impl_RuleOk_eq, F_impl_text_E, Lib.toList_data])
  repeat' (with_reducible first | refine Mo.ite ?_ ?_ | (intro _) | refine Mo.bind ?_ ?_ | refine Mo.map ?_ | refine Mo.loop ?_ _ _ | apply M_spec_l1In | apply M_spec_l33There | apply M_spec_l33Sig | apply M_spec_l33Regroup | apply M_spec_TheoryEqs | apply M_spec_l33More | apply M_spec_TheoryRules_l1 | apply M_spec_TheoryRules | exact Mo.rfl)
theorem M_impl_parseNum_l1 (s : ByteArray) : ∀ x, Mo (E_impl_parseNum_l1 s x) (F_impl_parseNum_l1 s x) := by
  intro x
  unfold E_impl_parseNum_l1 F_impl_parseNum_l1
  (try simp only [F_impl_TermOk_eq, F_impl_RuleOk_eq, F_impl_text_E, Lib.toList_data])
  repeat' (with_reducible first | refine Mo.ite ?_ ?_ | (intro _) | refine Mo.bind ?_ ?_ | refine Mo.map ?_ | refine Mo.loop ?_ _ _ | apply M_spec_l1In | apply M_spec_l33There | apply M_spec_l33Sig | apply M_spec_l33Regroup | apply M_spec_TheoryEqs | apply M_spec_l33More | apply M_spec_TheoryRules_l1 | apply M_spec_TheoryRules | apply M_impl_theorySig | exact Mo.rfl)
theorem M_impl_parseNum_l2 (s : ByteArray) : ∀ x, Mo (E_impl_parseNum_l2 s x) (F_impl_parseNum_l2 s x) := by
  intro x
  unfold E_impl_parseNum_l2 F_impl_parseNum_l2
  (try simp only [F_impl_TermOk_eq, F_impl_RuleOk_eq, F_impl_text_E, Lib.toList_data])
  repeat' (with_reducible first | refine Mo.ite ?_ ?_ | (intro _) | refine Mo.bind ?_ ?_ | refine Mo.map ?_ | refine Mo.loop ?_ _ _ | apply M_spec_l1In | apply M_spec_l33There | apply M_spec_l33Sig | apply M_spec_l33Regroup | apply M_spec_TheoryEqs | apply M_spec_l33More | apply M_spec_TheoryRules_l1 | apply M_spec_TheoryRules | apply M_impl_theorySig | apply M_impl_parseNum_l1 | exact Mo.rfl)
theorem M_impl_parseNum (s : ByteArray) : Mo (E_impl_parseNum s) (F_impl_parseNum s) := by
  unfold E_impl_parseNum F_impl_parseNum
  (try simp only [F_impl_TermOk_eq, F_impl_RuleOk_eq, F_impl_text_E, Lib.toList_data])
  repeat' (with_reducible first | refine Mo.ite ?_ ?_ | (intro _) | refine Mo.bind ?_ ?_ | refine Mo.map ?_ | refine Mo.loop ?_ _ _ | apply M_spec_l1In | apply M_spec_l33There | apply M_spec_l33Sig | apply M_spec_l33Regroup | apply M_spec_TheoryEqs | apply M_spec_l33More | apply M_spec_TheoryRules_l1 | apply M_spec_TheoryRules | apply M_impl_theorySig | apply M_impl_parseNum_l1 | apply M_impl_parseNum_l2 | exact Mo.rfl)
theorem M_impl_parseTerm_l2 (s : ByteArray) (t : (List Int)) (i : Int) : ∀ x, Mo (E_impl_parseTerm_l2 s t i x) (F_impl_parseTerm_l2 s t i x) := by
  intro x
  unfold E_impl_parseTerm_l2 F_impl_parseTerm_l2
  (try simp only [F_impl_TermOk_eq, F_impl_RuleOk_eq, F_impl_text_E, Lib.toList_data])
  repeat' (with_reducible first | refine Mo.ite ?_ ?_ | (intro _) | refine Mo.bind ?_ ?_ | refine Mo.map ?_ | refine Mo.loop ?_ _ _ | apply M_spec_l1In | apply M_spec_l33There | apply M_spec_l33Sig | apply M_spec_l33Regroup | apply M_spec_TheoryEqs | apply M_spec_l33More | apply M_spec_TheoryRules_l1 | apply M_spec_TheoryRules | apply M_impl_theorySig | apply M_impl_parseNum_l1 | apply M_impl_parseNum_l2 | apply M_impl_parseNum | exact Mo.rfl)
theorem M_impl_parseTerm_l1 (sig : (List Int)) (s : ByteArray) : ∀ x, Mo (E_impl_parseTerm_l1 sig s x) (F_impl_parseTerm_l1 sig s x) := by
  intro x
  unfold E_impl_parseTerm_l1 F_impl_parseTerm_l1
  (try simp only [F_impl_TermOk_eq, F_impl_RuleOk_eq, F_impl_text_E, Lib.toList_data])
  repeat' (with_reducible first | refine Mo.ite ?_ ?_ | (intro _) | refine Mo.bind ?_ ?_ | refine Mo.map ?_ | refine Mo.loop ?_ _ _ | apply M_spec_l1In | apply M_spec_l33There | apply M_spec_l33Sig | apply M_spec_l33Regroup | apply M_spec_TheoryEqs | apply M_spec_l33More | apply M_spec_TheoryRules_l1 | apply M_spec_TheoryRules | apply M_impl_theorySig | apply M_impl_parseNum_l1 | apply M_impl_parseNum_l2 | apply M_impl_parseNum | apply M_impl_parseTerm_l2 | exact Mo.rfl)
theorem M_impl_parseTerm (sig : (List Int)) (s : ByteArray) : Mo (E_impl_parseTerm sig s) (F_impl_parseTerm sig s) := by
  unfold E_impl_parseTerm F_impl_parseTerm
  (try simp only [F_impl_TermOk_eq, F_impl_RuleOk_eq, F_impl_text_E, Lib.toList_data])
  repeat' (with_reducible first | refine Mo.ite ?_ ?_ | (intro _) | refine Mo.bind ?_ ?_ | refine Mo.map ?_ | refine Mo.loop ?_ _ _ | apply M_spec_l1In | apply M_spec_l33There | apply M_spec_l33Sig | apply M_spec_l33Regroup | apply M_spec_TheoryEqs | apply M_spec_l33More | apply M_spec_TheoryRules_l1 | apply M_spec_TheoryRules | apply M_impl_theorySig | apply M_impl_parseNum_l1 | apply M_impl_parseNum_l2 | apply M_impl_parseNum | apply M_impl_parseTerm_l2 | apply M_impl_parseTerm_l1 | exact Mo.rfl)
theorem M_impl_parsePair (sig : (List Int)) (s : ByteArray) (separator : ByteArray) : Mo (E_impl_parsePair sig s separator) (F_impl_parsePair sig s separator) := by
  unfold E_impl_parsePair F_impl_parsePair
  (try simp only [F_impl_TermOk_eq, F_impl_RuleOk_eq, F_impl_text_E, Lib.toList_data])
  repeat' (with_reducible first | refine Mo.ite ?_ ?_ | (intro _) | refine Mo.bind ?_ ?_ | refine Mo.map ?_ | refine Mo.loop ?_ _ _ | apply M_spec_l1In | apply M_spec_l33There | apply M_spec_l33Sig | apply M_spec_l33Regroup | apply M_spec_TheoryEqs | apply M_spec_l33More | apply M_spec_TheoryRules_l1 | apply M_spec_TheoryRules | apply M_impl_theorySig | apply M_impl_parseNum_l1 | apply M_impl_parseNum_l2 | apply M_impl_parseNum | apply M_impl_parseTerm_l2 | apply M_impl_parseTerm_l1 | apply M_impl_parseTerm | exact Mo.rfl)
theorem M_impl_parseRule (sig : (List Int)) (s : ByteArray) : Mo (E_impl_parseRule sig s) (F_impl_parseRule sig s) := by
  unfold E_impl_parseRule F_impl_parseRule
  (try simp only [F_impl_TermOk_eq, F_impl_RuleOk_eq, F_impl_text_E, Lib.toList_data])
  repeat' (with_reducible first | refine Mo.ite ?_ ?_ | (intro _) | refine Mo.bind ?_ ?_ | refine Mo.map ?_ | refine Mo.loop ?_ _ _ | apply M_spec_l1In | apply M_spec_l33There | apply M_spec_l33Sig | apply M_spec_l33Regroup | apply M_spec_TheoryEqs | apply M_spec_l33More | apply M_spec_TheoryRules_l1 | apply M_spec_TheoryRules | apply M_impl_theorySig | apply M_impl_parseNum_l1 | apply M_impl_parseNum_l2 | apply M_impl_parseNum | apply M_impl_parseTerm_l2 | apply M_impl_parseTerm_l1 | apply M_impl_parseTerm | apply M_impl_parsePair | exact Mo.rfl)
theorem M_impl_theorySystem_l1 (r : ((List ByteArray) × Int)) (r_1 : (List Int)) : ∀ x, Mo (E_impl_theorySystem_l1 r r_1 x) (F_impl_theorySystem_l1 r r_1 x) := by
  intro x
  unfold E_impl_theorySystem_l1 F_impl_theorySystem_l1
  (try simp only [F_impl_TermOk_eq, F_impl_RuleOk_eq, F_impl_text_E, Lib.toList_data])
  repeat' (with_reducible first | refine Mo.ite ?_ ?_ | (intro _) | refine Mo.bind ?_ ?_ | refine Mo.map ?_ | refine Mo.loop ?_ _ _ | apply M_spec_l1In | apply M_spec_l33There | apply M_spec_l33Sig | apply M_spec_l33Regroup | apply M_spec_TheoryEqs | apply M_spec_l33More | apply M_spec_TheoryRules_l1 | apply M_spec_TheoryRules | apply M_impl_theorySig | apply M_impl_parseNum_l1 | apply M_impl_parseNum_l2 | apply M_impl_parseNum | apply M_impl_parseTerm_l2 | apply M_impl_parseTerm_l1 | apply M_impl_parseTerm | apply M_impl_parsePair | apply M_impl_parseRule | exact Mo.rfl)
theorem M_impl_theorySystem (k : Int) : Mo (E_impl_theorySystem k) (F_impl_theorySystem k) := by
  unfold E_impl_theorySystem F_impl_theorySystem
  (try simp only [F_impl_TermOk_eq, F_impl_RuleOk_eq, F_impl_text_E, Lib.toList_data])
  repeat' (with_reducible first | refine Mo.ite ?_ ?_ | (intro _) | refine Mo.bind ?_ ?_ | refine Mo.map ?_ | refine Mo.loop ?_ _ _ | apply M_spec_l1In | apply M_spec_l33There | apply M_spec_l33Sig | apply M_spec_l33Regroup | apply M_spec_TheoryEqs | apply M_spec_l33More | apply M_spec_TheoryRules_l1 | apply M_spec_TheoryRules | apply M_impl_theorySig | apply M_impl_parseNum_l1 | apply M_impl_parseNum_l2 | apply M_impl_parseNum | apply M_impl_parseTerm_l2 | apply M_impl_parseTerm_l1 | apply M_impl_parseTerm | apply M_impl_parsePair | apply M_impl_parseRule | apply M_impl_theorySystem_l1 | exact Mo.rfl)
theorem M_impl_theoryNames  : Mo (E_impl_theoryNames ) (F_impl_theoryNames ) := by
  unfold E_impl_theoryNames F_impl_theoryNames
  (try simp only [F_impl_TermOk_eq, F_impl_RuleOk_eq, F_impl_text_E, Lib.toList_data])
  repeat' (with_reducible first | refine Mo.ite ?_ ?_ | (intro _) | refine Mo.bind ?_ ?_ | refine Mo.map ?_ | refine Mo.loop ?_ _ _ | apply M_spec_l1In | apply M_spec_l33There | apply M_spec_l33Sig | apply M_spec_l33Regroup | apply M_spec_TheoryEqs | apply M_spec_l33More | apply M_spec_TheoryRules_l1 | apply M_spec_TheoryRules | apply M_impl_theorySig | apply M_impl_parseNum_l1 | apply M_impl_parseNum_l2 | apply M_impl_parseNum | apply M_impl_parseTerm_l2 | apply M_impl_parseTerm_l1 | apply M_impl_parseTerm | apply M_impl_parsePair | apply M_impl_parseRule | apply M_impl_theorySystem_l1 | apply M_impl_theorySystem | exact Mo.rfl)
theorem M_impl_theoryOk (k : Int) : Mo (E_impl_theoryOk k) (F_impl_theoryOk k) := by
  unfold E_impl_theoryOk F_impl_theoryOk
  (try simp only [F_impl_TermOk_eq, F_impl_RuleOk_eq, F_impl_text_E, Lib.toList_data])
  repeat' (with_reducible first | refine Mo.ite ?_ ?_ | (intro _) | refine Mo.bind ?_ ?_ | refine Mo.map ?_ | refine Mo.loop ?_ _ _ | apply M_spec_l1In | apply M_spec_l33There | apply M_spec_l33Sig | apply M_spec_l33Regroup | apply M_spec_TheoryEqs | apply M_spec_l33More | apply M_spec_TheoryRules_l1 | apply M_spec_TheoryRules | apply M_impl_theorySig | apply M_impl_parseNum_l1 | apply M_impl_parseNum_l2 | apply M_impl_parseNum | apply M_impl_parseTerm_l2 | apply M_impl_parseTerm_l1 | apply M_impl_parseTerm | apply M_impl_parsePair | apply M_impl_parseRule | apply M_impl_theorySystem_l1 | apply M_impl_theorySystem | apply M_impl_theoryNames | exact Mo.rfl)
theorem M_impl_TheoryRules (k : Int) : Mo (E_impl_TheoryRules k) (F_impl_TheoryRules k) := by
  unfold E_impl_TheoryRules F_impl_TheoryRules
  (try simp only [F_impl_TermOk_eq, F_impl_RuleOk_eq, F_impl_text_E, Lib.toList_data])
  repeat' (with_reducible first | refine Mo.ite ?_ ?_ | (intro _) | refine Mo.bind ?_ ?_ | refine Mo.map ?_ | refine Mo.loop ?_ _ _ | apply M_spec_l1In | apply M_spec_l33There | apply M_spec_l33Sig | apply M_spec_l33Regroup | apply M_spec_TheoryEqs | apply M_spec_l33More | apply M_spec_TheoryRules_l1 | apply M_spec_TheoryRules | apply M_impl_theorySig | apply M_impl_parseNum_l1 | apply M_impl_parseNum_l2 | apply M_impl_parseNum | apply M_impl_parseTerm_l2 | apply M_impl_parseTerm_l1 | apply M_impl_parseTerm | apply M_impl_parsePair | apply M_impl_parseRule | apply M_impl_theorySystem_l1 | apply M_impl_theorySystem | apply M_impl_theoryNames | apply M_impl_theoryOk | exact Mo.rfl)
theorem M_impl_TheoryEqs_l1 (r_1 : (((List Int) × (List ((List Int) × (List Int)))) × Int)) : ∀ x, Mo (E_impl_TheoryEqs_l1 r_1 x) (F_impl_TheoryEqs_l1 r_1 x) := by
  intro x
  unfold E_impl_TheoryEqs_l1 F_impl_TheoryEqs_l1
  (try simp only [F_impl_TermOk_eq, F_impl_RuleOk_eq, F_impl_text_E, Lib.toList_data])
  repeat' (with_reducible first | refine Mo.ite ?_ ?_ | (intro _) | refine Mo.bind ?_ ?_ | refine Mo.map ?_ | refine Mo.loop ?_ _ _ | apply M_spec_l1In | apply M_spec_l33There | apply M_spec_l33Sig | apply M_spec_l33Regroup | apply M_spec_TheoryEqs | apply M_spec_l33More | apply M_spec_TheoryRules_l1 | apply M_spec_TheoryRules | apply M_impl_theorySig | apply M_impl_parseNum_l1 | apply M_impl_parseNum_l2 | apply M_impl_parseNum | apply M_impl_parseTerm_l2 | apply M_impl_parseTerm_l1 | apply M_impl_parseTerm | apply M_impl_parsePair | apply M_impl_parseRule | apply M_impl_theorySystem_l1 | apply M_impl_theorySystem | apply M_impl_theoryNames | apply M_impl_theoryOk | apply M_impl_TheoryRules | exact Mo.rfl)
theorem M_impl_TheoryEqs (k : Int) : Mo (E_impl_TheoryEqs k) (F_impl_TheoryEqs k) := by
  unfold E_impl_TheoryEqs F_impl_TheoryEqs
  (try simp only [F_impl_TermOk_eq, F_impl_RuleOk_eq, F_impl_text_E, Lib.toList_data])
  repeat' (with_reducible first | refine Mo.ite ?_ ?_ | (intro _) | refine Mo.bind ?_ ?_ | refine Mo.map ?_ | refine Mo.loop ?_ _ _ | apply M_spec_l1In | apply M_spec_l33There | apply M_spec_l33Sig | apply M_spec_l33Regroup | apply M_spec_TheoryEqs | apply M_spec_l33More | apply M_spec_TheoryRules_l1 | apply M_spec_TheoryRules | apply M_impl_theorySig | apply M_impl_parseNum_l1 | apply M_impl_parseNum_l2 | apply M_impl_parseNum | apply M_impl_parseTerm_l2 | apply M_impl_parseTerm_l1 | apply M_impl_parseTerm | apply M_impl_parsePair | apply M_impl_parseRule | apply M_impl_theorySystem_l1 | apply M_impl_theorySystem | apply M_impl_theoryNames | apply M_impl_theoryOk | apply M_impl_TheoryRules | apply M_impl_TheoryEqs_l1 | exact Mo.rfl)
theorem sysT (k : Nat) (hk : k < 7) : E_impl_TheoryRules k = E_spec_TheoryRules k ∧ (E_impl_TheoryRules k).isSome = true ∧ E_impl_TheoryEqs k = E_spec_TheoryEqs k ∧ (E_impl_TheoryEqs k).isSome = true := by
  match k, hk with
  | 0, _ => exact ⟨by kernel_rfl, by kernel_rfl, by kernel_rfl, by kernel_rfl⟩
  | 1, _ => exact ⟨by kernel_rfl, by kernel_rfl, by kernel_rfl, by kernel_rfl⟩
  | 2, _ => exact ⟨by kernel_rfl, by kernel_rfl, by kernel_rfl, by kernel_rfl⟩
  | 3, _ => exact ⟨by kernel_rfl, by kernel_rfl, by kernel_rfl, by kernel_rfl⟩
  | 4, _ => exact ⟨by kernel_rfl, by kernel_rfl, by kernel_rfl, by kernel_rfl⟩
  | 5, _ => exact ⟨by kernel_rfl, by kernel_rfl, by kernel_rfl, by kernel_rfl⟩
  | 6, _ => exact ⟨by kernel_rfl, by kernel_rfl, by kernel_rfl, by kernel_rfl⟩
end Go.Proofs.YtcbfefbocpikoaaGreatDoor
namespace Go.Proofs.YtcbfefbocpikoaaGreatDoor
open Go Abx Tm
def eqtB (g : List Int) (e : List Int × List Int) : Bool := termOk g e.1 && termOk g e.2
def eqsB (g : List Int) (es : List (List Int × List Int)) : Bool := sigOk g && (decide (es.length ≤ 12) && es.all (eqtB g))
theorem F_impl_EqOk_eq (g : List Int) (e : List Int × List Int) : F_impl_EqOk g e = some (eqtB g e) := by
  unfold F_impl_EqOk eqtB
  rw [F_impl_TermOk_eq, Option.bind_some]
  cases termOk g e.1 <;> simp [F_impl_TermOk_eq]
theorem F_spec_EqOk_eq (g : List Int) (e : List Int × List Int) : F_spec_EqOk g e = some (eqtB g e) := by
  unfold F_spec_EqOk eqtB
  rw [F_spec_TermOk_eq, Option.bind_some]
  cases termOk g e.1 <;> simp [F_spec_TermOk_eq]
theorem F_spec_EqsOk_eq (g : List Int) (es : List (List Int × List Int)) : F_spec_EqsOk g es = some (eqsB g es) := by
  unfold F_spec_EqsOk eqsB
  rw [F_spec_SigOk_eq, Option.bind_some]
  cases h1 : sigOk g with
  | false => simp
  | true =>
    by_cases h2 : 12 < (es.length : Int)
    · simp [h2, show ¬ es.length ≤ 12 by omega]
    · simp only [if_true, h2, decide_false, Bool.false_eq_true, if_false, Bool.true_and, show es.length ≤ 12 by omega, decide_true]
      refine loop_all (fun i x hi hi' _ hx => ?_) (by simp [F_spec_EqsOk_l1])
      simp only [F_spec_EqsOk_l1, hi', decide_true, if_true, Int.toNat_natCast, show (0 : Int) ≤ i by omega, and_self, hx, w64 (n := (i : Int) + 1) (by omega) (by omega), F_spec_EqOk_eq, Option.bind_some]
      cases eqtB g x <;> simp
theorem F_impl_EqsOk_eq (g : List Int) (es : List (List Int × List Int)) : F_impl_EqsOk g es = some (eqsB g es) := by
  unfold F_impl_EqsOk eqsB
  rw [F_impl_SigOk_eq, Option.bind_some]
  cases h1 : sigOk g with
  | false => simp
  | true =>
    by_cases h2 : 12 < (es.length : Int)
    · simp [h2, show ¬ es.length ≤ 12 by omega]
    · simp only [if_true, h2, decide_false, Bool.false_eq_true, if_false, Bool.true_and, show es.length ≤ 12 by omega, decide_true]
      have : F_slices_IndexFunc_impl_Eq_impl_Eq es g = some (firstI (fun e => !eqtB g e) es) := by
        unfold F_slices_IndexFunc_impl_Eq_impl_Eq
        refine loop_first (fun i x hi _ hx => ?_) (by simp [F_slices_IndexFunc_impl_Eq_impl_Eq_l1])
        simp only [F_slices_IndexFunc_impl_Eq_impl_Eq_l1, F_impl_EqsOk_1, show (i : Int) < es.length by omega, decide_true, if_true, show (0 : Int) ≤ i by omega, and_self, Int.toNat_natCast, hx, F_impl_EqOk_eq, Option.bind_some, w64 (n := (i : Int) + 1) (by omega) (by omega)]
        cases eqtB g x <;> simp
      unfold F_slices_ContainsFunc_impl_Eq_impl_Eq
      rw [this, Option.bind_some, Option.bind_some]
      congr 1
      cases h3 : es.all (eqtB g) with
      | true =>
        have : firstI (fun e => !eqtB g e) es = -1 := firstI_none fun x hx => by simp [List.all_eq_true.1 h3 x hx]
        rw [this]; rfl
      | false =>
        obtain ⟨x, hx, h4⟩ := List.all_eq_false.1 h3
        have : 0 ≤ firstI (fun e => !eqtB g e) es := firstI_at hx (by simpa using h4)
        simp [this]
def holdB (s : Sys) (es : List (List Int × List Int)) (fuel : Int) : Bool := sysOk s && (decide (0 ≤ fuel ∧ fuel ≤ 60) && (eqsB s.1 es && es.all fun e => eqV s e.1 e.2 fuel == 1))
theorem F_impl_wordOk_nil (s : Sys) (fuel : Int) : F_impl_wordOk s fuel [] = some (sysOk s && decide (0 ≤ fuel ∧ fuel ≤ 60)) := by
  unfold F_impl_wordOk
  rw [F_impl_SystemOk_eq, Option.bind_some]
  cases hs : sysOk s with
  | false => simp
  | true =>
    by_cases h0 : fuel < 0
    · simp [h0, show ¬ (0 ≤ fuel ∧ fuel ≤ 60) by omega]
    · by_cases h60 : 60 < fuel
      · simp [h0, h60, show ¬ (0 ≤ fuel ∧ fuel ≤ 60) by omega]
      · simp only [if_true, h0, h60, decide_false, Bool.false_eq_true, if_false, show 0 ≤ fuel ∧ fuel ≤ 60 by omega, decide_true, Bool.true_and]
        unfold F_slices_ContainsFunc_int64_int64
        rw [F_indexOk_eq (by simp), Option.bind_some, Option.bind_some]
        rfl
theorem F_impl_equalBy_low {s : Sys} {a b : List Int} {fuel : Int} (hw : wordB s a b fuel = true) : F_impl_equalBy s a b fuel = some (eqV s a b fuel) := by
  have h := F_impl_EqualBy_eq s a b fuel
  unfold F_impl_EqualBy at h
  rw [F_impl_wordOk_eq, Option.bind_some, hw, if_pos rfl] at h
  cases hx : F_impl_equalBy s a b fuel with
  | none => rw [hx] at h; cases h
  | some v => rw [hx] at h; exact h
theorem eqs_small {g : List Int} {es : List (List Int × List Int)} (h : eqsB g es = true) : sigOk g = true ∧ es.length ≤ 12 ∧ ∀ e ∈ es, termOk g e.1 = true ∧ termOk g e.2 = true := by
  simp only [eqsB, Bool.and_eq_true, decide_eq_true_eq, List.all_eq_true, eqtB] at h
  exact ⟨h.1, h.2.1, h.2.2⟩
theorem F_impl_HoldAll_eq (s : Sys) (es : List (List Int × List Int)) (fuel : Int) : F_impl_HoldAll s es fuel = some (holdB s es fuel) := by
  unfold F_impl_HoldAll holdB
  rw [F_impl_wordOk_nil, Option.bind_some]
  cases hs : sysOk s with
  | false => simp
  | true =>
    by_cases hf : 0 ≤ fuel ∧ fuel ≤ 60
    · simp only [hf, and_self, decide_true, Bool.true_and, if_true, F_impl_EqsOk_eq, Option.bind_some]
      cases he : eqsB s.1 es with
      | false => simp
      | true =>
        obtain ⟨_, hl, ht⟩ := eqs_small he
        simp only [if_true, Bool.true_and]
        refine loop_all (fun i x hi hi' hm hx => ?_) (by simp [F_impl_HoldAll_l1])
        have hw : wordB s x.1 x.2 fuel = true := wordB_iff.2 ⟨hs, hf, ht x hm⟩
        simp only [F_impl_HoldAll_l1, hi', decide_true, if_true, Int.toNat_natCast, show (0 : Int) ≤ i by omega, and_self, hx, w64 (n := (i : Int) + 1) (by omega) (by omega), F_impl_equalBy_low hw, Option.bind_some]
        by_cases h1 : eqV s x.1 x.2 fuel = 1 <;> simp [h1]
    · simp [hf]
theorem F_spec_HoldAll_eq (s : Sys) (es : List (List Int × List Int)) (fuel : Int) : F_spec_HoldAll s es fuel = some (holdB s es fuel) := by
  unfold F_spec_HoldAll holdB
  rw [F_spec_SystemOk_eq, Option.bind_some]
  cases hs : sysOk s with
  | false => simp
  | true =>
    simp only [if_true, F_spec_EqsOk_eq, Option.bind_some, F_spec_l1In_eq]
    cases he : eqsB s.1 es with
    | false => simp
    | true =>
      by_cases hf : 0 ≤ fuel ∧ fuel ≤ 60
      · obtain ⟨_, hl, ht⟩ := eqs_small he
        simp only [hf, and_self, decide_true, Bool.true_and, if_true]
        refine loop_all (fun i x hi hi' hm hx => ?_) (by simp [F_spec_HoldAll_l1])
        simp only [F_spec_HoldAll_l1, hi', decide_true, if_true, Int.toNat_natCast, show (0 : Int) ≤ i by omega, and_self, hx, w64 (n := (i : Int) + 1) (by omega) (by omega), F_spec_EqualBy_eq, Option.bind_some]
        by_cases h1 : eqV s x.1 x.2 fuel = 1 <;> simp [h1]
      · have : (decide (0 ≤ fuel) && decide (fuel ≤ 60)) = false := by
          rw [← Bool.decide_and]; simpa using hf
        simp [hf, this]
theorem F_impl_theoryOk_eq (k : Int) : F_impl_theoryOk k = some (decide (0 ≤ k) && decide (k < 7)) := by
  unfold F_impl_theoryOk F_impl_theoryNames
  by_cases h : 0 ≤ k <;> simp [h]
theorem F_spec_l33There_eq (k : Int) : F_spec_l33There k = some (decide (0 ≤ k) && decide (k < 7)) := by
  unfold F_spec_l33There
  rw [F_spec_l1In_eq, Option.bind_some]
  congr 2
  exact decide_eq_decide.2 (by omega)
theorem rules_eq {k : Int} (h0 : 0 ≤ k) (h7 : k < 7) : ∃ s, F_impl_TheoryRules k = some s ∧ F_spec_TheoryRules k = some s := by
  obtain ⟨m, rfl⟩ := Int.eq_ofNat_of_zero_le h0
  obtain ⟨h1, h2, _, _⟩ := sysT m (by omega)
  obtain ⟨s, hs⟩ := Option.isSome_iff_exists.1 h2
  have g1 := M_impl_TheoryRules (m : Int)
  have g2 := M_spec_TheoryRules (m : Int)
  exact ⟨s, g1 s hs, g2 s (h1 ▸ hs)⟩
theorem eqs_eq {k : Int} (h0 : 0 ≤ k) (h7 : k < 7) : ∃ s, F_impl_TheoryEqs k = some s ∧ F_spec_TheoryEqs k = some s := by
  obtain ⟨m, rfl⟩ := Int.eq_ofNat_of_zero_le h0
  obtain ⟨_, _, h1, h2⟩ := sysT m (by omega)
  obtain ⟨s, hs⟩ := Option.isSome_iff_exists.1 h2
  have g1 := M_impl_TheoryEqs (m : Int)
  have g2 := M_spec_TheoryEqs (m : Int)
  exact ⟨s, g1 s hs, g2 s (h1 ▸ hs)⟩
theorem theoryHolds_eq (k : Int) (s : Sys) : ∃ v, F_impl_TheoryHolds k s = some v ∧ F_spec_TheoryHolds k s = some v := by
  unfold F_impl_TheoryHolds F_spec_TheoryHolds
  rw [F_impl_theoryOk_eq, F_spec_l33There_eq, Option.bind_some, Option.bind_some]
  by_cases h : 0 ≤ k ∧ k < 7
  · obtain ⟨es, h1, h2⟩ := eqs_eq h.1 h.2
    simp only [h.1, h.2, decide_true, Bool.and_self, if_true, h1, h2, Option.bind_some, F_impl_HoldAll_eq, F_spec_HoldAll_eq]
    exact ⟨_, rfl, rfl⟩
  · have : (decide (0 ≤ k) && decide (k < 7)) = false := by rw [← Bool.decide_and]; simpa using h
    simp [this]
end Go.Proofs.YtcbfefbocpikoaaGreatDoor
namespace Go.Proofs.YtcbfefbocpikoaaGreatDoor
open Go Abx
attribute [local irreducible] vcm vgo vdr vrun vdrun MWp BrC BrO BrG BrD BrH AmbO callR callD drQ EnvLe StoLe
set_option maxHeartbeats 4000000
def D_laws_Sig (x : (List Int)) : D := .agg [(slD 1 iD) x]
def D_laws_Rule (x : ((List Int) × (List Int))) : D := .agg [(slD 1 iD) x.1, (slD 1 iD) x.2]
def D_laws_System (x : ((List Int) × (List ((List Int) × (List Int))))) : D := .agg [(slD 1 iD) x.1, (slD 2 D_laws_Rule) x.2]
instance : Cel D_laws_Sig 1 := ⟨fun _ => rfl⟩
instance : Cel D_laws_Rule 2 := ⟨fun _ => rfl⟩
instance : Cel D_laws_System 2 := ⟨fun _ => rfl⟩
attribute [go_sem] D_laws_Sig D_laws_Rule D_laws_System
def mc41 : MCode :=
 (.seq (.reg (sq 4 [mi 0])) (.seq (.reg (sq 5 [mv 1, mv 0, ln 6, bn .sub 5 7] ++ sq 1 [mv 8])) (.seq (.seq (.reg (sq 9 [mv 1, bi .lss 9 0])) (.cond (t0 10) (.seq (.reg (sq 4 [mi (-1)])) .ret) .skip)) (.seq (.reg (sq 11 [mv 1] ++ sq 4 [mv 11])) .ret))))
theorem fn41 : MFn Tryz.prog 41 mc41 12 [.tmp 4] := ⟨_, Tryz.func41, by kernel_rfl, Tryz.ntmps41, by kernel_rfl⟩
noncomputable def F_laws_szInt64S (a : (List Int)) (left : Int) : Option Int :=
 if (decide ((IntKind.i64.wrap (left - (a.length : Int))) < 0)) = true then
  some (-1)
 else
  some (IntKind.i64.wrap (left - (a.length : Int)))
instance c_laws_szInt64S {a : (List Int)} {left : Int} : HasC (F_laws_szInt64S a left) fun rr => PFun Tryz.prog 41 [(slD 1 iD) a, iD left] (iD rr) := ⟨@fun rr h => by
  delta F_laws_szInt64S at h
  refine fn41.pureL (vcm_sound ?_)
  delta mc41
  refine stp ?_
  exact aut⟩
def mc20 : MCode :=
 (.seq (.reg (sq 2 [bo 2 28 0] ++ sq 4 [mi 0])) (.seq (.reg (sq 5 [fa 0 2, ld 5, mv 1, cf 41 [6, 7]] ++ sq 1 [mv 8])) (.seq (.seq (.reg (sq 9 [mv 1, bi .lss 9 0])) (.cond (t0 10) (.seq (.reg (sq 4 [mi (-1)])) .ret) .skip)) (.seq (.reg (sq 11 [mv 1] ++ sq 4 [mv 11])) .ret))))
theorem fn20 : MFn Tryz.prog 20 mc20 12 [.tmp 4] := ⟨_, Tryz.func20, by kernel_rfl, Tryz.ntmps20, by kernel_rfl⟩
noncomputable def F_laws_szSig (a : (List Int)) (left : Int) : Option Int :=
 (F_laws_szInt64S a left).bind fun r =>
 if (decide (r < 0)) = true then
  some (-1)
 else
  some r
instance c_laws_szSig {a : (List Int)} {left : Int} : HasC (F_laws_szSig a left) fun rr => PFun Tryz.prog 20 [D_laws_Sig a, iD left] (iD rr) := ⟨@fun rr h => by
  delta F_laws_szSig at h
  refine fn20.pureL (vcm_sound ?_)
  delta mc20
  refine stp ?_
  exact aut⟩
def mc42 : MCode :=
 (.seq (.reg (sq 2 [bo 2 71 0] ++ sq 4 [mi 0])) (.seq (.reg (sq 5 [fa 0 2, ld 5, mv 1, cf 41 [6, 7]] ++ sq 1 [mv 8])) (.seq (.seq (.reg (sq 9 [mv 1, bi .lss 9 0])) (.cond (t0 10) (.seq (.reg (sq 4 [mi (-1)])) .ret) .skip)) (.seq (.reg (sq 11 [fa 1 2, ld 11, mv 1, cf 41 [12, 13]] ++ sq 1 [mv 14])) (.seq (.seq (.reg (sq 15 [mv 1, bi .lss 15 0])) (.cond (t0 16) (.seq (.reg (sq 4 [mi (-1)])) .ret) .skip)) (.seq (.reg (sq 17 [mv 1] ++ sq 4 [mv 17])) .ret))))))
theorem fn42 : MFn Tryz.prog 42 mc42 18 [.tmp 4] := ⟨_, Tryz.func42, by kernel_rfl, Tryz.ntmps42, by kernel_rfl⟩
noncomputable def F_laws_szRule (a : ((List Int) × (List Int))) (left : Int) : Option Int :=
 (F_laws_szInt64S a.1 left).bind fun r =>
 if (decide (r < 0)) = true then
  some (-1)
 else
  (F_laws_szInt64S a.2 r).bind fun r_1 =>
  if (decide (r_1 < 0)) = true then
   some (-1)
  else
   some r_1
instance c_laws_szRule {a : ((List Int) × (List Int))} {left : Int} : HasC (F_laws_szRule a left) fun rr => PFun Tryz.prog 42 [D_laws_Rule a, iD left] (iD rr) := ⟨@fun rr h => by
  delta F_laws_szRule at h
  refine fn42.pureL (vcm_sound ?_)
  delta mc42
  refine stp ?_
  exact aut⟩
def mc21 : MCode :=
 (.seq (.reg (sq 4 [mi 0])) (.seq (.reg (sq 6 [mv 1, mv 0, ln 7, bn .sub 6 8] ++ sq 1 [mv 9])) (.seq (.seq (.reg (sq 10 [mv 1, bi .lss 10 0])) (.cond (t0 11) (.seq (.reg (sq 4 [mi (-1)])) .ret) .skip)) (.seq (.seq (.reg (sq 5 [mi 0])) (.block 0 (.loop (.seq (.seq (.reg (sq 12 [mv 5, mv 0, ln 13, bn .lss 12 14])) (.cond (t0 15) .skip (.exit 0))) (.seq (.block 1 (.seq (.reg (sq 18 [mv 0, mv 5, ix 2 18 19, la 2 20, mv 1, cf 42 [21, 22]] ++ sq 1 [mv 23])) (.seq (.reg (sq 24 [mv 1, bi .lss 24 0])) (.cond (t0 25) (.seq (.reg (sq 4 [mi (-1)])) .ret) .skip)))) (.reg (sq 16 [mv 5, bi .add 16 1] ++ sq 5 [mv 17]))))))) (.seq (.reg (sq 26 [mv 1] ++ sq 4 [mv 26])) .ret)))))
theorem fn21 : MFn Tryz.prog 21 mc21 27 [.tmp 4] := ⟨_, Tryz.func21, by kernel_rfl, Tryz.ntmps21, by kernel_rfl⟩
noncomputable def F_laws_szRuleS_l1 (a : (List ((List Int) × (List Int)))) : (Int × Int) → Option ((Int × Int) ⊕ Int)
 | (left_1, i) =>
  if (decide (i < (a.length : Int))) = true then
   if 0 ≤ i ∧ i < (a.length : Int) then
    (F_laws_szRule ((a.getD i.toNat default).1, (a.getD i.toNat default).2) left_1).bind fun r =>
    if (decide (r < 0)) = true then
     Option.map Sum.inr (
      some (-1))
    else
     some (.inl (r, (IntKind.i64.wrap (i + 1))))
   else none
  else
   Option.map Sum.inr (
    some left_1)
noncomputable def F_laws_szRuleS (a : (List ((List Int) × (List Int)))) (left : Int) : Option Int :=
 if (decide ((IntKind.i64.wrap (left - (a.length : Int))) < 0)) = true then
  some (-1)
 else
  loopC (F_laws_szRuleS_l1 a) ((IntKind.i64.wrap (left - (a.length : Int))), 0)
instance c_laws_szRuleS {a : (List ((List Int) × (List Int)))} {left : Int} : HasC (F_laws_szRuleS a left) fun rr => PFun Tryz.prog 21 [(slD 2 D_laws_Rule) a, iD left] (iD rr) := ⟨@fun rr h => by
  delta F_laws_szRuleS at h
  refine fn21.pureL (vcm_sound ?_)
  delta mc21
  refine stp ?_
  refine iF h fun hc h => ?_
  refine m_lW h [1, 4, 5, 12, 13, 14, 15, 16, 17, 18, 19, 20, 21, 22, 23, 24, 25] (fun pp => [(1, .d (iD pp.1)), (5, .d (iD pp.2))]) (fun pp => []) ?_
  rintro ⟨left_1, i⟩ t1 h hb1
  unfold F_laws_szRuleS_l1 at h
  try dsimp only at h
  refine vcm_sound (stp ?_)
  exact aut⟩
def mc9 : MCode :=
 (.seq (.reg (sq 2 [bo 2 31 0] ++ sq 4 [mi 0])) (.seq (.reg (sq 5 [fa 0 2, la 1 5, mv 1, cf 20 [6, 7]] ++ sq 1 [mv 8])) (.seq (.seq (.reg (sq 9 [mv 1, bi .lss 9 0])) (.cond (t0 10) (.seq (.reg (sq 4 [mi (-1)])) .ret) .skip)) (.seq (.reg (sq 11 [fa 1 2, ld 11, mv 1, cf 21 [12, 13]] ++ sq 1 [mv 14])) (.seq (.seq (.reg (sq 15 [mv 1, bi .lss 15 0])) (.cond (t0 16) (.seq (.reg (sq 4 [mi (-1)])) .ret) .skip)) (.seq (.reg (sq 17 [mv 1] ++ sq 4 [mv 17])) .ret))))))
theorem fn9 : MFn Tryz.prog 9 mc9 18 [.tmp 4] := ⟨_, Tryz.func9, by kernel_rfl, Tryz.ntmps9, by kernel_rfl⟩
noncomputable def F_laws_szSystem (a : ((List Int) × (List ((List Int) × (List Int))))) (left : Int) : Option Int :=
 (F_laws_szSig a.1 left).bind fun r =>
 if (decide (r < 0)) = true then
  some (-1)
 else
  (F_laws_szRuleS a.2 r).bind fun r_1 =>
  if (decide (r_1 < 0)) = true then
   some (-1)
  else
   some r_1
instance c_laws_szSystem {a : ((List Int) × (List ((List Int) × (List Int))))} {left : Int} : HasC (F_laws_szSystem a left) fun rr => PFun Tryz.prog 9 [D_laws_System a, iD left] (iD rr) := ⟨@fun rr h => by
  delta F_laws_szSystem at h
  refine fn9.pureL (vcm_sound ?_)
  delta mc9
  refine stp ?_
  exact aut⟩
def mc8 : MCode :=
 (.seq (.reg (sq 4 [mb false])) (.seq (.seq (.reg (sq 6 [mv 0, ln 6, mv 1, ln 8, bn .neq 7 9])) (.cond (t0 10) (.seq (.reg (sq 4 [mb false])) .ret) .skip)) (.seq (.seq (.reg (sq 5 [mi 0])) (.block 0 (.loop (.seq (.seq (.reg (sq 11 [mv 5, mv 0, ln 12, bn .lss 11 13])) (.cond (t0 14) .skip (.exit 0))) (.seq (.block 1 (.seq (.draw (sq 17 [mv 0, mv 5, ix 1 17 18, ld 19, mv 1, mv 5, ix 1 21 22, ld 23, bn .neq 20 24]) [[], [], [0, 1], [2], [], [], [4, 5], [6], [3, 7]]) (.cond (t0 25) (.seq (.reg (sq 4 [mb false])) .ret) .skip))) (.reg (sq 15 [mv 5, bi .add 15 1] ++ sq 5 [mv 16]))))))) (.seq (.reg (sq 4 [mb true])) .ret))))
theorem fn8 : MFn Tryz.prog 8 mc8 26 [.tmp 4] := ⟨_, Tryz.func8, by kernel_rfl, Tryz.ntmps8, by kernel_rfl⟩
noncomputable def F_laws_eqInt64S_l1 (a : (List Int)) (b : (List Int)) : Int → Option (Int ⊕ Bool)
 | i =>
  if (decide (i < (a.length : Int))) = true then
   if 0 ≤ i ∧ i < (a.length : Int) then
    if 0 ≤ i ∧ i < (b.length : Int) then
     if ((a.getD i.toNat default) != (b.getD i.toNat default)) = true then
      Option.map Sum.inr (
       some false)
     else
      some (.inl (IntKind.i64.wrap (i + 1)))
    else none
   else none
  else
   Option.map Sum.inr (
    some true)
noncomputable def F_laws_eqInt64S (a : (List Int)) (b : (List Int)) : Option Bool :=
 if ((a.length : Int) != (b.length : Int)) = true then
  some false
 else
  loopC (F_laws_eqInt64S_l1 a b) 0
instance c_laws_eqInt64S {a : (List Int)} {b : (List Int)} : HasC (F_laws_eqInt64S a b) fun rr => PFun Tryz.prog 8 [(slD 1 iD) a, (slD 1 iD) b] (bD rr) := ⟨@fun rr h => by
  delta F_laws_eqInt64S at h
  refine fn8.pureL (vcm_sound ?_)
  delta mc8
  refine stp ?_
  refine iF h fun hc h => ?_
  refine m_lW h [4, 5, 11, 12, 13, 14, 15, 16, 17, 18, 19, 20, 21, 22, 23, 24, 25] (fun pp => [(5, .d (iD pp))]) (fun pp => []) ?_
  rintro i t1 h hb1
  unfold F_laws_eqInt64S_l1 at h
  try dsimp only at h
  refine vcm_sound (stp ?_)
  exact aut⟩
def mc28 : MCode :=
 (.seq (.reg (sq 2 [bo 2 34 0, bo 3 34 1, mb false])) (.seq (.seq (.reg (sq 5 [fa 0 2, ld 5, fa 0 3, ld 7, cf 8 [6, 8], nt 9])) (.cond (t0 10) (.seq (.reg (sq 4 [mb false])) .ret) .skip)) (.seq (.reg (sq 4 [mb true])) .ret)))
theorem fn28 : MFn Tryz.prog 28 mc28 11 [.tmp 4] := ⟨_, Tryz.func28, by kernel_rfl, Tryz.ntmps28, by kernel_rfl⟩
noncomputable def F_laws_eqSig (a : (List Int)) (b : (List Int)) : Option Bool :=
 (F_laws_eqInt64S a b).bind fun r =>
 if r = true then
  some true
 else
  some false
instance c_laws_eqSig {a : (List Int)} {b : (List Int)} : HasC (F_laws_eqSig a b) fun rr => PFun Tryz.prog 28 [D_impl_Sig a, D_impl_Sig b] (bD rr) := ⟨@fun rr h => by
  delta F_laws_eqSig at h
  refine fn28.pureL (vcm_sound ?_)
  delta mc28
  refine stp ?_
  exact aut⟩
def mc48 : MCode :=
 (.seq (.reg (sq 2 [bo 2 61 0, bo 3 61 1, mb false])) (.seq (.seq (.reg (sq 5 [fa 0 2, ld 5, fa 0 3, ld 7, cf 8 [6, 8], nt 9])) (.cond (t0 10) (.seq (.reg (sq 4 [mb false])) .ret) .skip)) (.seq (.seq (.reg (sq 11 [fa 1 2, ld 11, fa 1 3, ld 13, cf 8 [12, 14], nt 15])) (.cond (t0 16) (.seq (.reg (sq 4 [mb false])) .ret) .skip)) (.seq (.reg (sq 4 [mb true])) .ret))))
theorem fn48 : MFn Tryz.prog 48 mc48 17 [.tmp 4] := ⟨_, Tryz.func48, by kernel_rfl, Tryz.ntmps48, by kernel_rfl⟩
noncomputable def F_laws_eqRule (a : ((List Int) × (List Int))) (b : ((List Int) × (List Int))) : Option Bool :=
 (F_laws_eqInt64S a.1 b.1).bind fun r =>
 if r = true then
  (F_laws_eqInt64S a.2 b.2).bind fun r_1 =>
  if r_1 = true then
   some true
  else
   some false
 else
  some false
instance c_laws_eqRule {a : ((List Int) × (List Int))} {b : ((List Int) × (List Int))} : HasC (F_laws_eqRule a b) fun rr => PFun Tryz.prog 48 [D_impl_Rule a, D_impl_Rule b] (bD rr) := ⟨@fun rr h => by
  delta F_laws_eqRule at h
  refine fn48.pureL (vcm_sound ?_)
  delta mc48
  refine stp ?_
  exact aut⟩
def mc29 : MCode :=
 (.seq (.reg (sq 4 [mb false])) (.seq (.seq (.reg (sq 6 [mv 0, ln 6, mv 1, ln 8, bn .neq 7 9])) (.cond (t0 10) (.seq (.reg (sq 4 [mb false])) .ret) .skip)) (.seq (.seq (.reg (sq 5 [mi 0])) (.block 0 (.loop (.seq (.seq (.reg (sq 11 [mv 5, mv 0, ln 12, bn .lss 11 13])) (.cond (t0 14) .skip (.exit 0))) (.seq (.block 1 (.seq (.draw (sq 17 [mv 0, mv 5, ix 2 17 18, la 2 19, mv 1, mv 5, ix 2 21 22, la 2 23, cf 48 [20, 24], nt 25]) [[], [], [0, 1], [2], [], [], [4, 5], [6], [3, 7], [8]]) (.cond (t0 26) (.seq (.reg (sq 4 [mb false])) .ret) .skip))) (.reg (sq 15 [mv 5, bi .add 15 1] ++ sq 5 [mv 16]))))))) (.seq (.reg (sq 4 [mb true])) .ret))))
theorem fn29 : MFn Tryz.prog 29 mc29 27 [.tmp 4] := ⟨_, Tryz.func29, by kernel_rfl, Tryz.ntmps29, by kernel_rfl⟩
noncomputable def F_laws_eqRuleS_l1 (a : (List ((List Int) × (List Int)))) (b : (List ((List Int) × (List Int)))) : Int → Option (Int ⊕ Bool)
 | i =>
  if (decide (i < (a.length : Int))) = true then
   if 0 ≤ i ∧ i < (a.length : Int) then
    if 0 ≤ i ∧ i < (b.length : Int) then
     (F_laws_eqRule ((a.getD i.toNat default).1, (a.getD i.toNat default).2) ((b.getD i.toNat default).1, (b.getD i.toNat default).2)).bind fun r =>
     if r = true then
      some (.inl (IntKind.i64.wrap (i + 1)))
     else
      Option.map Sum.inr (
       some false)
    else none
   else none
  else
   Option.map Sum.inr (
    some true)
noncomputable def F_laws_eqRuleS (a : (List ((List Int) × (List Int)))) (b : (List ((List Int) × (List Int)))) : Option Bool :=
 if ((a.length : Int) != (b.length : Int)) = true then
  some false
 else
  loopC (F_laws_eqRuleS_l1 a b) 0
instance c_laws_eqRuleS {a : (List ((List Int) × (List Int)))} {b : (List ((List Int) × (List Int)))} : HasC (F_laws_eqRuleS a b) fun rr => PFun Tryz.prog 29 [(slD 2 D_impl_Rule) a, (slD 2 D_impl_Rule) b] (bD rr) := ⟨@fun rr h => by
  delta F_laws_eqRuleS at h
  refine fn29.pureL (vcm_sound ?_)
  delta mc29
  refine stp ?_
  refine iF h fun hc h => ?_
  refine m_lW h [4, 5, 11, 12, 13, 14, 15, 16, 17, 18, 19, 20, 21, 22, 23, 24, 25, 26] (fun pp => [(5, .d (iD pp))]) (fun pp => []) ?_
  rintro i t1 h hb1
  unfold F_laws_eqRuleS_l1 at h
  try dsimp only at h
  refine vcm_sound (stp ?_)
  exact aut⟩
def mc13 : MCode :=
 (.seq (.reg (sq 2 [bo 2 37 0, bo 3 37 1, mb false])) (.seq (.seq (.reg (sq 5 [fa 0 2, la 1 5, fa 0 3, la 1 7, cf 28 [6, 8], nt 9])) (.cond (t0 10) (.seq (.reg (sq 4 [mb false])) .ret) .skip)) (.seq (.seq (.reg (sq 11 [fa 1 2, ld 11, fa 1 3, ld 13, cf 29 [12, 14], nt 15])) (.cond (t0 16) (.seq (.reg (sq 4 [mb false])) .ret) .skip)) (.seq (.reg (sq 4 [mb true])) .ret))))
theorem fn13 : MFn Tryz.prog 13 mc13 17 [.tmp 4] := ⟨_, Tryz.func13, by kernel_rfl, Tryz.ntmps13, by kernel_rfl⟩
noncomputable def F_laws_eqSystem (a : ((List Int) × (List ((List Int) × (List Int))))) (b : ((List Int) × (List ((List Int) × (List Int))))) : Option Bool :=
 (F_laws_eqSig a.1 b.1).bind fun r =>
 if r = true then
  (F_laws_eqRuleS a.2 b.2).bind fun r_1 =>
  if r_1 = true then
   some true
  else
   some false
 else
  some false
instance c_laws_eqSystem {a : ((List Int) × (List ((List Int) × (List Int))))} {b : ((List Int) × (List ((List Int) × (List Int))))} : HasC (F_laws_eqSystem a b) fun rr => PFun Tryz.prog 13 [D_impl_System a, D_impl_System b] (bD rr) := ⟨@fun rr h => by
  delta F_laws_eqSystem at h
  refine fn13.pureL (vcm_sound ?_)
  delta mc13
  refine stp ?_
  exact aut⟩
end Go.Proofs.YtcbfefbocpikoaaGreatDoor
namespace Go.Proofs.YtcbfefbocpikoaaGreatDoor
open Go Abx
attribute [local irreducible] vcm vgo vdr vrun vdrun MWp BrC BrO BrG BrD BrH AmbO callR callD drQ EnvLe StoLe
set_option maxHeartbeats 4000000
instance : Cl D_laws_Rule := Cl.agg _ (fun _ => rfl) (fun _ => rfl)
instance : Cl D_laws_System := Cl.agg _ (fun _ => rfl) (fun _ => rfl)
instance : Cl D_impl_Rule := Cl.agg _ (fun _ => rfl) (fun _ => rfl)
def mcT6 : MCode :=
 (.seq (.reg (sq 2 [.mv (.const (.slice none 0 0))])) (.seq (.reg (sq 5 [mv 0, ln 5, .mkslp 7 2 1 8 [.lit (.int .i64 0)] false (t0 6) (t0 6)] ++ sq 3 [mv 7])) (.seq (.seq (.reg (sq 4 [mi 0])) (.block 0 (.loop (.seq (.seq (.reg (sq 8 [mv 4, mv 0, ln 9, bn .lss 8 10])) (.cond (t0 11) .skip (.exit 0))) (.seq (.block 1 (.reg (sq 14 [mv 3, mv 4, mv 0, mv 4, ix 1 16 17, ld 18, ix 1 14 15] ++ s0 (sr 1 20 19)))) (.reg (sq 12 [mv 4, bi .add 12 1] ++ sq 4 [mv 13]))))))) (.seq (.reg (sq 21 [mv 3] ++ sq 2 [mv 21])) .ret))))
theorem fnT6 : MFn Tryz.prog 6 mcT6 22 [.tmp 2] := ⟨_, Tryz.func6, by kernel_rfl, Tryz.ntmps6, by kernel_rfl⟩
noncomputable def F_to_Int64S_l (a : List Int) : (Int × List Int) → Option ((Int × List Int) ⊕ List Int)
 | (i, out) =>
  if (decide (i < (a.length : Int))) = true then
   if 0 ≤ i ∧ i < (a.length : Int) ∧ i < (out.length : Int) then
    some (.inl ((IntKind.i64.wrap (i + 1)), out.set i.toNat (a.getD i.toNat default)))
   else none
  else
   Option.map Sum.inr (some out)
noncomputable def F_to_Int64S (a : List Int) : Option (List Int) :=
 if 0 ≤ (a.length : Int) ∧ 8 * (a.length : Int) ≤ 281474976710656 ∧ (a.length : Int) < 4611686018427387904 then
  loopC (F_to_Int64S_l a) (0, List.replicate a.length 0)
 else none
instance c_to_Int64S {a : List Int} : HasC (F_to_Int64S a) fun rr => ACalls Tryz.prog 6 [.d ((slD 1 iD) a)] [] 0 fun xx ss => xx = .gow 1 900000 a.length ∧ ss = [(900000, .prv 1 a.length (tolds (List.map iD rr)))] := ⟨@fun rr h => by
  delta F_to_Int64S at h
  refine fnT6.callsD (vcm_sound ?_)
  delta mcT6
  refine stp ?_
  refine ndI h fun hp h => ?_
  refine m_loopF h [4, 8, 9, 10, 11, 12, 13, 14, 15, 16, 17, 18, 19, 20] (fun pp => [(4, .d (iD pp.1))]) (fun pp => [(7, .prv 1 a.length (tolds (List.map iD pp.2)))]) ?_ ?_
  · try dsimp only
    refine (Weak.prvE 7 (tolds (List.map iD (List.replicate a.length 0))) rfl (told_flat _)).trans ?_
    exact wk
  rintro ⟨i, out⟩ t1 h hb1
  unfold F_to_Int64S_l at h
  try dsimp only at h
  refine vcm_sound (stp ?_)
  refine it h (fun hc h => ?_) fun hc h => ?_
  · refine ndI h fun hp h => ?_
    cases h
    refine ⟨_, rfl, ?_⟩
    refine (Weak.prvE 7 (tolds (List.map iD (out.set i.toNat (a.getD i.toNat default)))) rfl (by (try simp only [go_sem, rens_take, rens_drop, rens_tolds, AV.rens, AV.ren]); exact told_segE (i := i.toNat) (by omega) (by omega) (by omega) rfl)).trans ?_
    exact wk
  replace h := inr_some h hb1
  cases h
  exact Done.trans (Done.move 7 900000 (ob := .prv 1 a.length (tolds (List.map iD rr))) (by omega) (by omega) (by omega) rfl (by first | rfl | (simp [sat, smove, Ob.ren, rens_tolds]; done))) (Done.told frd don)⟩
noncomputable def F_pub_Int64S (x : (List Int)) : Option (List Int) := (F_to_Int64S x).bind fun r => if x.length = r.length then some r else none
instance c_pub_Int64S {x : (List Int)} : HasC (F_pub_Int64S x) fun rr => PFun Tryz.prog 6 [((slD 1 iD) x)] ((slD 1 iD) rr) := ⟨@fun rr h => by
  obtain ⟨r, h1, h2⟩ := bind_some h
  obtain ⟨hp, h2⟩ := need_some h2
  cases h2
  exact ACalls.pub (dz := [((slD 1 iD) x)]) (tl := [(900000, 1, List.map iD rr)]) ((c_to_Int64S).c h1) (by simp [toks]; try omega) (Pub.tok (f := iD) (by simp [toks, sat]; try omega) (by omega))⟩
noncomputable def F_le_TheoryEqual_dll (n0 : Nat) (n1 : Nat) (x0 : Int) (x1 : (List Int)) (x2 : (List Int)) : Option Int := if n0 = x1.length ∧ n1 = x2.length then F_impl_TheoryEqual x0 x1 x2 else none
instance c_F_le_TheoryEqual_dll {n0 : Nat} {n1 : Nat} {x0 : Int} {x1 : (List Int)} {x2 : (List Int)} : HasC (F_le_TheoryEqual_dll n0 n1 x0 x1 x2) fun rr => ACalls Tryz.prog 7 [.d (iD x0), .gow 1 0 n0, .gow 1 1 n1] [(0, .prv 1 n0 (tolds (List.map iD x1))), (1, .prv 1 n1 (tolds (List.map iD x2)))] 2 fun xx ss => xx = .d (iD rr) ∧ ss = [(0, .prv 1 n0 (tolds (List.map iD x1))), (1, .prv 1 n1 (tolds (List.map iD x2)))] := ⟨@fun rr h => by
  obtain ⟨hp, h⟩ := need_some h
  exact ACalls.lent ((c_impl_TheoryEqual).c h) (.cons (.le (AV.le_refl _)) (.cons (Lent.tok (f := iD) rfl (by omega)) (.cons (Lent.tok (f := iD) rfl (by omega)) .nil)))⟩
noncomputable def F_le_eqInt64S_ll (n0 : Nat) (n1 : Nat) (x0 : (List Int)) (x1 : (List Int)) : Option Bool := if n0 = x0.length ∧ n1 = x1.length then F_laws_eqInt64S x0 x1 else none
instance c_F_le_eqInt64S_ll {n0 : Nat} {n1 : Nat} {x0 : (List Int)} {x1 : (List Int)} : HasC (F_le_eqInt64S_ll n0 n1 x0 x1) fun rr => ACalls Tryz.prog 8 [.gow 1 0 n0, .gow 1 1 n1] [(0, .prv 1 n0 (tolds (List.map iD x0))), (1, .prv 1 n1 (tolds (List.map iD x1)))] 2 fun xx ss => xx = .d (bD rr) ∧ ss = [(0, .prv 1 n0 (tolds (List.map iD x0))), (1, .prv 1 n1 (tolds (List.map iD x1)))] := ⟨@fun rr h => by
  obtain ⟨hp, h⟩ := need_some h
  exact ACalls.lent ((c_laws_eqInt64S).c h) (.cons (Lent.tok (f := iD) rfl (by omega)) (.cons (Lent.tok (f := iD) rfl (by omega)) .nil))⟩
def mcT24 : MCode :=
 (.seq (.reg (sq 1 [bo 1 28 0, .alloc 2 34 [.sl 0 (some true) []]])) (.seq (.reg (sq 3 [.alloc 3 34 [.sl 0 (some true) []]])) (.seq (.reg (sq 4 [fa 0 1, ld 4, cf 6 [5], fa 0 3] ++ s0 (sr 1 7 6))) (.seq (.reg (sq 8 [la 1 3] ++ s0 (sr 1 2 8))) .ret))))
theorem fnT24 : MFn Tryz.prog 24 mcT24 9 [.cell 2 1 true] := ⟨_, Tryz.func24, by kernel_rfl, Tryz.ntmps24, by kernel_rfl⟩
noncomputable def F_to_Sig (x : (List Int)) : Option (List Int) :=
 (F_to_Int64S x).bind fun r0 =>
 some r0
instance c_to_Sig {x : (List Int)} : HasC (F_to_Sig x) fun rr => ACalls Tryz.prog 24 [.d (.agg [(slD 1 iD) x])] [] 0 fun xx ss => xx = .agg [.gow 1 900000 x.length] ∧ ss = [(900000, .prv 1 x.length (tolds (List.map iD rr)))] := ⟨@fun rr h => by
  delta F_to_Sig at h
  refine fnT24.callsD (vcm_sound ?_)
  delta mcT24
  refine stp ?_
  refine rCo [] [(900000, 6)] h fun r0 hr0 h => ?_
  refine nds ?_
  cases h
  exact Done.trans ((Done.trans (Done.move 6 900000 (ob := .prv 1 x.length (tolds (List.map iD rr))) (by omega) (by omega) (by omega) rfl (by first | rfl | (simp [sat, smove, Ob.ren, rens_tolds]; done))) (Done.drops [1, 2, 3] (by simp)))) (Done.told frd don)⟩
def mcT46 : MCode :=
 (.seq (.reg (sq 1 [bo 1 71 0, .alloc 2 61 [.sl 0 (some true) [], .sl 0 (some true) []]])) (.seq (.reg (sq 3 [.alloc 3 61 [.sl 0 (some true) [], .sl 0 (some true) []]])) (.seq (.reg (sq 4 [fa 0 1, ld 4, cf 6 [5], fa 0 3] ++ s0 (sr 1 7 6))) (.seq (.reg (sq 8 [fa 1 1, ld 8, cf 6 [9], fa 1 3] ++ s0 (sr 1 11 10))) (.seq (.reg (sq 12 [la 2 3] ++ s0 (sr 2 2 12))) .ret)))))
theorem fnT46 : MFn Tryz.prog 46 mcT46 13 [.cell 2 2 true] := ⟨_, Tryz.func46, by kernel_rfl, Tryz.ntmps46, by kernel_rfl⟩
noncomputable def F_to_Rule (x : ((List Int) × (List Int))) : Option ((List Int) × (List Int)) :=
 (F_to_Int64S x.1).bind fun r0 =>
 (F_to_Int64S x.2).bind fun r1 =>
 some (r0, r1)
instance c_to_Rule {x : ((List Int) × (List Int))} : HasC (F_to_Rule x) fun rr => ACalls Tryz.prog 46 [.d (.agg [(slD 1 iD) x.1, (slD 1 iD) x.2])] [] 0 fun xx ss => xx = .agg [.gow 1 900000 x.1.length, .gow 1 900001 x.2.length] ∧ ss = [(900000, .prv 1 x.1.length (tolds (List.map iD rr.1))), (900001, .prv 1 x.2.length (tolds (List.map iD rr.2)))] := ⟨@fun rr h => by
  delta F_to_Rule at h
  refine fnT46.callsD (vcm_sound ?_)
  delta mcT46
  refine stp ?_
  refine rCo [] [(900000, 6)] h fun r0 hr0 h => ?_
  refine nds ?_
  refine rCo [] [(900000, 10)] h fun r1 hr1 h => ?_
  refine nds ?_
  cases h
  exact Done.trans ((Done.trans (Done.move 6 900000 (ob := .prv 1 x.1.length (tolds (List.map iD r0))) (by omega) (by omega) (by omega) rfl (by first | rfl | (simp [sat, smove, Ob.ren, rens_tolds]; done))) (Done.trans (Done.move 10 900001 (ob := .prv 1 x.2.length (tolds (List.map iD r1))) (by omega) (by omega) (by omega) rfl (by first | rfl | (simp [sat, smove, Ob.ren, rens_tolds]; done))) (Done.drops [1, 2, 3] (by simp))))) (Done.told frd don)⟩
def mcT25 : MCode :=
 (.seq (.reg (sq 2 [.mv (.const (.slice none 0 0))])) (.seq (.reg (sq 5 [mv 0, ln 5, .mkslp 7 61 2 48 [.sl 0 (some true) [], .sl 0 (some true) []] false (t0 6) (t0 6)] ++ sq 3 [mv 7])) (.seq (.seq (.reg (sq 4 [mi 0])) (.block 0 (.loop (.seq (.seq (.reg (sq 8 [mv 4, mv 0, ln 9, bn .lss 8 10])) (.cond (t0 11) .skip (.exit 0))) (.seq (.block 1 (.reg (sq 14 [mv 3, mv 4, mv 0, mv 4, ix 2 16 17, la 2 18, cf 46 [19], ix 2 14 15] ++ s0 (sr 2 21 20)))) (.reg (sq 12 [mv 4, bi .add 12 1] ++ sq 4 [mv 13]))))))) (.seq (.reg (sq 22 [mv 3] ++ sq 2 [mv 22])) .ret))))
theorem fnT25 : MFn Tryz.prog 25 mcT25 23 [.tmp 2] := ⟨_, Tryz.func25, by kernel_rfl, Tryz.ntmps25, by kernel_rfl⟩
noncomputable def F_to_RuleS_l (a : List ((List Int) × (List Int))) : (Int × List ((List Int) × (List Int))) → Option ((Int × List ((List Int) × (List Int))) ⊕ List ((List Int) × (List Int)))
 | (i, out) =>
  if (decide (i < (a.length : Int))) = true then
   if 0 ≤ i ∧ i < (a.length : Int) ∧ i < (out.length : Int) then
    (F_to_Rule (a.getD i.toNat default)).bind fun r =>
    some (.inl ((IntKind.i64.wrap (i + 1)), out.set i.toNat r))
   else none
  else
   Option.map Sum.inr (some out)
noncomputable def F_to_RuleS (a : List ((List Int) × (List Int))) : Option (List ((List Int) × (List Int))) :=
 if 0 ≤ (a.length : Int) ∧ 48 * (a.length : Int) ≤ 281474976710656 ∧ (a.length : Int) < 4611686018427387904 then
  loopC (F_to_RuleS_l a) (0, List.replicate a.length ([], []))
 else none
instance c_to_RuleS {a : List ((List Int) × (List Int))} : HasC (F_to_RuleS a) fun rr => ACalls Tryz.prog 25 [.d ((slD 2 D_laws_Rule) a)] [] 0 fun xx ss => xx = .gow 2 900000 a.length ∧ ss = [(900000, .prv 2 a.length (tolds (List.map D_impl_Rule rr)))] := ⟨@fun rr h => by
  delta F_to_RuleS at h
  refine fnT25.callsD (vcm_sound ?_)
  delta mcT25
  refine stp ?_
  refine ndI h fun hp h => ?_
  refine m_loopF h [4, 8, 9, 10, 11, 12, 13, 14, 15, 16, 17, 18, 19, 20, 21] (fun pp => [(4, .d (iD pp.1))]) (fun pp => [(7, .prv 2 a.length (tolds (List.map D_impl_Rule pp.2)))]) ?_ ?_
  · try dsimp only
    refine (Weak.prvZ (id := 7) (f := D_impl_Rule) ([], []) rfl (by exact ⟨NLe.nilz, ⟨NLe.nilz, trivial⟩⟩)).trans ?_
    exact wk
  rintro ⟨i, out⟩ t1 h hb1
  unfold F_to_RuleS_l at h
  try dsimp only at h
  refine vcm_sound (stp ?_)
  refine it h (fun hc h => ?_) fun hc h => ?_
  · refine ndI h fun hp h => ?_
    refine rCo [] [(900000, 20), (900001, 200001)] h fun r hr h => ?_
    refine nds ?_
    cases h
    refine ⟨_, rfl, ?_⟩
    refine (Weak.absSeg (f' := iD) (ys := r.1) (m := (a.getD i.toNat default).1.length) (m' := (a.getD i.toNat default).1.length) 7 20 0 rfl rfl (by first | rfl | (simp [sat, sdel, sset, skill, Ob.kill, Ob.ren, rens_tolds]; done)) rfl (by decide) (by omega) (by decide)).trans ?_
    refine (Weak.absSeg (f' := iD) (ys := r.2) (m := (a.getD i.toNat default).2.length) (m' := (a.getD i.toNat default).2.length) 7 200001 1 rfl rfl (by first | rfl | (simp [sat, sdel, sset, skill, Ob.kill, Ob.ren, rens_tolds]; done)) rfl (by decide) (by omega) (by decide)).trans ?_
    refine (Weak.drop 20 (by omega)).trans ?_
    refine (Weak.drop 200001 (by omega)).trans ?_
    refine (Weak.prvE 7 (tolds (List.map D_impl_Rule (out.set i.toNat r))) rfl (by (try simp only [go_sem, rens_take, rens_drop, rens_tolds, AV.rens, AV.ren]); exact told_segE (i := i.toNat) (by omega) (by omega) (by omega) rfl)).trans ?_
    exact wk
  replace h := inr_some h hb1
  cases h
  exact Done.trans (Done.move 7 900000 (ob := .prv 2 a.length (tolds (List.map D_impl_Rule rr))) (by omega) (by omega) (by omega) rfl (by first | rfl | (simp [sat, smove, Ob.ren, rens_tolds]; done))) (Done.told frd don)⟩
def mcT11 : MCode :=
 (.seq (.reg (sq 1 [bo 1 31 0, .alloc 2 37 [.sl 0 (some true) [], .sl 0 (some true) []]])) (.seq (.reg (sq 3 [.alloc 3 37 [.sl 0 (some true) [], .sl 0 (some true) []]])) (.seq (.reg (sq 4 [fa 0 1, la 1 4, cf 24 [5], fa 0 3] ++ s0 (sr 1 7 6))) (.seq (.reg (sq 8 [fa 1 1, ld 8, cf 25 [9], fa 1 3] ++ s0 (sr 1 11 10))) (.seq (.reg (sq 12 [la 2 3] ++ s0 (sr 2 2 12))) .ret)))))
theorem fnT11 : MFn Tryz.prog 11 mcT11 13 [.cell 2 2 true] := ⟨_, Tryz.func11, by kernel_rfl, Tryz.ntmps11, by kernel_rfl⟩
noncomputable def F_to_System (x : ((List Int) × (List ((List Int) × (List Int))))) : Option ((List Int) × (List ((List Int) × (List Int)))) :=
 (F_to_Sig x.1).bind fun r0 =>
 (F_to_RuleS x.2).bind fun r1 =>
 some (r0, r1)
instance c_to_System {x : ((List Int) × (List ((List Int) × (List Int))))} : HasC (F_to_System x) fun rr => ACalls Tryz.prog 11 [.d (.agg [(slD 1 iD) x.1, (slD 2 D_laws_Rule) x.2])] [] 0 fun xx ss => xx = .agg [.gow 1 900000 x.1.length, .gow 2 900001 x.2.length] ∧ ss = [(900000, .prv 1 x.1.length (tolds (List.map iD rr.1))), (900001, .prv 2 x.2.length (tolds (List.map D_impl_Rule rr.2)))] := ⟨@fun rr h => by
  delta F_to_System at h
  refine fnT11.callsD (vcm_sound ?_)
  delta mcT11
  refine stp ?_
  refine rCo [] [(900000, 6)] h fun r0 hr0 h => ?_
  refine nds ?_
  refine rCo [] [(900000, 10)] h fun r1 hr1 h => ?_
  refine nds ?_
  cases h
  exact Done.trans ((Done.trans (Done.move 6 900000 (ob := .prv 1 x.1.length (tolds (List.map iD r0))) (by omega) (by omega) (by omega) rfl (by first | rfl | (simp [sat, smove, Ob.ren, rens_tolds]; done))) (Done.trans (Done.move 10 900001 (ob := .prv 2 x.2.length (tolds (List.map D_impl_Rule r1))) (by omega) (by omega) (by omega) rfl (by first | rfl | (simp [sat, smove, Ob.ren, rens_tolds]; done))) (Done.drops [1, 2, 3] (by simp))))) (Done.told frd don)⟩
noncomputable def F_pub_System (x : ((List Int) × (List ((List Int) × (List Int))))) : Option ((List Int) × (List ((List Int) × (List Int)))) := (F_to_System x).bind fun r => if x.1.length = r.1.length ∧ x.2.length = r.2.length then some r else none
instance c_pub_System {x : ((List Int) × (List ((List Int) × (List Int))))} : HasC (F_pub_System x) fun rr => PFun Tryz.prog 11 [(.agg [(slD 1 iD) x.1, (slD 2 D_laws_Rule) x.2])] (.agg [(slD 1 iD) rr.1, (slD 2 D_impl_Rule) rr.2]) := ⟨@fun rr h => by
  obtain ⟨r, h1, h2⟩ := bind_some h
  obtain ⟨hp, h2⟩ := need_some h2
  cases h2
  exact ACalls.pub (dz := [(.agg [(slD 1 iD) x.1, (slD 2 D_laws_Rule) x.2])]) (tl := [(900000, 1, List.map iD rr.1), (900001, 2, List.map D_impl_Rule rr.2)]) ((c_to_System).c h1) (by simp [toks]; try omega) (.agg (.cons (Pub.tok (f := iD) (by simp [toks, sat]; try omega) (by omega)) (.cons (Pub.tok (f := D_impl_Rule) (by simp [toks, sat]; try omega) (by omega)) .nil)))⟩
noncomputable def F_le_TheoryHolds_dl (n0 : Nat) (n1 : Nat) (x0 : Int) (x1 : ((List Int) × (List ((List Int) × (List Int))))) : Option Bool := if n0 = x1.1.length ∧ n1 = x1.2.length then F_impl_TheoryHolds x0 x1 else none
instance c_F_le_TheoryHolds_dl {n0 : Nat} {n1 : Nat} {x0 : Int} {x1 : ((List Int) × (List ((List Int) × (List Int))))} : HasC (F_le_TheoryHolds_dl n0 n1 x0 x1) fun rr => ACalls Tryz.prog 12 [.d (iD x0), .agg [.gow 1 0 n0, .gow 2 1 n1]] [(0, .prv 1 n0 (tolds (List.map iD x1.1))), (1, .prv 2 n1 (tolds (List.map D_impl_Rule x1.2)))] 2 fun xx ss => xx = .d (bD rr) ∧ ss = [(0, .prv 1 n0 (tolds (List.map iD x1.1))), (1, .prv 2 n1 (tolds (List.map D_impl_Rule x1.2)))] := ⟨@fun rr h => by
  obtain ⟨hp, h⟩ := need_some h
  exact ACalls.lent ((c_impl_TheoryHolds).c h) (.cons (.le (AV.le_refl _)) (.cons (.agg (.cons (Lent.tok (f := iD) rfl (by omega)) (.cons (Lent.tok (f := D_impl_Rule) rfl (by omega)) .nil))) .nil))⟩
noncomputable def F_le_eqSystem_ll (n0 : Nat) (n1 : Nat) (n2 : Nat) (n3 : Nat) (x0 : ((List Int) × (List ((List Int) × (List Int))))) (x1 : ((List Int) × (List ((List Int) × (List Int))))) : Option Bool := if n0 = x0.1.length ∧ n1 = x0.2.length ∧ n2 = x1.1.length ∧ n3 = x1.2.length then F_laws_eqSystem x0 x1 else none
instance c_F_le_eqSystem_ll {n0 : Nat} {n1 : Nat} {n2 : Nat} {n3 : Nat} {x0 : ((List Int) × (List ((List Int) × (List Int))))} {x1 : ((List Int) × (List ((List Int) × (List Int))))} : HasC (F_le_eqSystem_ll n0 n1 n2 n3 x0 x1) fun rr => ACalls Tryz.prog 13 [.agg [.gow 1 0 n0, .gow 2 1 n1], .agg [.gow 1 2 n2, .gow 2 3 n3]] [(0, .prv 1 n0 (tolds (List.map iD x0.1))), (1, .prv 2 n1 (tolds (List.map D_impl_Rule x0.2))), (2, .prv 1 n2 (tolds (List.map iD x1.1))), (3, .prv 2 n3 (tolds (List.map D_impl_Rule x1.2)))] 4 fun xx ss => xx = .d (bD rr) ∧ ss = [(0, .prv 1 n0 (tolds (List.map iD x0.1))), (1, .prv 2 n1 (tolds (List.map D_impl_Rule x0.2))), (2, .prv 1 n2 (tolds (List.map iD x1.1))), (3, .prv 2 n3 (tolds (List.map D_impl_Rule x1.2)))] := ⟨@fun rr h => by
  obtain ⟨hp, h⟩ := need_some h
  exact ACalls.lent ((c_laws_eqSystem).c h) (.cons (.agg (.cons (Lent.tok (f := iD) rfl (by omega)) (.cons (Lent.tok (f := D_impl_Rule) rfl (by omega)) .nil))) (.cons (.agg (.cons (Lent.tok (f := iD) rfl (by omega)) (.cons (Lent.tok (f := D_impl_Rule) rfl (by omega)) .nil))) .nil))⟩
end Go.Proofs.YtcbfefbocpikoaaGreatDoor
namespace Go.Proofs.YtcbfefbocpikoaaGreatDoor
open Go Abx
attribute [local irreducible] vcm vgo vdr vrun vdrun MWp BrC BrO BrG BrD BrH AmbO callR callD drQ EnvLe StoLe
set_option maxHeartbeats 4000000
attribute [-go_sem] sat sset
def mc3 : MCode :=
 (.seq (.reg (sq 6 [mb false])) (.seq (.seq (.reg (sq 11 [mv 1, ln 11, bi .gtr 12 1048576])) (.cond (t0 13) (.seq (.reg (sq 6 [mb true])) .ret) .skip)) (.seq (.seq (.reg (sq 14 [mv 2, ln 14, bi .gtr 15 1048576])) (.cond (t0 16) (.seq (.reg (sq 6 [mb true])) .ret) .skip)) (.seq (.reg (sq 17 [mv 0, mv 1, cf 6 [18], mv 2, cf 6 [20], cf 5 [17, 19, 21]] ++ sq 7 [mv 22])) (.seq (.reg (sq 23 [mv 1, cf 6 [23]] ++ sq 8 [mv 24])) (.seq (.reg (sq 25 [mv 2, cf 6 [25]] ++ sq 9 [mv 26])) (.seq (.reg (sq 27 [mv 0, mv 8, mv 9, cf 7 [27, 28, 29]] ++ sq 10 [mv 30])) (.seq (.seq (.reg (sq 31 [mv 10, mv 7, bn .neq 31 32])) (.cond (t0 33) (.seq (.reg (sq 6 [mb false])) .ret) .skip)) (.seq (.seq (.reg (sq 34 [mv 8, mv 1, cf 6 [35], cf 8 [34, 36], nt 37])) (.cond (t0 38) (.seq (.reg (sq 6 [mb false])) .ret) .skip)) (.seq (.seq (.reg (sq 39 [mv 9, mv 2, cf 6 [40], cf 8 [39, 41], nt 42])) (.cond (t0 43) (.seq (.reg (sq 6 [mb false])) .ret) .skip)) (.seq (.reg (sq 6 [mb true])) .ret)))))))))))
theorem fn3 : MFn Tryz.prog 3 mc3 44 [.tmp 6] := ⟨_, Tryz.func3, by kernel_rfl, Tryz.ntmps3, by kernel_rfl⟩
noncomputable def F_laws_FnExactTheoryEqual (aK : Int) (aA : (List Int)) (aB : (List Int)) : Option Bool :=
 if (decide (1048576 < (aA.length : Int))) = true then
  some true
 else
  if (decide (1048576 < (aB.length : Int))) = true then
   some true
  else
   (F_pub_Int64S aA).bind fun v =>
   (F_pub_Int64S aB).bind fun v_1 =>
   (F_spec_TheoryEqual aK v v_1).bind fun r =>
   (F_to_Int64S aA).bind fun v_2 =>
   (F_to_Int64S aB).bind fun v_3 =>
   (F_le_TheoryEqual_dll aA.length aB.length aK v_2 v_3).bind fun q =>
   if (q != r) = true then
    some false
   else
    (F_to_Int64S aA).bind fun v_4 =>
    (F_le_eqInt64S_ll aA.length aA.length v_2 v_4).bind fun q_1 =>
    if q_1 = true then
     (F_to_Int64S aB).bind fun v_5 =>
     (F_le_eqInt64S_ll aB.length aB.length v_3 v_5).bind fun q_2 =>
     if q_2 = true then
      some true
     else
      some false
    else
     some false
instance c_laws_FnExactTheoryEqual {aK : Int} {aA : (List Int)} {aB : (List Int)} : HasC (F_laws_FnExactTheoryEqual aK aA aB) fun rr => PFun Tryz.prog 3 [iD aK, (slD 1 iD) aA, (slD 1 iD) aB] (bD rr) := ⟨@fun rr h => by
  delta F_laws_FnExactTheoryEqual at h
  refine fn3.pureL (vcm_sound ?_)
  delta mc3
  refine stp ?_
  refine iF h fun hc h => ?_
  refine iF h fun hc h => ?_
  refine rC h fun v hv h => ?_
  refine rC h fun v_1 hv_1 h => ?_
  refine rC h fun r hr h => ?_
  refine rCo [] [(900000, 24)] h fun v_2 hv_2 h => ?_
  refine rCo [] [(900000, 26)] h fun v_3 hv_3 h => ?_
  refine rCo [(0, 24), (1, 26)] [] h fun q hq h => ?_
  refine iF h fun hc h => ?_
  refine rCo [] [(900000, 36)] h fun v_4 hv_4 h => ?_
  refine rCo [(0, 24), (1, 36)] [] h fun q_1 hq_1 h => ?_
  refine iT h fun hc h => ?_
  refine rCo [] [(900000, 41)] h fun v_5 hv_5 h => ?_
  refine rCo [(0, 26), (1, 41)] [] h fun q_2 hq_2 h => ?_
  exact aut⟩
def mc4 : MCode :=
 (.seq (.reg (sq 3 [bo 3 31 1, mb false])) (.seq (.reg (sq 5 [mi 1048576])) (.seq (.reg (sq 9 [la 2 3, mv 5, cf 9 [9, 10]] ++ sq 5 [mv 11])) (.seq (.seq (.reg (sq 12 [mv 5, bi .lss 12 0])) (.cond (t0 13) (.seq (.reg (sq 4 [mb true])) .ret) .skip)) (.seq (.reg (sq 14 [mv 0, la 2 3, cf 11 [15], cf 10 [14, 16]] ++ sq 6 [mv 17])) (.seq (.reg (sq 18 [la 2 3, cf 11 [18]] ++ sq 7 [.alloc 7 37 [.sl 0 (some true) [], .sl 0 (some true) []]] ++ s0 (sr 2 7 19))) (.seq (.reg (sq 20 [mv 0, la 2 7, cf 12 [20, 21]] ++ sq 8 [mv 22])) (.seq (.seq (.reg (sq 23 [mv 8, mv 6, .binb true (t0 23) (t0 24)])) (.cond (t0 25) (.seq (.reg (sq 4 [mb false])) .ret) .skip)) (.seq (.seq (.draw (sq 26 [la 2 7, la 2 3, cf 11 [27], cf 13 [26, 28], nt 29]) [[], [], [1], [0, 2, 2], [3]]) (.cond (t0 30) (.seq (.reg (sq 4 [mb false])) .ret) .skip)) (.seq (.reg (sq 4 [mb true])) .ret))))))))))
theorem fn4 : MFn Tryz.prog 4 mc4 31 [.tmp 4] := ⟨_, Tryz.func4, by kernel_rfl, Tryz.ntmps4, by kernel_rfl⟩
noncomputable def F_laws_FnExactTheoryHolds (aK : Int) (aSys : ((List Int) × (List ((List Int) × (List Int))))) : Option Bool :=
 (F_laws_szSystem aSys 1048576).bind fun r =>
 if (decide (r < 0)) = true then
  some true
 else
  (F_pub_System aSys).bind fun v =>
  (F_spec_TheoryHolds aK v).bind fun r_1 =>
  (F_to_System aSys).bind fun v_1 =>
  (F_le_TheoryHolds_dl aSys.1.length aSys.2.length aK v_1).bind fun q =>
  if (q != r_1) = true then
   some false
  else
   (F_to_System aSys).bind fun v_2 =>
   (F_le_eqSystem_ll aSys.1.length aSys.2.length aSys.1.length aSys.2.length v_1 v_2).bind fun q_1 =>
   if q_1 = true then
    some true
   else
    some false
instance c_laws_FnExactTheoryHolds {aK : Int} {aSys : ((List Int) × (List ((List Int) × (List Int))))} : HasC (F_laws_FnExactTheoryHolds aK aSys) fun rr => PFun Tryz.prog 4 [iD aK, D_laws_System aSys] (bD rr) := ⟨@fun rr h => by
  delta F_laws_FnExactTheoryHolds at h
  refine fn4.pureL (vcm_sound ?_)
  delta mc4
  refine stp ?_
  refine rC h fun r hr h => ?_
  refine iF h fun hc h => ?_
  refine rC h fun v hv h => ?_
  refine rC h fun r_1 hr_1 h => ?_
  refine rCo [] [(900000, 19), (900001, 200000)] h fun v_1 hv_1 h => ?_
  refine rCo [(0, 19), (1, 200000)] [] h fun q hq h => ?_
  refine iF h fun hc h => ?_
  refine dCo [] [(900000, 28), (900001, 200001)] h fun v_2 hv_2 h => ?_
  refine dCo [(0, 19), (1, 200000), (2, 28), (3, 200001)] [] h fun q_1 hq_1 h => ?_
  exact aut⟩
end Go.Proofs.YtcbfefbocpikoaaGreatDoor
namespace Go.Proofs.YtcbfefbocpikoaaGreatDoor
open Go Abx Tm
theorem loop_st {σ γ : Type} {n : Nat} (st : Nat → σ) {c : γ} {f : σ → Option (σ ⊕ γ)} (h : ∀ i, i < n → f (st i) = some (.inl (st (i + 1)))) (he : f (st n) = some (.inr c)) : loopC f (st 0) = some c := by
  have key : ∀ k i, i + k = n → loopC f (st i) = some c := by
    intro k
    induction k with
    | zero => intro i hi; obtain rfl : i = n := by omega
              exact loopC_inr he
    | succ k ih => intro i hi; rw [loopC_inl (h i (by omega))]; exact ih (i + 1) (by omega)
  exact key n 0 (by omega)
theorem drop_cons {α : Type} [Inhabited α] {a : List α} {i : Nat} {x : α} {r : List α} (h : a.drop i = x :: r) : i < a.length ∧ a.getD i default = x ∧ a.drop (i + 1) = r := by
  have hlt : i < a.length := Nat.lt_of_not_le fun hn => by rw [List.drop_of_length_le hn] at h; cases h
  rw [List.drop_eq_getElem_cons hlt] at h
  simp only [List.cons.injEq] at h
  exact ⟨hlt, by rw [getD_get hlt, h.1], h.2⟩
theorem loop_to {α β : Type} [Inhabited α] {a : List α} {z : List β} {g : α → β} (hl : z.length = a.length) {f : Int × List β → Option ((Int × List β) ⊕ List β)}
    (h : ∀ (i : Nat) (out : List β), i < a.length → out.length = a.length → a.getD i default ∈ a → f ((i : Int), out) = some (.inl ((i : Int) + 1, out.set i (g (a.getD i default)))))
    (he : ∀ out, f ((a.length : Int), out) = some (.inr out)) : loopC f (0, z) = some (a.map g) := by
  have hz : (a.take 0).map g ++ z.drop 0 = z := by simp
  refine Eq.trans ?_ (loop_st (n := a.length) (fun i => ((i : Int), (a.take i).map g ++ z.drop i)) (fun i hi => ?_) ((he _).trans (by rw [List.take_length, ← hl, List.drop_length, List.append_nil])))
  · simp
  · rw [h i _ hi (by simp; omega) (getD_mem hi)]
    refine congrArg (fun x => some (Sum.inl x)) (Prod.ext (by simp) ?_)
    show ((a.take i).map g ++ z.drop i).set i _ = _
    rw [List.set_append_right _ _ (by simp; omega)]
    have hm : i - ((a.take i).map g).length = 0 := by simp; omega
    have hzl : i < z.length := by omega
    rw [hm, List.drop_eq_getElem_cons hzl, List.set_cons_zero, List.take_succ_eq_append_getElem hi, List.map_append, List.append_assoc, getD_get hi]
    simp
theorem loop_self {α : Type} {a : List α} {f : Int → Option (Int ⊕ Bool)} (h : ∀ i : Nat, i < a.length → f (i : Int) = some (.inl ((i : Int) + 1))) (he : f a.length = some (.inr true)) : loopC f 0 = some true :=
  loop_st (n := a.length) (fun i => (i : Int)) (fun i hi => h i hi) he
end Go.Proofs.YtcbfefbocpikoaaGreatDoor
namespace Go.Proofs.YtcbfefbocpikoaaGreatDoor
open Go Abx Tm
abbrev Mx : Nat := 1048576
abbrev Big {α : Type} (xs : List α) : Prop := xs.length < 9223372036854775808
theorem szI {a : List Int} (ha : Big a) {left : Int} (h0 : 0 ≤ left) (hM : left ≤ Mx) : ∃ r, F_laws_szInt64S a left = some r ∧ -1 ≤ r ∧ r ≤ left ∧ (0 ≤ r → a.length ≤ Mx) := by
  unfold F_laws_szInt64S
  have ha' : a.length < 9223372036854775808 := ha
  have hM' : left ≤ 1048576 := hM
  rw [w64 (n := left - (a.length : Int)) (by omega) (by omega)]
  by_cases h : left - (a.length : Int) < 0
  · exact ⟨-1, by simp [h], by omega, by omega, by omega⟩
  · exact ⟨left - a.length, by simp [h], by omega, by omega, fun _ => by show a.length ≤ 1048576; omega⟩
theorem loop_sz {α : Type} [Inhabited α] {a : List α} {Q : α → Prop} {f : Int × Int → Option ((Int × Int) ⊕ Int)}
    (h : ∀ (i : Nat) (left : Int) (x : α), i < a.length → x ∈ a → a.getD i default = x → 0 ≤ left → left ≤ Mx → (∃ r, 0 ≤ r ∧ r ≤ left ∧ Q x ∧ f (left, (i : Int)) = some (.inl (r, (i : Int) + 1))) ∨ f (left, (i : Int)) = some (.inr (-1)))
    (he : ∀ left, f (left, (a.length : Int)) = some (.inr left)) {left : Int} (h0 : 0 ≤ left) (hM : left ≤ Mx) : ∃ r, loopC f (left, 0) = some r ∧ -1 ≤ r ∧ r ≤ left ∧ (0 ≤ r → ∀ x ∈ a, Q x) := by
  have key : ∀ (rs : List α) (i : Nat) (left : Int), a.drop i = rs → i + rs.length = a.length → 0 ≤ left → left ≤ Mx → ∃ r, loopC f (left, (i : Int)) = some r ∧ -1 ≤ r ∧ r ≤ left ∧ (0 ≤ r → ∀ x ∈ rs, Q x) := by
    intro rs
    induction rs with
    | nil =>
      intro i left hd hl h0 hM
      obtain rfl : i = a.length := by simpa using hl
      exact ⟨left, loopC_inr (he _), by omega, by omega, fun _ x hx => by cases hx⟩
    | cons x rs ih =>
      intro i left hd hl h0 hM
      simp only [List.length_cons] at hl
      obtain ⟨g1, g2, g3⟩ := drop_cons hd
      rcases h i left x g1 (by rw [← g2]; exact getD_mem g1) g2 h0 hM with ⟨r, r0, r1, r2, r3⟩ | hx
      · obtain ⟨r', e1, e2, e3, e4⟩ := ih (i + 1) r g3 (by omega) r0 (by omega)
        rw [loopC_inl r3, show ((i : Int) + 1) = ((i + 1 : Nat) : Int) by omega]
        refine ⟨r', e1, e2, by omega, fun hr y hy => ?_⟩
        rcases List.mem_cons.1 hy with rfl | hy
        · exact r2
        · exact e4 hr y hy
      · exact ⟨-1, loopC_inr hx, by omega, by omega, by omega⟩
  exact key a 0 left (by simp) (by simp) h0 hM
theorem szRule {x : List Int × List Int} (h1 : Big x.1) (h2 : Big x.2) {left : Int} (h0 : 0 ≤ left) (hM : left ≤ Mx) : ∃ r, F_laws_szRule x left = some r ∧ -1 ≤ r ∧ r ≤ left ∧ (0 ≤ r → x.1.length ≤ Mx ∧ x.2.length ≤ Mx) := by
  obtain ⟨r, e1, e2, e3, e4⟩ := szI h1 h0 hM
  unfold F_laws_szRule
  rw [e1, Option.bind_some]
  by_cases hr : r < 0
  · exact ⟨-1, by simp [hr], by omega, by omega, by omega⟩
  · obtain ⟨r', g1, g2, g3, g4⟩ := szI h2 (left := r) (by omega) (by omega)
    rw [g1]
    by_cases hr' : r' < 0
    · exact ⟨-1, by simp [hr, hr'], by omega, by omega, by omega⟩
    · exact ⟨r', by simp [hr, hr'], by omega, by omega, fun _ => ⟨e4 (by omega), g4 (by omega)⟩⟩
structure BigS (s : Sys) : Prop where
  sig : Big s.1
  rules : Big s.2
  to : ∀ r ∈ s.2, Big r.1 ∧ Big r.2
structure SmS (s : Sys) : Prop where
  sig : s.1.length ≤ Mx
  rules : s.2.length ≤ Mx
  to : ∀ r ∈ s.2, r.1.length ≤ Mx ∧ r.2.length ≤ Mx
theorem szRuleS {a : List (List Int × List Int)} (ha : Big a) (ht : ∀ r ∈ a, Big r.1 ∧ Big r.2) {left : Int} (h0 : 0 ≤ left) (hM : left ≤ Mx) :
    ∃ r, F_laws_szRuleS a left = some r ∧ -1 ≤ r ∧ r ≤ left ∧ (0 ≤ r → a.length ≤ Mx ∧ ∀ x ∈ a, x.1.length ≤ Mx ∧ x.2.length ≤ Mx) := by
  unfold F_laws_szRuleS
  have ha' : a.length < 9223372036854775808 := ha
  have hM' : left ≤ 1048576 := hM
  rw [w64 (n := left - (a.length : Int)) (by omega) (by omega)]
  by_cases h : left - (a.length : Int) < 0
  · exact ⟨-1, by simp [h], by omega, by omega, by omega⟩
  · obtain ⟨r, e1, e2, e3, e4⟩ := loop_sz (a := a) (Q := fun x => x.1.length ≤ Mx ∧ x.2.length ≤ Mx) (f := F_laws_szRuleS_l1 a) (left := left - a.length) (fun i left x hi hx hg h0 hM => by
      obtain ⟨r, e1, e2, e3, e4⟩ := szRule (ht x hx).1 (ht x hx).2 h0 hM
      simp only [F_laws_szRuleS_l1, show (i : Int) < a.length by omega, decide_true, if_true, show (0 : Int) ≤ i by omega, and_self, Int.toNat_natCast, hg, e1, Option.bind_some, w64 (n := (i : Int) + 1) (by omega) (by omega)]
      by_cases hr : r < 0
      · exact .inr (by simp [hr])
      · exact .inl ⟨r, by omega, e3, e4 (by omega), by simp [hr]⟩) (fun left => by simp [F_laws_szRuleS_l1]) (by omega) (by show left - a.length ≤ 1048576; omega)
    refine ⟨r, by rw [if_neg (by simpa using h)]; exact e1, e2, by omega, fun hr => ⟨?_, e4 hr⟩⟩
    show a.length ≤ 1048576
    omega
theorem szSystem {s : Sys} (hs : BigS s) : ∃ r, F_laws_szSystem s 1048576 = some r ∧ (0 ≤ r → SmS s) := by
  obtain ⟨r, e1, e2, e3, e4⟩ := szI hs.sig (left := 1048576) (by omega) (by decide)
  unfold F_laws_szSystem F_laws_szSig
  rw [e1, Option.bind_some]
  by_cases hr : r < 0
  · exact ⟨-1, by simp [hr], by omega⟩
  · obtain ⟨r', g1, g2, g3, g4⟩ := szRuleS hs.rules hs.to (left := r) (by omega) (Int.le_trans e3 (by decide))
    simp only [hr, decide_false, Bool.false_eq_true, if_false, Option.bind_some, g1]
    by_cases hr' : r' < 0
    · exact ⟨-1, by simp [hr'], by omega⟩
    · exact ⟨r', by simp [hr'], fun h => ⟨e4 (by omega), (g4 h).1, (g4 h).2⟩⟩
theorem F_to_Int64S_eq {a : List Int} (h : a.length ≤ Mx) : F_to_Int64S a = some a := by
  have h' : a.length ≤ 1048576 := h
  unfold F_to_Int64S
  rw [if_pos ⟨by omega, by omega, by omega⟩]
  have := loop_to (a := a) (z := List.replicate a.length 0) (g := id) (f := F_to_Int64S_l a) (by simp) (fun i out hi ho hm => by
    simp only [F_to_Int64S_l, show (i : Int) < a.length by omega, show (i : Int) < out.length by omega, decide_true, if_true, show (0 : Int) ≤ i by omega, and_self, Int.toNat_natCast, w64 (n := (i : Int) + 1) (by omega) (by omega), id]) (fun out => by simp [F_to_Int64S_l])
  simpa using this
theorem F_to_Rule_eq {x : List Int × List Int} (h : x.1.length ≤ Mx ∧ x.2.length ≤ Mx) : F_to_Rule x = some x := by
  unfold F_to_Rule
  rw [F_to_Int64S_eq h.1, Option.bind_some, F_to_Int64S_eq h.2, Option.bind_some]
theorem F_to_RuleS_eq {a : List (List Int × List Int)} (h : a.length ≤ Mx) (ht : ∀ x ∈ a, x.1.length ≤ Mx ∧ x.2.length ≤ Mx) : F_to_RuleS a = some a := by
  have h' : a.length ≤ 1048576 := h
  unfold F_to_RuleS
  rw [if_pos ⟨by omega, by omega, by omega⟩]
  have := loop_to (a := a) (z := List.replicate a.length ([], [])) (g := id) (f := F_to_RuleS_l a) (by simp) (fun i out hi ho hm => by
    simp only [F_to_RuleS_l, show (i : Int) < a.length by omega, show (i : Int) < out.length by omega, decide_true, if_true, show (0 : Int) ≤ i by omega, and_self, Int.toNat_natCast, F_to_Rule_eq (ht _ hm), Option.bind_some, w64 (n := (i : Int) + 1) (by omega) (by omega), id]) (fun out => by simp [F_to_RuleS_l])
  simpa using this
theorem F_to_System_eq {s : Sys} (h : SmS s) : F_to_System s = some s := by
  unfold F_to_System F_to_Sig
  rw [F_to_Int64S_eq h.sig, Option.bind_some, Option.bind_some, F_to_RuleS_eq h.rules h.to, Option.bind_some]
theorem F_pub_System_eq {s : Sys} (h : SmS s) : F_pub_System s = some s := by
  unfold F_pub_System
  rw [F_to_System_eq h, Option.bind_some, if_pos ⟨rfl, rfl⟩]
theorem eqI_self {a : List Int} (h : Small a) : F_laws_eqInt64S a a = some true := by
  have h' : a.length < 1099511627776 := h
  unfold F_laws_eqInt64S
  rw [if_neg (by simp)]
  refine loop_self (a := a) (fun i hi => ?_) (by simp [F_laws_eqInt64S_l1])
  simp [F_laws_eqInt64S_l1, show (i : Int) < a.length by omega, w64 (n := (i : Int) + 1) (by omega) (by omega)]
theorem eqRule_self {x : List Int × List Int} (h : x.1.length ≤ Mx ∧ x.2.length ≤ Mx) : F_laws_eqRule x x = some true := by
  have h1 : x.1.length ≤ 1048576 := h.1
  have h2 : x.2.length ≤ 1048576 := h.2
  unfold F_laws_eqRule
  rw [eqI_self (show x.1.length < _ by omega), Option.bind_some, if_pos rfl, eqI_self (show x.2.length < _ by omega), Option.bind_some, if_pos rfl]
theorem eqSystem_self {s : Sys} (h : SmS s) : F_laws_eqSystem s s = some true := by
  have h1 : s.1.length ≤ 1048576 := h.sig
  have h2 : s.2.length ≤ 1048576 := h.rules
  have e : F_laws_eqRuleS s.2 s.2 = some true := by
    unfold F_laws_eqRuleS
    rw [if_neg (by simp)]
    refine loop_self (a := s.2) (fun i hi => ?_) (by simp [F_laws_eqRuleS_l1])
    simp only [F_laws_eqRuleS_l1, show (i : Int) < s.2.length by omega, decide_true, if_true, show (0 : Int) ≤ i by omega, and_self, Int.toNat_natCast, eqRule_self (h.to _ (getD_mem hi)), Option.bind_some, w64 (n := (i : Int) + 1) (by omega) (by omega)]
  unfold F_laws_eqSystem F_laws_eqSig
  rw [eqI_self (show s.1.length < _ by omega)]
  simp [e]
end Go.Proofs.YtcbfefbocpikoaaGreatDoor
namespace Go.Proofs.YtcbfefbocpikoaaGreatDoor
open Go Abx Tm
theorem law_holds {k : Int} {s : Sys} (hs : BigS s) : F_laws_FnExactTheoryHolds k s = some true := by
  unfold F_laws_FnExactTheoryHolds
  obtain ⟨r, e1, e2⟩ := szSystem hs
  rw [e1, Option.bind_some]
  by_cases hr : r < 0
  · rw [if_pos (by simpa using hr)]
  rw [if_neg (by simpa using hr)]
  have sm := e2 (by omega)
  obtain ⟨v, h1, h2⟩ := theoryHolds_eq k s
  have l1 : F_le_TheoryHolds_dl s.1.length s.2.length k s = some v := by
    unfold F_le_TheoryHolds_dl; rw [if_pos ⟨rfl, rfl⟩]; exact h1
  have l3 : F_le_eqSystem_ll s.1.length s.2.length s.1.length s.2.length s s = some true := by
    unfold F_le_eqSystem_ll; rw [if_pos ⟨rfl, rfl, rfl, rfl⟩]; exact eqSystem_self sm
  simp only [F_pub_System_eq sm, h2, F_to_System_eq sm, Option.bind_some, l1, l3, bne_self_eq_false, Bool.false_eq_true, if_false, if_true]
theorem law_holds_pure {k : Int} {s : Sys} (hs : BigS s) : PFun Tryz.prog 4 [iD k, D_laws_System s] (bD true) := c_laws_FnExactTheoryHolds.c (law_holds hs)
end Go.Proofs.YtcbfefbocpikoaaGreatDoor
namespace Go.Proofs.YtcbfefbocpikoaaGreatDoor
open Go Abx Go.ChangeShapes Go.WideShapes Go.ChangeAt Go.RowKit
theorem ownZ : ownKnob Tryz.prog.godebug = none := by kernel_rfl
theorem laidZ : laidOutB Tryz.prog = true := by kernel_rfl
theorem cel_agg {α : Type} {f : α → D} (hf : ∀ y, ∃ cs, f y = .agg cs) : ∀ y O w vs, D.oks O w (dcells (f y)) vs → D.cel O w (f y) vs := fun y O w vs h => by
  obtain ⟨cs, e⟩ := hf y
  rw [e] at h ⊢
  exact h
theorem cel_one {α : Type} {f : α → D} (hf : ∀ y, dcells (f y) = [f y]) (ha : ∀ y cs, f y ≠ .agg cs) : ∀ y O w vs, D.oks O w (dcells (f y)) vs → D.cel O w (f y) vs := fun y O w vs h => by
  rw [hf] at h
  obtain ⟨v, r, e, _, h2, h3⟩ := h
  have h3' : r = [] := h3
  subst h3'
  have := ha y
  cases hy : f y with
  | agg cs => exact absurd hy (this cs)
  | _ => rw [hy] at h2; exact ⟨v, e, h2⟩
theorem rd2 : Rd Tryz.prog 2 1 iD (fun _ => True) := Rd.int Tryz.underlying2 (by kernel_rfl)
theorem rd22 : Rd Tryz.prog 22 1 (slD 1 iD) (fun x : (List Int) => (BigL x ∧ ∀ y0 : Int, y0 ∈ x → True)) := Rd.slice Tryz.underlying22 (by kernel_rfl) (by decide) rd2 (cel_one (fun _ => rfl) (fun _ _ h => nomatch h))
theorem rd28 : Rd Tryz.prog 28 1 D_laws_Sig (fun x : (List Int) => ((BigL x ∧ ∀ y0 : Int, y0 ∈ x → True))) := by
  have h := RdF.cons (P := Tryz.prog) (f := { name := "Arity", type := 22, offset := 0, embedded := false, tag := "", pkgPath := "", byteOffset := 0 }) (m := 1) rfl rd22 rfl (RdF.nil)
  exact Rd.struct (fun y : (List Int) × Unit => y.1) Tryz.underlying28 (by kernel_rfl) h (fun _ => rfl) (fun _ h => h.1)
theorem rd71 : Rd Tryz.prog 71 2 D_laws_Rule (fun x : ((List Int) × (List Int)) => ((BigL x.1 ∧ ∀ y0 : Int, y0 ∈ x.1 → True) ∧ (BigL x.2 ∧ ∀ y0 : Int, y0 ∈ x.2 → True))) := by
  have h := RdF.cons (P := Tryz.prog) (f := { name := "L", type := 22, offset := 0, embedded := false, tag := "", pkgPath := "", byteOffset := 0 }) (m := 2) rfl rd22 rfl (RdF.cons (f := { name := "R", type := 22, offset := 1, embedded := false, tag := "", pkgPath := "", byteOffset := 24 }) rfl rd22 rfl (RdF.nil))
  exact Rd.struct (fun y : (List Int) × (List Int) × Unit => (y.1, y.2.1)) Tryz.underlying71 (by kernel_rfl) h (fun _ => rfl) (fun _ h => ⟨h.1, h.2.1⟩)
theorem rd29 : Rd Tryz.prog 29 1 (slD 2 D_laws_Rule) (fun x : (List ((List Int) × (List Int))) => (BigL x ∧ ∀ y0 : ((List Int) × (List Int)), y0 ∈ x → ((BigL y0.1 ∧ ∀ y1 : Int, y1 ∈ y0.1 → True) ∧ (BigL y0.2 ∧ ∀ y1 : Int, y1 ∈ y0.2 → True)))) := Rd.slice Tryz.underlying29 (by kernel_rfl) (by decide) rd71 (cel_agg fun _ => ⟨_, rfl⟩)
theorem rd31 : Rd Tryz.prog 31 2 D_laws_System (fun x : ((List Int) × (List ((List Int) × (List Int)))) => (((BigL x.1 ∧ ∀ y0 : Int, y0 ∈ x.1 → True)) ∧ (BigL x.2 ∧ ∀ y0 : ((List Int) × (List Int)), y0 ∈ x.2 → ((BigL y0.1 ∧ ∀ y1 : Int, y1 ∈ y0.1 → True) ∧ (BigL y0.2 ∧ ∀ y1 : Int, y1 ∈ y0.2 → True))))) := by
  have h := RdF.cons (P := Tryz.prog) (f := { name := "Sig", type := 28, offset := 0, embedded := false, tag := "", pkgPath := "", byteOffset := 0 }) (m := 2) rfl rd28 rfl (RdF.cons (f := { name := "Rules", type := 29, offset := 1, embedded := false, tag := "", pkgPath := "", byteOffset := 24 }) rfl rd29 rfl (RdF.nil))
  exact Rd.struct (fun y : (List Int) × (List ((List Int) × (List Int))) × Unit => (y.1, y.2.1)) Tryz.underlying31 (by kernel_rfl) h (fun _ => rfl) (fun _ h => ⟨h.1, h.2.1⟩)
end Go.Proofs.YtcbfefbocpikoaaGreatDoor
namespace Go.Proofs.YtcbfefbocpikoaaGreatDoor
open Go Abx Go.ChangeShapes Go.WideShapes Go.ChangeAt Go.RowKit
section
variable {H : Type} {enc : TypeId × Value → H} {P : Program} {w : World} {base : Nat} {spare : Nat → Bool} {held : Bool}
theorem trodAll_4x {t0 t1 : TypeId} {args : Array Value} {ds : List (DataW H)} {ps : List MemPlace} (h : DataW.TrodAll enc P w base spare held [t0, t1] args.toList ds ps) :
    ∃ v0 v1 d0 d1 p0 p1, args = #[v0, v1] ∧ ds = [d0, d1] ∧ ps = p0 ++ p1 ∧ DataW.Trod enc P w base spare held t0 v0 d0 p0 ∧ DataW.Trod enc P w base spare held t1 v1 d1 p1 := by
  obtain ⟨v0, vs0, d0, ds0, p0, q0, hargs, rfl, rfl, k0, h0⟩ := trodAll_cons h
  obtain ⟨v1, vs1, d1, ds1, p1, q1, rfl, rfl, rfl, k1, h1⟩ := trodAll_cons h0
  obtain ⟨rfl, rfl, rfl⟩ := trodAll_nil h1
  exact ⟨v0, v1, d0, d1, p0, p1, by cases args; simp_all, rfl, by simp, k0, k1⟩
end
theorem law_walk4 {W : World} (hgw : GW NoO W) {v0 v1 : Value} {x0 : Int} {x1 : ((List Int) × (List ((List Int) × (List Int))))} (g0 : True) (g1 : (((BigL x1.1 ∧ ∀ y0 : Int, y0 ∈ x1.1 → True)) ∧ (BigL x1.2 ∧ ∀ y0 : ((List Int) × (List Int)), y0 ∈ x1.2 → ((BigL y0.1 ∧ ∀ y1 : Int, y1 ∈ y0.1 → True) ∧ (BigL y0.2 ∧ ∀ y1 : Int, y1 ∈ y0.2 → True))))) (h0 : D.ok NoO W (iD x0) v0) (h1 : D.ok NoO W (D_laws_System x1) v1) :
    Calls Tryz.prog 4 #[v0, v1] W fun e W' => e = .returned (.bool true) ∧ Below W.heap.size W W' :=
  (pure_belowN (show PFun Tryz.prog 4 [iD x0, D_laws_System x1] (bD true) from law_holds_pure (hs := ⟨g1.1.1, g1.2.1, fun r hr => ⟨(g1.2.2 r hr).1.1, (g1.2.2 r hr).2.1⟩⟩)) hgw (vs := #[v0, v1]) (fun _ _ => trivial) ⟨v0, _, rfl, h0, v1, _, rfl, h1, rfl⟩).mono fun _ _ ⟨⟨_, h1, h2⟩, h3⟩ => by
    simp only [D.ok] at h2
    exact ⟨by rw [h1, h2.1], h3⟩
set_option maxRecDepth 100000 in
theorem fnExactTheoryHolds_lifted (os : Os) (started : os.Started) (H : Type) (enc : TypeId × Value → H) :
    ReturnsInHanded {} Tryz.checked os 4 .any (fun w args => (Rows.fnExactTheoryHoldsSpec.pre enc Tryz.prog Tryz.f4 Rows.fnExactTheoryHoldsRow.domain false w args ∧ laidMetH Tryz.prog Rows.fnExactTheoryHoldsRow.laid w) ∧ sizedMet enc Tryz.prog Tryz.f4 (OpenSpec.ofChange Rows.fnExactTheoryHoldsSpec) false w args)
      (Rows.fnExactTheoryHoldsSpec.post enc Tryz.prog Tryz.f4 false true false false) := by
  refine returnsInHanded_and_shaped (C := Tryz.checked) (X := fun w _ => laidMetH Tryz.prog Rows.fnExactTheoryHoldsRow.laid w) (fun _ _ _ hh h => h.of_heap hh) ownZ started (by kernel_rfl) Tryz.func4
    (ChangeSpec.witness_shaped (enc := enc) (C := Tryz.checked) (os := os) (X := fun w _ => laidMetH Tryz.prog Rows.fnExactTheoryHoldsRow.laid w) false (World.doorLaid Tryz.prog 400 os) #[.int .i64 0, .agg #[.slice none 0 0, .slice none 0 0]] 8 rfl (World.shaped_of_RefB (by kernel_rfl) (by kernel_rfl)) (by kernel_rfl) (by kernel_rfl) (by kernel_rfl) (laidMetH_of_parts3 (fuel := 8) (laidMet_of_run' 8 (by kernel_rfl) (by kernel_rfl)) (by kernel_rfl) (by kernel_rfl))) ?_
  intro W base args ds gs before hval0 hW hsh
  have hgw : GW NoO W := ⟨cell_of_shapedOpen_int (P := Tryz.prog) (g := gmax) (zero := #[.int .i64 0]) (t := 3) hsh (of_decide_eq_true (by kernel_rfl)) (by kernel_rfl) rfl (by kernel_rfl) (by kernel_rfl) Tryz.underlying3, fun h => h⟩
  have hval : ∀ (j : Nat) t v, Tryz.f4.params[j]? = some t → args[j]? = some v → Value.okWide Tryz.prog W .any base t v := hval0
  have hW' := hW
  obtain ⟨p, q, hA0, hV, rfl, hfz, hnd⟩ := hW
  have hA : DataW.TrodAll enc Tryz.prog W 0 (fun _ => true) true Tryz.f4.params.toList args.toList ds p := hA0
  rw [Tryz.params4] at hA hval
  obtain ⟨v0, v1, d0, d1, p0, p1, rfl, rfl, rfl, t0, t1⟩ := trodAll_4x hA
  obtain ⟨rfl, rfl⟩ := trodVars_none hV
  have k0 := t0
  have lt0 : ∀ x ∈ p0, x.block < W.heap.size := by obtain ⟨m, hm⟩ := t0; exact DataW.trod_lt m _ _ _ hm
  have k1 := t1
  have lt1 : ∀ x ∈ p1, x.block < W.heap.size := by obtain ⟨m, hm⟩ := t1; exact DataW.trod_lt m _ _ _ hm
  obtain ⟨n0, rfl⟩ := okWide_int Tryz.underlying2 (hval 0 _ v0 rfl rfl)
  obtain ⟨x0, g0, h0⟩ := rd2.cell (fun _ => rfl) rfl t0
  obtain ⟨x1, g1, h1⟩ := rd31.agg Tryz.underlying31 (fun _ => ⟨_, rfl⟩) (hval 1 _ v1 rfl rfl) t1
  clear hA0 hval0
  refine (law_walk4 hgw g0 g1 h0 h1).mono fun e W' ⟨he, bel⟩ => ?_
  subst he
  have s0 := Below.trod laidZ (by kernel_rfl) (of_decide_eq_true (by kernel_rfl)) k0 bel lt0
  have s1 := Below.trod laidZ (by kernel_rfl) (of_decide_eq_true (by kernel_rfl)) k1 bel lt1
  exact ⟨_, rfl, _, _, _, [], _, [], hW', trodAll_mk1 (shut_bool Tryz.underlying4 _), trodAll_cons_mk s0 (trodAll_mk1 s1), rfl, bel.frame _, fun h => by cases h⟩
end Go.Proofs.YtcbfefbocpikoaaGreatDoor
namespace Go.Proofs.YtcbfefbocpikoaaGreatDoor
open Go Go.ChangeShapes Go.WideShapes Go.ChangeAt Go.RowKit
theorem and2b4 {a b : Bool} (ha : a = true) (hb : b = true) : (a && b) = true := by rw [ha, hb]; rfl
set_option maxRecDepth 100000 in
set_option maxHeartbeats 4000000 in
theorem closed4 : joinedFacts Tryz.prog 4 Tryz.f4 Rows.fnExactTheoryHoldsSpec Rows.fnExactTheoryHoldsRow = true := by
  unfold joinedFacts
  with_reducible repeat' refine and2b4 ?_ ?_
  all_goals as_aux_lemma => kernel_rfl
end Go.Proofs.YtcbfefbocpikoaaGreatDoor
