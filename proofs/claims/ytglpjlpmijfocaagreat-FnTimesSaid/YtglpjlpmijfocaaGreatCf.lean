/- Plain theory of terms and what the equations of the functions come to; Functions of the program and the equations that they compute; The layer of data and running functions, and its rules; nothing is assumed. -/
import Derived.Test.YtglpjlpmijfocaaGreatCe
set_option linter.all false
noncomputable section
namespace Go.Proofs.YtglpjlpmijfocaaGreat
open Go Abx Tm
theorem w64 {n : Int} (h1 : -9223372036854775808 <= n) (h2 : n < 9223372036854775808) : IntKind.i64.wrap n = n := by
 rw [wrap_i64 h1 h2]
theorem getD_get {α : Type} [Inhabited α] {xs : List α} {i : Nat} (h : i < xs.length) : xs.getD i default = xs[i] := by simp [List.getD_eq_getElem?_getD, List.getElem?_eq_getElem h]
theorem getD_mem {α : Type} [Inhabited α] {xs : List α} {i : Nat} (h : i < xs.length) : xs.getD i default ∈ xs := by rw [getD_get h]; exact List.getElem_mem h
theorem loop_all {α : Type} [Inhabited α] {xs : List α} {p : α -> Bool} {f : Int -> Option (Int ⊕ Bool)}
 (h : ∀ (i : Nat) (x : α), i < xs.length -> (i : Int) < xs.length -> x ∈ xs -> xs.getD i default = x -> f i = some (if p x = true then .inl ((i : Int) + 1) else .inr false)) (he : f xs.length = some (.inr true)) : loopC f 0 = some (xs.all p) := by
 have key : ∀ k i : Nat, i + k = xs.length -> loopC f (i : Int) = some ((xs.drop i).all p) := by
  intro k
  induction k with
  | zero =>
   intro i hi
   obtain rfl : i = xs.length := by omega
   rw [loopC_inr he]; simp
  | succ k ih =>
   intro i hi
   have hlt : i < xs.length := by omega
   have e := h i _ hlt (by omega) (List.getElem_mem hlt) (getD_get hlt)
   rw [List.drop_eq_getElem_cons hlt, List.all_cons]
   cases hp : p xs[i] with
   | true =>
    rw [hp, if_pos rfl] at e
    rw [loopC_inl e]
    have := ih (i + 1) (by omega)
    rw [show ((i : Int) + 1) = ((i + 1 : Nat) : Int) by omega, this]; simp
   | false =>
    rw [hp] at e
    simp only [Bool.false_eq_true, if_false] at e
    rw [loopC_inr e]; simp
 simpa using key xs.length 0 (by omega)
theorem loop_any {α β : Type} [Inhabited α] {xs : List α} {p : α -> Bool} {f : Int -> Option (Int ⊕ β)} {y n : β}
 (h : ∀ (i : Nat) (x : α), i < xs.length -> (i : Int) < xs.length -> x ∈ xs -> xs.getD i default = x -> f i = some (if p x = true then .inr y else .inl ((i : Int) + 1))) (he : f xs.length = some (.inr n)) :
 loopC f 0 = some (if xs.any p = true then y else n) := by
 have key : ∀ k i : Nat, i + k = xs.length -> loopC f (i : Int) = some (if (xs.drop i).any p = true then y else n) := by
  intro k
  induction k with
  | zero =>
   intro i hi
   obtain rfl : i = xs.length := by omega
   rw [loopC_inr he]; simp
  | succ k ih =>
   intro i hi
   have hlt : i < xs.length := by omega
   have e := h i _ hlt (by omega) (List.getElem_mem hlt) (getD_get hlt)
   rw [List.drop_eq_getElem_cons hlt, List.any_cons]
   cases hp : p xs[i] with
   | false =>
    rw [hp] at e
    simp only [Bool.false_eq_true, if_false] at e
    rw [loopC_inl e]
    have := ih (i + 1) (by omega)
    rw [show ((i : Int) + 1) = ((i + 1 : Nat) : Int) by omega, this]; simp
   | true =>
    rw [hp, if_pos rfl] at e
    rw [loopC_inr e]; simp
 simpa using key xs.length 0 (by omega)
abbrev Small {α : Type} (xs : List α) : Prop := xs.length < 1099511627776
def arOk (n : Int) : Bool := decide (0 <= n) && decide (n <= 3)
def sigOk (a : List Int) : Bool := decide (1 <= a.length) && decide (a.length <= 8) && a.all arOk
theorem sigOk_iff {a : List Int} : sigOk a = true ↔ 1 <= a.length /\ a.length <= 8 /\ ∀ n ∈ a, 0 <= n /\ n <= 3 := by simp [sigOk, arOk, and_assoc]
theorem F_spec_l1In_eq (x lo hi : Int) : F_spec_l1In x lo hi = some (decide (lo <= x) && decide (x <= hi)) := by
 unfold F_spec_l1In
 by_cases h1 : lo <= x <;> by_cases h2 : x <= hi <;> simp [h1, h2]
theorem F_impl_SigOk_eq (a : List Int) : F_impl_SigOk a = some (sigOk a) := by
 unfold F_impl_SigOk
 by_cases h1 : (a.length : Int) < 1
 ·have : ¬ 1 <= a.length := by omega
  simp [h1, sigOk, this]
 ·by_cases h2 : 8 < (a.length : Int)
  ·have : ¬ a.length <= 8 := by omega
   simp [h1, h2, sigOk, this]
  ·have e1 : 1 <= a.length := by omega
   have e2 : a.length <= 8 := by omega
   simp only [h1, h2, decide_false, Bool.false_eq_true, if_false, sigOk, e1, e2, decide_true, Bool.true_and]
   refine loop_all (fun i x hi hi' _ hx => ?_) (by simp [F_impl_SigOk_l1])
   have hw : IntKind.i64.wrap ((i : Int) + 1) = i + 1 := w64 (by omega) (by omega)
   simp only [F_impl_SigOk_l1, hi', decide_true, if_true, Int.toNat_natCast, hw, show (0 : Int) <= i by omega, and_self, arOk, hx]
   by_cases c1 : x < 0
   ·simp [c1, show ¬ 0 <= x by omega]
   ·by_cases c2 : 3 < x
    ·simp [c1, c2, show ¬ x <= 3 by omega]
    ·simp [c1, c2, show 0 <= x by omega, show x <= 3 by omega]
theorem F_spec_SigOk_eq (a : List Int) : F_spec_SigOk a = some (sigOk a) := by
 unfold F_spec_SigOk
 simp only [F_spec_l1In_eq, Option.bind_some]
 by_cases h : 1 <= a.length /\ a.length <= 8
 ·have e1 : (1 : Int) <= a.length := by omega
  have e2 : (a.length : Int) <= 8 := by omega
  simp only [e1, e2, decide_true, Bool.and_self, if_true, sigOk, h.1, h.2, Bool.true_and]
  refine loop_all (fun i x hi hi' _ hx => ?_) (by simp [F_spec_SigOk_l1])
  have hw : IntKind.i64.wrap ((i : Int) + 1) = i + 1 := w64 (by omega) (by omega)
  simp only [F_spec_SigOk_l1, hi', decide_true, if_true, Int.toNat_natCast, hw, show (0 : Int) <= i by omega, and_self, arOk, hx, F_spec_l1In_eq, Option.bind_some]
  by_cases h3 : 0 <= x <;> by_cases h4 : x <= 3 <;> simp [h3, h4]
 ·have : (decide ((1 : Int) <= a.length) && decide ((a.length : Int) <= 8)) = false := by simp; omega
  rw [this]
  have : sigOk a = false := by
   cases hs : sigOk a with
   | false => rfl
   | true => have := sigOk_iff.1 hs; omega
  simp [this]
theorem F_slices_Min_ok {x : List Int} (h0 : 0 < x.length) (hs : Small x) : Okk True (F_slices_Min_int64_int64 x) fun m => ∀ b, b <= m ↔ ∀ y ∈ x, b <= y := by
 unfold F_slices_Min_int64_int64
 have h1 : ¬ (x.length : Int) < 1 := by omega
 have h2 : (0 : Int) < x.length := by omega
 simp only [h1, h2, decide_false, Bool.false_eq_true, if_false, Int.le_refl, and_self, if_true]
 refine Okk.loop (fun s : Int × Int => ∃ i : Nat, s.2 = (i : Int) /\ 1 <= i /\ i <= x.length /\ ∀ b, b <= s.1 ↔ ∀ y ∈ x.take i, b <= y) (fun s : Int × Int => x.length - s.2.toNat) ⟨1, rfl, Nat.le_refl _, by omega, fun b => ?_⟩ ?_
 ·cases x with
  | nil => simp at h0
  | cons y x => simp
 ·rintro ⟨m, i'⟩ ⟨i, rfl, h3, h4, h5⟩
  simp only [F_slices_Min_int64_int64_l1] at h5 ⊢
  by_cases hi : i < x.length
  ·have hi' : (i : Int) < x.length := by omega
   have hw : IntKind.i64.wrap ((i : Int) + 1) = i + 1 := w64 (by omega) (by omega)
   simp only [hi', decide_true, if_true, show (0 : Int) <= i by omega, and_self, Int.toNat_natCast, getD_get hi, hw]
   refine .some ⟨⟨i + 1, by simp, by omega, by omega, fun b => ?_⟩, by simp; omega⟩
   rw [List.take_add_one, List.getElem?_eq_getElem hi]
   have := h5 b
   simp only [List.mem_append, Option.toList_some, List.mem_singleton]
   split
   ·constructor
    ·rintro hb y (hy | rfl)
     ·exact (h5 b).1 (by omega) y hy
     ·exact hb
    ·intro hb; exact hb _ (.inr rfl)
   ·constructor
    ·rintro hb y (hy | rfl)
     ·exact (h5 b).1 hb y hy
     ·omega
    ·intro hb; exact (h5 b).2 fun y hy => hb y (.inl hy)
  ·have hi' : ¬ (i : Int) < x.length := by omega
   simp only [hi', decide_false, Bool.false_eq_true, if_false, Option.map_some]
   refine .some fun b => ?_
   rw [h5 b, List.take_of_length_le (by omega)]
theorem ari_le {a : List Int} (ha : sigOk a = true) (x : Int) : ari a x <= 3 := by
 have := (sigOk_iff.1 ha).2.2
 unfold ari
 split
 ·omega
 ·rw [List.getD_eq_getElem?_getD]
  cases h : a[x.toNat]? with
  | none => simp
  | some y => have := this y (List.mem_of_getElem? h); simp; omega
theorem F_impl_arityAt_eq {a : List Int} (ha : sigOk a = true) {x : Int} (hx : x < a.length) : F_impl_arityAt a x = some (ari a x : Int) := by
 unfold F_impl_arityAt ari
 by_cases h : x < 0
 ·simp [h]
 ·have h2 : 0 <= x := by omega
  simp only [h, decide_false, Bool.false_eq_true, if_false, h2, hx, and_self, if_true]
  have hl : x.toNat < a.length := by omega
  have := (sigOk_iff.1 ha).2.2 _ (getD_mem hl)
  rw [show a.getD x.toNat 0 = a.getD x.toNat default from rfl]
  rw [show ((a.getD x.toNat default).toNat : Int) = a.getD x.toNat default by omega]
theorem F_impl_cursor_next_eq {a t : List Int} (ha : sigOk a = true) (hs : Small t) {i : Nat} (hi : i <= t.length) : F_impl_cursor_next a t i =
 some (match t.drop i with | [] => (-1, (i : Int)) | x :: _ => if x < a.length then ((ari a x : Int), (i : Int) + 1) else (-1, i)) := by
 unfold F_impl_cursor_next
 by_cases h : i < t.length
 ·have h1 : ¬ (t.length : Int) <= i := by omega
  have h2 : (i : Int) < t.length := by omega
  have hw : IntKind.i64.wrap ((i : Int) + 1) = i + 1 := w64 (by omega) (by omega)
  have hw2 : IntKind.i64.wrap ((i : Int) + 1 - 1) = i := by rw [w64 (by omega) (by omega)]; omega
  rw [List.drop_eq_getElem_cons h]
  simp only [h1, h2, decide_false, Bool.false_eq_true, if_false, show (0 : Int) <= i by omega, and_self, if_true, Int.toNat_natCast, getD_get h, hw, hw2]
  by_cases h3 : t[i] < a.length
  ·have h4 : ¬ (a.length : Int) <= t[i] := by omega
   simp [h3, h4, F_impl_arityAt_eq ha h3]
  ·have h4 : (a.length : Int) <= t[i] := by omega
   simp [h3, h4]
 ·have h1 : (t.length : Int) <= i := by omega
  rw [List.drop_of_length_le (by omega)]
  simp [h1]
theorem skip_drop {a t : List Int} {i k : Nat} (h : i < t.length) : Tm.skip a (t.drop i) (k + 1) = if okx a (t[i]) then Tm.skip a (t.drop (i + 1)) (k + ari a t[i]) else none := by
 rw [List.drop_eq_getElem_cons h, skip_cons]
def endI (a t : List Int) (i : Nat) : Int := match Tm.skip a (t.drop i) 1 with | some r => (t.length : Int) - r.length | none => -1
theorem skip_len {a : List Int} : ∀ {t r : List Int} {k : Nat}, Tm.skip a t k = some r -> r.length + k <= t.length := by
 intro t r k h
 obtain ⟨u, rfl, hu⟩ := skip_split h
 have := hu.len
 simp; omega
theorem F_impl_endAt_eq {a t : List Int} (ha : sigOk a = true) (hs : Small t) (hm : ∀ x ∈ t, -24 <= x) {i : Nat} (hi : i <= t.length) : F_impl_endAt a t i = some (endI a t i) := by
 have key : Okk True (F_impl_cursor_skip a t i) fun r => match Tm.skip a (t.drop i) 1 with | some q => r = (true, (t.length : Int) - q.length) | none => r.1 = false := by
  unfold F_impl_cursor_skip
  refine Okk.loop (fun s => ∃ (k c : Nat), s = ((k : Int), (c : Int)) /\ c <= t.length /\ k <= 1 + 3 * c /\ Tm.skip a (t.drop c) k = Tm.skip a (t.drop i) 1) (fun s => t.length - s.2.toNat) ⟨1, i, rfl, hi, by omega, rfl⟩ ?_
  rintro _ ⟨k, c, rfl, h1, h2, h3⟩
  simp only [F_impl_cursor_skip_l1]
  cases k with
  | zero =>
   simp only [show ¬ (0 : Int) < ((0 : Nat) : Int) by omega, decide_false, Bool.false_eq_true, if_false, Option.map_some]
   refine .some ?_
   simp only [Rnd]
   rw [<- h3, skip_zero]
   simp; omega
  | succ k =>
   simp only [show (0 : Int) < ((k + 1 : Nat) : Int) by omega, decide_true, if_true, F_impl_cursor_next_eq ha hs h1, Option.bind_some]
   by_cases hc : c < t.length
   ·rw [List.drop_eq_getElem_cons hc]
    rw [skip_drop hc] at h3
    simp only
    have hx := hm _ (List.getElem_mem hc)
    by_cases hlt : t[c] < a.length
    ·have ho : okx a t[c] := ⟨hx, hlt⟩
     rw [if_pos ho] at h3
     have hle := ari_le ha t[c]
     simp only [hlt, if_true, show ¬ ((ari a t[c] : Nat) : Int) < 0 by omega, decide_false, Bool.false_eq_true, if_false]
     have hw1 : IntKind.i64.wrap (((k + 1 : Nat) : Int) + (ari a t[c] : Int)) = (k + 1 : Nat) + ari a t[c] := w64 (by omega) (by omega)
     rw [hw1, w64 (by omega) (by omega)]
     refine .some ⟨⟨k + ari a t[c], c + 1, by simp; omega, by omega, by omega, h3⟩, by simp; omega⟩
    ·have ho : ¬ okx a t[c] := fun h => hlt h.2
     rw [if_neg ho] at h3
     simp only [hlt, if_false, show (-1 : Int) < 0 by omega, decide_true, if_true, Option.map_some]
     refine .some ?_
     simp only [Rnd]
     rw [<- h3]; trivial
   ·rw [List.drop_of_length_le (by omega), skip_nil] at h3
    rw [List.drop_of_length_le (by omega)]
    simp only [show (-1 : Int) < 0 by omega, decide_true, if_true, Option.map_some]
    refine .some ?_
    simp only [Rnd]
    rw [<- h3]; trivial
 unfold F_impl_endAt
 obtain ⟨r, h1, h2⟩ := key.get
 rw [h1, Option.bind_some]
 unfold endI
 cases h : Tm.skip a (t.drop i) 1 with
 | none => rw [h] at h2; simp only at h2; simp [h2]
 | some q => rw [h] at h2; simp only at h2; simp [h2]
def termOk (a t : List Int) : Bool := sigOk a && (decide (1 <= t.length) && decide (t.length <= 60)) && decide (Wf a 1 t)
theorem termOk_iff {a t : List Int} : termOk a t = true ↔ sigOk a = true /\ 1 <= t.length /\ t.length <= 60 /\ Wf a 1 t := by simp [termOk, and_assoc]
theorem endI_wf {a t : List Int} : endI a t 0 = (t.length : Int) ↔ Wf a 1 t := by
 unfold endI Wf
 rw [List.drop_zero]
 cases h : Tm.skip a t 1 with
 | none =>
  simp only [reduceCtorEq, iff_false]
  try omega
 | some q =>
  simp only [Option.some.injEq]
  constructor
  ·intro h; exact List.length_eq_zero_iff.1 (by omega)
  ·rintro rfl; simp
theorem F_impl_TermOk_eq (a t : List Int) : F_impl_TermOk a t = some (termOk a t) := by
 unfold F_impl_TermOk termOk
 rw [F_impl_SigOk_eq, Option.bind_some]
 cases ha : sigOk a with
 | false => simp
 | true =>
  simp only [if_true, Bool.true_and]
  by_cases h1 : 1 <= t.length
  ·by_cases h2 : t.length <= 60
   ·have e1 : (0 : Int) < t.length := by omega
    have e2 : (t.length : Int) <= 60 := by omega
    simp only [e1, e2, h1, h2, decide_true, if_true, Bool.and_self, Bool.true_and]
    obtain ⟨m, h3, h4⟩ := (F_slices_Min_ok (x := t) (by omega) (show t.length < _ by omega)).get
    rw [h3, Option.bind_some]
    by_cases h5 : -24 <= m
    ·simp only [h5, decide_true, if_true]
     have := F_impl_endAt_eq ha (show t.length < _ by omega) ((h4 _).1 h5) (i := 0) (by omega)
     rw [show ((0 : Nat) : Int) = 0 by rfl] at this
     rw [this, Option.bind_some]
     by_cases hw : Wf a 1 t
     ·simp [hw, endI_wf.2 hw]
     ·have := mt endI_wf.1 hw
      simp [hw, this]
    ·have hw : ¬ Wf a 1 t := fun hw => h5 ((h4 _).2 fun y hy => (hw.all y hy).1)
     simp [h5, hw]
   ·have e2 : ¬ (t.length : Int) <= 60 := by omega
    have e1 : (0 : Int) < t.length := by omega
    simp [e1, e2, h2]
  ·have e1 : ¬ (0 : Int) < t.length := by omega
   simp only [e1, h1, decide_false, Bool.false_eq_true, if_false, Bool.false_and]
theorem F_spec_l1Arity_eq {a : List Int} (ha : sigOk a = true) (x : Int) : F_spec_l1Arity a x = some (if okx a x then (ari a x : Int) else -1) := by
 have hl := (sigOk_iff.1 ha).2.1
 unfold F_spec_l1Arity
 simp only [F_spec_l1In_eq, Option.bind_some, w64 (n := (a.length : Int) - 1) (by omega) (by omega)]
 by_cases h1 : -24 <= x
 ·by_cases h2 : x <= -1
  ·simp [h1, h2, okx, ari, show x < 0 by omega, show x < (a.length : Int) by omega]
  ·by_cases h3 : x < a.length
   ·have hx : x.toNat < a.length := by omega
    have := (sigOk_iff.1 ha).2.2 _ (getD_mem hx)
    simp only [h1, h2, h3, okx, show 0 <= x by omega, show x <= (a.length : Int) - 1 by omega, decide_true, decide_false, Bool.and_false, Bool.and_self, Bool.false_eq_true, if_false, and_self, if_true, ari, show ¬ x < 0 by omega]
    rw [show a.getD x.toNat 0 = a.getD x.toNat default from rfl]
    rw [show ((a.getD x.toNat default).toNat : Int) = a.getD x.toNat default by omega]
   ·simp [h1, h2, h3, okx, show ¬ x <= (a.length : Int) - 1 by omega]
 ·simp [h1, okx, show ¬ 0 <= x by omega]
theorem F_spec_l1End_eq {a t : List Int} (ha : sigOk a = true) (hs : Small t) {i : Nat} (hi : i <= t.length) : F_spec_l1End a t i = some (endI a t i) := by
 have key : Okk True (F_spec_l1End a t i) (· = endI a t i) := by
  unfold F_spec_l1End
  refine Okk.loop (fun s : Int × Int => ∃ (k c : Nat), s = (((k + 1 : Nat) : Int), (c : Int)) /\ c <= t.length /\ k <= 3 * c /\ Tm.skip a (t.drop c) (k + 1) = Tm.skip a (t.drop i) 1) (fun s : Int × Int => t.length - s.2.toNat) ⟨0, i, rfl, hi, by omega, rfl⟩ ?_
  rintro _ ⟨k, c, rfl, h1, h2, h3⟩
  simp only [F_spec_l1End_l1]
  by_cases hc : c < t.length
  ·rw [skip_drop hc] at h3
   have hc' : (c : Int) < t.length := by omega
   simp only [hc', decide_true, if_true, show (0 : Int) <= c by omega, and_self, Int.toNat_natCast, getD_get hc, F_spec_l1Arity_eq ha, Option.bind_some]
   have hle := ari_le ha t[c]
   by_cases ho : okx a t[c]
   ·rw [if_pos ho] at h3
    simp only [ho, if_true, show ¬ ((ari a t[c] : Nat) : Int) < 0 by omega, decide_false, Bool.false_eq_true, if_false]
    rw [w64 (n := ((k + 1 : Nat) : Int) + (ari a t[c] : Int)) (by omega) (by omega), w64 (n := ((k + 1 : Nat) : Int) + (ari a t[c] : Int) - 1) (by omega) (by omega), w64 (n := (c : Int) + 1) (by omega) (by omega)]
    cases hk : k + ari a t[c] with
    | zero =>
     rw [hk, skip_zero] at h3
     have : (((k + 1 : Nat) : Int) + (ari a t[c] : Int) - 1 == 0) = true := by simp; omega
     simp only [this, if_true, Option.map_some]
     refine .some ?_
     simp only [Rnd, endI]
     rw [<- h3]
     simp; omega
    | succ q =>
     have : ¬ (((k + 1 : Nat) : Int) + (ari a t[c] : Int) - 1 == 0) = true := by simp; omega
     simp only [this, if_false]
     refine .some ⟨⟨q, c + 1, by simp; omega, by omega, by omega, by rw [<- hk]; exact h3⟩, by simp; omega⟩
   ·rw [if_neg ho] at h3
    simp only [ho, if_false, show (-1 : Int) < 0 by omega, decide_true, if_true, Option.map_some]
    refine .some ?_
    simp only [Rnd, endI]
    rw [<- h3]
  ·have hc' : ¬ (c : Int) < t.length := by omega
   rw [List.drop_of_length_le (by omega), skip_nil] at h3
   simp only [hc', decide_false, Bool.false_eq_true, if_false, Option.map_some]
   refine .some ?_
   simp only [Rnd, endI]
   rw [<- h3]
 exact key.eq
theorem F_spec_TermOk_eq (a t : List Int) : F_spec_TermOk a t = some (termOk a t) := by
 unfold F_spec_TermOk termOk
 rw [F_spec_SigOk_eq, Option.bind_some]
 cases ha : sigOk a with
 | false => simp
 | true =>
  simp only [if_true, Bool.true_and, F_spec_l1In_eq, Option.bind_some]
  have e : (decide ((1 : Int) <= t.length) && decide ((t.length : Int) <= 60)) = (decide (1 <= t.length) && decide (t.length <= 60)) := by
   congr 1 <;> exact decide_eq_decide.2 (by omega)
  rw [e]
  by_cases h : 1 <= t.length /\ t.length <= 60
  ·simp only [h.1, h.2, decide_true, Bool.and_self, if_true, Bool.true_and]
   have := F_spec_l1End_eq ha (show Small t by show t.length < _; omega) (i := 0) (by omega)
   rw [show ((0 : Nat) : Int) = 0 by rfl] at this
   rw [this, Option.bind_some]
   by_cases hw : Wf a 1 t
   ·simp [hw, endI_wf.2 hw]
   ·have := mt endI_wf.1 hw
    simp [hw, this]
  ·have : (decide (1 <= t.length) && decide (t.length <= 60)) = false := by simp; omega
   simp [this]
theorem F_slices_Contains_eq {s : List Int} (hs : Small s) (v : Int) : F_slices_Contains_int64_int64 s v = some (decide (v ∈ s)) := by
 have key : Okk True (F_slices_Index_int64_int64 s v) fun r => 0 <= r ↔ v ∈ s := by
  unfold F_slices_Index_int64_int64
  refine Okk.loop (fun i' : Int => ∃ i : Nat, i' = i /\ i <= s.length /\ v ∉ s.take i) (fun i' : Int => s.length - i'.toNat) ⟨0, rfl, by omega, by simp⟩ ?_
  rintro _ ⟨i, rfl, h1, h2⟩
  simp only [F_slices_Index_int64_int64_l1]
  by_cases hi : i < s.length
  ·have hi' : (i : Int) < s.length := by omega
   simp only [hi', decide_true, if_true, show (0 : Int) <= i by omega, and_self, Int.toNat_natCast, getD_get hi, w64 (n := (i : Int) + 1) (by omega) (by omega)]
   by_cases hv : v = s[i]
   ·simp only [hv, beq_self_eq_true, if_true, Option.map_some]
    refine .some ?_
    simp only [Rnd]
    exact ⟨fun _ => List.getElem_mem hi, fun _ => by omega⟩
   ·have : ¬ (v == s[i]) = true := by simpa using hv
    simp only [this, if_false]
    refine .some ⟨⟨i + 1, by simp, by omega, ?_⟩, by simp; omega⟩
    rw [List.take_add_one, List.getElem?_eq_getElem hi, List.mem_append]
    rintro (h | h)
    ·exact h2 h
    ·exact hv (by simpa using h)
  ·have hi' : ¬ (i : Int) < s.length := by omega
   simp only [hi', decide_false, Bool.false_eq_true, if_false, Option.map_some]
   refine .some ?_
   rw [List.take_of_length_le (by omega)] at h2
   simp only [Rnd]
   exact ⟨fun h => by omega, fun h => absurd h h2⟩
 unfold F_slices_Contains_int64_int64
 obtain ⟨r, h1, h2⟩ := key.get
 rw [h1, Option.bind_some]
 congr 1
 exact decide_eq_decide.2 h2
theorem F_spec_l1Has_eq {s : List Int} (hs : Small s) (v : Int) : F_spec_l1Has s v = some (decide (v ∈ s)) := by
 unfold F_spec_l1Has
 rw [loop_any (xs := s) (p := fun x => x == v) (y := true) (n := false) (fun i x hi hi' _ hx => ?_) (by simp [F_spec_l1Has_l1])]
 ·congr 1
  by_cases h : v ∈ s
  ·have : s.any (fun x => x == v) = true := List.any_eq_true.2 ⟨v, h, by simp⟩
   simp [this, h]
  ·have : s.any (fun x => x == v) = false := by
    rw [List.any_eq_false]
    intro x hx he
    have : x = v := by simpa using he
    subst this; exact h hx
   simp [this, h]
 ·simp only [F_spec_l1Has_l1, hi', decide_true, if_true, Int.toNat_natCast, show (0 : Int) <= i by omega, and_self, hx, w64 (n := (i : Int) + 1) (by have := hs; omega) (by have := hs; omega)]
  by_cases h : (x == v) = true
  ·simp [h]
  ·simp [h]
def varIn (l : List Int) (x : Int) : Bool := decide (x < 0 -> x ∈ l)
def ruleOk (a : List Int) (r : List Int × List Int) : Bool := termOk a r.1 && (termOk a r.2 && (decide (0 <= r.1.headD 0) && r.2.all (varIn r.1)))
def sysOk (s : List Int × List (List Int × List Int)) : Bool := sigOk s.1 && (decide (s.2.length <= 12) && s.2.all (ruleOk s.1))
theorem headD_getD {l : List Int} (h : 0 < l.length) : l.getD 0 default = l.headD 0 := by cases l with | nil => simp at h | cons x l => rfl
theorem F_impl_RuleOk_eq (a : List Int) (r : List Int × List Int) : F_impl_RuleOk a r = some (ruleOk a r) := by
 unfold F_impl_RuleOk ruleOk
 rw [F_impl_TermOk_eq, F_impl_TermOk_eq, Option.bind_some]
 cases h1 : termOk a r.1 with
 | false => simp
 | true =>
  rw [Option.bind_some]
  cases h2 : termOk a r.2 with
  | false => simp
  | true =>
   have e1 := termOk_iff.1 h1
   have e2 := termOk_iff.1 h2
   have e3 : (0 : Int) < r.1.length := by omega
   simp only [if_true, Int.le_refl, e3, and_self, Bool.true_and, and_true]
   rw [headD_getD (by omega)]
   by_cases h3 : r.1.headD 0 < 0
   ·simp [-List.headD_eq_head?_getD, h3, show ¬ 0 <= r.1.headD 0 by omega]
   ·simp only [h3, decide_false, Bool.false_eq_true, if_false, show 0 <= r.1.headD 0 by omega, decide_true, Bool.true_and]
    refine loop_all (fun i x hi hi' _ hx => ?_) (by simp [F_impl_RuleOk_l1])
    simp only [F_impl_RuleOk_l1, hi', decide_true, if_true, Int.toNat_natCast, show (0 : Int) <= i by omega, and_self, hx, w64 (n := (i : Int) + 1) (by omega) (by omega), varIn,
     F_slices_Contains_eq (show Small r.1 by show r.1.length < _; omega), Option.bind_some]
    by_cases h4 : x < 0 <;> by_cases h5 : x ∈ r.1 <;> simp [h4, h5]
theorem F_spec_RuleOk_eq (a : List Int) (r : List Int × List Int) : F_spec_RuleOk a r = some (ruleOk a r) := by
 unfold F_spec_RuleOk ruleOk
 rw [F_spec_TermOk_eq, F_spec_TermOk_eq, Option.bind_some]
 cases h1 : termOk a r.1 with
 | false => simp
 | true =>
  rw [Option.bind_some]
  cases h2 : termOk a r.2 with
  | false => simp
  | true =>
   have e1 := termOk_iff.1 h1
   have e2 := termOk_iff.1 h2
   have e3 : (0 : Int) < r.1.length := by omega
   simp only [if_true, Int.le_refl, e3, and_self, Bool.true_and, and_true]
   rw [headD_getD (by omega)]
   by_cases h3 : r.1.headD 0 < 0
   ·simp [-List.headD_eq_head?_getD, h3, show ¬ 0 <= r.1.headD 0 by omega]
   ·simp only [h3, decide_false, Bool.false_eq_true, if_false, show 0 <= r.1.headD 0 by omega, decide_true, Bool.true_and]
    refine loop_all (fun i x hi hi' _ hx => ?_) (by simp [F_spec_RuleOk_l1])
    simp only [F_spec_RuleOk_l1, hi', decide_true, if_true, Int.toNat_natCast, show (0 : Int) <= i by omega, and_self, hx, w64 (n := (i : Int) + 1) (by omega) (by omega), varIn,
     F_spec_l1Has_eq (show Small r.1 by show r.1.length < _; omega), Option.bind_some]
    by_cases h4 : x < 0 <;> by_cases h5 : x ∈ r.1 <;> simp [h4, h5]
theorem F_impl_SystemOk_eq (s : List Int × List (List Int × List Int)) : F_impl_SystemOk s = some (sysOk s) := by
 unfold F_impl_SystemOk sysOk
 rw [F_impl_SigOk_eq, Option.bind_some]
 cases h1 : sigOk s.1 with
 | false => simp
 | true =>
  by_cases h2 : 12 < (s.2.length : Int)
  ·simp [h2, show ¬ s.2.length <= 12 by omega]
  ·simp only [if_true, h2, decide_false, Bool.false_eq_true, if_false, Bool.true_and, show s.2.length <= 12 by omega, decide_true]
   refine loop_all (fun i x hi hi' _ hx => ?_) (by simp [F_impl_SystemOk_l1])
   simp only [F_impl_SystemOk_l1, hi', decide_true, if_true, Int.toNat_natCast, show (0 : Int) <= i by omega, and_self, hx, w64 (n := (i : Int) + 1) (by omega) (by omega), F_impl_RuleOk_eq, Option.bind_some]
   cases ruleOk s.1 x <;> simp
theorem F_spec_SystemOk_eq (s : List Int × List (List Int × List Int)) : F_spec_SystemOk s = some (sysOk s) := by
 unfold F_spec_SystemOk sysOk
 rw [F_spec_SigOk_eq, Option.bind_some]
 cases h1 : sigOk s.1 with
 | false => simp
 | true =>
  by_cases h2 : 12 < (s.2.length : Int)
  ·simp [h2, show ¬ s.2.length <= 12 by omega]
  ·simp only [if_true, h2, decide_false, Bool.false_eq_true, if_false, Bool.true_and, show s.2.length <= 12 by omega, decide_true]
   refine loop_all (fun i x hi hi' _ hx => ?_) (by simp [F_spec_SystemOk_l1])
   simp only [F_spec_SystemOk_l1, hi', decide_true, if_true, Int.toNat_natCast, show (0 : Int) <= i by omega, and_self, hx, w64 (n := (i : Int) + 1) (by omega) (by omega), F_spec_RuleOk_eq, Option.bind_some]
   cases ruleOk s.1 x <;> simp
theorem getD_ext {s t : List Int} (hl : s.length = t.length) : (s == t) = decide (∀ i < s.length, s.getD i default = t.getD i default) := by
 have : (s == t) = decide (s = t) := by by_cases h : s = t <;> simp [h]
 rw [this]
 refine decide_eq_decide.2 ⟨fun h => by subst h; simp, fun h => ?_⟩
 refine List.ext_getElem hl fun i h1 h2 => ?_
 have := h i h1
 rwa [getD_get h1, getD_get h2] at this
theorem loop_eq {s t : List Int} (hs : Small s) (hl : s.length = t.length) {f : Int -> Option (Int ⊕ Bool)}
 (h : ∀ i : Nat, i < s.length -> f i = some (if s.getD i default = t.getD i default then .inl ((i : Int) + 1) else .inr false)) (he : f s.length = some (.inr true)) : loopC f 0 = some (s == t) := by
 have key : Okk True (loopC f 0) fun r => r = decide (∀ i < s.length, s.getD i default = t.getD i default) := by
  refine Okk.loop (fun i' : Int => ∃ i : Nat, i' = i /\ i <= s.length /\ ∀ j < i, s.getD j default = t.getD j default) (fun i' : Int => s.length - i'.toNat) ⟨0, rfl, by omega, by omega⟩ ?_
  rintro _ ⟨i, rfl, h1, h2⟩
  by_cases hi : i < s.length
  ·rw [h i hi]
   by_cases e : s.getD i default = t.getD i default
   ·rw [if_pos e]
    refine .some ⟨⟨i + 1, by simp, by omega, fun j hj => ?_⟩, by simp; omega⟩
    rcases Nat.lt_or_ge j i with h3 | h3
    ·exact h2 j h3
    ·obtain rfl : j = i := by omega
     exact e
   ·rw [if_neg e]
    refine .some ?_
    simp only [Rnd]
    exact (decide_eq_false fun h => e (h i hi)).symm
  ·obtain rfl : i = s.length := by omega
   rw [he]
   refine .some ?_
   simp only [Rnd]
   exact (decide_eq_true h2).symm
 rw [getD_ext hl]
 obtain ⟨r, h1, h2⟩ := key.get
 rw [h1, h2]
theorem F_slices_Equal_eq {s t : List Int} (hs : Small s) : F_slices_Equal_int64_int64 s t = some (s == t) := by
 unfold F_slices_Equal_int64_int64
 by_cases hl : s.length = t.length
 ·have : ¬ ((s.length : Int) != (t.length : Int)) = true := by simp; omega
  rw [if_neg this]
  refine loop_eq hs hl (fun i hi => ?_) (by simp [F_slices_Equal_int64_int64_l1])
  simp only [F_slices_Equal_int64_int64_l1, show (i : Int) < s.length by omega, show (i : Int) < t.length by omega, decide_true, if_true, show (0 : Int) <= i by omega, and_self, Int.toNat_natCast,
   w64 (n := (i : Int) + 1) (by have := hs; omega) (by have := hs; omega)]
  by_cases e : s.getD i default = t.getD i default
  ·simp only [e, bne_self_eq_false, Bool.false_eq_true, if_false, if_true]
  ·have : (s.getD i default != t.getD i default) = true := by simpa using e
   simp only [this, e, if_true, if_false, Option.map_some]
 ·have : ((s.length : Int) != (t.length : Int)) = true := by simp; omega
  rw [if_pos this]
  congr 1
  symm
  rw [beq_eq_false_iff_ne]
  rintro rfl; exact hl rfl
theorem F_spec_SameTerm_eq {s t : List Int} (hs : Small s) : F_spec_SameTerm s t = some (s == t) := by
 unfold F_spec_SameTerm
 by_cases hl : s.length = t.length
 ·have : ¬ ((s.length : Int) != (t.length : Int)) = true := by simp; omega
  rw [if_neg this]
  refine loop_eq hs hl (fun i hi => ?_) (by simp [F_spec_SameTerm_l1])
  simp only [F_spec_SameTerm_l1, show (i : Int) < s.length by omega, show (i : Int) < t.length by omega, decide_true, if_true, show (0 : Int) <= i by omega, and_self, Int.toNat_natCast,
   w64 (n := (i : Int) + 1) (by have := hs; omega) (by have := hs; omega)]
  by_cases e : s.getD i default = t.getD i default
  ·simp only [e, bne_self_eq_false, Bool.false_eq_true, if_false, if_true]
  ·have : (s.getD i default != t.getD i default) = true := by simpa using e
   simp only [this, e, if_true, if_false, Option.map_some]
 ·have : ((s.length : Int) != (t.length : Int)) = true := by simp; omega
  rw [if_pos this]
  congr 1
  symm
  rw [beq_eq_false_iff_ne]
  rintro rfl; exact hl rfl
theorem F_spec_l1Copy_eq {l : List Int} (hs : Small l) : F_spec_l1Copy l = some l := by
 unfold F_spec_l1Copy; rw [if_pos (by have := hs; omega)]
theorem F_slices_Clone_eq {l : List Int} (hs : Small l) : F_slices_Clone_int64_int64 l = some l := by
 unfold F_slices_Clone_int64_int64
 refine (Okk.amb (t := True) (P := (· = l)) ?_ fun h => ?_).eq
 ·rw [if_pos (by have := hs; omega)]; exact .some rfl
 ·subst h; simp
theorem endI_app {a t u r : List Int} {i : Nat} (h : t.drop i = u ++ r) (hu : Wf a 1 u) : endI a t i = (t.length : Int) - r.length := by
 unfold endI; rw [h, hu.skip]
theorem take_sub {t u r : List Int} {i : Nat} (h : t.drop i = u ++ r) (hi : i <= t.length) : (t.take (t.length - r.length)).drop i = u := by
 have hl := congrArg List.length h
 simp at hl
 rw [List.drop_take, h, List.take_append_of_le_length (by omega), List.take_of_length_le (by omega)]
theorem F_impl_subAt_eq {a t u r : List Int} (ha : sigOk a = true) (hs : Small t) (hm : ∀ x ∈ t, -24 <= x) {i : Nat} (h : t.drop i = u ++ r) (hu : Wf a 1 u) : F_impl_subAt a t i = some u := by
 have hl := congrArg List.length h
 have hul := hu.len
 simp at hl
 have hi : i <= t.length := by omega
 unfold F_impl_subAt
 rw [F_impl_endAt_eq ha hs hm hi, Option.bind_some, endI_app h hu, if_pos (by omega), show ((t.length : Int) - r.length).toNat = t.length - r.length by omega, Int.toNat_natCast, take_sub h hi]
theorem F_spec_l1Sub_eq {a t u r : List Int} (ha : sigOk a = true) (hs : Small t) {i : Nat} (h : t.drop i = u ++ r) (hu : Wf a 1 u) : F_spec_l1Sub a t i = some u := by
 have hl := congrArg List.length h
 have hul := hu.len
 simp at hl
 have hi : i <= t.length := by omega
 unfold F_spec_l1Sub
 rw [F_spec_l1End_eq ha hs hi, Option.bind_some, endI_app h hu, if_pos (by omega), show ((t.length : Int) - r.length).toNat = t.length - r.length by omega, Int.toNat_natCast, take_sub h hi,
  F_spec_l1Copy_eq (by show u.length < _; have := hs; omega)]
 rfl
def encB (o : Option Bd) (r : Bd × Bool) : Prop := match o with | some b => r = (b, true) | none => r.2 = false
structure MSt (a p t : List Int) (b0 b : Bd) (i c : Nat) : Prop where
 hi : i <= p.length
 hc : c <= t.length
 hb : b.length = 24
 hsm : ∀ u ∈ b, u.length <= 60
 k : ∃ k, Wf a k (p.drop i) /\ Wf a k (t.drop c)
 m : mat a (p.drop i) (t.drop c) b = mat a p t b0
theorem MSt.var {a p t : List Int} {b0 b : Bd} {i c : Nat} (h : MSt a p t b0 b i c) (hi : i < p.length) (hn : p[i] < 0) : ∃ u r, t.drop c = u ++ r /\ Wf a 1 u /\ c + u.length <= t.length /\ okx a p[i] /\
 mat a p t b0 = (if bget b p[i] = [] then mat a (p.drop (i + 1)) (t.drop (c + u.length)) (bset b p[i] u) else if bget b p[i] = u then mat a (p.drop (i + 1)) (t.drop (c + u.length)) b else none) /\
 ∃ k, Wf a k (p.drop (i + 1)) /\ Wf a k (t.drop (c + u.length)) := by
 obtain ⟨k, h1, h2⟩ := h.k
 rw [List.drop_eq_getElem_cons hi] at h1
 cases k with
 | zero => have := h1.zero; cases this
 | succ k =>
  obtain ⟨ho, h1⟩ := Wf.cons_iff.1 h1
  rw [show k + 1 = 1 + k by omega] at h2
  obtain ⟨u, r, e, hu, hr⟩ := h2.split
  have hr' : t.drop (c + u.length) = r := by rw [<- List.drop_drop, e, List.drop_left]
  have hl := congrArg List.length e
  simp at hl
  have := hu.len
  refine ⟨u, r, e, hu, by omega, ho, ?_, k, ?_, by rw [hr']; exact hr⟩
  ·rw [<- h.m, List.drop_eq_getElem_cons hi, e, mat_var hn hu, hr']
  ·have ha : ari a p[i] = 0 := by simp [ari, hn]
   rwa [ha, Nat.add_zero] at h1
theorem MSt.sym {a p t : List Int} {b0 b : Bd} {i c : Nat} (h : MSt a p t b0 b i c) (hi : i < p.length) (hn : ¬ p[i] < 0) : ∃ hc : c < t.length, okx a p[i] /\ mat a p t b0 = (if t[c] = p[i] then mat a (p.drop (i + 1)) (t.drop (c + 1)) b else none) /\
 (t[c] = p[i] -> ∃ k, Wf a k (p.drop (i + 1)) /\ Wf a k (t.drop (c + 1))) := by
 obtain ⟨k, h1, h2⟩ := h.k
 rw [List.drop_eq_getElem_cons hi] at h1
 cases k with
 | zero => have := h1.zero; cases this
 | succ k =>
  obtain ⟨ho, h1⟩ := Wf.cons_iff.1 h1
  have hc : c < t.length := by
   rcases Nat.lt_or_ge c t.length with h | h
   ·exact h
   ·rw [List.drop_of_length_le h] at h2; have := h2.len; simp at this
  rw [List.drop_eq_getElem_cons hc] at h2
  obtain ⟨ho', h2⟩ := Wf.cons_iff.1 h2
  refine ⟨hc, ho, ?_, fun e => ⟨k + ari a p[i], h1, by rw [<- e]; exact h2⟩⟩
  rw [<- h.m, List.drop_eq_getElem_cons hi, List.drop_eq_getElem_cons hc, mat_sym hn]
theorem MSt.at_lt {a p t : List Int} {b0 b : Bd} {i c : Nat} (h : MSt a p t b0 b i c) (hi : i < p.length) : c < t.length := by
 obtain ⟨k, h1, h2⟩ := h.k
 rw [List.drop_eq_getElem_cons hi] at h1
 cases k with
 | zero => have := h1.zero; cases this
 | succ k =>
  rcases Nat.lt_or_ge c t.length with h | h
  ·exact h
  ·rw [List.drop_of_length_le h] at h2; have := h2.len; simp at this
theorem bset_small {b : Bd} {n : Int} {u : List Int} (hs : ∀ u ∈ b, u.length <= 60) (hu : u.length <= 60) : ∀ v ∈ bset b n u, v.length <= 60 := fun v hv => by
 rcases List.mem_or_eq_of_mem_set hv with h | h
 ·exact hs v h
 ·subst h; exact hu
theorem bget_small {b : Bd} {n : Int} (hs : ∀ u ∈ b, u.length <= 60) : (bget b n).length <= 60 := by
 unfold bget
 rw [List.getD_eq_getElem?_getD]
 cases h : b[(-1 - n).toNat]? with
 | none => simp
 | some u => exact hs u (List.mem_of_getElem? h)
theorem F_impl_matchInto_ok {a p t : List Int} {b0 : Bd} (ha : sigOk a = true) (hp : Wf a 1 p) (ht : Wf a 1 t) (hpl : p.length <= 60) (htl : t.length <= 60) (hb : b0.length = 24) (hbs : ∀ u ∈ b0, u.length <= 60) :
 Okk True (F_impl_matchInto a p t b0) (fun r => encB (mat a p t b0) r /\ r.1.length = 24) := by
 unfold F_impl_matchInto
 refine Okk.loop (fun s : Int × Int × Bd => ∃ i c : Nat, s.1 = (c : Int) /\ s.2.1 = (i : Int) /\ MSt a p t b0 s.2.2 i c) (fun s : Int × Int × Bd => p.length - s.2.1.toNat)
  ⟨0, 0, rfl, rfl, by omega, by omega, hb, hbs, ⟨1, by simpa using hp, by simpa using ht⟩, by simp⟩ ?_
 rintro ⟨_, _, b⟩ ⟨i, c, rfl, rfl, h⟩
 simp only at h
 have hb := h.hb
 simp only [F_impl_matchInto_l1]
 by_cases hi : i < p.length
 ·have hc := h.at_lt hi
  simp only [show (i : Int) < p.length by omega, show ¬ (t.length : Int) <= c by omega, decide_true, decide_false, if_true, show (0 : Int) <= i by omega, show (0 : Int) <= c by omega, show (c : Int) < t.length by omega, and_self,
   Bool.false_eq_true, if_false, Int.toNat_natCast, getD_get hi, getD_get hc, w64 (n := (i : Int) + 1) (by omega) (by omega), w64 (n := (c : Int) + 1) (by omega) (by omega)]
  by_cases hn : p[i] < 0
  ·obtain ⟨u, r, e, hu, hl, ho, hm, hk⟩ := h.var hi hn
   have hul := hu.len
   have hx : -24 <= p[i] := ho.1
   have hlt : (-1 - p[i]).toNat < b.length := by omega
   simp only [show ¬ 0 <= p[i] by omega, decide_false, Bool.false_eq_true, if_false, F_impl_subAt_eq ha (show Small t by show t.length < _; omega) (fun x hx => (ht.all x hx).1) e hu, Option.bind_some,
    w64 (n := -1 - p[i]) (by omega) (by omega), show 0 <= -1 - p[i] by omega, show -1 - p[i] < 24 by omega, show -1 - p[i] < (b.length : Int) by omega, and_self, if_true, hb, show ((-1 : Int) - p[i] < ((24 : Nat) : Int)) by omega,
    w64 (n := (c : Int) + u.length) (by omega) (by omega)]
   have eg : b.getD (-1 - p[i]).toNat default = bget b p[i] := rfl
   rw [eg]
   by_cases h0 : bget b p[i] = []
   ·rw [if_pos h0] at hm
    simp only [h0, List.isEmpty_nil, if_true, show 0 < u.length by omega]
    exact .some ⟨⟨i + 1, c + u.length, by simp, by simp, by omega, by omega, by simpa using hb, bset_small h.hsm (by omega), hk, by rw [hm]; rfl⟩, by simp; omega⟩
   ·rw [if_neg h0] at hm
    have : ¬ (bget b p[i]).isEmpty = true := by simpa using h0
    simp only [this, if_false, F_slices_Equal_eq (show Small (bget b p[i]) by show List.length _ < _; have := bget_small (n := p[i]) h.hsm; omega), Option.bind_some]
    by_cases h1 : bget b p[i] = u
    ·rw [if_pos h1] at hm
     simp only [h1, beq_self_eq_true, if_true]
     exact .some ⟨⟨i + 1, c + u.length, by simp, by simp, by omega, by omega, hb, h.hsm, hk, hm.symm⟩, by simp; omega⟩
    ·rw [if_neg h1] at hm
     have : ¬ (bget b p[i] == u) = true := by simpa using h1
     simp only [this, if_false, Option.map_some]
     refine .some ?_
     simp only [Rnd, encB, hm]
     exact ⟨trivial, hb⟩
  ·obtain ⟨hc', ho, hm, hk⟩ := h.sym hi hn
   simp only [show 0 <= p[i] by omega, decide_true, if_true]
   by_cases e : t[c] = p[i]
   ·rw [if_pos e] at hm
    simp only [e, bne_self_eq_false, Bool.false_eq_true, if_false]
    exact .some ⟨⟨i + 1, c + 1, by simp, by simp, by omega, by omega, hb, h.hsm, hk e, hm.symm⟩, by simp; omega⟩
   ·rw [if_neg e] at hm
    have : (t[c] != p[i]) = true := by simpa using e
    simp only [this, if_true, hb, Option.map_some]
    refine .some ?_
    simp only [Rnd, encB, hm]
    exact ⟨trivial, hb⟩
 ·have hm := h.m
  rw [List.drop_of_length_le (by omega), mat_nil] at hm
  simp only [show ¬ (i : Int) < p.length by omega, decide_false, Bool.false_eq_true, if_false, hb, if_true, Option.map_some]
  refine .some ?_
  simp only [Rnd, encB, <- hm]
  exact ⟨trivial, hb⟩
def plainAt (s : Bd) (i : Nat) : List Int := if s.getD i [] = [] ∨ s.getD i [] = [-1 - (i : Int)] then [] else s.getD i []
theorem plain_sig {s o : Bd} (h : ∀ i, o.getD i [] = plainAt s i) {n : Int} (hn : n < 0) : Tm.sig o n = Tm.sig s n := by
 unfold Tm.sig bget
 rw [h]
 unfold plainAt
 rw [show -1 - ((-1 - n).toNat : Int) = n by omega]
 by_cases h1 : s.getD (-1 - n).toNat [] = []
 ·simp only [h1, true_or, if_true]
 ·by_cases h2 : s.getD (-1 - n).toNat [] = [n]
  ·simp only [h2, or_true, if_true]; simp
  ·simp only [h1, h2, or_self, if_false]
theorem getD_append {s : Bd} {u : List Int} {i : Nat} : (s ++ [u]).getD i [] = if i < s.length then s.getD i [] else if i = s.length then u else [] := by
 rw [List.getD_eq_getElem?_getD]
 by_cases h : i < s.length
 ·rw [if_pos h, List.getElem?_append_left h, List.getD_eq_getElem?_getD]
 ·rw [if_neg h, List.getElem?_append_right (by omega)]
  by_cases h2 : i = s.length
  ·subst h2; simp
  ·rw [if_neg h2, List.getElem?_eq_none (by simp; omega)]; rfl
theorem getD_out {s : Bd} {i : Nat} (h : s.length <= i) : s.getD i [] = [] := by
 rw [List.getD_eq_getElem?_getD, List.getElem?_eq_none h]; rfl
structure PSt (s : Bd) (o : Bd) (i : Nat) : Prop where
 hi : i <= s.length
 hl : o.length <= i
 he : ∀ j < i, o.getD j [] = plainAt s j
theorem F_impl_plain_ok {s : Bd} (hl : s.length <= 24) (hs : ∀ u ∈ s, u.length <= 60) : Okk True (F_impl_plain s) fun o => o.length <= 24 /\ ∀ i, o.getD i [] = plainAt s i := by
 unfold F_impl_plain
 refine Okk.loop (fun q : Int × Bd => ∃ i : Nat, q.1 = i /\ PSt s q.2 i) (fun q : Int × Bd => s.length - q.1.toNat) ⟨0, rfl, by omega, by simp, by omega⟩ ?_
 rintro ⟨_, o⟩ ⟨i, rfl, h⟩
 simp only at h
 simp only [F_impl_plain_l1]
 by_cases hi : i < s.length
 ·have hu := hs _ (List.getElem_mem hi)
  have hg : s.getD i [] = s[i] := getD_get hi
  simp only [show (i : Int) < s.length by omega, decide_true, if_true, show (0 : Int) <= i by omega, and_self, Int.toNat_natCast, getD_get hi, w64 (n := (i : Int) + 1) (by omega) (by omega)]
  have skip : plainAt s i = [] -> Okk True (some (Sum.inl ((i : Int) + 1, o)) : Option ((Int × Bd) ⊕ Bd)) (Rnd (fun q : Int × Bd => ∃ i : Nat, q.1 = i /\ PSt s q.2 i) (fun q : Int × Bd => s.length - q.1.toNat) (fun o => o.length <= 24 /\ ∀ i, o.getD i [] = plainAt s i) (s.length - i)) := fun hp =>
   .some ⟨⟨i + 1, by simp, by omega, Nat.le_succ_of_le h.hl, fun j hj => by
    rcases Nat.lt_or_ge j i with h3 | h3
    ·exact h.he j h3
    ·obtain rfl : j = i := by omega
     rw [hp, getD_out h.hl]⟩, by simp; omega⟩
  by_cases h0 : s[i] = []
  ·simp only [h0, List.length_nil, Int.natCast_zero, beq_self_eq_true, if_true]
   exact skip (by unfold plainAt; rw [hg, if_pos (.inl h0)])
  ·have hne : ¬ (((s[i]).length : Int) == 0) = true := by
    have := List.length_pos_iff.2 h0
    simp only [beq_iff_eq]; omega
   simp only [hne, if_false, F_impl_variable, Option.bind_some, w64 (n := -1 - (i : Int)) (by omega) (by omega), F_slices_Equal_eq (show Small s[i] by show List.length _ < _; omega)]
   by_cases h1 : s[i] = [-1 - (i : Int)]
   ·simp only [h1, beq_self_eq_true, if_true]
    exact skip (by unfold plainAt; rw [hg, if_pos (.inr h1)])
   ·have : ¬ (s[i] == [-1 - (i : Int)]) = true := by simpa using h1
    simp only [this, if_false]
    have hp : plainAt s i = s[i] := by unfold plainAt; rw [hg, if_neg (by simp [h0, h1])]
    refine Okk.loop (fun o' : Bd => o'.length <= i /\ ∀ j < i, o'.getD j [] = plainAt s j) (fun o' : Bd => i - o'.length) ⟨h.hl, h.he⟩ ?_
    rintro o' ⟨h3, h4⟩
    simp only [F_impl_plain_l2]
    by_cases h5 : o'.length < i
    ·simp only [show (o'.length : Int) < i by omega, decide_true, if_true, show (o'.length + 1) * 24 <= 140737488355328 by omega]
     refine .some ⟨⟨by simp; omega, fun j hj => ?_⟩, by simp; omega⟩
     rw [getD_append]
     split
     ·exact h4 j hj
     ·have := h4 j hj
      rw [getD_out (by omega)] at this
      simp [<- this]
    ·simp only [show ¬ (o'.length : Int) < i by omega, decide_false, Bool.false_eq_true, if_false, show (o'.length + 1) * 24 <= 140737488355328 by omega, if_true]
     rw [Int.toNat_natCast, getD_get hi, F_slices_Clone_eq (show Small s[i] by show List.length _ < _; omega), Option.bind_some, Option.map_some]
     refine .some ?_
     refine ⟨⟨i + 1, by simp [w64 (n := (i : Int) + 1) (by omega) (by omega)], by omega, by simp; omega, fun j hj => ?_⟩, by simp [w64 (n := (i : Int) + 1) (by omega) (by omega)]; omega⟩
     rw [getD_append]
     split
     ·exact h4 j (by omega)
     ·obtain rfl : j = i := by omega
      rw [if_pos (by omega), hp]
 ·simp only [show ¬ (i : Int) < s.length by omega, decide_false, Bool.false_eq_true, if_false, Option.map_some]
  refine .some ⟨by have := h.hl; have := h.hi; omega, fun j => ?_⟩
  by_cases hj : j < i
  ·exact h.he j hj
  ·rw [getD_out (by have := h.hl; omega)]
   unfold plainAt
   rw [getD_out (s := s) (by omega)]; simp
def MRes (o : Option Bd) (r : Bd × Bool) : Prop := match o with
 | some b => r.2 = true /\ r.1.length <= 24 /\ ∀ i, r.1.getD i [] = plainAt b i
 | none => r.2 = false
theorem mat_small {a : List Int} : ∀ {p t : List Int} {b b' : Bd}, mat a p t b = some b' -> (∀ u ∈ b, u.length <= 60) -> t.length <= 60 -> b.length = 24 -> b'.length = 24 /\ ∀ u ∈ b', u.length <= 60
 | [], t, b, b', h, hs, _, hb => by rw [mat_nil] at h; cases h; exact ⟨hb, hs⟩
 | n :: p, t, b, b', h, hs, ht, hb => by
  unfold mat at h
  split at h
  ·split at h
   ·cases h
   ·rename_i r hr
    have := skip_len hr
    simp only at h
    split at h
    ·exact mat_small (b := Tm.bset b n _) h (bset_small hs (by simp; omega)) (by omega) (by simpa [Tm.bset] using hb)
    ·split at h
     ·exact mat_small h hs (by omega) hb
     ·cases h
  ·split at h
   ·cases h
   ·split at h
    ·exact mat_small h hs (by simp at ht; omega) hb
    ·cases h
theorem F_impl_match_ok {a p t : List Int} (ha : sigOk a = true) (hp : Wf a 1 p) (ht : Wf a 1 t) (hpl : p.length <= 60) (htl : t.length <= 60) : Okk True (F_impl_match a p t) (MRes (mat a p t none24)) := by
 unfold F_impl_match
 have hn : ∀ u ∈ none24, u.length <= 60 := by intro u hu; simp [none24] at hu; subst hu; simp
 obtain ⟨r, h1, h2, h3⟩ := (F_impl_matchInto_ok ha hp ht hpl htl (b0 := none24) (by simp [none24]) hn).get
 rw [show (List.replicate 24 [] : Bd) = none24 from rfl, h1, Option.bind_some, if_pos h3]
 cases hm : mat a p t none24 with
 | none =>
  rw [hm] at h2
  simp only [encB] at h2
  simp only [h2, Bool.false_eq_true, if_false]
  exact .some rfl
 | some b =>
  rw [hm] at h2
  simp only [encB] at h2
  subst h2
  obtain ⟨h4, h5⟩ := mat_small hm hn htl (by simp [none24])
  simp only [if_true, h4, F_impl_bindings_subst, Option.bind_some]
  refine Okk.bind (F_impl_plain_ok (by omega) h5) fun o ho => .some ⟨rfl, ho.1, ho.2⟩
theorem F_spec_l2Gives_eq {s : Bd} (hs : ∀ u ∈ s, u.length <= 60) (hl : s.length <= 24) {i : Nat} (hi : i <= 24) : F_spec_l2Gives s i = some (if s.getD i [] = [] then [-1 - (i : Int)] else s.getD i []) := by
 unfold F_spec_l2Gives
 rw [w64 (n := -1 - (i : Int)) (by omega) (by omega)]
 by_cases h : i < s.length
 ·have hu := hs _ (List.getElem_mem h)
  have hg : s.getD i [] = s[i] := getD_get h
  simp only [show (i : Int) < s.length by omega, decide_true, if_true, show (0 : Int) <= i by omega, and_self, Int.toNat_natCast, getD_get h, hg]
  by_cases h0 : s[i] = []
  ·simp [h0]
  ·have := List.length_pos_iff.2 h0
   simp only [h0, if_false, show (0 : Int) < s[i].length by omega, decide_true, if_true, F_spec_l1Copy_eq (show Small s[i] by show List.length _ < _; omega), Option.bind_some]
 ·simp only [show ¬ (i : Int) < s.length by omega, decide_false, Bool.false_eq_true, if_false, getD_out (s := s) (i := i) (by omega), if_true]
theorem F_spec_l2Plain_ok {s : Bd} (hl : s.length <= 24) (hs : ∀ u ∈ s, u.length <= 60) : Okk True (F_spec_l2Plain s) fun o => o.length <= 24 /\ ∀ i, o.getD i [] = plainAt s i := by
 unfold F_spec_l2Plain
 refine Okk.loop (fun q : Int × Bd => ∃ i : Nat, q.1 = i /\ i <= s.length /\ q.2.length = i /\ ∀ j < i, q.2.getD j [] = plainAt s j) (fun q : Int × Bd => s.length - q.1.toNat) ⟨0, rfl, by omega, rfl, by omega⟩ ?_
 rintro ⟨_, o⟩ ⟨i, rfl, h1, h2, h3⟩
 simp only at h2 h3
 simp only [F_spec_l2Plain_l1]
 by_cases hi : i < s.length
 ·have hw : IntKind.i64.wrap ((i : Int) + 1) = i + 1 := w64 (by omega) (by omega)
  have hw2 : IntKind.i64.wrap (-1 - (i : Int)) = -1 - i := w64 (by omega) (by omega)
  have hm : (o.length + 1) * 24 <= 140737488355328 := by omega
  have hg : s.getD i [] = s[i] := getD_get hi
  have step : ∀ u : List Int, plainAt s i = u -> Okk True (some (Sum.inl ((i : Int) + 1, o ++ [u])) : Option ((Int × Bd) ⊕ Bd)) (Rnd (fun q : Int × Bd => ∃ i : Nat, q.1 = i /\ i <= s.length /\ q.2.length = i /\ ∀ j < i, q.2.getD j [] = plainAt s j) (fun q : Int × Bd => s.length - q.1.toNat) (fun o => o.length <= 24 /\ ∀ i, o.getD i [] = plainAt s i) (s.length - i)) := fun u hu =>
   .some ⟨⟨i + 1, by simp, by omega, by simp [h2], fun j hj => by
    rw [getD_append]
    split
    ·exact h3 j (by omega)
    ·rw [if_pos (by omega), show j = i by omega, hu]⟩, by simp; omega⟩
  simp only [show (i : Int) < s.length by omega, decide_true, if_true, F_spec_l2Gives_eq hs hl (i := i) (by omega), Option.bind_some, hm, hw, hw2]
  by_cases h0 : s[i] = []
  ·simp only [hg, h0, if_true, List.length_singleton, Int.natCast_one, beq_self_eq_true, Int.le_refl, show (0 : Int) < 1 by omega, and_self, List.getD_cons_zero]
   exact step [] (by unfold plainAt; rw [hg, if_pos (.inl h0)])
  ·simp only [hg, h0, if_false]
   by_cases hlen : s[i].length = 1
   ·obtain ⟨x, hx⟩ := List.length_eq_one_iff.1 hlen
    simp only [hx, List.length_singleton, Int.natCast_one, beq_self_eq_true, if_true, Int.le_refl, show (0 : Int) < 1 by omega, and_self, List.getD_cons_zero]
    by_cases e : x = -1 - (i : Int)
    ·simp only [e, beq_self_eq_true, if_true]
     exact step [] (by unfold plainAt; rw [hg, if_pos (.inr (by rw [hx, e]))])
    ·have : ¬ (x == -1 - (i : Int)) = true := by simpa using e
     simp only [this, if_false]
     exact step [x] (by unfold plainAt; rw [hg, hx, if_neg (by simp [e])])
   ·have : ¬ ((s[i].length : Int) == 1) = true := by simp only [beq_iff_eq]; omega
    simp only [this, if_false]
    refine step s[i] ?_
    unfold plainAt
    rw [hg, if_neg]
    rintro (h | h)
    ·exact h0 h
    ·exact hlen (by rw [h]; rfl)
 ·simp only [show ¬ (i : Int) < s.length by omega, decide_false, Bool.false_eq_true, if_false]
  have hall : ∀ j, o.getD j [] = plainAt s j := fun j => by
   by_cases hj : j < i
   ·exact h3 j hj
   ·rw [getD_out (by omega)]; unfold plainAt; rw [getD_out (s := s) (by omega)]; simp
  refine Okk.inr ?_
  simp only [Rnd]
  refine Okk.loop (fun o' : Bd => o'.length <= 24 /\ ∀ j, o'.getD j [] = plainAt s j) (fun o' : Bd => o'.length) ⟨by omega, hall⟩ ?_
  rintro o' ⟨h4, h5⟩
  simp only [F_spec_l2Plain_l2]
  by_cases h6 : 0 < o'.length
  ·have hw : IntKind.i64.wrap ((o'.length : Int) - 1) = o'.length - 1 := w64 (by omega) (by omega)
   have ht : ((o'.length : Int) - 1).toNat = o'.length - 1 := by omega
   have hlt : o'.length - 1 < o'.length := by omega
   simp only [show (0 : Int) < o'.length by omega, decide_true, if_true, hw, show 0 <= (o'.length : Int) - 1 by omega, show (o'.length : Int) - 1 < o'.length by omega, show (o'.length : Int) - 1 <= o'.length by omega, and_self, ht, getD_get hlt]
   by_cases h7 : o'[o'.length - 1] = []
   ·simp only [h7, List.length_nil, Int.natCast_zero, beq_self_eq_true, if_true]
    refine .some ⟨⟨by simp; omega, fun j => ?_⟩, by simp; omega⟩
    rw [<- h5 j, List.getD_eq_getElem?_getD, List.getD_eq_getElem?_getD, List.getElem?_take]
    split
    ·rfl
    ·by_cases hj : j = o'.length - 1
     ·subst hj; rw [List.getElem?_eq_getElem hlt, h7]; rfl
     ·rw [List.getElem?_eq_none (by omega)]
   ·have := List.length_pos_iff.2 h7
    have : ¬ ((o'[o'.length - 1].length : Int) == 0) = true := by simp only [beq_iff_eq]; omega
    simp only [this, if_false, Option.map_some]
    exact .some ⟨h4, h5⟩
  ·simp only [show ¬ (0 : Int) < o'.length by omega, decide_false, Bool.false_eq_true, if_false, Option.map_some]
   exact .some ⟨h4, h5⟩
theorem F_spec_l4Match_ok {a p t : List Int} (ha : sigOk a = true) (hp : Wf a 1 p) (ht : Wf a 1 t) (hpl : p.length <= 60) (htl : t.length <= 60) : Okk True (F_spec_l4Match a p t) (MRes (mat a p t none24)) := by
 have hn : ∀ u ∈ none24, u.length <= 60 := by intro u hu; simp [none24] at hu; subst hu; simp
 unfold F_spec_l4Match
 rw [show (List.replicate 24 [] : Bd) = none24 from rfl]
 refine Okk.loop (fun s : Int × Int × Bd => ∃ i c : Nat, s.1 = (c : Int) /\ s.2.1 = (i : Int) /\ MSt a p t none24 s.2.2 i c) (fun s : Int × Int × Bd => p.length - s.2.1.toNat)
  ⟨0, 0, rfl, rfl, by omega, by omega, by simp [none24], hn, ⟨1, by simpa using hp, by simpa using ht⟩, by simp⟩ ?_
 rintro ⟨_, _, b⟩ ⟨i, c, rfl, rfl, h⟩
 simp only at h
 have hb := h.hb
 simp only [F_spec_l4Match_l1]
 by_cases hi : i < p.length
 ·have hc := h.at_lt hi
  simp only [show (i : Int) < p.length by omega, show ¬ (t.length : Int) <= c by omega, decide_true, decide_false, if_true, show (0 : Int) <= i by omega, show (0 : Int) <= c by omega, show (c : Int) < t.length by omega, and_self,
   Bool.false_eq_true, if_false, Int.toNat_natCast, getD_get hi, getD_get hc, w64 (n := (i : Int) + 1) (by omega) (by omega), w64 (n := (c : Int) + 1) (by omega) (by omega)]
  by_cases hn : p[i] < 0
  ·obtain ⟨u, r, e, hu, hl, ho, hm, hk⟩ := h.var hi hn
   have hul := hu.len
   have hx : -24 <= p[i] := ho.1
   have hlt : (-1 - p[i]).toNat < b.length := by omega
   simp only [show ¬ 0 <= p[i] by omega, decide_false, Bool.false_eq_true, if_false, F_spec_l1Sub_eq ha (show Small t by show t.length < _; omega) e hu, Option.bind_some,
    w64 (n := -1 - p[i]) (by omega) (by omega), show 0 <= -1 - p[i] by omega, show -1 - p[i] < 24 by omega, and_self, if_true, hb, show ((-1 : Int) - p[i] < ((24 : Nat) : Int)) by omega,
    w64 (n := (c : Int) + u.length) (by omega) (by omega)]
   have eg : b.getD (-1 - p[i]).toNat default = bget b p[i] := rfl
   rw [eg]
   by_cases h0 : bget b p[i] = []
   ·rw [if_pos h0] at hm
    simp only [h0, List.length_nil, Int.natCast_zero, Int.lt_irrefl, decide_false, Bool.false_eq_true, if_false]
    exact .some ⟨⟨i + 1, c + u.length, by simp, by simp, by omega, by omega, by simpa using hb, bset_small h.hsm (by omega), hk, by rw [hm]; rfl⟩, by simp; omega⟩
   ·rw [if_neg h0] at hm
    have hp0 := List.length_pos_iff.2 h0
    simp only [show (0 : Int) < ((bget b p[i]).length : Int) by omega, decide_true, if_true, F_spec_SameTerm_eq (show Small (bget b p[i]) by show List.length _ < _; have := bget_small (n := p[i]) h.hsm; omega), Option.bind_some]
    by_cases h1 : bget b p[i] = u
    ·rw [if_pos h1] at hm
     simp only [h1, beq_self_eq_true, if_true]
     have hset : b.set (-1 - p[i]).toNat u = b := by
      have : b[(-1 - p[i]).toNat] = u := by rw [<- h1]; exact (getD_get hlt).symm
      rw [<- this]; exact List.set_getElem_self hlt
     rw [hset]
     exact .some ⟨⟨i + 1, c + u.length, by simp, by simp, by omega, by omega, hb, h.hsm, hk, hm.symm⟩, by simp; omega⟩
    ·rw [if_neg h1] at hm
     have : ¬ (bget b p[i] == u) = true := by simpa using h1
     simp only [this, if_false, Option.map_some]
     refine .some ?_
     simp only [Rnd, MRes, hm]
  ·obtain ⟨hc', ho, hm, hk⟩ := h.sym hi hn
   simp only [show 0 <= p[i] by omega, decide_true, if_true]
   by_cases e : t[c] = p[i]
   ·rw [if_pos e] at hm
    simp only [e, bne_self_eq_false, Bool.false_eq_true, if_false]
    exact .some ⟨⟨i + 1, c + 1, by simp, by simp, by omega, by omega, hb, h.hsm, hk e, hm.symm⟩, by simp; omega⟩
   ·rw [if_neg e] at hm
    have : (p[i] != t[c]) = true := by simpa using fun h => e h.symm
    simp only [this, if_true, Option.map_some]
    refine .some ?_
    simp only [Rnd, MRes, hm]
 ·have hm := h.m
  rw [List.drop_of_length_le (by omega), mat_nil] at hm
  simp only [show ¬ (i : Int) < p.length by omega, decide_false, Bool.false_eq_true, if_false, hb, if_true]
  refine Okk.inr ?_
  refine Okk.bind (F_spec_l2Plain_ok (by omega) h.hsm) fun o ho => .some ?_
  simp only [Rnd, MRes, <- hm]
  exact ⟨trivial, ho.1, ho.2⟩
theorem sub_take {σ : Int -> List Int} {t : List Int} {i : Nat} (hi : i < t.length) : sub σ (t.take (i + 1)) = sub σ (t.take i) ++ (if t[i] < 0 then σ t[i] else [t[i]]) := by
 rw [List.take_add_one, List.getElem?_eq_getElem hi, sub_app]
 simp [sub]
theorem sub_take_le {σ : Int -> List Int} {t : List Int} {i : Nat} : (sub σ (t.take i)).length <= (sub σ t).length := by
 have : sub σ t = sub σ (t.take i) ++ sub σ (t.drop i) := by rw [<- sub_app, List.take_append_drop]
 rw [this]; simp
def fillO (σ : Int -> List Int) (t : List Int) : Option (List Int) := if (sub σ t).length <= 60 then some (sub σ t) else none
def encO (o : Option (List Int)) : List Int × Bool := match o with | some x => (x, true) | none => ([], false)
theorem F_impl_byVar_eq {s : Bd} (hl : s.length <= 24) {i : Nat} (hi : i <= 24) : F_impl_Subst_byVar s i = some (s.getD i []) := by
 unfold F_impl_Subst_byVar
 by_cases h : i < s.length
 ·have hg : s.getD i [] = s[i] := getD_get h
  simp only [show ¬ (s.length : Int) <= i by omega, decide_false, Bool.false_eq_true, if_false, show (0 : Int) <= i by omega, show (i : Int) < s.length by omega, and_self, if_true, Int.toNat_natCast, getD_get h, hg]
  by_cases h0 : s[i] = []
  ·simp [h0]
  ·have := List.length_pos_iff.2 h0
   have h2 : ¬ ((s[i].length : Int) == 0) = true := by simp only [beq_iff_eq]; omega
   simp only [h2, Bool.false_eq_true, if_false, this, if_true]
 ·simp only [show (s.length : Int) <= i by omega, decide_true, if_true, getD_out (s := s) (i := i) (by omega)]
theorem fill_step {σ : Int -> List Int} {t : List Int} {i : Nat} (hi : i < t.length) {out u : List Int} (ho : out = sub σ (t.take i)) (hu : u = if t[i] < 0 then σ t[i] else [t[i]]) :
 (60 < (out ++ u).length -> fillO σ t = none) /\ out ++ u = sub σ (t.take (i + 1)) := by
 have e : out ++ u = sub σ (t.take (i + 1)) := by rw [sub_take hi, ho, hu]
 refine ⟨fun h => ?_, e⟩
 rw [e] at h
 unfold fillO
 rw [if_neg]
 have := sub_take_le (σ := σ) (t := t) (i := i + 1)
 omega
theorem F_impl_fill_eq {s : Bd} {t : List Int} (hl : s.length <= 24) (hs : ∀ i, (s.getD i []).length <= 60) (ht : t.length <= 60) (hx : ∀ x ∈ t, -24 <= x) : F_impl_fill s t = some (encO (fillO (Tm.sig s) t)) := by
 have key : Okk True (F_impl_fill s t) (· = encO (fillO (Tm.sig s) t)) := by
  unfold F_impl_fill
  simp only [F_impl_Subst_lookup, Option.bind_some, show 0 <= (t.length : Int) /\ 8 * (t.length : Int) <= 281474976710656 by omega, and_self, if_true]
  refine Okk.loop (fun q : List Int × Int => ∃ i : Nat, q.2 = i /\ i <= t.length /\ q.1 = sub (Tm.sig s) (t.take i) /\ q.1.length <= 60) (fun q : List Int × Int => t.length - q.2.toNat) ⟨0, rfl, by omega, by simp [sub], by simp⟩ ?_
  rintro ⟨out, _⟩ ⟨i, rfl, h1, h2, h3⟩
  simp only at h2 h3
  simp only [F_impl_fill_l1]
  by_cases hi : i < t.length
  ·have hxi := hx _ (List.getElem_mem hi)
   simp only [show (i : Int) < t.length by omega, decide_true, if_true, show (0 : Int) <= i by omega, and_self, Int.toNat_natCast, getD_get hi, w64 (n := (i : Int) + 1) (by omega) (by omega)]
   have fin : ∀ u : List Int, u.length <= 60 -> u = (if t[i] < 0 then Tm.sig s t[i] else [t[i]]) -> Okk True (if decide (60 < ((out ++ u).length : Int)) = true then Option.map Sum.inr (some (([] : List Int), false)) else some (Sum.inl (out ++ u, (i : Int) + 1)))
    (Rnd (fun q : List Int × Int => ∃ i : Nat, q.2 = i /\ i <= t.length /\ q.1 = sub (Tm.sig s) (t.take i) /\ q.1.length <= 60) (fun q : List Int × Int => t.length - q.2.toNat) (· = encO (fillO (Tm.sig s) t)) (t.length - i)) := fun u hu e => by
    obtain ⟨h4, h5⟩ := fill_step hi h2 e
    by_cases h6 : 60 < (out ++ u).length
    ·simp only [show (60 : Int) < ((out ++ u).length : Int) by omega, decide_true, if_true, Option.map_some]
     refine .some ?_
     simp only [Rnd, h4 h6, encO]
    ·simp only [show ¬ (60 : Int) < ((out ++ u).length : Int) by omega, decide_false, Bool.false_eq_true, if_false]
     exact .some ⟨⟨i + 1, by simp, by omega, h5, by simp only; omega⟩, by simp; omega⟩
   unfold F_impl_Subst_lookup_1
   by_cases hn : t[i] < 0
   ·have hi24 : ((-1 - t[i]).toNat : Int) = -1 - t[i] := by omega
    simp only [show ¬ 0 <= t[i] by omega, decide_false, Bool.false_eq_true, if_false, w64 (n := -1 - t[i]) (by omega) (by omega)]
    rw [<- hi24, F_impl_byVar_eq hl (by omega), Option.bind_some, Option.bind_some]
    have hb : s.getD (-1 - t[i]).toNat [] = bget s t[i] := rfl
    rw [hb]
    have hbl : (bget s t[i]).length <= 60 := hs _
    by_cases h0 : bget s t[i] = []
    ·simp only [h0, List.isEmpty_nil, if_true, show (out.length + 1) * 8 <= 140737488355328 by omega]
     exact fin [t[i]] (by simp) (by rw [if_pos hn]; unfold Tm.sig; rw [if_pos h0])
    ·have : ¬ (bget s t[i]).isEmpty = true := by simpa using h0
     simp only [this, if_false, show (out.length + (bget s t[i]).length) * 8 <= 140737488355328 by omega, if_true]
     exact fin (bget s t[i]) hbl (by rw [if_pos hn]; unfold Tm.sig; rw [if_neg h0])
   ·simp only [show 0 <= t[i] by omega, decide_true, if_true, Option.bind_some, List.isEmpty_nil, show (out.length + 1) * 8 <= 140737488355328 by omega]
    exact fin [t[i]] (by simp) (by rw [if_neg hn])
  ·simp only [show ¬ (i : Int) < t.length by omega, decide_false, Bool.false_eq_true, if_false, Option.map_some]
   refine .some ?_
   rw [List.take_of_length_le (by omega)] at h2
   simp only [Rnd, fillO, <- h2, h3, if_true, encO]
 exact key.eq
theorem F_spec_l2Filled_eq {s : Bd} {t : List Int} (hl : s.length <= 24) (hs : ∀ u ∈ s, u.length <= 60) (ht : t.length <= 60) (hx : ∀ x ∈ t, -24 <= x) : F_spec_l2Filled s t = some (encO (fillO (Tm.sig s) t)) := by
 have key : Okk True (F_spec_l2Filled s t) (· = encO (fillO (Tm.sig s) t)) := by
  unfold F_spec_l2Filled
  refine Okk.loop (fun q : List Int × Int => ∃ i : Nat, q.2 = i /\ i <= t.length /\ q.1 = sub (Tm.sig s) (t.take i) /\ q.1.length <= 60) (fun q : List Int × Int => t.length - q.2.toNat) ⟨0, rfl, by omega, by simp [sub], by simp⟩ ?_
  rintro ⟨out, _⟩ ⟨i, rfl, h1, h2, h3⟩
  simp only at h2 h3
  simp only [F_spec_l2Filled_l1]
  by_cases hi : i < t.length
  ·have hxi := hx _ (List.getElem_mem hi)
   simp only [show (i : Int) < t.length by omega, decide_true, if_true, show (0 : Int) <= i by omega, and_self, Int.toNat_natCast, getD_get hi, w64 (n := (i : Int) + 1) (by omega) (by omega)]
   have fin : ∀ u : List Int, u.length <= 60 -> u = (if t[i] < 0 then Tm.sig s t[i] else [t[i]]) -> Okk True (if decide (60 < ((out ++ u).length : Int)) = true then Option.map Sum.inr (some (([] : List Int), false)) else some (Sum.inl (out ++ u, (i : Int) + 1)))
    (Rnd (fun q : List Int × Int => ∃ i : Nat, q.2 = i /\ i <= t.length /\ q.1 = sub (Tm.sig s) (t.take i) /\ q.1.length <= 60) (fun q : List Int × Int => t.length - q.2.toNat) (· = encO (fillO (Tm.sig s) t)) (t.length - i)) := fun u hu e => by
    obtain ⟨h4, h5⟩ := fill_step hi h2 e
    by_cases h6 : 60 < (out ++ u).length
    ·simp only [show (60 : Int) < ((out ++ u).length : Int) by omega, decide_true, if_true, Option.map_some]
     refine .some ?_
     simp only [Rnd, h4 h6, encO]
    ·simp only [show ¬ (60 : Int) < ((out ++ u).length : Int) by omega, decide_false, Bool.false_eq_true, if_false]
     exact .some ⟨⟨i + 1, by simp, by omega, h5, by simp only; omega⟩, by simp; omega⟩
   by_cases hn : t[i] < 0
   ·have hi24 : ((-1 - t[i]).toNat : Int) = -1 - t[i] := by omega
    simp only [hn, decide_true, if_true, w64 (n := -1 - t[i]) (by omega) (by omega)]
    rw [<- hi24, F_spec_l2Gives_eq hs hl (by omega), Option.bind_some, hi24]
    have hb : s.getD (-1 - t[i]).toNat [] = bget s t[i] := rfl
    rw [hb]
    have hbl : (bget s t[i]).length <= 60 := bget_small hs
    by_cases h0 : bget s t[i] = []
    ·simp only [h0, if_true, List.length_singleton, show (out.length + 1) * 8 <= 140737488355328 by omega, show -1 - (-1 - t[i]) = t[i] by omega]
     exact fin [t[i]] (by simp) (by rw [if_pos hn]; unfold Tm.sig; rw [if_pos h0])
    ·simp only [h0, if_false, show (out.length + (bget s t[i]).length) * 8 <= 140737488355328 by omega, if_true]
     exact fin (bget s t[i]) hbl (by rw [if_pos hn]; unfold Tm.sig; rw [if_neg h0])
   ·simp only [hn, decide_false, Bool.false_eq_true, if_false, show (out.length + 1) * 8 <= 140737488355328 by omega, if_true]
    exact fin [t[i]] (by simp) (by rw [if_neg hn])
  ·simp only [show ¬ (i : Int) < t.length by omega, decide_false, Bool.false_eq_true, if_false, Option.map_some]
   refine .some ?_
   rw [List.take_of_length_le (by omega)] at h2
   simp only [Rnd, fillO, <- h2, h3, if_true, encO]
 exact key.eq
theorem F_slices_Concat_eq {xs : List (List Int)} (hl : xs.length <= 3) (hs : ∀ u ∈ xs, u.length <= 60) : F_slices_Concat_int64_int64 xs = some xs.flatten := by
 have hfl : ∀ i, i <= xs.length -> (xs.take i).flatten.length <= 60 * i := fun i => by
  induction i with
  | zero => simp
  | succ i ih =>
   intro hi
   have h1 : i < xs.length := by omega
   rw [List.take_add_one, List.getElem?_eq_getElem h1, List.flatten_append, List.length_append]
   have := ih (by omega)
   have := hs _ (List.getElem_mem h1)
   simp only [Option.toList_some, List.flatten_cons, List.flatten_nil, List.append_nil]; omega
 have tk : ∀ i (h1 : i < xs.length), (xs.take (i + 1)).flatten = (xs.take i).flatten ++ xs[i] := fun i h1 => by
  rw [List.take_add_one, List.getElem?_eq_getElem h1, List.flatten_append]; simp
 have key : Okk True (F_slices_Concat_int64_int64 xs) (· = xs.flatten) := by
  unfold F_slices_Concat_int64_int64
  refine Okk.loop (fun q : Int × Int => ∃ i : Nat, q.2 = i /\ i <= xs.length /\ q.1 = ((xs.take i).flatten.length : Int)) (fun q : Int × Int => xs.length - q.2.toNat) ⟨0, rfl, by omega, by simp⟩ ?_
  rintro ⟨_, _⟩ ⟨i, rfl, h1, rfl⟩
  simp only [F_slices_Concat_int64_int64_l1]
  have hb := hfl i h1
  by_cases hi : i < xs.length
  ·have hu := hs _ (List.getElem_mem hi)
   simp only [show (i : Int) < xs.length by omega, decide_true, if_true, show (0 : Int) <= i by omega, and_self, Int.toNat_natCast, getD_get hi, w64 (n := (i : Int) + 1) (by omega) (by omega),
    w64 (n := ((xs.take i).flatten.length : Int) + (xs[i].length : Int)) (by omega) (by omega), show ¬ ((xs.take i).flatten.length : Int) + (xs[i].length : Int) < 0 by omega, decide_false, Bool.false_eq_true, if_false]
   exact .some ⟨⟨i + 1, by simp, by omega, by rw [tk i hi]; simp⟩, by simp; omega⟩
  ·simp only [show ¬ (i : Int) < xs.length by omega, decide_false, Bool.false_eq_true, if_false, F_slices_Grow_int64_int64, show 0 <= ((xs.take i).flatten.length : Int) /\ ((xs.take i).flatten.length : Int) * 8 <= 140737488355328 by omega, and_self, if_true, Option.bind_some]
   refine Okk.inr ?_
   simp only [Rnd]
   refine Okk.loop (fun q : List Int × Int => ∃ i : Nat, q.2 = i /\ i <= xs.length /\ q.1 = (xs.take i).flatten) (fun q : List Int × Int => xs.length - q.2.toNat) ⟨0, rfl, by omega, by simp⟩ ?_
   rintro ⟨_, _⟩ ⟨j, rfl, h2, rfl⟩
   simp only [F_slices_Concat_int64_int64_l2]
   have hb := hfl j h2
   by_cases hj : j < xs.length
   ·have hu := hs _ (List.getElem_mem hj)
    simp only [show (j : Int) < xs.length by omega, decide_true, if_true, show (0 : Int) <= j by omega, and_self, Int.toNat_natCast, getD_get hj, w64 (n := (j : Int) + 1) (by omega) (by omega),
     show ((xs.take j).flatten.length + xs[j].length) * 8 <= 140737488355328 by omega]
    exact .some ⟨⟨j + 1, by simp, by omega, by rw [tk j hj]⟩, by simp; omega⟩
   ·simp only [show ¬ (j : Int) < xs.length by omega, decide_false, Bool.false_eq_true, if_false, Option.map_some]
    refine .some ?_
    simp only [Rnd]
    rw [List.take_of_length_le (by omega)]
 exact key.eq
def putO (a t : List Int) (i : Nat) (v : List Int) : Option (List Int) := if (putp a t i v).length <= 60 then some (putp a t i v) else none
theorem F_impl_put_eq {a p u s v : List Int} (ha : sigOk a = true) (hu : Wf a 1 u) (hm : ∀ x ∈ p ++ (u ++ s), -24 <= x) (hl : (p ++ (u ++ s)).length <= 60) (hv : v.length <= 60) :
 F_impl_put a (p ++ (u ++ s)) (p.length : Int) v = some (encO (putO a (p ++ (u ++ s)) p.length v)) := by
 have hd : (p ++ (u ++ s)).drop p.length = u ++ s := List.drop_left
 have hl' := hl
 simp only [List.length_append] at hl'
 unfold F_impl_put
 rw [if_pos (by simp only [List.length_append]; omega), F_impl_endAt_eq ha (by show List.length _ < _; omega) hm (by simp), Option.bind_some, endI_app hd hu]
 have e1 : ((p ++ (u ++ s)).length : Int) - s.length = ((p.length + u.length : Nat) : Int) := by simp; omega
 rw [e1, if_pos (by simp; omega), Int.toNat_natCast, Int.toNat_natCast, List.take_left, <- List.drop_drop, hd, List.drop_left]
 rw [F_slices_Concat_eq (by simp) (by intro w hw; simp at hw; rcases hw with rfl | rfl | rfl <;> omega), Option.bind_some]
 unfold putO
 rw [putp_eq hu]
 have e2 : [p, v, s].flatten = p ++ (v ++ s) := by simp
 rw [e2]
 by_cases h : (p ++ (v ++ s)).length <= 60
 ·simp only [show ¬ (60 : Int) < ((p ++ (v ++ s)).length : Int) by omega, decide_false, Bool.false_eq_true, if_false, h, if_true, encO]
 ·simp only [show (60 : Int) < ((p ++ (v ++ s)).length : Int) by omega, decide_true, if_true, h, if_false, encO]
theorem F_spec_l3Put_eq {a p u s v : List Int} (ha : sigOk a = true) (hu : Wf a 1 u) (hl : (p ++ (u ++ s)).length <= 60) (hv : v.length <= 60) :
 F_spec_l3Put a (p ++ (u ++ s)) (p.length : Int) v = some (encO (putO a (p ++ (u ++ s)) p.length v)) := by
 have hd : (p ++ (u ++ s)).drop p.length = u ++ s := List.drop_left
 have hl' := hl
 simp only [List.length_append] at hl'
 unfold F_spec_l3Put
 rw [if_pos (by simp only [List.length_append]; omega), Int.toNat_natCast, List.take_left, F_spec_l1Copy_eq (by show List.length _ < _; omega), Option.bind_some, if_pos (by omega), F_spec_l1End_eq ha (by show List.length _ < _; omega) (by simp), Option.bind_some, endI_app hd hu]
 have e1 : ((p ++ (u ++ s)).length : Int) - s.length = ((p.length + u.length : Nat) : Int) := by simp; omega
 rw [e1, if_pos (by simp; omega), Int.toNat_natCast, <- List.drop_drop, hd, List.drop_left, if_pos (by simp; omega), List.append_assoc]
 unfold putO
 rw [putp_eq hu]
 by_cases h : (p ++ (v ++ s)).length <= 60
 ·simp only [show ¬ (60 : Int) < ((p ++ (v ++ s)).length : Int) by omega, decide_false, Bool.false_eq_true, if_false, h, if_true, encO]
 ·simp only [show (60 : Int) < ((p ++ (v ++ s)).length : Int) by omega, decide_true, if_true, h, if_false, encO]
abbrev Sys := List Int × List (List Int × List Int)
theorem sysOk_iff {s : Sys} : sysOk s = true ↔ sigOk s.1 = true /\ s.2.length <= 12 /\ ∀ r ∈ s.2, ruleOk s.1 r = true := by simp [sysOk]
theorem ruleOk_iff {a : List Int} {r : List Int × List Int} : ruleOk a r = true ↔ termOk a r.1 = true /\ termOk a r.2 = true /\ 0 <= r.1.headD 0 /\ ∀ x ∈ r.2, x < 0 -> x ∈ r.1 := by
 simp only [ruleOk, varIn, Bool.and_eq_true, decide_eq_true_eq, List.all_eq_true]
def stepO (s : Sys) (t : List Int) (i rule : Nat) : Option (List Int) := stepp s.1 (s.2.getD rule default).1 (s.2.getD rule default).2 t i
theorem plain_small {b o : Bd} (hb : ∀ u ∈ b, u.length <= 60) (h : ∀ i, o.getD i [] = plainAt b i) : (∀ i, (o.getD i []).length <= 60) /\ ∀ u ∈ o, u.length <= 60 := by
 have h1 : ∀ i, (o.getD i []).length <= 60 := fun i => by
  rw [h]
  unfold plainAt
  split
  ·simp
  ·rw [List.getD_eq_getElem?_getD]
   cases hx : b[i]? with
   | none => simp
   | some u => exact hb u (List.mem_of_getElem? hx)
 refine ⟨h1, fun u hu => ?_⟩
 obtain ⟨i, hi, rfl⟩ := List.getElem_of_mem hu
 have := h1 i
 rwa [show o.getD i [] = o[i] from getD_get hi] at this
theorem fill_plain {b o : Bd} (h : ∀ i, o.getD i [] = plainAt b i) (t : List Int) : fillO (Tm.sig o) t = fillO (Tm.sig b) t := by
 unfold fillO
 rw [sub_congr fun x _ hx => plain_sig h hx]
theorem stepp_eq {a l r p u s : List Int} (hu : Wf a 1 u) : stepp a l r (p ++ (u ++ s)) p.length = (mat a l u none24).bind fun b => (fillO (Tm.sig b) r).bind fun v => putO a (p ++ (u ++ s)) p.length v := by
 unfold stepp
 rw [at_eq hu]
 congr 1
 funext b
 unfold fillO putO
 by_cases h1 : (sub (Tm.sig b) r).length <= 60
 ·rw [if_pos h1, Option.bind_some]
  by_cases h2 : (putp a (p ++ (u ++ s)) p.length (sub (Tm.sig b) r)).length <= 60
  ·rw [if_pos ⟨h1, h2⟩, if_pos h2]
  ·rw [if_neg (fun h => h2 h.2), if_neg h2]
 ·rw [if_neg (fun h => h1 h.1), if_neg h1]; rfl
theorem F_impl_step_eq {s : Sys} {t : List Int} {i rule : Nat} (hs : sysOk s = true) (ht : termOk s.1 t = true) (hi : i < t.length) (hr : rule < s.2.length) : F_impl_step s t i rule = some (encO (stepO s t i rule)) := by
 obtain ⟨ha, _, hrs⟩ := sysOk_iff.1 hs
 obtain ⟨_, h1, h2, hw⟩ := termOk_iff.1 ht
 obtain ⟨p, u, q, rfl, rfl, hu⟩ := hw.place hi
 have hrule := ruleOk_iff.1 (hrs _ (getD_mem hr))
 obtain ⟨hL, hR, _, hv⟩ := hrule
 obtain ⟨_, hL1, hL2, hL3⟩ := termOk_iff.1 hL
 obtain ⟨_, hR1, hR2, hR3⟩ := termOk_iff.1 hR
 have hm : ∀ x ∈ p ++ (u ++ q), -24 <= x := fun x hx => (hw.all x hx).1
 have hul : u.length <= 60 := by simp at h2; omega
 unfold F_impl_step stepO
 rw [if_pos (by omega), F_impl_subAt_eq ha (by show List.length _ < _; omega) hm List.drop_left hu, Option.bind_some, Int.toNat_natCast]
 obtain ⟨o, e1, e2⟩ := (F_impl_match_ok ha hL3 hu hL2 hul).get
 rw [e1, Option.bind_some, stepp_eq hu]
 cases hmat : mat s.1 (s.2.getD rule default).1 u none24 with
 | none =>
  rw [hmat] at e2
  simp only [MRes] at e2
  simp only [e2, Bool.false_eq_true, if_false, Option.bind_none, encO]
 | some b =>
  rw [hmat] at e2
  obtain ⟨e3, e4, e5⟩ := e2
  obtain ⟨hb1, hb2⟩ := mat_small hmat (by intro u hu; simp [none24] at hu; subst hu; simp) hul (by simp [none24])
  obtain ⟨hp1, hp2⟩ := plain_small hb2 e5
  rw [if_pos e3, if_pos (by omega), F_impl_fill_eq e4 hp1 hR2 (fun x hx => (hR3.all x hx).1), Option.bind_some, Option.bind_some, fill_plain e5]
  cases hf : fillO (Tm.sig b) (s.2.getD rule default).2 with
  | none => simp [encO]
  | some v =>
   have hv60 : v.length <= 60 := by
    unfold fillO at hf
    split at hf
    ·rename_i h; cases hf; exact h
    ·cases hf
   simp only [encO, if_true, Option.bind_some]
   rw [F_impl_put_eq ha hu hm h2 hv60]; rfl
theorem F_spec_l7Step_eq {s : Sys} {t : List Int} {i rule : Nat} (hs : sysOk s = true) (ht : termOk s.1 t = true) (hi : i < t.length) (hr : rule < s.2.length) : F_spec_l7Step s t i rule = some (encO (stepO s t i rule)) := by
 obtain ⟨ha, _, hrs⟩ := sysOk_iff.1 hs
 obtain ⟨_, h1, h2, hw⟩ := termOk_iff.1 ht
 obtain ⟨p, u, q, rfl, rfl, hu⟩ := hw.place hi
 have hrule := ruleOk_iff.1 (hrs _ (getD_mem hr))
 obtain ⟨hL, hR, _, hv⟩ := hrule
 obtain ⟨_, hL1, hL2, hL3⟩ := termOk_iff.1 hL
 obtain ⟨_, hR1, hR2, hR3⟩ := termOk_iff.1 hR
 have hul : u.length <= 60 := by simp at h2; omega
 unfold F_spec_l7Step stepO
 rw [if_pos (by omega), F_spec_l1Sub_eq ha (by show List.length _ < _; omega) List.drop_left hu, Option.bind_some, Int.toNat_natCast]
 obtain ⟨o, e1, e2⟩ := (F_spec_l4Match_ok ha hL3 hu hL2 hul).get
 rw [e1, Option.bind_some, stepp_eq hu]
 cases hmat : mat s.1 (s.2.getD rule default).1 u none24 with
 | none =>
  rw [hmat] at e2
  simp only [MRes] at e2
  simp only [e2, Bool.false_eq_true, if_false, Option.bind_none, encO]
 | some b =>
  rw [hmat] at e2
  obtain ⟨e3, e4, e5⟩ := e2
  obtain ⟨hb1, hb2⟩ := mat_small hmat (by intro u hu; simp [none24] at hu; subst hu; simp) hul (by simp [none24])
  obtain ⟨hp1, hp2⟩ := plain_small hb2 e5
  rw [if_pos e3, F_spec_l2Filled_eq e4 hp2 hR2 (fun x hx => (hR3.all x hx).1), Option.bind_some, Option.bind_some, fill_plain e5]
  cases hf : fillO (Tm.sig b) (s.2.getD rule default).2 with
  | none => simp [encO]
  | some v =>
   have hv60 : v.length <= 60 := by
    unfold fillO at hf
    split at hf
    ·rename_i h; cases hf; exact h
    ·cases hf
   simp only [encO, if_true, Option.bind_some]
   rw [F_spec_l3Put_eq ha hu h2 hv60]; rfl
def stepAtO (s : Sys) (t : List Int) (i rule : Int) : Option (List Int) :=
 if (sysOk s = true /\ termOk s.1 t = true) /\ (0 <= i /\ i < t.length) /\ (0 <= rule /\ rule < s.2.length) then stepO s t i.toNat rule.toNat else none
theorem F_spec_l7Right_eq (s : Sys) (t : List Int) : F_spec_l7Right s t = some (sysOk s && termOk s.1 t) := by
 unfold F_spec_l7Right
 rw [F_spec_SystemOk_eq, Option.bind_some]
 cases h1 : sysOk s with
 | false => simp
 | true => simp [F_spec_TermOk_eq]
theorem stepAtO_small {s : Sys} {t u : List Int} {i rule : Int} (h : stepAtO s t i rule = some u) : u.length <= 60 := by
 unfold stepAtO at h
 split at h
 ·unfold stepO stepp at h
  obtain ⟨b, _, h⟩ := Option.bind_eq_some_iff.1 h
  split at h
  ·rename_i hc; cases h; exact hc.2
  ·cases h
 ·cases h
abbrev Stp := Int × Int × List Int
end Go.Proofs.YtglpjlpmijfocaaGreat
namespace Go.Proofs.YtglpjlpmijfocaaGreat
open Go Abx Tm
abbrev Mvv := Int × Int × Bool × List Int
abbrev Chn := List Int × List Mvv
abbrev Eqq := List Int × List Int
def eqOkB (a : List Int) (e : Eqq) : Bool := termOk a e.1 && termOk a e.2
def eqsOkB (a : List Int) (eqs : List Eqq) : Bool := sigOk a && (decide (eqs.length <= 12) && eqs.all (eqOkB a))
theorem eqOk_iff {a : List Int} {e : Eqq} : eqOkB a e = true ↔ termOk a e.1 = true /\ termOk a e.2 = true := by simp [eqOkB]
theorem eqsOk_iff {a : List Int} {eqs : List Eqq} : eqsOkB a eqs = true ↔ sigOk a = true /\ eqs.length <= 12 /\ ∀ e ∈ eqs, eqOkB a e = true := by simp [eqsOkB]
def sideF (eqs : List Eqq) (m : Mvv) : List Int := if m.2.2.1 = true then (eqs.getD m.1.toNat default).2 else (eqs.getD m.1.toNat default).1
def sideO (eqs : List Eqq) (m : Mvv) : List Int := if m.2.2.1 = true then (eqs.getD m.1.toNat default).1 else (eqs.getD m.1.toNat default).2
def inB (eqs : List Eqq) (t : List Int) (m : Mvv) : Prop := (0 <= m.1 /\ m.1 < eqs.length) /\ (0 <= m.2.1 /\ m.2.1 < t.length) /\ m.2.1 < m.2.2.2.length
instance (eqs : List Eqq) (t : List Int) (m : Mvv) : Decidable (inB eqs t m) := by unfold inB; infer_instance
def moveB (a : List Int) (eqs : List Eqq) (t : List Int) (m : Mvv) : Bool := decide (inB eqs t m) && (termOk a m.2.2.2 && mvB a (sideF eqs m) (sideO eqs m) t m.2.2.2 m.2.1.toNat)
theorem moveB_to {a : List Int} {eqs : List Eqq} {t : List Int} {m : Mvv} (h : moveB a eqs t m = true) : termOk a m.2.2.2 = true := by
 simp only [moveB, Bool.and_eq_true] at h; exact h.2.1
theorem moveB_iff {a : List Int} {eqs : List Eqq} {t : List Int} {m : Mvv} (he : eqsOkB a eqs = true) (ht : termOk a t = true) :
 moveB a eqs t m = true ↔ (0 <= m.1 /\ m.1 < eqs.length) /\ 0 <= m.2.1 /\ termOk a m.2.2.2 = true /\ Mv a (sideF eqs m) (sideO eqs m) t m.2.2.2 m.2.1.toNat := by
 obtain ⟨ha, hel, hall⟩ := eqsOk_iff.1 he
 obtain ⟨_, t1, t2, t3⟩ := termOk_iff.1 ht
 have sides : (0 <= m.1 /\ m.1 < eqs.length) -> Wf a 1 (sideF eqs m) /\ Wf a 1 (sideO eqs m) := fun h => by
  obtain ⟨hL, hR⟩ := eqOk_iff.1 (hall _ (getD_mem (show m.1.toNat < eqs.length by omega)))
  unfold sideF sideO
  cases m.2.2.1 with
  | true => exact ⟨(termOk_iff.1 hR).2.2.2, (termOk_iff.1 hL).2.2.2⟩
  | false => exact ⟨(termOk_iff.1 hL).2.2.2, (termOk_iff.1 hR).2.2.2⟩
 simp only [moveB, Bool.and_eq_true, decide_eq_true_eq]
 unfold inB
 constructor
 ·rintro ⟨⟨h1, h2, h3⟩, h4, h5⟩
  exact ⟨h1, h2.1, h4, (mvB_iff (sides h1).1 (sides h1).2 t3 (termOk_iff.1 h4).2.2.2 (by omega) (by omega)).1 h5⟩
 ·rintro ⟨h1, h2, h4, h5⟩
  have h5' := h5
  obtain ⟨p, s, σ, hp, e1, e2, hσ⟩ := h5'
  have l1 := ((sides h1).1.sub fun x _ hx => hσ x hx).len
  have l2 := ((sides h1).2.sub fun x _ hx => hσ x hx).len
  have e1 := congrArg List.length e1
  have e2 := congrArg List.length e2
  simp only [List.length_append] at e1 e2
  exact ⟨⟨h1, ⟨h2, by omega⟩, by omega⟩, h4, (mvB_iff (sides h1).1 (sides h1).2 t3 (termOk_iff.1 h4).2.2.2 (by omega) (by omega)).2 h5⟩
theorem sys_eqs {s : Sys} (h : sysOk s = true) : eqsOkB s.1 s.2 = true := by
 obtain ⟨h1, h2, h3⟩ := sysOk_iff.1 h
 exact eqsOk_iff.2 ⟨h1, h2, fun e he => let h := ruleOk_iff.1 (h3 e he); eqOk_iff.2 ⟨h.1, h.2.1⟩⟩
theorem stepAt_move {s : Sys} {t u : List Int} {x : Stp} (h : stepAtO s t x.1 x.2.1 = some u) (hu : (u == x.2.2) = true) : moveB s.1 s.2 t (x.2.1, x.1, false, x.2.2) = true := by
 have hl := stepAtO_small h
 unfold stepAtO at h
 split at h
 ·rename_i hc
  obtain ⟨⟨hs, ht⟩, hi, hr⟩ := hc
  obtain rfl : u = x.2.2 := by simpa using hu
  obtain ⟨_, _, h3⟩ := sysOk_iff.1 hs
  obtain ⟨hL, hR, _, hv⟩ := ruleOk_iff.1 (h3 _ (getD_mem (show x.2.1.toNat < s.2.length by omega)))
  have wL := (termOk_iff.1 hL).2.2.2
  have wR := (termOk_iff.1 hR).2.2.2
  obtain ⟨ha, _, _, wt⟩ := termOk_iff.1 ht
  obtain ⟨hm, _⟩ := stepp_mv wL wR wt (show x.1.toNat < t.length by omega) hv h
  have wu := hm.wf wL wR wt
  exact (moveB_iff (sys_eqs hs) ht).2 ⟨hr, hi.1, termOk_iff.2 ⟨ha, wu.len, hl, wu⟩, hm⟩
 ·cases h
end Go.Proofs.YtglpjlpmijfocaaGreat
namespace Go.Proofs.YtglpjlpmijfocaaGreat
open Go Abx Tm
def firstI {α : Type} (p : α -> Bool) (xs : List α) : Int := match xs.findIdx? p with | some j => (j : Int) | none => -1
theorem loop_first {α : Type} [Inhabited α] {xs : List α} {p : α -> Bool} {f : Int -> Option (Int ⊕ Int)}
 (h : ∀ (i : Nat) (x : α), i < xs.length -> x ∈ xs -> xs.getD i default = x -> f (i : Int) = some (if p x = true then .inr (i : Int) else .inl ((i : Int) + 1)))
 (he : f xs.length = some (.inr (-1))) : loopC f 0 = some (firstI p xs) := by
 have key : ∀ (k i : Nat), i + k = xs.length -> loopC f (i : Int) = some (match (xs.drop i).findIdx? p with | some j => ((i + j : Nat) : Int) | none => -1) := by
  intro k
  induction k with
  | zero =>
   intro i hi
   obtain rfl : i = xs.length := by omega
   rw [loopC_inr he, List.drop_length]; rfl
  | succ k ih =>
   intro i hi
   have hlt : i < xs.length := by omega
   have e := h i _ hlt (List.getElem_mem hlt) (getD_get hlt)
   rw [List.drop_eq_getElem_cons hlt, List.findIdx?_cons]
   cases hp : p (xs[i]) with
   | true => rw [hp] at e; rw [loopC_inr e]; simp
   | false =>
    rw [hp] at e
    rw [loopC_inl e, show ((i : Int) + 1) = ((i + 1 : Nat) : Int) by omega, ih (i + 1) (by omega)]
    cases hf : (xs.drop (i + 1)).findIdx? p with
    | none => simp
    | some j =>
     simp only [Bool.false_eq_true, if_false, Option.map_some]
     show some (((i + 1 + j : Nat) : Int)) = some (((i + (j + 1) : Nat) : Int))
     rw [show i + 1 + j = i + (j + 1) by omega]
 have := key xs.length 0 (by omega)
 simp only [List.drop_zero, Nat.zero_add] at this
 exact this
theorem loop_filter {γ : Type} {n : Nat} {p : Nat -> Bool} {g : Nat -> Int} {c : γ} {f : List Int × Int -> Option ((List Int × Int) ⊕ γ)}
 (h : ∀ (i : Nat) (out : List Int), i < n -> out.length <= i -> f (out, (i : Int)) = some (.inl (if p i = true then out ++ [g i] else out, (i : Int) + 1)))
 (he : f (((List.range n).filter p).map g, (n : Int)) = some (.inr c)) : loopC f ([], 0) = some c := by
 have key : ∀ (k i : Nat), i + k = n -> loopC f (((List.range i).filter p).map g, (i : Int)) = some c := by
  intro k
  induction k with
  | zero => intro i hi; obtain rfl : i = n := (by omega); exact loopC_inr he
  | succ k ih =>
   intro i hi
   have hl : (((List.range i).filter p).map g).length <= i := by
    rw [List.length_map]
    exact Nat.le_trans (List.length_filter_le _ _) (by simp)
   rw [loopC_inl (h i _ (by omega) hl), show ((i : Int) + 1) = ((i + 1 : Nat) : Int) by omega]
   have e : (if p i = true then ((List.range i).filter p).map g ++ [g i] else ((List.range i).filter p).map g) = ((List.range (i + 1)).filter p).map g := by
    rw [List.range_succ, List.filter_append, List.map_append]
    cases hp : p i <;> simp [hp]
   rw [e]
   exact ih (i + 1) (by omega)
 exact key n 0 (by omega)
def ruleI (s : Sys) (u : List Int) : Int := firstI (fun r => (mat s.1 r.1 u none24).isSome) s.2
theorem firstI_lt {α : Type} {p : α -> Bool} {xs : List α} : -1 <= firstI p xs /\ firstI p xs < xs.length := by
 unfold firstI
 cases h : xs.findIdx? p with
 | none => simp only; omega
 | some j => have := (List.findIdx?_eq_some_iff_getElem.1 h).1; simp only; omega
theorem firstI_none {α : Type} {p : α -> Bool} {xs : List α} (h : ∀ x ∈ xs, p x = false) : firstI p xs = -1 := by
 unfold firstI
 rw [List.findIdx?_eq_none_iff.2 h]
theorem firstI_at {α : Type} {p : α -> Bool} {xs : List α} {x : α} (hx : x ∈ xs) (hp : p x = true) : 0 <= firstI p xs := by
 unfold firstI
 cases h : xs.findIdx? p with
 | none => have := List.findIdx?_eq_none_iff.1 h x hx; rw [hp] at this; cases this
 | some j => simp only; omega
theorem ruleI_var {s : Sys} (hs : sysOk s = true) {y : Int} {u : List Int} (hy : y < 0) : ruleI s (y :: u) = -1 := by
 obtain ⟨_, _, hr⟩ := sysOk_iff.1 hs
 refine firstI_none fun r hm => ?_
 obtain ⟨hL, _, h0, _⟩ := ruleOk_iff.1 (hr r hm)
 obtain ⟨_, _, _, w⟩ := termOk_iff.1 hL
 obtain ⟨n, p, e, _, _⟩ := w.pos
 rw [e] at h0 ⊢
 simp only [List.headD_cons] at h0
 rw [mat_sym (by omega), if_neg (by omega)]; rfl
theorem at_place {a t : List Int} (ht : termOk a t = true) {i : Nat} (hi : i < t.length) : ∃ q, t.drop i = at' a t i ++ q /\ Wf a 1 (at' a t i) /\ (at' a t i).length <= 60 /\ ∃ u, at' a t i = t[i] :: u := by
 obtain ⟨_, _, t2, t3⟩ := termOk_iff.1 ht
 obtain ⟨p, u, q, e, hp, hu⟩ := t3.place hi
 have ha : at' a t i = u := by rw [e, <- hp]; exact at_eq hu
 have hd : t.drop i = u ++ q := by rw [e, <- hp]; exact List.drop_left
 rw [ha]
 refine ⟨q, hd, hu, ?_, ?_⟩
 ·have := congrArg List.length e; simp only [List.length_append] at this; omega
 ·obtain ⟨y, r, e2, _, _⟩ := hu.pos
  subst e2
  rw [List.drop_eq_getElem_cons hi, List.cons_append] at hd
  exact ⟨r, by rw [(List.cons.inj hd).1]⟩
theorem match_isSome {a p t : List Int} {r : Bd × Bool} (h : MRes (mat a p t none24) r) : r.2 = (mat a p t none24).isSome := by
 cases hm : mat a p t none24 with
 | none => rw [hm] at h; exact h
 | some b => rw [hm] at h; exact h.1
def isR (s : Sys) (t : List Int) (i : Nat) : Bool := decide (0 <= ruleI s (at' s.1 t i))
def posR (s : Sys) (t : List Int) : List Int := ((List.range t.length).filter (isR s t)).map (fun i : Nat => (i : Int))
theorem posR_mem {s : Sys} {t : List Int} {x : Int} (h : x ∈ posR s t) : ∃ i : Nat, x = i /\ i < t.length /\ 0 <= ruleI s (at' s.1 t i) := by
 obtain ⟨i, hi, rfl⟩ := List.mem_map.1 h
 obtain ⟨h1, h2⟩ := List.mem_filter.1 hi
 exact ⟨i, rfl, List.mem_range.1 h1, of_decide_eq_true h2⟩
theorem posR_len {s : Sys} {t : List Int} : (posR s t).length <= t.length := by
 unfold posR
 rw [List.length_map]
 exact Nat.le_trans (List.length_filter_le _ _) (by simp)
theorem posR_sorted (s : Sys) (t : List Int) : (posR s t).Pairwise (· < ·) := by
 unfold posR
 rw [List.pairwise_map]
 exact (List.pairwise_lt_range.filter _).imp fun h => by omega
theorem posR_nil {s : Sys} {t : List Int} : posR s t = [] ↔ ∀ i, i < t.length -> ruleI s (at' s.1 t i) = -1 := by
 constructor
 ·intro h i hi
  have h1 := (firstI_lt (p := fun r : List Int × List Int => (mat s.1 r.1 (at' s.1 t i) none24).isSome) (xs := s.2)).1
  by_cases h0 : 0 <= ruleI s (at' s.1 t i)
  ·have : (i : Int) ∈ posR s t := List.mem_map.2 ⟨i, List.mem_filter.2 ⟨List.mem_range.2 hi, decide_eq_true h0⟩, rfl⟩
   rw [h] at this; cases this
  ·have h1' : -1 <= ruleI s (at' s.1 t i) := h1
   omega
 ·intro h
  refine List.eq_nil_iff_forall_not_mem.2 fun x hx => ?_
  obtain ⟨i, rfl, hi, h0⟩ := posR_mem hx
  rw [h i hi] at h0; omega
def keepB (s : Sys) (t r : List Int) (k : Nat) : Bool := decide (k + 1 = r.length) || decide (endI s.1 t (r.getD k default).toNat <= r.getD (k + 1) default)
def inmL (s : Sys) (t : List Int) : List Int := ((List.range (posR s t).length).filter (keepB s t (posR s t))).map fun k => (posR s t).getD k default
theorem inmL_ne {s : Sys} {t : List Int} (h : posR s t ≠ []) : 0 < (inmL s t).length := by
 have h0 : 0 < (posR s t).length := List.length_pos_iff.2 h
 have : (posR s t).getD ((posR s t).length - 1) default ∈ inmL s t :=
  List.mem_map.2 ⟨(posR s t).length - 1, List.mem_filter.2 ⟨List.mem_range.2 (by omega), by unfold keepB; rw [decide_eq_true (by omega)]; rfl⟩, rfl⟩
 exact List.length_pos_iff.2 fun e => by rw [e] at this; cases this
theorem inmL_mem {s : Sys} {t : List Int} {x : Int} (h : x ∈ inmL s t) : x ∈ posR s t := by
 obtain ⟨k, hk, rfl⟩ := List.mem_map.1 h
 exact getD_mem (List.mem_range.1 (List.mem_filter.1 hk).1)
def pickI (s : Sys) (t : List Int) : Int := if posR s t = [] then -1 else (inmL s t).getD 0 default
theorem pickI_at {s : Sys} {t : List Int} (h : posR s t ≠ []) : ∃ i : Nat, pickI s t = i /\ i < t.length /\ 0 <= ruleI s (at' s.1 t i) := by
 unfold pickI
 rw [if_neg h]
 exact posR_mem (inmL_mem (getD_mem (inmL_ne h)))
theorem ruleI_lt (s : Sys) (u : List Int) : ruleI s u < s.2.length := firstI_lt.2
theorem stepO_sm {s : Sys} {t u : List Int} {i rule : Nat} (h : stepO s t i rule = some u) : u.length <= 60 := by
 unfold stepO stepp at h
 obtain ⟨b, _, h⟩ := Option.bind_eq_some_iff.1 h
 split at h
 ·rename_i hc; cases h; exact hc.2
 ·cases h
def wlk (s : Sys) : Nat -> List Int -> List Stp × Bool
 | 0, t => ([], decide (posR s t = []))
 | n + 1, t => if posR s t = [] then ([], true) else
  match stepO s t (pickI s t).toNat (ruleI s (at' s.1 t (pickI s t).toNat)).toNat with
  | none => ([], false)
  | some u => ((pickI s t, ruleI s (at' s.1 t (pickI s t).toNat), u) :: (wlk s n u).1, (wlk s n u).2)
theorem pick_step {s : Sys} {t u : List Int} (hs : sysOk s = true) (ht : termOk s.1 t = true) (h : posR s t ≠ []) (hu : stepO s t (pickI s t).toNat (ruleI s (at' s.1 t (pickI s t).toNat)).toNat = some u) :
 stepAtO s t (pickI s t) (ruleI s (at' s.1 t (pickI s t).toNat)) = some u /\ termOk s.1 u = true := by
 obtain ⟨i, e, hi, h0⟩ := pickI_at h
 have h1 := ruleI_lt s (at' s.1 t (pickI s t).toNat)
 have h0' : 0 <= ruleI s (at' s.1 t (pickI s t).toNat) := by rw [e, Int.toNat_natCast]; exact h0
 have hst : stepAtO s t (pickI s t) (ruleI s (at' s.1 t (pickI s t).toNat)) = some u := by
  unfold stepAtO
  rw [if_pos ⟨⟨hs, ht⟩, ⟨by omega, by omega⟩, h0', h1⟩, hu]
 exact ⟨hst, moveB_to (m := (ruleI s (at' s.1 t (pickI s t).toNat), pickI s t, false, u)) (stepAt_move (x := (pickI s t, ruleI s (at' s.1 t (pickI s t).toNat), u)) hst (by simp))⟩
end Go.Proofs.YtglpjlpmijfocaaGreat
namespace Go.Proofs.YtglpjlpmijfocaaGreat
open Go Abx Tm
theorem loop_st {σ γ : Type} {n : Nat} (st : Nat -> σ) {c : γ} {f : σ -> Option (σ ⊕ γ)} (h : ∀ i, i < n -> f (st i) = some (.inl (st (i + 1)))) (he : f (st n) = some (.inr c)) : loopC f (st 0) = some c := by
 have key : ∀ k i, i + k = n -> loopC f (st i) = some c := by
  intro k
  induction k with
  | zero =>
   intro i hi; obtain rfl : i = n := by omega
   exact loopC_inr he
  | succ k ih => intro i hi; rw [loopC_inl (h i (by omega))]; exact ih (i + 1) (by omega)
 exact key n 0 (by omega)
theorem drop_cons {α : Type} [Inhabited α] {a : List α} {i : Nat} {x : α} {r : List α} (h : a.drop i = x :: r) : i < a.length /\ a.getD i default = x /\ a.drop (i + 1) = r := by
 have hlt : i < a.length := Nat.lt_of_not_le fun hn => by rw [List.drop_of_length_le hn] at h; cases h
 rw [List.drop_eq_getElem_cons hlt] at h
 simp only [List.cons.injEq] at h
 exact ⟨hlt, by rw [getD_get hlt, h.1], h.2⟩
end Go.Proofs.YtglpjlpmijfocaaGreat
namespace Go.Proofs.YtglpjlpmijfocaaGreat
open Go Abx Tm
def grB (a t : List Int) : Bool := termOk a t && t.all fun x => decide (0 <= x)
theorem F_spec_l1Into_ok {l : List Int} (hs : Small l) (n : Int) : Okk True (F_spec_l1Into l n) fun o => 0 < o.length /\ o.length <= l.length + 1 := by
 have hs' : l.length < 1099511627776 := hs
 unfold F_spec_l1Into
 refine Okk.loop (fun k : Int => ∃ i : Nat, k = (i : Int) /\ i <= l.length) (fun k : Int => l.length - k.toNat) ⟨0, rfl, by omega⟩ ?_
 rintro _ ⟨i, rfl, hi⟩
 have cp := F_spec_l1Copy_eq (l := l.take i) (by show (l.take i).length < _; simp; omega)
 unfold F_spec_l1Into_l1
 have h1 : (0 : Int) <= i := by omega
 have h2 : (i : Int) <= l.length := by omega
 have hm : min i l.length = i := by omega
 have b1 : (i + 1) * 8 <= 140737488355328 := by omega
 have b2 : (i + 1 + (l.length - i)) * 8 <= 140737488355328 := by omega
 have b3 : (i + (1 + (l.length - i))) * 8 <= 140737488355328 := by omega
 have b4 : (i + (l.length - i + 1)) * 8 <= 140737488355328 := by omega
 by_cases hlt : i < l.length
 ·have hlt' : (i : Int) < l.length := by omega
  simp only [hlt', decide_true, if_true, h1, h2, and_self, Int.toNat_natCast, cp, Option.bind_some, w64 (n := (i : Int) + 1) (by omega) (by omega), List.length_append, List.length_take, List.length_drop, List.length_singleton, hm, b1, b2]
  by_cases hn : l.getD i default < n
  ·simp only [hn, decide_true, if_true]
   exact .some ⟨⟨i + 1, by simp, by omega⟩, by simp; omega⟩
  ·simp only [hn, decide_false, Bool.false_eq_true, if_false]
   by_cases he : (l.getD i default == n) = true
   ·simp only [he, if_true, Option.map_some]
    exact .some ⟨by omega, by omega⟩
   ·simp only [he, if_false, Option.map_some]
    exact .some ⟨by simp; omega, by simp; omega⟩
 ·have hlt' : ¬ (i : Int) < l.length := by omega
  simp only [hlt', decide_false, Bool.false_eq_true, if_false, if_true, h1, h2, and_self, Int.toNat_natCast, cp, Option.bind_some, List.length_append, List.length_take, List.length_drop, List.length_singleton, hm, b1, b2, Option.map_some]
  exact .some ⟨by simp; omega, by simp; omega⟩
end Go.Proofs.YtglpjlpmijfocaaGreat
namespace Go.Proofs.YtglpjlpmijfocaaGreat
open Go Abx Tm
theorem F_spec_LessTerm_eq {a b : List Int} (ha : Small a) : F_spec_LessTerm a b = some (decide (cmpT a b < 0)) := by
 have ha' : a.length < 1099511627776 := ha
 unfold F_spec_LessTerm cmpT
 by_cases hl : a.length = b.length
 ·rw [if_neg (by simp [hl]), if_pos hl]
  have := loopC_is (f := F_spec_LessTerm_l1 a b) (fun k => some (decide (lexI (a.drop k.toNat) (b.drop k.toNat) < 0))) (fun k : Int => ∃ i : Nat, k = (i : Int) /\ i <= a.length) (fun k : Int => a.length - k.toNat) ?_ 0 ⟨0, rfl, by omega⟩
  ·simpa using this
  ·rintro _ ⟨i, rfl, hi⟩
   by_cases hlt : i < a.length
   ·have hb : i < b.length := by omega
    simp only [F_spec_LessTerm_l1, show (i : Int) < a.length by omega, show (i : Int) < b.length by omega, decide_true, if_true, show (0 : Int) <= i by omega, and_self, Int.toNat_natCast, getD_get hlt, getD_get hb, w64 (n := (i : Int) + 1) (by omega) (by omega), Option.map_some]
    simp only [List.drop_eq_getElem_cons hlt, List.drop_eq_getElem_cons hb]
    by_cases he : a[i] = b[i]
    ·refine .inl ⟨((i + 1 : Nat) : Int), by simp [he], ⟨i + 1, rfl, by omega⟩, by simp; omega, ?_⟩
     simp [lexI, he]
    ·refine .inr ⟨_, by simp [he]; rfl, ?_⟩
     simp only [lexI]
     rcases Int.lt_or_gt_of_ne he with h | h
     ·simp [h]
     ·simp [h, show ¬ a[i] < b[i] by omega]
   ·obtain rfl : i = a.length := by omega
    refine .inr ⟨false, by simp [F_spec_LessTerm_l1], ?_⟩
    simp only [Int.toNat_natCast, List.drop_length, show b.drop a.length = [] by rw [hl]; exact List.drop_length, lexI_self]
    rfl
 ·rw [if_pos (by simp; omega), if_neg hl]
  refine congrArg some (decide_eq_decide.2 ?_)
  omega
abbrev Srt (l : List (List Int)) : Prop := l.Pairwise fun a b => cmpT a b <= 0
theorem insert_ok {l : List (List Int)} {t : List Int} (hl : l.length < 1099511627776) (ht : Small t) (hs : Srt l) : Okk True (F_spec_l28Insert l t) fun o => o.Perm (t :: l) /\ Srt o := by
 unfold F_spec_l28Insert
 refine Okk.loop (fun k : Int => ∃ i : Nat, k = (i : Int) /\ i <= l.length /\ ∀ x ∈ l.drop i, cmpT t x <= 0) (fun k : Int => k.toNat) ⟨l.length, rfl, by omega, by simp⟩ ?_
 rintro _ ⟨i, rfl, hi, hd⟩
 have fin : (∀ x ∈ l.take i, cmpT x t <= 0) -> (l.take i ++ [t] ++ l.drop i).Perm (t :: l) /\ Srt (l.take i ++ [t] ++ l.drop i) := fun h => by
  constructor
  ·rw [List.append_assoc, List.singleton_append]
   refine List.perm_middle.trans ?_
   rw [List.take_append_drop]
  ·have hs' := hs
   rw [<- List.take_append_drop i l, Srt, List.pairwise_append] at hs'
   rw [Srt, List.append_assoc, List.singleton_append, List.pairwise_append]
   refine ⟨hs'.1, List.pairwise_cons.2 ⟨hd, hs'.2.1⟩, fun x hx y hy => ?_⟩
   rcases List.mem_cons.1 hy with rfl | hy
   ·exact h x hx
   ·exact hs'.2.2 x hx y hy
 have hm : min i l.length = i := by omega
 have b1 : (0 + i) * 24 <= 140737488355328 := by omega
 have b2 : (i + 1) * 24 <= 140737488355328 := by omega
 have b3 : (i + 1 + (l.length - i)) * 24 <= 140737488355328 := by omega
 unfold F_spec_l28Insert_l1
 have h0 : (0 : Int) <= i := by omega
 have h1 : (i : Int) <= l.length := by omega
 simp only [h0, h1, and_self, if_true, Int.toNat_natCast, List.length_append, List.length_take, List.length_drop, List.length_singleton, hm, b1, b2, b3]
 by_cases hz : (0 : Int) < i
 ·have hw : IntKind.i64.wrap ((i : Int) - 1) = ((i - 1 : Nat) : Int) := by rw [w64 (by omega) (by omega)]; omega
  have hlt : i - 1 < l.length := by omega
  simp only [hz, decide_true, if_true, hw, show (0 : Int) <= ((i - 1 : Nat) : Int) by omega, show ((i - 1 : Nat) : Int) < l.length by omega, and_self, Int.toNat_natCast, getD_get hlt, F_spec_LessTerm_eq ht, Option.bind_some]
  by_cases hc : cmpT t l[i - 1] < 0
  ·simp only [hc, decide_true, if_true]
   refine .some ⟨⟨i - 1, rfl, by omega, fun x hx => ?_⟩, by simp; omega⟩
   rw [List.drop_eq_getElem_cons hlt, show i - 1 + 1 = i by omega] at hx
   rcases List.mem_cons.1 hx with rfl | hx
   ·omega
   ·exact hd x hx
  ·simp only [hc, decide_false, Bool.false_eq_true, if_false, Option.map_some]
   refine .some (fin fun x hx => ?_)
   have h2 : cmpT l[i - 1] t <= 0 := by have := cmpT_neg t l[i - 1]; omega
   rw [show i = i - 1 + 1 by omega, List.take_succ_eq_append_getElem hlt] at hx
   rcases List.mem_append.1 hx with hx | hx
   ·have hs' := hs
    rw [<- List.take_append_drop (i - 1) l, Srt, List.pairwise_append] at hs'
    exact (cmpT_trans (hs'.2.2 x hx l[i - 1] (by rw [List.drop_eq_getElem_cons hlt]; exact List.mem_cons_self)) h2).1
   ·rw [List.mem_singleton.1 hx]; exact h2
 ·simp only [hz, decide_false, Bool.false_eq_true, if_false, Option.map_some]
  refine .some (fin fun x hx => ?_)
  obtain rfl : i = 0 := by omega
  simp at hx
theorem insert_sort {g : List (List Int)} {t : List Int} (hl : g.length < 1099511627776) (ht : Small t) : F_spec_l28Insert (sortT g) t = some (sortT (g ++ [t])) := by
 obtain ⟨o, e⟩ := (insert_ok (l := sortT g) (t := t) (by rw [sortT_len]; exact hl) ht (sortT_sorted g)).2 trivial
 obtain ⟨h1, h2⟩ := (insert_ok (l := sortT g) (t := t) (by rw [sortT_len]; exact hl) ht (sortT_sorted g)).1 o e
 rw [e]
 refine congrArg some (sorted_uniq ?_ h2 (sortT_sorted _))
 refine h1.trans (List.Perm.trans ?_ (sortT_perm _).symm)
 refine ((sortT_perm g).cons t).trans ?_
 exact (List.perm_append_comm (l₁ := [t]) (l₂ := g))
theorem F_spec_l1TermPlace_eq {l : List (List Int)} (hl : l.length < 1099511627776) (hs : ∀ x ∈ l, Small x) (t : List Int) : F_spec_l1TermPlace l t = some (firstI (fun x => x == t) l) := by
 unfold F_spec_l1TermPlace
 refine loop_first (fun i x hi hx hg => ?_) (by simp [F_spec_l1TermPlace_l1])
 simp only [F_spec_l1TermPlace_l1, show (i : Int) < l.length by omega, decide_true, if_true, show (0 : Int) <= i by omega, and_self, Int.toNat_natCast, hg, w64 (n := (i : Int) + 1) (by omega) (by omega), Option.map_some, F_spec_SameTerm_eq (hs x hx), Option.bind_some]
 cases x == t <;> rfl
theorem firstI_neg {l : List (List Int)} {t : List Int} : (decide (firstI (fun x => x == t) l < 0)) = !decide (t ∈ l) := by
 by_cases h : t ∈ l
 ·have := firstI_at (p := fun x => x == t) h (by simp)
  simp [h]; omega
 ·rw [firstI_none (fun x hx => beq_eq_false_iff_ne.2 (by rintro rfl; exact h hx))]
  simp [h]
end Go.Proofs.YtglpjlpmijfocaaGreat
namespace Go.Proofs.YtglpjlpmijfocaaGreat
open Go Abx Tm
def lst (g : List LL) : Nat -> Nat -> LL
 | 0, l => if l = 0 then [[]] else []
 | m + 1, l => (List.range' 1 l).flatMap fun j => (g.getD j default).flatMap fun t => (lst g m (l - j)).map (t ++ ·)
def pce (g : List LL) (m l j : Nat) : LL := (g.getD j default).flatMap fun t => (lst g m (l - j)).map (t ++ ·)
def seg (g : List LL) (m l k : Nat) : LL := (List.range' 1 k).flatMap (pce g m l)
theorem lst_succ (g : List LL) (m l : Nat) : lst g (m + 1) l = seg g m l l := rfl
theorem seg_succ (g : List LL) (m l k : Nat) : seg g m l (k + 1) = seg g m l k ++ pce g m l (k + 1) := by
 unfold seg
 rw [List.range'_concat, List.flatMap_append, show 1 + 1 * k = k + 1 by omega]; simp
theorem fm_nil {α β : Type} : ∀ {xs : List α} {f : α -> List β}, (∀ x ∈ xs, f x = []) -> xs.flatMap f = []
 | [], _, _ => rfl
 | x :: xs, f, h => by rw [List.flatMap_cons, h x (by simp), fm_nil fun y hy => h y (by simp [hy])]; rfl
theorem lst_short (g : List LL) : ∀ {m l : Nat}, l < m -> lst g m l = []
 | 0, l, h => by omega
 | m + 1, l, h => by
  refine fm_nil fun j hj => fm_nil fun t ht => ?_
  rw [List.mem_range'_1] at hj
  rw [lst_short g (m := m) (by omega)]; rfl
theorem seg_full (g : List LL) {m l : Nat} : ∀ (d : Nat), l - m + d <= l -> seg g m l (l - m + d) = seg g m l (l - m)
 | 0, _ => rfl
 | d + 1, h => by
  rw [<- Nat.add_assoc, seg_succ, seg_full g d (by omega)]
  have : pce g m l (l - m + d + 1) = [] := fm_nil fun t ht => by rw [lst_short g (by omega)]; rfl
  rw [this, List.append_nil]
theorem lst_seg (g : List LL) (m l : Nat) : lst g (m + 1) l = seg g m l (l - m) := by
 rw [lst_succ, <- seg_full g (m := m) (l := l) (l - (l - m)) (by omega)]
 congr 1; omega
theorem fm_len {xs : LL} {r : LL} : (xs.flatMap fun t => r.map (t ++ ·)).length = xs.length * r.length := by
 induction xs with
 | nil => simp
 | cons x xs ih => rw [List.flatMap_cons, List.length_append, ih, List.length_map, List.length_cons, Nat.succ_mul, Nat.add_comm]
theorem pce_len (g : List LL) (m l j : Nat) : (pce g m l j).length = (g.getD j default).length * (lst g m (l - j)).length := fm_len
structure GI (g : List LL) : Prop where
 len : g.length <= 61
 sz : ∀ k, (g.getD k default).length <= 200
 el : ∀ k, ∀ t ∈ g.getD k default, t.length = k
theorem lst_el {g : List LL} (h : GI g) : ∀ {m l : Nat}, ∀ u ∈ lst g m l, u.length = l
 | 0, l, u, hu => by
  unfold lst at hu
  split at hu
  ·rw [List.mem_singleton.1 hu]; rename_i h0; simp [h0]
  ·cases hu
 | m + 1, l, u, hu => by
  unfold lst at hu
  obtain ⟨j, hj, hu⟩ := List.mem_flatMap.1 hu
  obtain ⟨t, ht, hu⟩ := List.mem_flatMap.1 hu
  obtain ⟨v, hv, rfl⟩ := List.mem_map.1 hu
  have := h.el j t ht
  have := lst_el h v hv
  rw [List.mem_range'_1] at hj
  rw [List.length_append]; omega
theorem lst_bnd {g : List LL} (h : GI g) : ∀ {m : Nat}, m <= 3 -> ∀ l, l <= 60 -> (lst g m l).length <= 12000 ^ m := by
 intro m
 induction m with
 | zero => intro _ l _; unfold lst; split <;> simp
 | succ m ih =>
  intro hm l hl
  rw [lst_succ]
  have key : ∀ k, k <= l -> (seg g m l k).length <= k * (200 * 12000 ^ m) := by
   intro k
   induction k with
   | zero => intro _; simp [seg]
   | succ k ihk =>
    intro hk
    rw [seg_succ, List.length_append, pce_len, Nat.succ_mul]
    exact Nat.add_le_add (ihk (by omega)) (Nat.mul_le_mul (h.sz _) (ih (by omega) _ (by omega)))
  refine Nat.le_trans (key l (Nat.le_refl _)) ?_
  rw [Nat.pow_succ]
  have : l * (200 * 12000 ^ m) <= 60 * (200 * 12000 ^ m) := Nat.mul_le_mul_right _ hl
  omega
theorem seg_le {g : List LL} {m l : Nat} : ∀ {k j : Nat}, k <= j -> (seg g m l k).length <= (seg g m l j).length := by
 intro k j h
 induction j with
 | zero =>
  obtain rfl : k = 0 := by omega
  exact Nat.le_refl _
 | succ j ih =>
  rcases Nat.lt_or_ge j k with h' | h'
  ·obtain rfl : k = j + 1 := by omega
   exact Nat.le_refl _
  ·refine Nat.le_trans (ih h') ?_
   rw [seg_succ, List.length_append]; omega
def cap (n : Nat) : Nat := min n 201
theorem cap_step {a c b : Nat} : cap (cap a + c * cap b) = cap (a + c * b) := by
 unfold cap
 rcases Nat.lt_or_ge 201 b with hb | hb
 ·rw [show min b 201 = 201 by omega]
  rcases Nat.eq_zero_or_pos c with rfl | hc
  ·simp
  ·have h1 : b <= c * b := Nat.le_mul_of_pos_left b hc
   have h2 : 201 <= c * 201 := Nat.le_mul_of_pos_left 201 hc
   omega
 ·rw [show min b 201 = b by omega]; omega
theorem F_count_ok {g : List LL} (h : GI g) : ∀ (fu : Nat) {m l : Nat}, m <= 3 -> l < g.length -> Okk (m + 1 <= fu) (F_impl_grounds_count fu g m l) (· = (cap (lst g m l).length : Int))
 | 0, m, l, _, _ => ⟨fun a ha => (by cases ha), fun hx => (by omega)⟩
 | fu + 1, 0, l, _, _ => by
  unfold F_impl_grounds_count lst
  by_cases hl : l = 0
  ·subst hl; exact .some rfl
  ·have : ((l : Int) == 0) = false := beq_eq_false_iff_ne.2 (by omega)
   simp only [this, hl, if_false, Bool.false_eq_true, Int.natCast_zero, beq_self_eq_true, if_true]
   exact .some rfl
 | fu + 1, m + 1, l, hm, hl => by
  unfold F_impl_grounds_count
  have hg := h.len
  rw [if_neg (by simp; omega), lst_seg]
  refine Okk.loop (fun s : Int × Int => ∃ k : Nat, s.2 = ((k + 1 : Nat) : Int) /\ k <= l - m /\ s.1 = (cap (seg g m l k).length : Int)) (fun s : Int × Int => l + 1 - s.2.toNat) ⟨0, rfl, by omega, by simp [seg, cap]⟩ ?_
  rintro ⟨sm, n⟩ ⟨k, h1, h2, h3⟩
  simp only at h1 h3
  subst h1 h3
  have hw : IntKind.i64.wrap (IntKind.i64.wrap ((l : Int) - ((m + 1 : Nat) : Int)) + 1) = (l : Int) - m := by rw [w64 (n := (l : Int) - ((m + 1 : Nat) : Int)) (by omega) (by omega), w64 (by omega) (by omega)]; omega
  simp only [F_impl_grounds_count_l1, hw]
  by_cases hk : k < l - m
  ·have c1 : ((k + 1 : Nat) : Int) <= (l : Int) - m := by omega
   have c2 : (0 : Int) <= ((k + 1 : Nat) : Int) /\ ((k + 1 : Nat) : Int) < 61 /\ ((k + 1 : Nat) : Int) < (g.length : Int) := by omega
   simp only [c1, c2, decide_true, if_true, and_self, Int.toNat_natCast, w64 (n := ((k + 1 : Nat) : Int) + 1) (by omega) (by omega)]
   have hseg : (seg g m l (k + 1)).length = (seg g m l k).length + (g.getD (k + 1) default).length * (lst g m (l - (k + 1))).length := by rw [seg_succ, List.length_append, pce_len]
   by_cases hp : 0 < (g.getD (k + 1) default).length
   ·have hp' : (0 : Int) < ((g.getD (k + 1) default).length : Int) := by omega
    simp only [hp', decide_true, if_true]
    have e1 : IntKind.i64.wrap (((m + 1 : Nat) : Int) - 1) = (m : Int) := by rw [w64 (by omega) (by omega)]; omega
    have e2 : IntKind.i64.wrap ((l : Int) - ((k + 1 : Nat) : Int)) = ((l - (k + 1) : Nat) : Int) := by rw [w64 (by omega) (by omega)]; omega
    rw [e1, e2]
    refine .bind ((F_count_ok h fu (m := m) (l := l - (k + 1)) (by omega) (by omega)).weak (by omega)) ?_
    rintro r rfl
    refine .some ⟨⟨k + 1, by simp, by omega, ?_⟩, by simp; omega⟩
    have hb : cap (lst g m (l - (k + 1))).length <= 201 := Nat.min_le_right _ _
    have hb2 : cap (seg g m l k).length <= 201 := Nat.min_le_right _ _
    have hsz := h.sz (k + 1)
    have hmul : (g.getD (k + 1) default).length * cap (lst g m (l - (k + 1))).length <= 200 * 201 := Nat.mul_le_mul hsz hb
    have hcast : ((g.getD (k + 1) default).length : Int) * (cap (lst g m (l - (k + 1))).length : Int) = (((g.getD (k + 1) default).length * cap (lst g m (l - (k + 1))).length : Nat) : Int) := by simp
    have hst := cap_step (a := (seg g m l k).length) (c := (g.getD (k + 1) default).length) (b := (lst g m (l - (k + 1))).length)
    rw [<- hseg] at hst
    simp only [hcast]
    generalize (g.getD (k + 1) default).length * cap (lst g m (l - (k + 1))).length = q at *
    rw [w64 (n := (q : Int)) (by omega) (by omega), w64 (n := (cap (seg g m l k).length : Int) + (q : Int)) (by omega) (by omega)]
    rw [<- hst]
    generalize cap (seg g m l k).length = a at *
    unfold cap
    split <;> omega
   ·have hp' : ¬ (0 : Int) < ((g.getD (k + 1) default).length : Int) := by omega
    simp only [hp', decide_false, Bool.false_eq_true, if_false]
    refine .some ⟨⟨k + 1, by simp, by omega, ?_⟩, by simp; omega⟩
    rw [hseg, show (g.getD (k + 1) default).length = 0 by omega, Nat.zero_mul]
    rfl
  ·have c1 : ¬ ((k + 1 : Nat) : Int) <= (l : Int) - m := by omega
   simp only [c1, decide_false, Bool.false_eq_true, if_false, Option.map_some]
   refine .some ?_
   rw [show k = l - m by omega]
   show _ = _
   rfl
theorem F_count_eq {g : List LL} (h : GI g) {m l : Nat} (hm : m <= 3) (hl : l < g.length) : F_impl_grounds_count_all g m l = some (cap (lst g m l).length : Int) :=
 (Okk.lim (t := True) (m + 1) fun n => F_count_ok h n hm hl).eq
end Go.Proofs.YtglpjlpmijfocaaGreat
namespace Go.Proofs.YtglpjlpmijfocaaGreat
open Go Abx Tm
theorem concat2 {a b : List Int} (ha : a.length <= 60) (hb : b.length <= 60) : F_slices_Concat_int64_int64 [a, b] = some (a ++ b) := by
 rw [F_slices_Concat_eq (by simp) (by simp [ha, hb])]; simp
theorem lists_l3 {g : List LL} {l : Int} {n : Nat} {r o : LL} {i : Nat} (hi : i < (g.getD n default).length) (hx : ((g.getD n default).getD i default).length <= 60) (hr : ∀ u ∈ r, u.length <= 60) (hb : o.length + r.length < 5000000000000) (hi2 : i < 1000) :
 loopC (F_impl_grounds_lists_l3 g l (n : Int) r (i : Int)) (o, 0) = some (.inl (o ++ r.map ((g.getD n default).getD i default ++ ·), (i : Int) + 1)) := by
 have h0 : (o ++ (r.take 0).map ((g.getD n default).getD i default ++ ·), ((0 : Nat) : Int)) = (o, (0 : Int)) := by simp
 rw [<- h0]
 refine loop_st (n := r.length) (fun j => (o ++ (r.take j).map ((g.getD n default).getD i default ++ ·), (j : Int))) (fun j hj => ?_) ?_
 ·have hl : (o ++ (r.take j).map ((g.getD n default).getD i default ++ ·)).length = o.length + j := by simp; omega
  simp only [F_impl_grounds_lists_l3, show (j : Int) < r.length by omega, decide_true, if_true, show (0 : Int) <= j by omega, and_self, Int.toNat_natCast, w64 (n := (j : Int) + 1) (by omega) (by omega), concat2 hx (hr _ (getD_mem hj)), Option.bind_some, hl, show (o.length + j + 1) * 24 <= 140737488355328 by omega]
  rw [List.take_succ_eq_append_getElem hj, List.map_append, <- List.append_assoc, getD_get hj]
  rfl
 ·simp only [F_impl_grounds_lists_l3, show ¬ (r.length : Int) < r.length by omega, decide_false, Bool.false_eq_true, if_false, Option.map_some, List.take_length, w64 (n := (i : Int) + 1) (by omega) (by omega)]
theorem lists_l2 {g : List LL} {l : Int} {n : Nat} {r o : LL} (hg : GI g) (hn60 : n <= 60) (hr : ∀ u ∈ r, u.length <= 60) (hb : o.length + (g.getD n default).length * r.length < 5000000000000) :
 loopC (F_impl_grounds_lists_l2 g l (n : Int) r) (o, 0) = some (.inl (o ++ (g.getD n default).flatMap fun t => r.map (t ++ ·), (n : Int) + 1)) := by
 have h0 : (o ++ ((g.getD n default).take 0).flatMap (fun t => r.map (t ++ ·)), ((0 : Nat) : Int)) = (o, (0 : Int)) := by simp
 rw [<- h0]
 have hsz := hg.sz n
 refine loop_st (n := (g.getD n default).length) (fun i => (o ++ ((g.getD n default).take i).flatMap (fun t => r.map (t ++ ·)), (i : Int))) (fun i hi => ?_) ?_
 ·have hl : (o ++ ((g.getD n default).take i).flatMap (fun t => r.map (t ++ ·))).length = o.length + i * r.length := by rw [List.length_append, fm_len, List.length_take]; congr 2; omega
  have hm : (i + 1) * r.length <= (g.getD n default).length * r.length := Nat.mul_le_mul_right _ hi
  rw [Nat.succ_mul] at hm
  have hx : ((g.getD n default).getD i default).length <= 60 := by have := hg.el n _ (getD_mem hi); omega
  have h3 := lists_l3 (g := g) (l := l) (n := n) (r := r) (o := o ++ ((g.getD n default).take i).flatMap (fun t => r.map (t ++ ·))) hi hx hr (by rw [hl]; omega) (by omega)
  simp only [F_impl_grounds_lists_l2, Int.toNat_natCast, show (i : Int) < (g.getD n default).length by omega, decide_true, if_true, show (0 : Int) <= i by omega, and_self, h3]
  rw [List.take_succ_eq_append_getElem hi, List.flatMap_append, <- List.append_assoc, getD_get hi]
  simp
 ·simp only [F_impl_grounds_lists_l2, Int.toNat_natCast, show ¬ ((g.getD n default).length : Int) < (g.getD n default).length by omega, decide_false, Bool.false_eq_true, if_false, Option.map_some, List.take_length, w64 (n := (n : Int) + 1) (by omega) (by omega)]
theorem F_lists_ok {g : List LL} (h : GI g) : ∀ (fu : Nat) {m l : Nat}, m <= 3 -> l < g.length -> Okk (m + 1 <= fu) (F_impl_grounds_lists fu g m l) (· = lst g m l)
 | 0, m, l, _, _ => ⟨fun a ha => (by cases ha), fun hx => (by omega)⟩
 | fu + 1, 0, l, _, _ => by
  unfold F_impl_grounds_lists lst
  by_cases hl : l = 0
  ·subst hl; exact .some rfl
  ·have : ((l : Int) == 0) = false := beq_eq_false_iff_ne.2 (by omega)
   simp only [this, hl, if_false, Bool.false_eq_true, Int.natCast_zero, beq_self_eq_true, if_true]
   exact .some rfl
 | fu + 1, m + 1, l, hm, hl => by
  unfold F_impl_grounds_lists
  have hg := h.len
  have hT := lst_bnd h hm l (by omega)
  have hT2 : 12000 ^ (m + 1) <= 1728000000000 := by
   have : m = 0 ∨ m = 1 ∨ m = 2 := by omega
   rcases this with rfl | rfl | rfl <;> decide
  rw [if_neg (by simp; omega), lst_seg]
  rw [lst_succ] at hT
  refine Okk.loop (fun s : LL × Int => ∃ k : Nat, s.2 = ((k + 1 : Nat) : Int) /\ k <= l - m /\ s.1 = seg g m l k) (fun s : LL × Int => l + 1 - s.2.toNat) ⟨0, rfl, by omega, by simp [seg]⟩ ?_
  rintro ⟨out, n⟩ ⟨k, h1, h2, h3⟩
  simp only at h1 h3
  subst h1 h3
  have hw : IntKind.i64.wrap (IntKind.i64.wrap ((l : Int) - ((m + 1 : Nat) : Int)) + 1) = (l : Int) - m := by rw [w64 (n := (l : Int) - ((m + 1 : Nat) : Int)) (by omega) (by omega), w64 (by omega) (by omega)]; omega
  simp only [F_impl_grounds_lists_l1, hw]
  by_cases hk : k < l - m
  ·have c1 : ((k + 1 : Nat) : Int) <= (l : Int) - m := by omega
   have c2 : (0 : Int) <= ((k + 1 : Nat) : Int) /\ ((k + 1 : Nat) : Int) < 61 /\ ((k + 1 : Nat) : Int) < (g.length : Int) := by omega
   simp only [c1, c2, decide_true, if_true, and_self, Int.toNat_natCast, w64 (n := ((k + 1 : Nat) : Int) + 1) (by omega) (by omega)]
   have hlen : (seg g m l k).length + (g.getD (k + 1) default).length * (lst g m (l - (k + 1))).length <= 1728000000000 := by
    have e : (seg g m l (k + 1)).length = (seg g m l k).length + (g.getD (k + 1) default).length * (lst g m (l - (k + 1))).length := by rw [seg_succ, List.length_append, pce_len]
    have := seg_le (g := g) (m := m) (l := l) (k := k + 1) (j := l) (by omega)
    omega
   by_cases hp : (g.getD (k + 1) default).length = 0
   ·have hp' : (((g.getD (k + 1) default).length : Int) == 0) = true := by rw [hp]; rfl
    simp only [hp', if_true]
    refine .some ⟨⟨k + 1, by simp, by omega, ?_⟩, by simp; omega⟩
    have : pce g m l (k + 1) = [] := by rw [pce, List.length_eq_zero_iff.1 hp]; rfl
    rw [seg_succ, this, List.append_nil]
   ·have hp' : (((g.getD (k + 1) default).length : Int) == 0) = false := beq_eq_false_iff_ne.2 (by omega)
    simp only [hp', Bool.false_eq_true, if_false]
    have e1 : IntKind.i64.wrap (((m + 1 : Nat) : Int) - 1) = (m : Int) := by rw [w64 (by omega) (by omega)]; omega
    have e2 : IntKind.i64.wrap ((l : Int) - ((k + 1 : Nat) : Int)) = ((l - (k + 1) : Nat) : Int) := by rw [w64 (by omega) (by omega)]; omega
    rw [e1, e2]
    refine .bind ((F_lists_ok h fu (m := m) (l := l - (k + 1)) (by omega) (by omega)).weak (by omega)) ?_
    rintro r rfl
    have h2 := lists_l2 (g := g) (l := (l : Int)) (n := k + 1) (r := lst g m (l - (k + 1))) (o := seg g m l k) h (by omega) (fun u hu => by have := lst_el h u hu; omega) (by omega)
    refine .of h2 ⟨⟨k + 1, by simp, by omega, ?_⟩, by simp; omega⟩
    rw [seg_succ]; rfl
  ·have c1 : ¬ ((k + 1 : Nat) : Int) <= (l : Int) - m := by omega
   simp only [c1, decide_false, Bool.false_eq_true, if_false, Option.map_some]
   refine .some ?_
   rw [show k = l - m by omega]
   show _ = _
   rfl
theorem F_lists_eq {g : List LL} (h : GI g) {m l : Nat} (hm : m <= 3) (hl : l < g.length) : F_impl_grounds_lists_all g m l = some (lst g m l) :=
 (Okk.lim (t := True) (m + 1) fun n => F_lists_ok h n hm hl).eq
theorem take_app {α : Type} {N : Nat} {A B : List α} : (A.take N ++ B).take N = (A ++ B).take N := by
 rcases Nat.le_total A.length N with h | h
 ·rw [List.take_of_length_le h]
 ·rw [List.take_append_of_le_length (by simp; omega), List.take_append_of_le_length h, List.take_take]; simp
theorem cut_fm {α β γ : Type} {N : Nat} {f : α -> β -> γ} {r : List β} : ∀ {xs : List α} {o : List γ}, (o ++ xs.flatMap fun t => (r.take N).map (f t)).take N = (o ++ xs.flatMap fun t => r.map (f t)).take N
 | [], o => rfl
 | x :: xs, o => by
  rw [List.flatMap_cons, List.flatMap_cons, <- List.append_assoc, cut_fm (xs := xs), <- List.append_assoc]
  rcases Nat.le_total r.length N with h | h
  ·rw [List.take_of_length_le h]
  ·have e : r.map (f x) = (r.take N).map (f x) ++ (r.drop N).map (f x) := by rw [<- List.map_append, List.take_append_drop]
   have hA : ((r.take N).map (f x)).length = N := by rw [List.length_map, List.length_take]; omega
   rw [e]
   generalize (r.take N).map (f x) = A at *
   generalize xs.flatMap (fun t => r.map (f t)) = X
   rw [<- List.append_assoc o A, List.append_assoc (o ++ A) _ X, List.take_append_of_le_length (l₁ := o ++ A) (by rw [List.length_append]; omega), List.take_append_of_le_length (l₁ := o ++ A) (by rw [List.length_append]; omega)]
theorem rows_l3 {g : List LL} {k i : Nat} {r o : LL} (hk : k < g.length) (hk60 : k <= 60) (hi : i < (g.getD k default).length) (hx : ((g.getD k default).getD i default).length <= 60) (hr : ∀ u ∈ r, u.length <= 60) (hrl : r.length <= 201) (ho : o.length <= 201) (hi2 : i < 1000) :
 loopC (F_spec_l25Rows_l3 g (k : Int) r (i : Int)) (o, 0) = some (.inl ((o ++ r.map ((g.getD k default).getD i default ++ ·)).take 201, (i : Int) + 1)) := by
 have := loopC_is (f := F_spec_l25Rows_l3 g (k : Int) r (i : Int)) (fun s => some (.inl ((s.1 ++ (r.drop s.2.toNat).map ((g.getD k default).getD i default ++ ·)).take 201, (i : Int) + 1))) (fun s : LL × Int => ∃ x : Nat, s.2 = (x : Int) /\ x <= r.length /\ s.1.length <= 201) (fun s : LL × Int => r.length - s.2.toNat) ?_ (o, 0) ⟨0, rfl, by omega, ho⟩
 ·simpa using this
 ·rintro ⟨q, x'⟩ ⟨x, h1, h2, h3⟩
  simp only at h1 h3
  subst h1
  have hw : IntKind.i64.wrap ((i : Int) + 1) = (i : Int) + 1 := w64 (by omega) (by omega)
  by_cases hlt : x < r.length
  ·have cp := F_spec_l1Copy_eq (l := (g.getD k default).getD i default) (by show List.length _ < _; omega)
   have hu := hr _ (getD_mem hlt)
   by_cases hq : q.length <= 200
   ·refine .inl ⟨(q ++ [(g.getD k default).getD i default ++ r.getD x default], ((x + 1 : Nat) : Int)), ?_, ⟨x + 1, rfl, by omega, by simp; omega⟩, by simp; omega, ?_⟩
    ·simp only [F_spec_l25Rows_l3, show (x : Int) < r.length by omega, decide_true, if_true, show (q.length : Int) <= 200 by omega, show (0 : Int) <= k by omega, show (k : Int) < g.length by omega, show (0 : Int) <= i by omega, show (i : Int) < (g.getD k default).length by omega, show (0 : Int) <= x by omega, and_self, Int.toNat_natCast, cp, Option.bind_some, w64 (n := (x : Int) + 1) (by omega) (by omega), show (((g.getD k default).getD i default).length + (r.getD x default).length) * 8 <= 140737488355328 by omega, show (q.length + 1) * 24 <= 140737488355328 by omega]
     rfl
    ·simp only [Int.toNat_natCast]
     rw [List.drop_eq_getElem_cons hlt, List.map_cons, List.append_assoc, List.singleton_append, getD_get hlt]
   ·refine .inr ⟨.inl (q, (i : Int) + 1), ?_, ?_⟩
    ·simp only [F_spec_l25Rows_l3, show (x : Int) < r.length by omega, decide_true, if_true, show ¬ (q.length : Int) <= 200 by omega, decide_false, Bool.false_eq_true, if_false, Option.map_some, hw]
    ·dsimp only
     rw [List.take_append_of_le_length (by omega), List.take_of_length_le (by omega)]
  ·obtain rfl : x = r.length := by omega
   refine .inr ⟨.inl (q, (i : Int) + 1), ?_, ?_⟩
   ·simp only [F_spec_l25Rows_l3, show ¬ (r.length : Int) < r.length by omega, decide_false, Bool.false_eq_true, if_false, Option.map_some, hw]
   ·simp only [Int.toNat_natCast, List.drop_length, List.map_nil, List.append_nil]
    rw [List.take_of_length_le (by omega)]
theorem rows_l2 {g : List LL} {k : Nat} {r o : LL} (hg : GI g) (hk : k < g.length) (hr : ∀ u ∈ r, u.length <= 60) (hrl : r.length <= 201) (ho : o.length <= 201) :
 loopC (F_spec_l25Rows_l2 g (k : Int) r) (o, 0) = some (.inl ((o ++ (g.getD k default).flatMap fun t => r.map (t ++ ·)).take 201, (k : Int) + 1)) := by
 have hlen := hg.len
 have hsz := hg.sz k
 have := loopC_is (f := F_spec_l25Rows_l2 g (k : Int) r) (fun s => some (.inl ((s.1 ++ ((g.getD k default).drop s.2.toNat).flatMap fun t => r.map (t ++ ·)).take 201, (k : Int) + 1))) (fun s : LL × Int => ∃ i : Nat, s.2 = (i : Int) /\ i <= (g.getD k default).length /\ s.1.length <= 201) (fun s : LL × Int => (g.getD k default).length - s.2.toNat) ?_ (o, 0) ⟨0, rfl, by omega, ho⟩
 ·simpa using this
 ·rintro ⟨q, i'⟩ ⟨i, h1, h2, h3⟩
  simp only at h1 h3
  subst h1
  have hw : IntKind.i64.wrap ((k : Int) + 1) = (k : Int) + 1 := w64 (by omega) (by omega)
  have hk0 : (0 : Int) <= k := by omega
  have hk1 : (k : Int) < g.length := by omega
  by_cases hlt : i < (g.getD k default).length
  ·by_cases hq : q.length <= 200
   ·have hx : ((g.getD k default).getD i default).length <= 60 := by have := hg.el k _ (getD_mem hlt); omega
    have e3 := rows_l3 (g := g) (k := k) (i := i) (r := r) (o := q) hk (by omega) hlt hx hr hrl h3 (by omega)
    have hms : (g.getD k default).length - ((i : Int) + 1).toNat < (g.getD k default).length - (i : Int).toNat := by
     have e9 : ((i : Int) + 1).toNat = i + 1 := by omega
     rw [e9, Int.toNat_natCast]; omega
    refine .inl ⟨((q ++ r.map ((g.getD k default).getD i default ++ ·)).take 201, (i : Int) + 1), ?_, ⟨i + 1, by simp, by omega, by rw [List.length_take]; omega⟩, hms, ?_⟩
    ·simp only [F_spec_l25Rows_l2, hk0, hk1, and_self, if_true, Int.toNat_natCast, show (i : Int) < (g.getD k default).length by omega, decide_true, show (q.length : Int) <= 200 by omega, e3]
    ·have : ((i : Int) + 1).toNat = i + 1 := by omega
     simp only [Int.toNat_natCast, this]
     rw [take_app, List.drop_eq_getElem_cons hlt, List.flatMap_cons, List.append_assoc, getD_get hlt]
   ·refine .inr ⟨.inl (q, (k : Int) + 1), ?_, ?_⟩
    ·simp only [F_spec_l25Rows_l2, hk0, hk1, and_self, if_true, Int.toNat_natCast, show (i : Int) < (g.getD k default).length by omega, decide_true, show ¬ (q.length : Int) <= 200 by omega, decide_false, Bool.false_eq_true, if_false, Option.map_some, hw]
    ·dsimp only
     rw [List.take_append_of_le_length (by omega), List.take_of_length_le (by omega)]
  ·obtain rfl : i = (g.getD k default).length := by omega
   refine .inr ⟨.inl (q, (k : Int) + 1), ?_, ?_⟩
   ·simp only [F_spec_l25Rows_l2, hk0, hk1, and_self, if_true, Int.toNat_natCast, show ¬ ((g.getD k default).length : Int) < (g.getD k default).length by omega, decide_false, Bool.false_eq_true, if_false, Option.map_some, hw]
   ·simp only [Int.toNat_natCast, List.drop_length, List.flatMap_nil, List.append_nil]
    rw [List.take_of_length_le (by omega)]
theorem F_rows_ok {g : List LL} (h : GI g) : ∀ (fu : Nat) {m l : Nat}, m <= 3 -> l < g.length -> Okk (m + 1 <= fu) (F_spec_l25Rows fu g m l) (· = (lst g m l).take 201)
 | 0, m, l, _, _ => ⟨fun a ha => (by cases ha), fun hx => (by omega)⟩
 | fu + 1, 0, l, _, _ => by
  unfold F_spec_l25Rows lst
  by_cases hl : l = 0
  ·subst hl; exact .some rfl
  ·have : ((l : Int) == 0) = false := beq_eq_false_iff_ne.2 (by omega)
   simp only [this, hl, if_false, Bool.false_eq_true, Int.natCast_zero, beq_self_eq_true, if_true]
   exact .some rfl
 | fu + 1, m + 1, l, hm, hl => by
  unfold F_spec_l25Rows
  have hg := h.len
  rw [if_neg (by simp; omega), lst_succ]
  refine Okk.loop (fun s : LL × Int => ∃ k : Nat, s.2 = ((k + 1 : Nat) : Int) /\ k <= l /\ s.1 = (seg g m l k).take 201) (fun s : LL × Int => l + 1 - s.2.toNat) ⟨0, rfl, by omega, by simp [seg]⟩ ?_
  rintro ⟨out, n⟩ ⟨k, h1, h2, h3⟩
  simp only at h1 h3
  subst h1 h3
  simp only [F_spec_l25Rows_l1]
  by_cases hk : k < l
  ·have c1 : ((k + 1 : Nat) : Int) <= (l : Int) := by omega
   have c2 : (0 : Int) <= ((k + 1 : Nat) : Int) /\ ((k + 1 : Nat) : Int) < (g.length : Int) := by omega
   simp only [c1, c2, decide_true, if_true, and_self, Int.toNat_natCast, w64 (n := ((k + 1 : Nat) : Int) + 1) (by omega) (by omega)]
   by_cases hp : (g.getD (k + 1) default).length = 0
   ·have hp' : (((g.getD (k + 1) default).length : Int) == 0) = true := by rw [hp]; rfl
    simp only [hp', if_true]
    refine .some ⟨⟨k + 1, by simp, by omega, ?_⟩, by simp; omega⟩
    have : pce g m l (k + 1) = [] := by rw [pce, List.length_eq_zero_iff.1 hp]; rfl
    rw [seg_succ, this, List.append_nil]
   ·have hp' : (((g.getD (k + 1) default).length : Int) == 0) = false := beq_eq_false_iff_ne.2 (by omega)
    simp only [hp', Bool.false_eq_true, if_false]
    have e1 : IntKind.i64.wrap (((m + 1 : Nat) : Int) - 1) = (m : Int) := by rw [w64 (by omega) (by omega)]; omega
    have e2 : IntKind.i64.wrap ((l : Int) - ((k + 1 : Nat) : Int)) = ((l - (k + 1) : Nat) : Int) := by rw [w64 (by omega) (by omega)]; omega
    rw [e1, e2]
    refine .bind ((F_rows_ok h fu (m := m) (l := l - (k + 1)) (by omega) (by omega)).weak (by omega)) ?_
    rintro r rfl
    have h2 := rows_l2 (g := g) (k := k + 1) (r := (lst g m (l - (k + 1))).take 201) (o := (seg g m l k).take 201) h (by omega) (fun u hu => by have := lst_el h u (List.mem_of_mem_take hu); omega) (by simp; omega) (by simp; omega)
    refine .of h2 ⟨⟨k + 1, by simp, by omega, ?_⟩, by simp; omega⟩
    show _ = (seg g m l (k + 1)).take 201
    rw [seg_succ, take_app, cut_fm]; rfl
  ·have c1 : ¬ ((k + 1 : Nat) : Int) <= (l : Int) := by omega
   simp only [c1, decide_false, Bool.false_eq_true, if_false, Option.map_some]
   refine .some ?_
   rw [show k = l by omega]
   show _ = _
   rfl
theorem F_rows_eq {g : List LL} (h : GI g) {m l : Nat} (hm : m <= 3) (hl : l < g.length) : F_spec_l25Rows_all g m l = some ((lst g m l).take 201) :=
 (Okk.lim (t := True) (m + 1) fun n => F_rows_ok h n hm hl).eq
end Go.Proofs.YtglpjlpmijfocaaGreat
namespace Go.Proofs.YtglpjlpmijfocaaGreat
open Go Abx Tm
def pl (a : List Int) (g : List LL) (f : Nat) : LL := ((lst g (a.getD f default).toNat (g.length - 1)).take 201).map fun t => (f : Int) :: t
def lvs (a : List Int) (g : List LL) (k : Nat) : LL := (List.range k).flatMap (pl a g)
def lev (a : List Int) (g : List LL) : LL := sortT (lvs a g a.length)
def gr (a : List Int) : Nat -> List LL -> LL -> LL × Bool
 | 0, _, out => (out, true)
 | r + 1, g, out => if 200 < out.length + (lvs a g a.length).length then ([], false) else gr a r (g ++ [lev a g]) (out ++ lev a g)
theorem lvs_succ (a : List Int) (g : List LL) (k : Nat) : lvs a g (k + 1) = lvs a g k ++ pl a g k := by unfold lvs; rw [List.range_succ, List.flatMap_append]; simp
theorem pl_len (a : List Int) (g : List LL) (f : Nat) : (pl a g f).length = cap (lst g (a.getD f default).toNat (g.length - 1)).length := by
 unfold pl cap; rw [List.length_map, List.length_take]; omega
theorem lvs_le {a : List Int} {g : List LL} : ∀ {k j : Nat}, k <= j -> (lvs a g k).length <= (lvs a g j).length := by
 intro k j h
 induction j with
 | zero =>
  obtain rfl : k = 0 := by omega
  exact Nat.le_refl _
 | succ j ih =>
  rcases Nat.lt_or_ge j k with h' | h'
  ·obtain rfl : k = j + 1 := by omega
   exact Nat.le_refl _
  ·refine Nat.le_trans (ih h') ?_
   rw [lvs_succ, List.length_append]; omega
theorem lvs_bnd {a : List Int} {g : List LL} : ∀ k, (lvs a g k).length <= 201 * k
 | 0 => by simp [lvs]
 | k + 1 => by
  rw [lvs_succ, List.length_append, pl_len]
  have := lvs_bnd (a := a) (g := g) k
  have : cap (lst g (a.getD k default).toNat (g.length - 1)).length <= 201 := Nat.min_le_right _ _
  omega
theorem pl_el {a : List Int} {g : List LL} (h : GI g) (h1 : 1 <= g.length) {f : Nat} : ∀ t ∈ pl a g f, t.length = g.length := fun t ht => by
 obtain ⟨u, hu, rfl⟩ := List.mem_map.1 ht
 have := lst_el h u (List.mem_of_mem_take hu)
 rw [List.length_cons]; omega
theorem lvs_el {a : List Int} {g : List LL} (h : GI g) (h1 : 1 <= g.length) {k : Nat} : ∀ t ∈ lvs a g k, t.length = g.length := fun t ht => by
 obtain ⟨f, _, hf⟩ := List.mem_flatMap.1 ht
 exact pl_el h h1 t hf
theorem GI.next {a : List Int} {g : List LL} (h : GI g) (h1 : 1 <= g.length) (h60 : g.length <= 60) (hs : (lvs a g a.length).length <= 200) : GI (g ++ [lev a g]) := by
 have key : ∀ k, (g ++ [lev a g]).getD k default = if k = g.length then lev a g else g.getD k default := fun k => by
  rw [List.getD_eq_getElem?_getD, List.getD_eq_getElem?_getD]
  split
  ·rename_i hk; subst hk; rw [List.getElem?_append_right (Nat.le_refl _)]; simp
  ·rename_i hk
   rcases Nat.lt_or_ge k g.length with hk' | hk'
   ·rw [List.getElem?_append_left hk']
   ·rw [List.getElem?_eq_none (by simp; omega), List.getElem?_eq_none hk']
 refine ⟨by simp; omega, fun k => ?_, fun k t ht => ?_⟩
 ·rw [key]; split
  ·unfold lev; rw [sortT_len]; exact hs
  ·exact h.sz k
 ·rw [key] at ht
  split at ht
  ·rename_i hk
   rw [hk]
   exact lvs_el h h1 t ((sortT_perm _).mem_iff.1 ht)
  ·exact h.el k t ht
theorem ar3 {a : List Int} (ha : sigOk a = true) {f : Nat} (hf : f < a.length) : (a.getD f default).toNat <= 3 /\ (a.getD f default) = ((a.getD f default).toNat : Int) := by
 have := (sigOk_iff.1 ha).2.2 _ (getD_mem hf)
 omega
theorem fg_l6 {f : Nat} {r h : LL} (hf : f < 8) (hr : r.length <= 201) (hu : ∀ u ∈ r, u.length <= 60) (hh : h.length <= 2000) :
 loopC (FG_l6 (f : Int) r (f : Int)) (h, 0) = some (.inl (h ++ r.map fun t => (f : Int) :: t, (f : Int) + 1)) := by
 have h0 : (h ++ (r.take 0).map (fun t => (f : Int) :: t), ((0 : Nat) : Int)) = (h, (0 : Int)) := by simp
 rw [<- h0]
 refine loop_st (n := r.length) (fun j => (h ++ (r.take j).map (fun t => (f : Int) :: t), (j : Int))) (fun j hj => ?_) ?_
 ·have hl : (h ++ (r.take j).map (fun t => (f : Int) :: t)).length = h.length + j := by simp; omega
  simp only [FG_l6, show (j : Int) < r.length by omega, decide_true, if_true, show (0 : Int) <= j by omega, and_self, Int.toNat_natCast, w64 (n := (j : Int) + 1) (by omega) (by omega), concat2 (a := [(f : Int)]) (by simp) (hu _ (getD_mem hj)), Option.bind_some, hl, show (h.length + j + 1) * 24 <= 140737488355328 by omega]
  rw [List.take_succ_eq_append_getElem hj, List.map_append, <- List.append_assoc, getD_get hj]
  rfl
 ·simp only [FG_l6, show ¬ (r.length : Int) < r.length by omega, decide_false, Bool.false_eq_true, if_false, Option.map_some, List.take_length, w64 (n := (f : Int) + 1) (by omega) (by omega)]
def nxt (a : List Int) (g : List LL) (out : LL) : GSt ⊕ (LL × Bool) := if 200 < out.length + (lvs a g a.length).length then .inr ([], false) else .inl (g ++ [lev a g], out ++ lev a g)
theorem fg_l4 {a : List Int} {g : List LL} {out : LL} (ha : sigOk a = true) (h : GI g) (h1 : 1 <= g.length) (hs : out.length + (lvs a g a.length).length <= 200) :
 loopC (FG_l4 a g out) ([], 0) = some (.inl (g ++ [lev a g], out ++ lev a g)) := by
 have ha8 := (sigOk_iff.1 ha).2.1
 have hg := h.len
 have hw : IntKind.i64.wrap ((g.length : Int) - 1) = ((g.length - 1 : Nat) : Int) := by rw [w64 (by omega) (by omega)]; omega
 refine loop_st (n := a.length) (fun k => (lvs a g k, (k : Int))) (fun k hk => ?_) ?_
 ·obtain ⟨m3, me⟩ := ar3 ha hk
  have el := F_lists_eq h (m := (a.getD k default).toNat) (l := g.length - 1) m3 (by omega)
  have hpl : (pl a g k).length <= 200 := by
   have := lvs_le (a := a) (g := g) (k := k + 1) (j := a.length) (by omega)
   rw [lvs_succ, List.length_append] at this; omega
  have hll : (lst g (a.getD k default).toNat (g.length - 1)).length <= 200 := by
   rw [pl_len] at hpl; unfold cap at hpl; omega
  have hlk := lvs_le (a := a) (g := g) (k := k) (j := a.length) (by omega)
  have e6 := fg_l6 (f := k) (r := lst g (a.getD k default).toNat (g.length - 1)) (h := lvs a g k) (by omega) (by omega) (fun u hu => by have := lst_el h u hu; omega) (by omega)
  simp only [FG_l4, show (k : Int) < a.length by omega, decide_true, if_true, show (0 : Int) <= k by omega, and_self, Int.toNat_natCast, hw]
  rw [me, el, Option.bind_some, e6, lvs_succ]
  unfold pl
  rw [List.take_of_length_le (by omega)]
  rfl
 ·have es : F_sortT (lvs a g a.length) = some () := by
   unfold F_sortT
   refine if_pos ⟨by omega, fun x hx => by have := lvs_el h h1 x hx; omega⟩
  have hb : (out.length + (sortT (lvs a g a.length)).length) * 24 <= 140737488355328 := by rw [sortT_len]; omega
  simp only [FG_l4, show ¬ (a.length : Int) < a.length by omega, decide_false, Bool.false_eq_true, if_false, es, Option.bind_some, hb, if_true, Option.map_some]
  rfl
theorem fg_l2 {a : List Int} {g : List LL} {out : LL} (ha : sigOk a = true) (h : GI g) (h1 : 1 <= g.length) (ho : out.length <= 200) :
 loopC (FG_l2 a g out) ((out.length : Int), 0) = some (nxt a g out) := by
 have ha8 := (sigOk_iff.1 ha).2.1
 have hg := h.len
 have hw : IntKind.i64.wrap ((g.length : Int) - 1) = ((g.length - 1 : Nat) : Int) := by rw [w64 (by omega) (by omega)]; omega
 have h0 : (((out.length + (lvs a g 0).length : Nat) : Int), ((0 : Nat) : Int)) = ((out.length : Int), (0 : Int)) := by simp [lvs]
 rw [<- h0]
 refine loop_st (n := a.length) (fun k => (((out.length + (lvs a g k).length : Nat) : Int), (k : Int))) (fun k hk => ?_) ?_
 ·obtain ⟨m3, me⟩ := ar3 ha hk
  have ec := F_count_eq h (m := (a.getD k default).toNat) (l := g.length - 1) m3 (by omega)
  have hb := lvs_bnd (a := a) (g := g) (k + 1)
  have hs : (lvs a g (k + 1)).length = (lvs a g k).length + cap (lst g (a.getD k default).toNat (g.length - 1)).length := by rw [lvs_succ, List.length_append, pl_len]
  simp only [FG_l2, show (k : Int) < a.length by omega, decide_true, if_true, show (0 : Int) <= k by omega, and_self, Int.toNat_natCast, hw]
  rw [me, ec, Option.bind_some, hs]
  rw [w64 (n := (k : Int) + 1) (by omega) (by omega), w64 (by omega) (by omega)]
  refine congrArg (fun x => some (Sum.inl x)) (Prod.ext ?_ (by simp))
  show ((out.length + (lvs a g k).length : Nat) : Int) + _ = _
  omega
 ·simp only [FG_l2, show ¬ (a.length : Int) < a.length by omega, decide_false, Bool.false_eq_true, if_false]
  unfold nxt
  by_cases hq : 200 < out.length + (lvs a g a.length).length
  ·rw [if_pos (by simpa using (by omega : (200 : Int) < ((out.length + (lvs a g a.length).length : Nat) : Int))), if_pos hq]; rfl
  ·rw [if_neg (by simpa using (by omega : ((out.length + (lvs a g a.length).length : Nat) : Int) <= 200)), if_neg hq, fg_l4 ha h h1 (by omega)]; rfl
theorem gr_step {a : List Int} {r : Nat} {g : List LL} {out : LL} : gr a (r + 1) g out = match nxt a g out with | .inl s => gr a r s.1 s.2 | .inr b => b := by
 rw [gr]; unfold nxt; split <;> rfl
theorem fg_l1 {a : List Int} {n : Nat} (ha : sigOk a = true) (hn : n <= 60) : ∀ (r : Nat) {g : List LL} {out : LL}, GI g -> 1 <= g.length -> out.length <= 200 -> g.length + r = n + 1 -> loopC (FG_l1 a n) (g, out) = some (gr a r g out)
 | 0, g, out, h, h1, ho, hr => by
  refine loopC_inr ?_
  simp only [FG_l1, show ¬ (g.length : Int) <= n by omega, decide_false, Bool.false_eq_true, if_false, Option.map_some, gr]
 | r + 1, g, out, h, h1, ho, hr => by
  have e : FG_l1 a n (g, out) = some (nxt a g out) := by
   simp only [FG_l1, show (g.length : Int) <= n by omega, decide_true, if_true, show g.length < 61 by omega, fg_l2 ha h h1 ho]
  rw [gr_step]
  unfold nxt at e ⊢
  split at e
  ·rename_i hq
   rw [if_pos hq]
   exact loopC_inr e
  ·rename_i hq
   rw [if_neg hq, loopC_inl e]
   refine fg_l1 ha hn r (h.next h1 (by omega) (by omega)) (by simp) ?_ (by simp; omega)
   rw [List.length_append]; unfold lev; rw [sortT_len]; omega
def grds (a : List Int) (n : Int) : LL × Bool := if sigOk a = true /\ 1 <= n /\ n <= 60 then gr a n.toNat [[]] [] else ([], false)
theorem gi0 : GI [[]] := ⟨by simp, fun k => by
 cases k with
 | zero => simp
 | succ k => exact Nat.zero_le _, fun k t ht => by
 cases k with
 | zero => simp at ht
 | succ k => exact absurd (show t ∈ ([] : LL) from ht) (by simp)⟩
theorem F_impl_GroundsOf_eq (a : List Int) (n : Int) : F_impl_GroundsOf a n = some (grds a n) := by
 unfold F_impl_GroundsOf grds
 rw [F_impl_SigOk_eq, Option.bind_some]
 cases ha : sigOk a with
 | false => simp
 | true =>
  by_cases h1 : n < 1
  ·simp [h1, show ¬ 1 <= n by omega]
  ·by_cases h2 : 60 < n
   ·simp [h1, h2, show ¬ n <= 60 by omega]
   ·obtain ⟨k, rfl⟩ := Int.eq_ofNat_of_zero_le (show 0 <= n by omega)
    have := fg_l1 (a := a) (n := k) ha (by omega) k (g := [[]]) (out := []) gi0 (by simp) (by simp) (by simp; omega)
    simp only [if_true, h1, h2, decide_false, Bool.false_eq_true, if_false, Int.toNat_natCast, this]
    rw [if_pos ⟨trivial, by omega, by omega⟩]
theorem sg_l3 {f : Nat} {r h : LL} (hf : f < 8) (hr : r.length <= 201) (hu : ∀ u ∈ r, u.length <= 60) (hh : h.length <= 2000) :
 loopC (F_spec_GroundsOf_l3 (f : Int) r) (sortT h, 0) = some (.inl (sortT (h ++ r.map fun t => (f : Int) :: t), (f : Int) + 1)) := by
 have h0 : (sortT (h ++ (r.take 0).map (fun t => (f : Int) :: t)), ((0 : Nat) : Int)) = (sortT h, (0 : Int)) := by simp
 rw [<- h0]
 refine loop_st (n := r.length) (fun j => (sortT (h ++ (r.take j).map (fun t => (f : Int) :: t)), (j : Int))) (fun j hj => ?_) ?_
 ·have hl : (h ++ (r.take j).map (fun t => (f : Int) :: t)).length = h.length + j := by simp; omega
  have hu' := hu _ (getD_mem hj)
  have ei := insert_sort (g := h ++ (r.take j).map (fun t => (f : Int) :: t)) (t := [(f : Int)] ++ r.getD j default) (by omega) (by show List.length _ < _; simp only [List.length_append, List.length_singleton]; omega)
  simp only [F_spec_GroundsOf_l3, show (j : Int) < r.length by omega, decide_true, if_true, show (0 : Int) <= j by omega, and_self, Int.toNat_natCast, w64 (n := (j : Int) + 1) (by omega) (by omega), show (1 + (r.getD j default).length) * 8 <= 140737488355328 by omega, ei, Option.bind_some]
  rw [List.take_succ_eq_append_getElem hj, List.map_append, <- List.append_assoc, getD_get hj]
  rfl
 ·simp only [F_spec_GroundsOf_l3, show ¬ (r.length : Int) < r.length by omega, decide_false, Bool.false_eq_true, if_false, Option.map_some, List.take_length, w64 (n := (f : Int) + 1) (by omega) (by omega)]
theorem sg_l2 {a : List Int} {g : List LL} {out : LL} (ha : sigOk a = true) (h : GI g) (h1 : 1 <= g.length) (h60 : g.length <= 60) (ho : out.length <= 200) :
 loopC (F_spec_GroundsOf_l2 a g out (g.length : Int)) ([], 0) = some (match nxt a g out with | .inl s => .inl (s.1, s.2, (g.length : Int) + 1) | .inr b => .inr b) := by
 have ha8 := (sigOk_iff.1 ha).2.1
 have hg := h.len
 have hw : IntKind.i64.wrap ((g.length : Int) - 1) = ((g.length - 1 : Nat) : Int) := by rw [w64 (by omega) (by omega)]; omega
 have h0 : (sortT (lvs a g 0), ((0 : Nat) : Int)) = (([] : LL), (0 : Int)) := by simp [lvs, sortT]
 rw [<- h0]
 refine loop_st (n := a.length) (fun k => (sortT (lvs a g k), (k : Int))) (fun k hk => ?_) ?_
 ·obtain ⟨m3, me⟩ := ar3 ha hk
  have el := F_rows_eq h (m := (a.getD k default).toNat) (l := g.length - 1) m3 (by omega)
  have hb := lvs_bnd (a := a) (g := g) k
  have e6 := sg_l3 (f := k) (r := (lst g (a.getD k default).toNat (g.length - 1)).take 201) (h := lvs a g k) (by omega) (by simp; omega) (fun u hu => by have := lst_el h u (List.mem_of_mem_take hu); omega) (by omega)
  simp only [F_spec_GroundsOf_l2, show (k : Int) < a.length by omega, decide_true, if_true, show (0 : Int) <= k by omega, and_self, Int.toNat_natCast, hw]
  rw [me, el, Option.bind_some, e6, lvs_succ]
  rfl
 ·have hb := lvs_bnd (a := a) (g := g) a.length
  have hl : (sortT (lvs a g a.length)).length = (lvs a g a.length).length := sortT_len
  have hl2 : (out ++ sortT (lvs a g a.length)).length = out.length + (lvs a g a.length).length := by rw [List.length_append, hl]
  simp only [F_spec_GroundsOf_l2, show ¬ (a.length : Int) < a.length by omega, decide_false, Bool.false_eq_true, if_false, show (g.length + 1) * 24 <= 140737488355328 by omega, hl, hl2, show (out.length + (lvs a g a.length).length) * 24 <= 140737488355328 by omega, if_true, w64 (n := (g.length : Int) + 1) (by omega) (by omega)]
  unfold nxt
  by_cases hq : 200 < out.length + (lvs a g a.length).length
  ·rw [if_pos (by simpa using (by omega : (200 : Int) < ((out.length + (lvs a g a.length).length : Nat) : Int))), if_pos hq]; rfl
  ·rw [if_neg (by simpa using (by omega : ((out.length + (lvs a g a.length).length : Nat) : Int) <= 200)), if_neg hq]; rfl
theorem sg_l1 {a : List Int} {n : Nat} (ha : sigOk a = true) (hn : n <= 60) : ∀ (r : Nat) {g : List LL} {out : LL}, GI g -> 1 <= g.length -> out.length <= 200 -> g.length + r = n + 1 -> loopC (F_spec_GroundsOf_l1 a n) (g, out, (g.length : Int)) = some (gr a r g out)
 | 0, g, out, h, h1, ho, hr => by
  refine loopC_inr ?_
  simp only [F_spec_GroundsOf_l1, show ¬ (g.length : Int) <= n by omega, decide_false, Bool.false_eq_true, if_false, Option.map_some, gr]
 | r + 1, g, out, h, h1, ho, hr => by
  have e : F_spec_GroundsOf_l1 a n (g, out, (g.length : Int)) = some (match nxt a g out with | .inl s => .inl (s.1, s.2, (g.length : Int) + 1) | .inr b => .inr b) := by
   simp only [F_spec_GroundsOf_l1, show (g.length : Int) <= n by omega, decide_true, if_true, sg_l2 ha h h1 (by omega) ho]
  rw [gr_step]
  unfold nxt at e ⊢
  by_cases hq : 200 < out.length + (lvs a g a.length).length
  ·rw [if_pos hq] at e ⊢
   exact loopC_inr e
  ·rw [if_neg hq] at e ⊢
   rw [loopC_inl e]
   have hl : (g.length : Int) + 1 = ((g ++ [lev a g]).length : Int) := by simp
   dsimp only
   rw [hl]
   refine sg_l1 ha hn r (h.next h1 (by omega) (by omega)) (by simp) ?_ (by simp; omega)
   rw [List.length_append]; unfold lev; rw [sortT_len]; omega
theorem F_spec_GroundsOf_eq (a : List Int) (n : Int) : F_spec_GroundsOf a n = some (grds a n) := by
 unfold F_spec_GroundsOf grds
 rw [F_spec_SigOk_eq, Option.bind_some]
 cases ha : sigOk a with
 | false => simp
 | true =>
  simp only [if_true, F_spec_l1In_eq, Option.bind_some, true_and]
  by_cases h1 : 1 <= n /\ n <= 60
  ·obtain ⟨k, rfl⟩ := Int.eq_ofNat_of_zero_le (show 0 <= n by omega)
   have := sg_l1 (a := a) (n := k) ha (by omega) k (g := [[]]) (out := []) gi0 (by simp) (by simp) (by simp; omega)
   rw [if_pos h1, if_pos (by simpa using h1), Int.toNat_natCast]
   exact this
  ·rw [if_neg h1, if_neg (by simpa using h1)]
theorem gr_el {a : List Int} : ∀ (r : Nat) {g : List LL} {out : LL}, GI g -> 1 <= g.length -> g.length + r <= 61 -> out.length <= 200 -> (∀ t ∈ out, 1 <= t.length /\ t.length <= 60) -> (gr a r g out).1.length <= 200 /\ ∀ t ∈ (gr a r g out).1, 1 <= t.length /\ t.length <= 60
 | 0, g, out, h, h1, h2, h3, h4 => ⟨h3, h4⟩
 | r + 1, g, out, h, h1, h2, h3, h4 => by
  rw [gr]
  split
  ·exact ⟨by simp, by simp⟩
  ·rename_i hq
   refine gr_el r (h.next h1 (by omega) (by omega)) (by simp) (by simp; omega) ?_ fun t ht => ?_
   ·rw [List.length_append]; unfold lev; rw [sortT_len]; omega
   ·rcases List.mem_append.1 ht with ht | ht
    ·exact h4 t ht
    ·have := lvs_el h h1 t ((sortT_perm _).mem_iff.1 ht)
     omega
theorem grds_el (a : List Int) (n : Int) : (grds a n).1.length <= 200 /\ ∀ t ∈ (grds a n).1, 1 <= t.length /\ t.length <= 60 := by
 unfold grds
 split
 ·rename_i h
  exact gr_el _ gi0 (by simp) (by simp; omega) (by simp) (by simp)
 ·exact ⟨by simp, by simp⟩
end Go.Proofs.YtglpjlpmijfocaaGreat
namespace Go.Proofs.YtglpjlpmijfocaaGreat
open Go Abx Tm
theorem into_mem {l : List Int} (hs : Small l) (n : Int) : Okk True (F_spec_l1Into l n) fun o => (∀ y, y ∈ o ↔ y ∈ l ∨ y = n) /\ o.length <= l.length + 1 := by
 have hs' : l.length < 1099511627776 := hs
 unfold F_spec_l1Into
 refine Okk.loop (fun k : Int => ∃ i : Nat, k = (i : Int) /\ i <= l.length) (fun k : Int => l.length - k.toNat) ⟨0, rfl, by omega⟩ ?_
 rintro _ ⟨i, rfl, hi⟩
 have cp := F_spec_l1Copy_eq (l := l.take i) (by show (l.take i).length < _; simp; omega)
 have ins : (∀ y, y ∈ l.take i ++ [n] ++ l.drop i ↔ y ∈ l ∨ y = n) := fun y => by
  have : y ∈ l ↔ y ∈ l.take i ∨ y ∈ l.drop i := by rw [<- List.mem_append, List.take_append_drop]
  rw [this]
  simp only [List.mem_append, List.mem_singleton]
  constructor
  ·rintro ((h | h) | h)
   ·exact .inl (.inl h)
   ·exact .inr h
   ·exact .inl (.inr h)
  ·rintro ((h | h) | h)
   ·exact .inl (.inl h)
   ·exact .inr h
   ·exact .inl (.inr h)
 have insl : (l.take i ++ [n] ++ l.drop i).length <= l.length + 1 := by simp; omega
 unfold F_spec_l1Into_l1
 have h1 : (0 : Int) <= i := by omega
 have h2 : (i : Int) <= l.length := by omega
 have hm : min i l.length = i := by omega
 have b1 : (i + 1) * 8 <= 140737488355328 := by omega
 have b2 : (i + 1 + (l.length - i)) * 8 <= 140737488355328 := by omega
 by_cases hlt : i < l.length
 ·have hlt' : (i : Int) < l.length := by omega
  simp only [hlt', decide_true, if_true, h1, h2, and_self, Int.toNat_natCast, cp, Option.bind_some, w64 (n := (i : Int) + 1) (by omega) (by omega), List.length_append, List.length_take, List.length_drop, List.length_singleton, hm, b1, b2]
  by_cases hn : l.getD i default < n
  ·simp only [hn, decide_true, if_true]
   exact .some ⟨⟨i + 1, by simp, by omega⟩, by simp; omega⟩
  ·simp only [hn, decide_false, Bool.false_eq_true, if_false]
   by_cases he : (l.getD i default == n) = true
   ·simp only [he, if_true, Option.map_some]
    refine .some ⟨fun y => ⟨.inl, ?_⟩, by omega⟩
    rintro (h | rfl)
    ·exact h
    ·rw [<- beq_iff_eq.1 he]; exact getD_mem hlt
   ·simp only [he, if_false, Option.map_some]
    exact .some ⟨ins, insl⟩
 ·have hlt' : ¬ (i : Int) < l.length := by omega
  simp only [hlt', decide_false, Bool.false_eq_true, if_false, if_true, h1, h2, and_self, Int.toNat_natCast, cp, Option.bind_some, List.length_append, List.length_take, List.length_drop, List.length_singleton, hm, b1, b2, Option.map_some]
  exact .some ⟨ins, insl⟩
def dfB (s : Sys) (f : Int) : Bool := s.2.any fun r => r.1.getD 0 default == f
theorem any_first {α : Type} {p : α -> Bool} {xs : List α} : decide (0 <= firstI p xs) = xs.any p := by
 cases h : xs.any p with
 | true =>
  obtain ⟨x, hx, hp⟩ := List.any_eq_true.1 h
  exact decide_eq_true (firstI_at hx hp)
 | false =>
  rw [firstI_none (fun x hx => by have := List.any_eq_false.1 h x hx; simpa using this)]
  rfl
theorem lhs_pos {s : Sys} (hs : sysOk s = true) {r : List Int × List Int} (hr : r ∈ s.2) : 1 <= r.1.length := (termOk_iff.1 (ruleOk_iff.1 ((sysOk_iff.1 hs).2.2 r hr)).1).2.1
theorem F_impl_isDefined_eq {s : Sys} (hs : sysOk s = true) (f : Int) : F_impl_isDefined s f = some (dfB s f) := by
 have hl := (sysOk_iff.1 hs).2.1
 unfold F_impl_isDefined F_slices_ContainsFunc_impl_Rule_impl_Rule
 suffices h : F_slices_IndexFunc_impl_Rule_impl_Rule s.2 f = some (firstI (fun r => r.1.getD 0 default == f) s.2) by
  rw [h, Option.bind_some, Option.bind_some, any_first]; rfl
 unfold F_slices_IndexFunc_impl_Rule_impl_Rule
 refine loop_first (fun i x hi hx hg => ?_) (by simp [F_slices_IndexFunc_impl_Rule_impl_Rule_l1])
 have hp := lhs_pos hs hx
 simp only [F_slices_IndexFunc_impl_Rule_impl_Rule_l1, show (i : Int) < s.2.length by omega, decide_true, if_true, show (0 : Int) <= i by omega, and_self, Int.toNat_natCast, hg, w64 (n := (i : Int) + 1) (by omega) (by omega), Option.map_some, F_impl_isDefined_1, Int.le_refl, show (0 : Int) < x.1.length by omega, Option.bind_some]
 cases x.1.getD 0 default == f <;> rfl
theorem F_contains_def {s : Sys} (hs : sysOk s = true) {t : List Int} (ht : t.length <= 60) : F_slices_ContainsFunc_int64_int64 t s.1 s.2 = some (t.any (dfB s)) := by
 unfold F_slices_ContainsFunc_int64_int64
 suffices h : F_slices_IndexFunc_int64_int64 t s.1 s.2 = some (firstI (dfB s) t) by
  rw [h, Option.bind_some, any_first]
 unfold F_slices_IndexFunc_int64_int64
 refine loop_first (fun i x hi hx hg => ?_) (by simp [F_slices_IndexFunc_int64_int64_l1])
 have e : F_impl_isDefined (s.1, s.2) x = some (dfB s x) := F_impl_isDefined_eq hs x
 simp only [F_slices_IndexFunc_int64_int64_l1, show (i : Int) < t.length by omega, decide_true, if_true, show (0 : Int) <= i by omega, and_self, Int.toNat_natCast, hg, w64 (n := (i : Int) + 1) (by omega) (by omega), Option.map_some, F_impl_BasicsOf_1, e, Option.bind_some]
 cases dfB s x <;> rfl
def basic (s : Sys) (t : List Int) : Bool := dfB s (t.getD 0 default) && !((t.drop 1).any (dfB s))
def bsc (s : Sys) (n : Int) : LL × Bool := if sysOk s = true /\ (grds s.1 n).2 = true then ((grds s.1 n).1.filter (basic s), true) else ([], false)
theorem filter_take {α : Type} {p : α -> Bool} {xs : List α} {i : Nat} (hi : i < xs.length) : (xs.take (i + 1)).filter p = if p xs[i] = true then (xs.take i).filter p ++ [xs[i]] else (xs.take i).filter p := by
 rw [List.take_succ_eq_append_getElem hi, List.filter_append]
 cases hp : p xs[i] <;> simp [hp]
theorem F_impl_BasicsOf_eq (s : Sys) (n : Int) : F_impl_BasicsOf s n = some (bsc s n) := by
 unfold F_impl_BasicsOf bsc
 rw [F_impl_SystemOk_eq, Option.bind_some]
 cases hs : sysOk s with
 | false => simp
 | true =>
  simp only [if_true, F_impl_GroundsOf_eq, Option.bind_some, true_and]
  have hel := grds_el s.1 n
  generalize grds s.1 n = q at *
  cases hq : q.2 with
  | false => simp
  | true =>
   simp only [if_true]
   refine loop_st (n := q.1.length) (fun i => ((q.1.take i).filter (basic s), (i : Int))) (fun i hi => ?_) (by simp [F_impl_BasicsOf_l1])
   obtain ⟨t1, t2⟩ := hel.2 _ (List.getElem_mem hi)
   have hfl : ((q.1.take i).filter (basic s)).length <= 200 := by
    have := List.length_filter_le (basic s) (q.1.take i)
    rw [List.length_take] at this
    have := hel.1; omega
   rw [filter_take hi]
   simp only [F_impl_BasicsOf_l1, show (i : Int) < q.1.length by omega, decide_true, if_true, show (0 : Int) <= i by omega, and_self, Int.toNat_natCast, getD_get hi, Int.le_refl, show (0 : Int) < (q.1[i]).length by omega, show (0 : Int) <= 1 by decide, show (1 : Int) <= (q.1[i]).length by omega, F_impl_isDefined_eq hs, F_contains_def hs (t := (q.1[i]).drop 1) (by simp; omega), Option.bind_some, w64 (n := (i : Int) + 1) (by have := hel.1; omega) (by have := hel.1; omega), show (((q.1.take i).filter (basic s)).length + 1) * 24 <= 140737488355328 by omega]
   unfold basic
   cases dfB s ((q.1[i]).getD 0 default) <;> cases ((q.1[i]).drop 1).any (dfB s) <;> simp
theorem F_spec_l6Defined_ok {s : Sys} (hs : sysOk s = true) : Okk True (F_spec_l6Defined s) fun o => Small o /\ ∀ f, decide (f ∈ o) = dfB s f := by
 have hl := (sysOk_iff.1 hs).2.1
 unfold F_spec_l6Defined
 refine Okk.loop (fun q : List Int × Int => ∃ i : Nat, q.2 = (i : Int) /\ i <= s.2.length /\ q.1.length <= i /\ ∀ f, f ∈ q.1 ↔ (s.2.take i).any (fun r => r.1.getD 0 default == f) = true) (fun q : List Int × Int => s.2.length - q.2.toNat) ⟨0, rfl, by omega, by simp, by simp⟩ ?_
 rintro ⟨o, i'⟩ ⟨i, h1, h2, h3, h4⟩
 simp only at h1 h3 h4
 subst h1
 unfold F_spec_l6Defined_l1
 by_cases hi : i < s.2.length
 ·have hp := lhs_pos hs (List.getElem_mem hi)
  simp only [show (i : Int) < s.2.length by omega, decide_true, if_true, show (0 : Int) <= i by omega, and_self, Int.toNat_natCast, getD_get hi, Int.le_refl, show (0 : Int) < (s.2[i]).1.length by omega, w64 (n := (i : Int) + 1) (by omega) (by omega)]
  refine .bind (into_mem (by show o.length < _; omega) _) fun r hr => ?_
  refine .some ⟨⟨i + 1, by simp, by omega, by simp; omega, fun f => ?_⟩, by simp; omega⟩
  show f ∈ r ↔ _
  rw [hr.1, h4, List.take_succ_eq_append_getElem hi, List.any_append]
  simp only [List.any_cons, List.any_nil, Bool.or_false, Bool.or_eq_true, beq_iff_eq]
  exact ⟨fun h => h.imp id Eq.symm, fun h => h.imp id Eq.symm⟩
 ·simp only [show ¬ (i : Int) < s.2.length by omega, decide_false, Bool.false_eq_true, if_false, Option.map_some]
  refine .some ⟨by show o.length < _; omega, fun f => ?_⟩
  rw [List.take_of_length_le (by omega)] at h4
  rw [Bool.eq_iff_iff, decide_eq_true_iff, h4]
  rfl
theorem F_spec_BasicsOf_eq (s : Sys) (n : Int) : F_spec_BasicsOf s n = some (bsc s n) := by
 unfold F_spec_BasicsOf bsc
 rw [F_spec_GroundsOf_eq, Option.bind_some, F_spec_SystemOk_eq, Option.bind_some]
 cases hs : sysOk s with
 | false => simp
 | true =>
  simp only [if_true, true_and]
  have hel := grds_el s.1 n
  generalize grds s.1 n = q at *
  cases hq : q.2 with
  | false => simp
  | true =>
   simp only [if_true]
   obtain ⟨D, hD⟩ := (F_spec_l6Defined_ok hs).2 trivial
   obtain ⟨dS, dM⟩ := (F_spec_l6Defined_ok hs).1 D hD
   have hh : ∀ f, F_spec_l1Has D f = some (dfB s f) := fun f => by rw [F_spec_l1Has_eq dS, dM]
   rw [hD, Option.bind_some]
   refine loop_st (n := q.1.length) (fun i => ((q.1.take i).filter (basic s), (i : Int))) (fun i hi => ?_) (by simp [F_spec_BasicsOf_l1])
   obtain ⟨t1, t2⟩ := hel.2 _ (List.getElem_mem hi)
   have hq1 := hel.1
   have hfl : ((q.1.take i).filter (basic s)).length <= 200 := by
    have := List.length_filter_le (basic s) (q.1.take i)
    rw [List.length_take] at this
    omega
   rw [filter_take hi]
   have hi' : (i : Int) < q.1.length := by omega
   have h0 : (0 : Int) <= i := by omega
   simp only [F_spec_BasicsOf_l1, hi', decide_true, if_true, h0, and_self, Int.toNat_natCast, getD_get hi, Int.le_refl, show (0 : Int) < (q.1[i]).length by omega, hh, Option.bind_some]
   have hz : (dfB s ((q.1[i]).getD 0 default) && !((((q.1[i]).drop 1).take 0).any (dfB s)), ((0 + 1 : Nat) : Int)) = (dfB s ((q.1[i]).getD 0 default), (1 : Int)) := by simp
   rw [<- hz]
   refine loop_st (n := (q.1[i]).length - 1) (fun j => (dfB s ((q.1[i]).getD 0 default) && !((((q.1[i]).drop 1).take j).any (dfB s)), ((j + 1 : Nat) : Int))) (fun j hj => ?_) ?_
   ·have hj' : j < ((q.1[i]).drop 1).length := by rw [List.length_drop]; omega
    have e1 : (q.1[i]).getD (j + 1) default = ((q.1[i]).drop 1)[j] := by rw [getD_get (by omega), List.getElem_drop]; congr 1; omega
    have e2 : ((((q.1[i]).drop 1).take (j + 1)).any (dfB s)) = ((((q.1[i]).drop 1).take j).any (dfB s) || dfB s (((q.1[i]).drop 1)[j])) := by rw [List.take_succ_eq_append_getElem hj', List.any_append]; simp
    rw [e2]
    simp only [F_spec_BasicsOf_l2, hi', h0, and_self, if_true, Int.toNat_natCast, getD_get hi, show ((j + 1 : Nat) : Int) < (q.1[i]).length by omega, decide_true, show (0 : Int) <= ((j + 1 : Nat) : Int) by omega, hh, Option.bind_some, e1, w64 (n := ((j + 1 : Nat) : Int) + 1) (by omega) (by omega)]
    cases dfB s ((q.1[i]).getD 0 default) <;> cases (((q.1[i]).drop 1).take j).any (dfB s) <;> simp
   ·have e : (((q.1[i]).length - 1 + 1 : Nat) : Int) = (q.1[i]).length := by omega
    have e3 : ((q.1[i]).drop 1).take ((q.1[i]).length - 1) = (q.1[i]).drop 1 := List.take_of_length_le (by rw [List.length_drop]; omega)
    rw [e3]
    simp only [F_spec_BasicsOf_l2, hi', h0, and_self, if_true, Int.toNat_natCast, getD_get hi, e, show ¬ ((q.1[i]).length : Int) < (q.1[i]).length by omega, decide_false, Bool.false_eq_true, if_false, show (((q.1.take i).filter (basic s)).length + 1) * 24 <= 140737488355328 by omega, w64 (n := (i : Int) + 1) (by omega) (by omega)]
    unfold basic
    cases dfB s ((q.1[i]).getD 0 default) <;> cases ((q.1[i]).drop 1).any (dfB s) <;> simp
def cntB (s : Sys) (t : List Int) (fuel : Int) : Int := if (sysOk s = true /\ termOk s.1 t = true) /\ 0 <= fuel /\ fuel <= 60 then (if (wlk s fuel.toNat t).2 = true then ((wlk s fuel.toNat t).1.length : Int) else -1) else -1
def gmx (c : List Int -> Int) : LL -> Int -> Int
 | [], m => m
 | t :: ts, m => if c t < 0 then -1 else gmx c ts (max m (c t))
def inm (s : Sys) (n fuel : Int) : Int := if (bsc s n).2 = true /\ 0 <= fuel /\ fuel <= 60 then gmx (fun t => cntB s t fuel) (bsc s n).1 0 else -1
theorem bsc_len (s : Sys) (n : Int) : (bsc s n).1.length <= 200 := by
 unfold bsc
 split
 ·exact Nat.le_trans (List.length_filter_le _ _) (grds_el s.1 n).1
 ·simp
theorem F_spec_l1Max_eq (a b : Int) : F_spec_l1Max a b = some (max a b) := by
 unfold F_spec_l1Max
 by_cases h : b < a
 ·simp [h]; omega
 ·simp [h]; omega
end Go.Proofs.YtglpjlpmijfocaaGreat
namespace Go.Proofs.YtglpjlpmijfocaaGreat
open Go Abx Tm
def rdB (s : Sys) (t : List Int) (i j : Nat) : Bool := (mat s.1 (s.2.getD j default).1 (at' s.1 t i) none24).isSome
theorem stepO_rd {s : Sys} {t u : List Int} {i j : Nat} (h : stepO s t i j = some u) : rdB s t i j = true := by
 unfold stepO stepp at h
 unfold rdB
 obtain ⟨b, hb, _⟩ := Option.bind_eq_some_iff.1 h
 rw [hb]; rfl
theorem F_impl_redex_eq {s : Sys} {t : List Int} {i rule : Nat} (hs : sysOk s = true) (ht : termOk s.1 t = true) (hi : i < t.length) (hr : rule < s.2.length) : F_impl_redex s t i rule = some (rdB s t i rule) := by
 obtain ⟨ha, _, hrs⟩ := sysOk_iff.1 hs
 obtain ⟨_, h1, h2, hw⟩ := termOk_iff.1 ht
 obtain ⟨p, u, q, rfl, rfl, hu⟩ := hw.place hi
 have hL := (ruleOk_iff.1 (hrs _ (getD_mem hr))).1
 have hm : ∀ x ∈ p ++ (u ++ q), -24 <= x := fun x hx => (hw.all x hx).1
 have hul : u.length <= 60 := by simp at h2; omega
 obtain ⟨_, hL1, hL2, hL3⟩ := termOk_iff.1 hL
 unfold F_impl_redex rdB F_impl_instance
 rw [if_pos (by omega), F_impl_subAt_eq ha (by show List.length _ < _; omega) hm List.drop_left hu, Option.bind_some, Int.toNat_natCast, at_eq hu]
 obtain ⟨r, e⟩ := (F_impl_match_ok ha hL3 hu hL2 hul).2 trivial
 rw [e, Option.bind_some, Option.bind_some, match_isSome ((F_impl_match_ok ha hL3 hu hL2 hul).1 r e)]
theorem rd_var {s : Sys} {t : List Int} {i j : Nat} (hs : sysOk s = true) (ht : termOk s.1 t = true) (hi : i < t.length) (hj : j < s.2.length) (hn : t.getD i default < 0) : rdB s t i j = false := by
 obtain ⟨ha, _, hrs⟩ := sysOk_iff.1 hs
 obtain ⟨_, h1, h2, hw⟩ := termOk_iff.1 ht
 obtain ⟨p, u, q, rfl, rfl, hu⟩ := hw.place hi
 obtain ⟨hL, _, hh, _⟩ := ruleOk_iff.1 (hrs _ (getD_mem hj))
 obtain ⟨_, hL1, hL2, hL3⟩ := termOk_iff.1 hL
 unfold rdB
 rw [at_eq hu]
 obtain ⟨x, r, rfl, _, _⟩ := hu.pos
 have hx : x < 0 := by
  have e : (p ++ (x :: r ++ q)).getD p.length default = x := by simp [List.getD_eq_getElem?_getD]
  rwa [e] at hn
 generalize (s.2.getD j default).1 = l at *
 obtain ⟨y, k, rfl, _, _⟩ := hL3.pos
 have hy : ¬ y < 0 := by simpa using hh
 rw [mat_sym hy, if_neg (by omega)]; rfl
def stRow (s : Sys) (t : List Int) (js : List Nat) (i : Nat) : List Stp := js.filterMap fun j => (stepO s t i j).map fun u => ((i : Int), (j : Int), u)
def stL (s : Sys) (t : List Int) : List Stp := (List.range t.length).flatMap (stRow s t (List.range s.2.length))
def lgR (s : Sys) (t : List Int) (js : List Nat) (i : Nat) : Bool := js.any fun j => rdB s t i j && (stepO s t i j).isNone
def lgB (s : Sys) (t : List Int) : Bool := (List.range t.length).any (lgR s t (List.range s.2.length))
def rdR (s : Sys) (t : List Int) (js : List Nat) (i : Nat) : Nat := (js.filter (rdB s t i)).length
def rdN (s : Sys) (t : List Int) : Nat := ((List.range t.length).map (rdR s t (List.range s.2.length))).sum
theorem row_rd {s : Sys} {t : List Int} {i : Nat} : ∀ js : List Nat, (stRow s t js i).length <= rdR s t js i /\ (lgR s t js i = true ↔ (stRow s t js i).length < rdR s t js i)
 | [] => by simp [stRow, rdR, lgR]
 | j :: js => by
  obtain ⟨h1, h2⟩ := row_rd (s := s) (t := t) (i := i) js
  unfold stRow rdR lgR at *
  rw [List.filterMap_cons, List.filter_cons, List.any_cons]
  cases hq : stepO s t i j with
  | some u =>
   have := stepO_rd hq
   simp only [Option.map_some, this, if_true, List.length_cons, Option.isNone_some, Bool.and_false, Bool.false_or]
   exact ⟨by omega, h2.trans (by omega)⟩
  | none =>
   cases hr : rdB s t i j with
   | true => simp; omega
   | false => simp only [Option.map_none, Bool.false_eq_true, if_false, Bool.false_and, Bool.false_or]; exact ⟨h1, h2⟩
theorem all_rd {s : Sys} {t : List Int} {js : List Nat} : ∀ is : List Nat, (is.flatMap (stRow s t js)).length <= (is.map (rdR s t js)).sum /\ (is.any (lgR s t js) = true ↔ (is.flatMap (stRow s t js)).length < (is.map (rdR s t js)).sum)
 | [] => by simp
 | i :: is => by
  obtain ⟨h1, h2⟩ := all_rd (s := s) (t := t) (js := js) is
  obtain ⟨h3, h4⟩ := row_rd (s := s) (t := t) (i := i) js
  simp only [List.flatMap_cons, List.length_append, List.map_cons, List.sum_cons, List.any_cons, Bool.or_eq_true]
  refine ⟨by omega, ?_⟩
  rw [h2, h4]; omega
theorem lg_iff (s : Sys) (t : List Int) : lgB s t = decide ((stL s t).length < rdN s t) := by
 have := (all_rd (s := s) (t := t) (js := List.range s.2.length) (List.range t.length)).2
 unfold lgB stL rdN
 rw [Bool.eq_iff_iff, this]; simp
theorem stRow_len {s : Sys} {t : List Int} {js : List Nat} {i : Nat} : (stRow s t js i).length <= js.length := List.length_filterMap_le _ _
theorem stL_len {s : Sys} {t : List Int} (hs : sysOk s = true) (ht : termOk s.1 t = true) : ∀ {n : Nat}, n <= t.length -> ((List.range n).flatMap (stRow s t (List.range s.2.length))).length <= n * 12
 | 0, _ => by simp
 | n + 1, h => by
  have := stL_len hs ht (n := n) (by omega)
  have h2 := stRow_len (s := s) (t := t) (js := List.range s.2.length) (i := n)
  have h3 := (sysOk_iff.1 hs).2.1
  rw [List.range_succ, List.flatMap_append, List.length_append]
  simp only [List.length_range] at h2
  simp only [List.flatMap_cons, List.flatMap_nil, List.append_nil]
  omega
theorem stRow_succ {s : Sys} {t : List Int} {i n : Nat} : stRow s t (List.range (n + 1)) i = stRow s t (List.range n) i ++ (match stepO s t i n with | some u => [((i : Int), (n : Int), u)] | none => []) := by
 unfold stRow
 rw [List.range_succ, List.filterMap_append]
 congr 1
 cases h : stepO s t i n <;> simp [h]
theorem F_spec_l7Steps_eq {s : Sys} {t : List Int} (hs : sysOk s = true) (ht : termOk s.1 t = true) : F_spec_l7Steps s t = some (stL s t) := by
 obtain ⟨_, hn, _⟩ := sysOk_iff.1 hs
 obtain ⟨_, h1, h60, _⟩ := termOk_iff.1 ht
 unfold F_spec_l7Steps
 have A := loop_st (n := t.length) (fun i => ((List.range i).flatMap (stRow s t (List.range s.2.length)), (i : Int))) (c := stL s t) (f := F_spec_l7Steps_l1 s t) (fun i hi => by
  have hlen := stL_len hs ht (n := i) (by omega)
  generalize hO : (List.range i).flatMap (stRow s t (List.range s.2.length)) = o at hlen
  have B := loop_st (n := s.2.length) (fun j => (o ++ stRow s t (List.range j) i, (j : Int))) (c := .inl (o ++ stRow s t (List.range s.2.length) i, ((i : Int) + 1))) (f := F_spec_l7Steps_l2 s t (i : Int)) (fun j hj => by
   have hr := stRow_len (s := s) (t := t) (js := List.range j) (i := i)
   rw [List.length_range] at hr
   unfold F_spec_l7Steps_l2
   simp only
   rw [if_pos (by simpa using hj), F_spec_l7Step_eq hs ht hi hj, Option.bind_some, w64 (by omega) (by omega), stRow_succ]
   cases hq : stepO s t i j with
   | none => simp [encO]
   | some u =>
    simp only [encO, if_true]
    rw [if_pos (by simp only [List.length_append]; omega), List.append_assoc]
    rfl) (by
   unfold F_spec_l7Steps_l2
   simp only
   rw [if_neg (by simp), w64 (by omega) (by omega)]; rfl)
  simp only [List.range_zero] at B
  have e0 : stRow s t [] i = [] := rfl
  rw [e0, List.append_nil] at B
  unfold F_spec_l7Steps_l1
  simp only
  rw [if_pos (by simpa using hi), show ((0 : Nat) : Int) = 0 from rfl] at *
  rw [B, List.range_succ, List.flatMap_append, hO]
  simp) (by
  unfold F_spec_l7Steps_l1
  simp only
  rw [if_neg (by simp)]; rfl)
 simpa using A
theorem rdR_succ {s : Sys} {t : List Int} {i n : Nat} : rdR s t (List.range (n + 1)) i = rdR s t (List.range n) i + (if rdB s t i n = true then 1 else 0) := by
 unfold rdR
 rw [List.range_succ, List.filter_append, List.length_append]
 congr 1
 cases h : rdB s t i n <;> simp [h]
theorem rdR_le {s : Sys} {t : List Int} {i n : Nat} : rdR s t (List.range n) i <= n := by
 have := List.length_filter_le (rdB s t i) (List.range n)
 rw [List.length_range] at this; exact this
theorem rdN_le {s : Sys} {t : List Int} (hn : s.2.length <= 12) : ∀ n, ((List.range n).map (rdR s t (List.range s.2.length))).sum <= n * 12
 | 0 => by simp
 | n + 1 => by
  have := rdN_le (s := s) (t := t) hn n
  have h2 := rdR_le (s := s) (t := t) (i := n) (n := s.2.length)
  rw [List.range_succ, List.map_append, List.sum_append]; simp; omega
theorem F_spec_l7Redexes_eq {s : Sys} {t : List Int} (hs : sysOk s = true) (ht : termOk s.1 t = true) : F_spec_l7Redexes s t = some (rdN s t : Int) := by
 obtain ⟨ha, hn, hrs⟩ := sysOk_iff.1 hs
 obtain ⟨_, h1, h60, hw⟩ := termOk_iff.1 ht
 unfold F_spec_l7Redexes
 have A := loop_st (n := t.length) (fun i => (((((List.range i).map (rdR s t (List.range s.2.length))).sum : Nat) : Int), (i : Int))) (c := (rdN s t : Int)) (f := F_spec_l7Redexes_l1 s t) (fun i hi => by
  have hlen := rdN_le (s := s) (t := t) hn i
  generalize hO : ((List.range i).map (rdR s t (List.range s.2.length))).sum = o at hlen
  have B := loop_st (n := s.2.length) (fun j => (((o + rdR s t (List.range j) i : Nat) : Int), (j : Int))) (c := .inl (((o + rdR s t (List.range s.2.length) i : Nat) : Int), ((i : Int) + 1))) (f := F_spec_l7Redexes_l2 s t (i : Int)) (fun j hj => by
   have hr := rdR_le (s := s) (t := t) (i := i) (n := j)
   obtain ⟨p, u, q, e1, e2, hu⟩ := hw.place hi
   have hL := (ruleOk_iff.1 (hrs _ (getD_mem hj))).1
   obtain ⟨_, hL1, hL2, hL3⟩ := termOk_iff.1 hL
   have hul : u.length <= 60 := by have := congrArg List.length e1; simp at this; omega
   have hrd : rdB s t i j = (mat s.1 (s.2.getD j default).1 u none24).isSome := by unfold rdB; rw [e1, <- e2, at_eq hu]
   unfold F_spec_l7Redexes_l2
   simp only
   rw [if_pos (by simpa using hj), if_pos (by omega), F_spec_l1Sub_eq ha (by show List.length _ < _; omega) (u := u) (r := q) (by rw [e1, <- e2]; exact List.drop_left) hu, Option.bind_some, Int.toNat_natCast]
   obtain ⟨r, e⟩ := (F_spec_l4Match_ok ha hL3 hu hL2 hul).2 trivial
   rw [e, Option.bind_some, match_isSome ((F_spec_l4Match_ok ha hL3 hu hL2 hul).1 r e), <- hrd, w64 (by omega) (by omega), w64 (by omega) (by omega), rdR_succ]
   cases rdB s t i j with
   | true => simp only [if_true]; congr 2
   | false => simp) (by
   unfold F_spec_l7Redexes_l2
   simp only
   rw [if_neg (by simp), w64 (by omega) (by omega)]; rfl)
  have e0 : rdR s t (List.range 0) i = 0 := rfl
  rw [e0, Nat.add_zero] at B
  unfold F_spec_l7Redexes_l1
  simp only
  rw [if_pos (by simpa using hi)]
  refine B.trans ?_
  rw [List.range_succ, List.map_append, List.sum_append, hO]
  simp) (by
  unfold F_spec_l7Redexes_l1
  simp only
  rw [if_neg (by simp)]; rfl)
 simpa using A
def elF (s : Sys) (t : List Int) (i j : Nat) : StpT := (((i : Int), (j : Int), (encO (stepO s t i j)).1), (encO (stepO s t i j)).2)
theorem elF_some {s : Sys} {t u : List Int} {i j : Nat} (h : stepO s t i j = some u) : elF s t i j = (((i : Int), (j : Int), u), true) := by unfold elF; rw [h]; rfl
theorem elF_none {s : Sys} {t : List Int} {i j : Nat} (h : stepO s t i j = none) : (elF s t i j).2 = false := by unfold elF; rw [h]; rfl
def elR (s : Sys) (t : List Int) (js : List Nat) (i : Nat) : List StpT := (js.filter (rdB s t i)).map (elF s t i)
theorem redexIn_eq {s : Sys} {t : List Int} {i : Nat} (hs : sysOk s = true) (ht : termOk s.1 t = true) (hi : i < t.length) : ∀ k, k <= s.2.length -> redexIn s t i k = some (elR s t (List.range' (s.2.length - k) k) i)
 | 0, _ => rfl
 | k + 1, hk => by
  have ih := redexIn_eq hs ht hi k (by omega)
  have e : List.range' (s.2.length - (k + 1)) (k + 1) = (s.2.length - (k + 1)) :: List.range' (s.2.length - k) k := by
   rw [List.range'_succ]; congr 2; omega
  unfold redexIn
  rw [e]
  have hr : s.2.length - (k + 1) < s.2.length := by omega
  by_cases hn : t.getD i default < 0
  ·rw [if_pos (by simpa using hn), ih]
   unfold elR
   rw [List.filter_cons, rd_var hs ht hi hr hn]; rfl
  ·rw [if_neg (by simpa using hn), F_impl_redex_eq hs ht hi hr, Option.bind_some]
   unfold elR
   rw [List.filter_cons]
   cases hq : rdB s t i (s.2.length - (k + 1)) with
   | false => simp only [Bool.false_eq_true, if_false]; exact ih
   | true =>
    simp only [if_true]
    rw [F_impl_step_eq hs ht hi hr, Option.bind_some, ih]
    rfl
theorem redexOut_eq {s : Sys} {t : List Int} (hs : sysOk s = true) (ht : termOk s.1 t = true) : ∀ k, k <= t.length -> redexOut s t k = some ((List.range' (t.length - k) k).flatMap (elR s t (List.range s.2.length)))
 | 0, _ => rfl
 | k + 1, hk => by
  have ih := redexOut_eq hs ht k (by omega)
  have e : List.range' (t.length - (k + 1)) (k + 1) = (t.length - (k + 1)) :: List.range' (t.length - k) k := by
   rw [List.range'_succ]; congr 2; omega
  unfold redexOut
  rw [e, redexIn_eq hs ht (by omega) _ (Nat.le_refl _), Option.bind_some, ih, Nat.sub_self, <- List.range_eq_range']
  rfl
def elA (s : Sys) (t : List Int) : List StpT := (List.range t.length).flatMap (elR s t (List.range s.2.length))
theorem F_redexEls_eq {s : Sys} {t : List Int} (hs : sysOk s = true) (ht : termOk s.1 t = true) : F_redexEls s t = some (elA s t) := by
 unfold F_redexEls elA
 rw [redexOut_eq hs ht _ (Nat.le_refl _), Nat.sub_self, <- List.range_eq_range']
theorem elR_ok {s : Sys} {t : List Int} {i : Nat} : ∀ js : List Nat, ((elR s t js i).filter (·.2)).map (·.1) = stRow s t js i /\ (elR s t js i).any (fun x => !x.2) = lgR s t js i
 | [] => ⟨rfl, rfl⟩
 | j :: js => by
  obtain ⟨h1, h2⟩ := elR_ok (s := s) (t := t) (i := i) js
  unfold elR stRow lgR at *
  rw [List.filter_cons, List.filterMap_cons, List.any_cons]
  cases hq : stepO s t i j with
  | some u =>
   simp only [stepO_rd hq, if_true, List.map_cons, List.filter_cons, List.any_cons, elF_some hq, h1, h2, Option.map_some, Option.isNone_some, Bool.and_false, Bool.not_true, Bool.false_or, and_self]
  | none => cases hr : rdB s t i j <;> simp [elF_none hq, h1, h2]
theorem elA_ok (s : Sys) (t : List Int) : ((elA s t).filter (·.2)).map (·.1) = stL s t /\ (elA s t).any (fun x => !x.2) = lgB s t := by
 unfold elA stL lgB
 generalize List.range t.length = is
 induction is with
 | nil => exact ⟨rfl, rfl⟩
 | cons i is ih =>
  obtain ⟨h1, h2⟩ := elR_ok (s := s) (t := t) (i := i) (List.range s.2.length)
  simp only [List.flatMap_cons, List.filter_append, List.map_append, List.any_append, List.any_cons, h1, h2, ih.1, ih.2, and_self]
theorem take_snoc {α : Type} [Inhabited α] {xs : List α} {i : Nat} (h : i < xs.length) : xs.take (i + 1) = xs.take i ++ [xs.getD i default] := by
 rw [List.take_succ_eq_append_getElem h, getD_get h]
theorem F_impl_stepsFrom_eq {s : Sys} {t : List Int} (hs : sysOk s = true) (ht : termOk s.1 t = true) : F_impl_stepsFrom s t = some (stL s t, lgB s t) := by
 unfold F_impl_stepsFrom
 rw [show F_impl_redexSteps s t = some () from rfl, Option.bind_some, F_redexEls_eq hs ht, Option.bind_some]
 have hb : ∀ j, (((elA s t).take j).filter (·.2)).length <= 720 := fun j => by
  have h1 : (((elA s t).take j).filter (·.2)).length <= ((elA s t).filter (·.2)).length := ((List.take_sublist _ _).filter _).length_le
  have h2 := congrArg List.length (elA_ok s t).1
  rw [List.length_map] at h2
  have h3 := stL_len hs ht (n := t.length) (Nat.le_refl _)
  have h4 := (termOk_iff.1 ht).2.2.1
  unfold stL at h2
  omega
 have A := loop_st (n := (elA s t).length) (fun j => (j, (((elA s t).take j).filter (·.2)).map (·.1), ((elA s t).take j).any (fun x => !x.2))) (c := (stL s t, lgB s t)) (f := F_impl_stepsFrom_l1 (elA s t)) (fun j hj => by
  have h0 := hb j
  unfold F_impl_stepsFrom_l1
  simp only
  rw [if_pos hj, take_snoc hj]
  generalize (elA s t).getD j default = x
  cases hx : x.2 with
  | true =>
   simp only [if_true]
   rw [if_pos (by rw [List.length_map]; omega), List.filter_append, List.map_append, List.any_append]
   simp [hx]
  | false =>
   simp [hx]) (by
  unfold F_impl_stepsFrom_l1
  simp only
  rw [if_neg (Nat.lt_irrefl _), List.take_length, (elA_ok s t).1, (elA_ok s t).2]; rfl)
 simpa using A
end Go.Proofs.YtglpjlpmijfocaaGreat
namespace Go.Proofs.YtglpjlpmijfocaaGreat
open Go Abx Tm
def addT (o : LL) (u : List Int) : LL := if u ∈ o then o else o ++ [u]
theorem addF_len : ∀ (us o : LL), (us.foldl addT o).length <= o.length + us.length
 | [], o => by simp
 | u :: us, o => by
  have := addF_len us (addT o u)
  have h2 : (addT o u).length <= o.length + 1 := by unfold addT; split <;> simp
  simp only [List.foldl_cons, List.length_cons]; omega
theorem addF_all {P : List Int -> Prop} : ∀ {us o : LL}, (∀ t ∈ o, P t) -> (∀ t ∈ us, P t) -> ∀ t ∈ us.foldl addT o, P t
 | [], o, h1, _ => h1
 | u :: us, o, h1, h2 => by
  refine addF_all (us := us) (o := addT o u) (fun t ht => ?_) fun t ht => h2 t (List.mem_cons_of_mem _ ht)
  unfold addT at ht
  split at ht
  ·exact h1 t ht
  ·rcases List.mem_append.1 ht with h | h
   ·exact h1 t h
   ·rw [List.mem_singleton.1 h]; exact h2 u List.mem_cons_self
def addK (o us : LL) (k : Nat) : LL := (us.take k).foldl addT o
theorem addK_succ {o us : LL} {k : Nat} (h : k < us.length) : addK o us (k + 1) = addT (addK o us k) us[k] := by
 unfold addK; rw [List.take_succ_eq_append_getElem h, List.foldl_append]; rfl
theorem addK_len (o us : LL) (k : Nat) : (addK o us k).length <= o.length + us.length := by
 have := addF_len (us.take k) o
 have h2 : (us.take k).length <= us.length := by simp; omega
 unfold addK; omega
theorem addK_all {P : List Int -> Prop} {us o : LL} (h1 : ∀ t ∈ o, P t) (h2 : ∀ t ∈ us, P t) (k : Nat) : ∀ t ∈ addK o us k, P t :=
 addF_all h1 fun t ht => h2 t (List.mem_of_mem_take ht)
def upd (o : LL) (r : List Stp) : LL := (r.map (·.2.2)).foldl addT o
theorem addK_full {o : LL} {r : List Stp} : addK o (r.map (·.2.2)) r.length = upd o r := by
 unfold addK upd
 rw [List.take_of_length_le (by simp)]
theorem step_ok {s : Sys} {t u : List Int} {i j : Nat} (hs : sysOk s = true) (ht : termOk s.1 t = true) (hi : i < t.length) (hj : j < s.2.length) (h : stepO s t i j = some u) : termOk s.1 u = true := by
 have hst : stepAtO s t (i : Int) (j : Int) = some u := by
  unfold stepAtO
  rw [if_pos ⟨⟨hs, ht⟩, ⟨by omega, by omega⟩, by omega, by omega⟩]
  exact h
 exact moveB_to (m := ((j : Int), (i : Int), false, u)) (stepAt_move (x := ((i : Int), (j : Int), u)) hst (by simp))
theorem stL_ok {s : Sys} {t : List Int} (hs : sysOk s = true) (ht : termOk s.1 t = true) : ∀ x ∈ stL s t, termOk s.1 x.2.2 = true := fun x hx => by
 obtain ⟨i, hi, hx⟩ := List.mem_flatMap.1 hx
 obtain ⟨j, hj, hx⟩ := List.mem_filterMap.1 hx
 obtain ⟨u, hu, rfl⟩ := Option.map_eq_some_iff.1 hx
 exact step_ok hs ht (List.mem_range.1 hi) (List.mem_range.1 hj) hu
theorem ok_sm {a t : List Int} (h : termOk a t = true) : t.length <= 60 := (termOk_iff.1 h).2.2.1
theorem stL_720 {s : Sys} {t : List Int} (hs : sysOk s = true) (ht : termOk s.1 t = true) : (stL s t).length <= 720 := by
 have h3 := stL_len hs ht (n := t.length) (Nat.le_refl _)
 have h4 := ok_sm ht
 unfold stL; omega
theorem spec_l2 {i : Nat} (hi : i <= 60) {r : List Stp} {o : LL} (hr : r.length <= 720) (ho : o.length <= 60) (hs : ∀ t ∈ o, Small t) (hu : ∀ x ∈ r, Small x.2.2) :
 loopC (F_spec_l9Next_l2 (i : Int) r) (o, 0) = some (if 60 < (upd o r).length then .inr ([], false) else .inl (upd o r, (i : Int) + 1)) := by
 refine loop_st (n := r.length) (fun k => (addK o (r.map (·.2.2)) k, (k : Int))) (fun k hk => ?_) ?_
 ·have hl := addK_len o (r.map (·.2.2)) k
  have hsm : ∀ t ∈ addK o (r.map (·.2.2)) k, Small t := addK_all hs (fun t ht => by obtain ⟨x, hx, rfl⟩ := List.mem_map.1 ht; exact hu x hx) k
  rw [List.length_map] at hl
  rw [addK_succ (by simpa using hk), List.getElem_map]
  generalize addK o (r.map (·.2.2)) k = q at *
  simp only [F_spec_l9Next_l2, show (k : Int) < r.length by omega, decide_true, if_true, show (0 : Int) <= k by omega, and_self, Int.toNat_natCast, getD_get hk, F_spec_l1TermPlace_eq (l := q) (by omega) hsm, Option.bind_some, firstI_neg, w64 (n := (k : Int) + 1) (by omega) (by omega), show (q.length + 1) * 24 <= 140737488355328 by omega]
  unfold addT
  by_cases hm : r[k].2.2 ∈ q <;> simp [hm]
 ·rw [addK_full]
  simp only [F_spec_l9Next_l2, show ¬ (r.length : Int) < r.length by omega, decide_false, Bool.false_eq_true, if_false, w64 (n := (i : Int) + 1) (by omega) (by omega)]
  by_cases hq : 60 < (upd o r).length
  ·rw [if_pos (by simpa using (by omega : (60 : Int) < ((upd o r).length : Int))), if_pos hq]; rfl
  ·rw [if_neg (by simpa using (by omega : ((upd o r).length : Int) <= 60)), if_neg hq]; rfl
def lvl (s : Sys) (o : LL) (t : List Int) : Option LL := if lgB s t = true then none else if 60 < (upd o (stL s t)).length then none else some (upd o (stL s t))
def lvN (s : Sys) : LL -> LL -> Option LL
 | [], o => some o
 | t :: ts, o => (lvl s o t).bind (lvN s ts)
theorem upd_ok {s : Sys} {t : List Int} {o : LL} (hs : sysOk s = true) (ht : termOk s.1 t = true) (ho : ∀ x ∈ o, termOk s.1 x = true) : ∀ x ∈ upd o (stL s t), termOk s.1 x = true :=
 addF_all ho fun u hu => by obtain ⟨x, hx, rfl⟩ := List.mem_map.1 hu; exact stL_ok hs ht x hx
theorem lvN_ok {s : Sys} (hs : sysOk s = true) : ∀ {ts o q : LL}, (∀ x ∈ ts, termOk s.1 x = true) -> (∀ x ∈ o, termOk s.1 x = true) -> o.length <= 60 -> lvN s ts o = some q -> (∀ x ∈ q, termOk s.1 x = true) /\ q.length <= 60
 | [], o, q, _, ho, hl, h => by cases h; exact ⟨ho, hl⟩
 | t :: ts, o, q, ht, ho, hl, h => by
  obtain ⟨o', h1, h2⟩ := Option.bind_eq_some_iff.1 h
  unfold lvl at h1
  split at h1
  ·cases h1
  ·split at h1
   ·cases h1
   ·rename_i hq
    cases h1
    exact lvN_ok hs (fun x hx => ht x (List.mem_cons_of_mem _ hx)) (upd_ok hs (ht t List.mem_cons_self) ho) (by omega) h2
theorem next_l1 {s : Sys} (hs : sysOk s = true) {level : LL} (hl : level.length <= 60) (hL : ∀ t ∈ level, termOk s.1 t = true) : ∀ (r : LL) {i : Nat} {o : LL}, level.drop i = r -> i <= level.length -> o.length <= 60 -> (∀ t ∈ o, termOk s.1 t = true) ->
 loopC (F_spec_l9Next_l1 s level) (o, (i : Int)) = some (match lvN s r o with | some q => (q, true) | none => ([], false))
 | [], i, o, hd, hi, ho, hO => by
  refine loopC_inr ?_
  have : level.length <= i := by simpa using hd
  simp only [F_spec_l9Next_l1, show ¬ (i : Int) < level.length by omega, decide_false, Bool.false_eq_true, if_false, lvN, Option.map_some]
 | t :: r, i, o, hd, hi, ho, hO => by
  obtain ⟨h1, h2, h3⟩ := drop_cons hd
  have ht : termOk s.1 t = true := by rw [<- h2]; exact hL _ (getD_mem h1)
  have e : F_spec_l9Next_l1 s level (o, (i : Int)) = some (match lvl s o t with | none => .inr ([], false) | some q => .inl (q, (i : Int) + 1)) := by
   simp only [F_spec_l9Next_l1, show (i : Int) < level.length by omega, decide_true, if_true, show (0 : Int) <= i by omega, and_self, Int.toNat_natCast, h2, F_spec_l7Steps_eq hs ht, F_spec_l7Redexes_eq hs ht, Option.bind_some]
   rw [spec_l2 (by omega) (stL_720 hs ht) ho (fun t h => by have := ok_sm (hO t h); show t.length < _; omega) (fun x hx => by have := ok_sm (stL_ok hs ht x hx); show x.2.2.length < _; omega)]
   unfold lvl
   rw [lg_iff]
   by_cases hg : (stL s t).length < rdN s t
   ·simp [hg]
   ·simp only [show ¬ ((stL s t).length : Int) < (rdN s t : Int) by omega, hg, decide_false, Bool.false_eq_true, if_false]
    split <;> rfl
  unfold lvN
  cases hv : lvl s o t with
  | none =>
   rw [hv] at e
   exact loopC_inr e
  | some q =>
   rw [hv] at e
   rw [loopC_inl e, Option.bind_some]
   have hq : lvN s [t] o = some q := by show (lvl s o t).bind (lvN s []) = _; rw [hv]; rfl
   obtain ⟨q1, q2⟩ := lvN_ok hs (by simpa using ht) hO ho hq
   exact next_l1 hs hl hL r (i := i + 1) h3 (by omega) q2 q1
theorem F_spec_l9Next_eq {s : Sys} (hs : sysOk s = true) {level : LL} (hl : level.length <= 60) (hL : ∀ t ∈ level, termOk s.1 t = true) : F_spec_l9Next s level = some (match lvN s level [] with | some q => (q, true) | none => ([], false)) :=
 next_l1 hs hl hL level (i := 0) rfl (by omega) (by simp) (by simp)
def kL (t : List Int) : Lit := Lit.string (kBytes t)
theorem kByte_inj {x y : Int} (hx : -24 <= x /\ x < 8) (hy : -24 <= y /\ y < 8) (h : kByte x = kByte y) : x = y := by
 have h1 := kByte_int x
 have h2 := kByte_int y
 rw [h] at h1
 unfold Go.RowKit.wrap64 at h1 h2
 omega
theorem kBytes_inj : ∀ {a b : List Int}, (∀ x ∈ a, -24 <= x /\ x < 8) -> (∀ x ∈ b, -24 <= x /\ x < 8) -> kBytes a = kBytes b -> a = b
 | [], [], _, _, _ => rfl
 | [], y :: b, _, _, h => by cases h
 | x :: a, [], _, _, h => by cases h
 | x :: a, y :: b, ha, hb, h => by
  simp only [kBytes, List.map_cons, List.cons.injEq] at h
  rw [kByte_inj (ha x List.mem_cons_self) (hb y List.mem_cons_self) h.1, kBytes_inj (fun z hz => ha z (List.mem_cons_of_mem _ hz)) (fun z hz => hb z (List.mem_cons_of_mem _ hz)) h.2]
theorem ok_in {a t : List Int} (h : termOk a t = true) : ∀ x ∈ t, -24 <= x /\ x < 8 := fun x hx => by
 obtain ⟨ha, _, _, hw⟩ := termOk_iff.1 h
 have := hw.all x hx
 have h8 := (sigOk_iff.1 ha).2.1
 unfold okx at this
 omega
theorem kL_inj {a t u : List Int} (ht : termOk a t = true) (hu : termOk a u = true) (h : kL t = kL u) : t = u := by
 unfold kL at h
 exact kBytes_inj (ok_in ht) (ok_in hu) (by injection h)
def mK (o : LL) : List (Lit × Bool) := o.reverse.map fun t => (kL t, true)
theorem mK_len (o : LL) : (mK o).length = o.length := by simp [mK]
theorem mK_add (o : LL) (t : List Int) : mK (o ++ [t]) = (kL t, true) :: mK o := by simp [mK]
theorem mget_map {a t : List Int} (ht : termOk a t = true) : ∀ {o : LL}, (∀ x ∈ o, termOk a x = true) -> (mget (o.map fun t => (kL t, true)) (kL t)).getD false = decide (t ∈ o)
 | [], _ => by simp [mget]
 | u :: o, ho => by
  have ih := mget_map ht (o := o) fun x hx => ho x (List.mem_cons_of_mem _ hx)
  simp only [List.map_cons, mget]
  by_cases h : kL u = kL t
  ·rw [if_pos h, kL_inj (ho u List.mem_cons_self) ht h]; simp
  ·rw [if_neg h, ih]
   have : t ≠ u := fun e => h (by rw [e])
   simp [this]
theorem mget_mK {a t : List Int} {o : LL} (ht : termOk a t = true) (ho : ∀ x ∈ o, termOk a x = true) : (mget (mK o) (kL t)).getD false = decide (t ∈ o) := by
 unfold mK
 rw [mget_map ht fun x hx => ho x (by simpa using hx)]
 simp
def mDs (o : LL) (M : List (Lit × Bool)) : List (Lit × Bool) := o.foldl (fun M t => mdel (kL t) M) M
theorem mDs_mem : ∀ {o : LL} {M : List (Lit × Bool)} {p : Lit × Bool}, p ∈ mDs o M -> p ∈ M /\ ∀ t ∈ o, p.1 ≠ kL t
 | [], M, p, h => ⟨h, by simp⟩
 | t :: o, M, p, h => by
  obtain ⟨h1, h2⟩ := mDs_mem (o := o) (M := mdel (kL t) M) h
  unfold mdel at h1
  obtain ⟨h3, h4⟩ := List.mem_filter.1 h1
  exact ⟨h3, fun u hu => (List.mem_cons.1 hu).elim (fun e => by rw [e]; simpa using h4) (h2 u)⟩
theorem mDs_nil (o : LL) : mDs o (mK o) = [] := by
 refine List.eq_nil_iff_forall_not_mem.2 fun p hp => ?_
 obtain ⟨h1, h2⟩ := mDs_mem hp
 obtain ⟨t, ht, rfl⟩ := List.mem_map.1 h1
 exact h2 t (by simpa using ht) rfl
theorem key_eq {t : List Int} (h : t.length <= 60) : F_impl_key t = some ⟨(kBytes t).toArray⟩ := by
 unfold F_impl_key; rw [if_pos (by omega)]
theorem key_sz {t : List Int} (h : t.length <= 60) : (⟨(kBytes t).toArray⟩ : ByteArray).size <= maxLen := by
 have : (⟨(kBytes t).toArray⟩ : ByteArray).size = t.length := by show (kBytes t).toArray.size = _; simp [kBytes]
 rw [this]; unfold maxLen; omega
theorem impl_l3 {a : List Int} {i : Nat} (hi : i <= 60) {r : List Stp} {o : LL} (hr : r.length <= 720) (ho : o.length <= 60) (hs : ∀ t ∈ o, termOk a t = true) (hu : ∀ x ∈ r, termOk a x.2.2 = true) {b : Bool} :
 loopC (F_impl_longest_l3 (i : Int) (r, b)) (o, 0, mK o) = some (if 60 < (upd o r).length then .inr (.inr (-1)) else .inl (upd o r, (i : Int) + 1, mK (upd o r))) := by
 refine loop_st (n := r.length) (fun k => (addK o (r.map (·.2.2)) k, (k : Int), mK (addK o (r.map (·.2.2)) k))) (fun k hk => ?_) ?_
 ·have hl := addK_len o (r.map (·.2.2)) k
  have hsm : ∀ t ∈ addK o (r.map (·.2.2)) k, termOk a t = true := addK_all hs (fun t ht => by obtain ⟨x, hx, rfl⟩ := List.mem_map.1 ht; exact hu x hx) k
  rw [List.length_map] at hl
  rw [addK_succ (by simpa using hk), List.getElem_map]
  generalize addK o (r.map (·.2.2)) k = q at *
  have hx := hu _ (List.getElem_mem hk)
  have hmg := mget_mK hx hsm
  unfold kL at hmg
  have hML := mK_len q
  simp only [F_impl_longest_l3, show (k : Int) < r.length by omega, decide_true, if_true, show (0 : Int) <= k by omega, and_self, Int.toNat_natCast, getD_get hk, key_eq (ok_sm hx), key_sz (ok_sm hx), Option.bind_some, w64 (n := (k : Int) + 1) (by omega) (by omega), show (q.length + 1) * 24 <= 140737488355328 by omega, true_and, show (mK q).length < 1099511627776 by omega, hmg]
  unfold addT
  by_cases hm : r[k].2.2 ∈ q
  ·simp [hm]
  ·simp only [hm, decide_false, Bool.false_eq_true, if_false]
   rw [mK_add]; rfl
 ·rw [addK_full]
  simp only [F_impl_longest_l3, show ¬ (r.length : Int) < r.length by omega, decide_false, Bool.false_eq_true, if_false, w64 (n := (i : Int) + 1) (by omega) (by omega)]
  by_cases hq : 60 < (upd o r).length
  ·rw [if_pos (by simpa using (by omega : (60 : Int) < ((upd o r).length : Int))), if_pos hq]; rfl
  ·rw [if_neg (by simpa using (by omega : ((upd o r).length : Int) <= 60)), if_neg hq]; rfl
theorem impl_l4 {a : List Int} {steps k : Int} {q : LL} (hq : q.length <= 60) (hs : ∀ t ∈ q, termOk a t = true) (hk : 0 <= k /\ k <= 20) :
 loopC (F_impl_longest_l4 steps k q) (0, mK q) = some (if q.length = 0 then .inr k else if k = steps then .inr (-1) else .inl (q, k + 1, [])) := by
 refine loop_st (n := q.length) (fun j => ((j : Int), mDs (q.take j) (mK q))) (fun j hj => ?_) ?_
 ·have hx := hs _ (List.getElem_mem hj)
  have e : mDs (q.take (j + 1)) (mK q) = mdel (kL q[j]) (mDs (q.take j) (mK q)) := by
   unfold mDs; rw [List.take_succ_eq_append_getElem hj, List.foldl_append]; rfl
  rw [e]
  simp only [F_impl_longest_l4, show (j : Int) < q.length by omega, decide_true, if_true, show (0 : Int) <= j by omega, and_self, Int.toNat_natCast, getD_get hj, key_eq (ok_sm hx), key_sz (ok_sm hx), Option.bind_some, w64 (n := (j : Int) + 1) (by omega) (by omega)]
  rfl
 ·rw [List.take_length, mDs_nil]
  simp only [F_impl_longest_l4, show ¬ (q.length : Int) < q.length by omega, decide_false, Bool.false_eq_true, if_false, w64 (n := k + 1) (by omega) (by omega)]
  by_cases h0 : q.length = 0
  ·rw [if_pos (by simpa using h0), if_pos h0]; rfl
  ·rw [if_neg (by simpa using h0), if_neg h0]
   by_cases h1 : k = steps
   ·rw [if_pos (by simpa using h1), if_pos h1]; rfl
   ·rw [if_neg (by simpa using h1), if_neg h1]; rfl
theorem impl_l2 {s : Sys} (hs : sysOk s = true) {level : LL} {steps k : Int} (hk : 0 <= k /\ k <= 20) (hl : level.length <= 60) (hL : ∀ t ∈ level, termOk s.1 t = true) : ∀ (r : LL) {i : Nat} {o : LL}, level.drop i = r -> i <= level.length -> o.length <= 60 -> (∀ t ∈ o, termOk s.1 t = true) ->
 loopC (F_impl_longest_l2 s steps level k) (o, (i : Int), mK o) = some (match lvN s r o with | none => .inr (-1) | some q => if q.length = 0 then .inr k else if k = steps then .inr (-1) else .inl (q, k + 1, []))
 | [], i, o, hd, hi, ho, hO => by
  refine loopC_inr ?_
  have : level.length <= i := by simpa using hd
  simp only [F_impl_longest_l2, show ¬ (i : Int) < level.length by omega, decide_false, Bool.false_eq_true, if_false, lvN, impl_l4 ho hO hk, Option.map_some]
 | t :: r, i, o, hd, hi, ho, hO => by
  obtain ⟨h1, h2, h3⟩ := drop_cons hd
  have ht : termOk s.1 t = true := by rw [<- h2]; exact hL _ (getD_mem h1)
  have e : F_impl_longest_l2 s steps level k (o, (i : Int), mK o) = some (match lvl s o t with | none => .inr (.inr (-1)) | some q => .inl (q, (i : Int) + 1, mK q)) := by
   simp only [F_impl_longest_l2, show (i : Int) < level.length by omega, decide_true, if_true, show (0 : Int) <= i by omega, and_self, Int.toNat_natCast, h2, F_impl_stepsFrom_eq hs ht, Option.bind_some]
   rw [impl_l3 (by omega) (stL_720 hs ht) ho hO (stL_ok hs ht)]
   unfold lvl
   cases lgB s t with
   | true => simp
   | false =>
    simp only [Bool.false_eq_true, if_false]
    split <;> rfl
  unfold lvN
  cases hv : lvl s o t with
  | none =>
   rw [hv] at e
   exact loopC_inr e
  | some q =>
   rw [hv] at e
   rw [loopC_inl e, Option.bind_some]
   have hq : lvN s [t] o = some q := by show (lvl s o t).bind (lvN s []) = _; rw [hv]; rfl
   obtain ⟨q1, q2⟩ := lvN_ok hs (by simpa using ht) hO ho hq
   exact impl_l2 hs hk hl hL r (i := i + 1) h3 (by omega) q2 q1
def lngR (s : Sys) : Nat -> LL -> Int -> Int
 | 0, level, k => match lvN s level [] with | none => -1 | some q => if q.length = 0 then k else -1
 | r + 1, level, k => match lvN s level [] with | none => -1 | some q => if q.length = 0 then k else lngR s r q (k + 1)
def lng (s : Sys) (t : List Int) (steps : Int) : Int := lngR s steps.toNat [t] 0
theorem impl_l1 {s : Sys} (hs : sysOk s = true) {steps : Int} (h20 : steps <= 20) : ∀ (r : Nat) {level : LL} {k : Int}, 0 <= k -> k + r = steps -> level.length <= 60 -> (∀ t ∈ level, termOk s.1 t = true) ->
 loopC (F_impl_longest_l1 s steps) (level, k, []) = some (lngR s r level k)
 | r, level, k, h0, hk, hl, hL => by
  have e : F_impl_longest_l1 s steps (level, k, []) = some (match lvN s level [] with | none => .inr (-1) | some q => if q.length = 0 then .inr k else if k = steps then .inr (-1) else .inl (q, k + 1, [])) :=
   impl_l2 hs ⟨h0, by omega⟩ hl hL level (i := 0) (o := []) rfl (by omega) (by simp) (by simp)
  cases hv : lvN s level [] with
  | none =>
   rw [hv] at e
   rw [loopC_inr e]
   cases r <;> simp only [lngR, hv]
  | some q =>
   rw [hv] at e
   simp only at e
   obtain ⟨q1, q2⟩ := lvN_ok hs hL (by simp) (by simp) hv
   by_cases hq : q.length = 0
   ·rw [if_pos hq] at e
    rw [loopC_inr e]
    cases r <;> simp only [lngR, hv, hq, if_true]
   ·rw [if_neg hq] at e
    match r, hk with
    | 0, hk =>
     rw [if_pos (by simpa using hk)] at e
     rw [loopC_inr e]
     simp only [lngR, hv, hq, if_false]
    | r + 1, hk =>
     rw [if_neg (by omega)] at e
     rw [loopC_inl e, impl_l1 hs h20 r (by omega) (by omega) q2 q1]
     simp only [lngR, hv, hq, if_false]
theorem spec_l1 {s : Sys} (hs : sysOk s = true) {steps : Int} (h20 : steps <= 20) : ∀ (r : Nat) {level : LL} {k : Int}, 0 <= k -> k + r = steps -> level.length <= 60 -> (∀ t ∈ level, termOk s.1 t = true) ->
 loopC (F_spec_LongestOf_l1 s steps) (level, k) = some (lngR s r level k)
 | r, level, k, h0, hk, hl, hL => by
  have e : F_spec_LongestOf_l1 s steps (level, k) = some (match lvN s level [] with | none => .inr (-1) | some q => if q.length = 0 then .inr k else .inl (q, k + 1)) := by
   simp only [F_spec_LongestOf_l1, show k <= steps by omega, decide_true, if_true, F_spec_l9Next_eq hs hl hL, Option.bind_some]
   cases hv : lvN s level [] with
   | none => simp
   | some q =>
    simp only [if_true, w64 (n := k + 1) (by omega) (by omega)]
    by_cases hq : q.length = 0
    ·rw [if_pos (by simpa using hq), if_pos hq]; rfl
    ·rw [if_neg (by simpa using hq), if_neg hq]
  cases hv : lvN s level [] with
  | none =>
   rw [hv] at e
   rw [loopC_inr e]
   cases r <;> simp only [lngR, hv]
  | some q =>
   rw [hv] at e
   simp only at e
   obtain ⟨q1, q2⟩ := lvN_ok hs hL (by simp) (by simp) hv
   by_cases hq : q.length = 0
   ·rw [if_pos hq] at e
    rw [loopC_inr e]
    cases r <;> simp only [lngR, hv, hq, if_true]
   ·rw [if_neg hq] at e
    rw [loopC_inl e]
    match r, hk with
    | 0, hk =>
     have e2 : F_spec_LongestOf_l1 s steps (q, k + 1) = some (.inr (-1)) := by
      simp only [F_spec_LongestOf_l1, show ¬ k + 1 <= steps by omega, decide_false, Bool.false_eq_true, if_false, Option.map_some]
     rw [loopC_inr e2]
     simp only [lngR, hv, hq, if_false]
    | r + 1, hk =>
     rw [spec_l1 hs h20 r (by omega) (by omega) q2 q1]
     simp only [lngR, hv, hq, if_false]
theorem F_impl_longest_eq {s : Sys} {t : List Int} {steps : Int} (hs : sysOk s = true) (ht : termOk s.1 t = true) (h : 0 <= steps /\ steps <= 20) : F_impl_longest s t steps = some (lng s t steps) :=
 impl_l1 hs h.2 steps.toNat (by omega) (by omega) (by simp) (by simpa using ht)
def rightB (s : Sys) (t : List Int) (steps : Int) : Bool := sysOk s && (termOk s.1 t && decide (0 <= steps /\ steps <= 20))
end Go.Proofs.YtglpjlpmijfocaaGreat
namespace Go.Proofs.YtglpjlpmijfocaaGreat
open Go Abx
attribute [local irreducible] vcm vgo vdr vrun vdrun MWp GhostQ BrC BrO BrG BrD BrH AmbO callR callD drQ EnvLe StoLe
set_option maxHeartbeats 4000000
def D_laws_Sig (x : (List Int)) : D := .agg [(slD 1 iD) x]
def D_laws_Rule (x : ((List Int) × (List Int))) : D := .agg [(slD 1 iD) x.1, (slD 1 iD) x.2]
def D_laws_System (x : ((List Int) × (List ((List Int) × (List Int))))) : D := .agg [(slD 1 iD) x.1, (slD 2 D_laws_Rule) x.2]
instance : Cel D_laws_Sig 1 := ⟨fun _ => rfl⟩
instance : Cel D_laws_Rule 2 := ⟨fun _ => rfl⟩
instance : Cel D_laws_System 2 := ⟨fun _ => rfl⟩
attribute [go_sem] D_laws_Sig D_laws_Rule D_laws_System
end Go.Proofs.YtglpjlpmijfocaaGreat
namespace Abx
open Go
theorem sat_nil {j : Nat} : sat [] j = .dead := rfl
theorem sset_nil {i : Nat} {x : Ob} : sset [] i x = [(i, x)] := rfl
attribute [go_sem] sat_nil sset_nil
end Abx
namespace Go.Proofs.YtglpjlpmijfocaaGreat
open Go Abx
attribute [local irreducible] vcm vgo vdr vrun vdrun MWp GhostQ BrC BrO BrG BrD BrH AmbO callR callD drQ EnvLe StoLe
set_option maxHeartbeats 4000000
instance : Cl D_laws_Rule := Cl.agg _ (fun _ => rfl) (fun _ => rfl)
instance : Cl D_laws_System := Cl.agg _ (fun _ => rfl) (fun _ => rfl)
instance : Cl D_impl_Rule := Cl.agg _ (fun _ => rfl) (fun _ => rfl)
end Go.Proofs.YtglpjlpmijfocaaGreat
namespace Go.Proofs.YtglpjlpmijfocaaGreat
open Go Abx
attribute [local irreducible] vcm vgo vdr vrun vdrun MWp GhostQ BrC BrO BrG BrD BrH AmbO callR callD drQ EnvLe StoLe
set_option maxHeartbeats 4000000
attribute [-go_sem] sat sset
end Go.Proofs.YtglpjlpmijfocaaGreat
namespace Go.Proofs.YtglpjlpmijfocaaGreat
open Go Abx
attribute [local irreducible] vcm vgo vdr vrun vdrun MWp GhostQ BrC BrO BrG BrD BrH AmbO callR callD drQ EnvLe StoLe
set_option maxHeartbeats 4000000
attribute [-go_sem] sat sset
end Go.Proofs.YtglpjlpmijfocaaGreat
namespace Go.Proofs.YtglpjlpmijfocaaGreat
open Go Abx Tm
theorem rightB_iff {s : Sys} {t : List Int} {steps : Int} : rightB s t steps = true ↔ sysOk s = true /\ termOk s.1 t = true /\ 0 <= steps /\ steps <= 20 := by simp [rightB]
theorem F_spec_LongestOf_eq (s : Sys) (t : List Int) (steps : Int) : F_spec_LongestOf s t steps = some (if rightB s t steps = true then lng s t steps else -1) := by
 have hr : F_spec_l9Right s t steps = some (rightB s t steps) := by
  unfold F_spec_l9Right F_spec_l7Right rightB
  rw [F_spec_SystemOk_eq, Option.bind_some]
  cases hs : sysOk s with
  | false => simp
  | true =>
   simp only [if_true, F_spec_TermOk_eq, Option.bind_some, Bool.true_and]
   cases termOk s.1 t with
   | false => simp
   | true => simp [F_spec_l1In_eq]
 unfold F_spec_LongestOf
 rw [hr, Option.bind_some]
 cases hq : rightB s t steps with
 | false => simp
 | true =>
  obtain ⟨h1, h2, h3, h4⟩ := rightB_iff.1 hq
  have hsm := ok_sm h2
  rw [if_pos rfl, if_pos rfl, F_spec_l1Copy_eq (l := t) (by show t.length < _; omega), Option.bind_some]
  exact spec_l1 h1 h4 steps.toNat (by omega) (by omega) (by simp) (by simpa using h2)
def GW (a : List Int) (g : List LL) : Prop := ∀ k, 1 <= k -> ∀ t ∈ g.getD k default, Wf a 1 t
theorem lst_wf {a : List Int} {g : List LL} (h : GW a g) : ∀ {m l : Nat}, ∀ u ∈ lst g m l, Wf a m u
 | 0, l, u, hu => by
  unfold lst at hu
  split at hu
  ·rw [List.mem_singleton.1 hu]; exact Wf.nil
  ·cases hu
 | m + 1, l, u, hu => by
  unfold lst at hu
  obtain ⟨j, hj, hu⟩ := List.mem_flatMap.1 hu
  obtain ⟨t, ht, hu⟩ := List.mem_flatMap.1 hu
  obtain ⟨v, hv, rfl⟩ := List.mem_map.1 hu
  rw [List.mem_range'_1] at hj
  have := (h j hj.1 t ht).app (lst_wf h v hv)
  rwa [Nat.add_comm] at this
theorem pl_wf {a : List Int} {g : List LL} (h : GW a g) {f : Nat} (hf : f < a.length) : ∀ t ∈ pl a g f, Wf a 1 t := fun t ht => by
 obtain ⟨u, hu, rfl⟩ := List.mem_map.1 ht
 have := lst_wf h u (List.mem_of_mem_take hu)
 refine Wf.cons_iff.2 ⟨by unfold okx; omega, ?_⟩
 unfold ari
 rw [if_neg (by omega), Nat.zero_add, Int.toNat_natCast]
 exact this
theorem lev_wf {a : List Int} {g : List LL} (h : GW a g) : ∀ t ∈ lev a g, Wf a 1 t := fun t ht => by
 obtain ⟨f, hf, ht⟩ := List.mem_flatMap.1 ((sortT_perm _).mem_iff.1 ht)
 exact pl_wf h (List.mem_range.1 hf) t ht
theorem GW.next {a : List Int} {g : List LL} (h : GW a g) : GW a (g ++ [lev a g]) := fun k hk t ht => by
 by_cases h1 : k < g.length
 ·rw [List.getD_eq_getElem?_getD, List.getElem?_append_left h1, <- List.getD_eq_getElem?_getD] at ht
  exact h k hk t ht
 ·by_cases h2 : k = g.length
  ·subst h2
   rw [List.getD_eq_getElem?_getD, List.getElem?_append_right (Nat.le_refl _)] at ht
   simp at ht
   exact lev_wf h t ht
  ·rw [List.getD_eq_getElem?_getD, List.getElem?_eq_none (by simp; omega)] at ht
   cases ht
theorem gr_wf {a : List Int} : ∀ (r : Nat) {g : List LL} {out : LL}, GW a g -> (∀ t ∈ out, Wf a 1 t) -> ∀ t ∈ (gr a r g out).1, Wf a 1 t
 | 0, g, out, h, h4 => h4
 | r + 1, g, out, h, h4 => by
  rw [gr]
  split
  ·simp
  ·exact gr_wf r h.next fun t ht => (List.mem_append.1 ht).elim (h4 t) (lev_wf h t)
theorem gw0 {a : List Int} : GW a [[]] := fun k hk t ht => by
 match k, hk with
 | k + 1, _ =>
  simp at ht
  cases (show t ∈ ([] : LL) from ht)
theorem grds_ok {a : List Int} {n : Int} : ∀ t ∈ (grds a n).1, termOk a t = true := fun t ht => by
 obtain ⟨h1, h2⟩ := (grds_el a n).2 t ht
 unfold grds at ht
 split at ht
 ·rename_i h
  exact termOk_iff.2 ⟨h.1, h1, h2, gr_wf _ gw0 (by simp) t ht⟩
 ·cases ht
theorem spec_gmx {s : Sys} {steps : Int} (hs : sysOk s = true) (h : 0 <= steps /\ steps <= 20) {ts : LL} (hl : ts.length <= 200) (ht : ∀ t ∈ ts, termOk s.1 t = true) : ∀ (r : LL) {i : Nat} {m : Int}, ts.drop i = r -> i <= ts.length ->
 loopC (F_spec_l25Greatest_l1 s ts steps) (m, (i : Int)) = some (gmx (fun t => lng s t steps) r m)
 | [], i, m, hd, hi => by
  refine loopC_inr ?_
  have : ts.length <= i := by simpa using hd
  simp only [F_spec_l25Greatest_l1, show ¬ (i : Int) < ts.length by omega, decide_false, Bool.false_eq_true, if_false, Option.map_some, gmx]
 | t :: r, i, m, hd, hi => by
  obtain ⟨h1, h2, h3⟩ := drop_cons hd
  have hk : termOk s.1 t = true := by rw [<- h2]; exact ht _ (getD_mem h1)
  have e : F_spec_l25Greatest_l1 s ts steps (m, (i : Int)) = some (if lng s t steps < 0 then .inr (-1) else .inl (max m (lng s t steps), (i : Int) + 1)) := by
   simp only [F_spec_l25Greatest_l1, show (i : Int) < ts.length by omega, decide_true, if_true, show (0 : Int) <= i by omega, and_self, Int.toNat_natCast, h2, F_spec_LongestOf_eq, rightB_iff.2 ⟨hs, hk, h⟩, Option.bind_some, F_spec_l1Max_eq, w64 (n := (i : Int) + 1) (by omega) (by omega)]
   by_cases hn : lng s t steps < 0 <;> simp [hn]
  unfold gmx
  by_cases hn : lng s t steps < 0
  ·rw [if_pos hn] at e ⊢
   exact loopC_inr e
  ·rw [if_neg hn] at e ⊢
   rw [loopC_inl e]
   exact spec_gmx hs h hl ht r (i := i + 1) h3 (by omega)
theorem impl_gmx {s : Sys} {steps : Int} (hs : sysOk s = true) (h : 0 <= steps /\ steps <= 20) {ts : LL} (hl : ts.length <= 200) (ht : ∀ t ∈ ts, termOk s.1 t = true) : ∀ (r : LL) {i : Nat} {m : Int}, ts.drop i = r -> i <= ts.length ->
 loopC (F_impl_greatest_l1 ts s.1 s.2 steps) (m, (i : Int)) = some (gmx (fun t => lng s t steps) r m)
 | [], i, m, hd, hi => by
  refine loopC_inr ?_
  have : ts.length <= i := by simpa using hd
  simp only [F_impl_greatest_l1, show ¬ (i : Int) < ts.length by omega, decide_false, Bool.false_eq_true, if_false, Option.map_some, gmx]
 | t :: r, i, m, hd, hi => by
  obtain ⟨h1, h2, h3⟩ := drop_cons hd
  have hk : termOk s.1 t = true := by rw [<- h2]; exact ht _ (getD_mem h1)
  have hx : F_impl_longest (s.1, s.2) t steps = some (lng s t steps) := F_impl_longest_eq hs hk h
  have hmx : (if lng s t steps > m then lng s t steps else m) = max m (lng s t steps) := by split <;> omega
  have e : F_impl_greatest_l1 ts s.1 s.2 steps (m, (i : Int)) = some (if lng s t steps < 0 then .inr (-1) else .inl (max m (lng s t steps), (i : Int) + 1)) := by
   simp only [F_impl_greatest_l1, F_impl_TimeOf_1, show (i : Int) < ts.length by omega, decide_true, if_true, show (0 : Int) <= i by omega, and_self, Int.toNat_natCast, h2, hx, Option.bind_some, hmx, w64 (n := (i : Int) + 1) (by omega) (by omega)]
   by_cases hn : lng s t steps < 0 <;> simp [hn]
  unfold gmx
  by_cases hn : lng s t steps < 0
  ·rw [if_pos hn] at e ⊢
   exact loopC_inr e
  ·rw [if_neg hn] at e ⊢
   rw [loopC_inl e]
   exact impl_gmx hs h hl ht r (i := i + 1) h3 (by omega)
theorem impl_gmx1 {s : Sys} {steps : Int} (hs : sysOk s = true) (h : 0 <= steps /\ steps <= 20) {ts : LL} (hl : ts.length <= 200) (ht : ∀ t ∈ ts, termOk s.1 t = true) : ∀ (r : LL) {i : Nat} {m : Int}, ts.drop i = r -> i <= ts.length ->
 loopC (F_impl_greatest_s1_l1 ts s.1 s.2 steps) (m, (i : Int)) = some (gmx (fun t => lng s t steps) r m)
 | [], i, m, hd, hi => by
  refine loopC_inr ?_
  have : ts.length <= i := by simpa using hd
  simp only [F_impl_greatest_s1_l1, show ¬ (i : Int) < ts.length by omega, decide_false, Bool.false_eq_true, if_false, Option.map_some, gmx]
 | t :: r, i, m, hd, hi => by
  obtain ⟨h1, h2, h3⟩ := drop_cons hd
  have hk : termOk s.1 t = true := by rw [<- h2]; exact ht _ (getD_mem h1)
  have hx : F_impl_longest (s.1, s.2) t steps = some (lng s t steps) := F_impl_longest_eq hs hk h
  have hmx : (if lng s t steps > m then lng s t steps else m) = max m (lng s t steps) := by split <;> omega
  have e : F_impl_greatest_s1_l1 ts s.1 s.2 steps (m, (i : Int)) = some (if lng s t steps < 0 then .inr (-1) else .inl (max m (lng s t steps), (i : Int) + 1)) := by
   simp only [F_impl_greatest_s1_l1, F_impl_RunTime_1, show (i : Int) < ts.length by omega, decide_true, if_true, show (0 : Int) <= i by omega, and_self, Int.toNat_natCast, h2, hx, Option.bind_some, hmx, w64 (n := (i : Int) + 1) (by omega) (by omega)]
   by_cases hn : lng s t steps < 0 <;> simp [hn]
  unfold gmx
  by_cases hn : lng s t steps < 0
  ·rw [if_pos hn] at e ⊢
   exact loopC_inr e
  ·rw [if_neg hn] at e ⊢
   rw [loopC_inl e]
   exact impl_gmx1 hs h hl ht r (i := i + 1) h3 (by omega)
def dpB (steps : Int) : Bool := decide (0 <= steps) && decide (steps <= 20)
theorem dpB_iff {steps : Int} : dpB steps = true ↔ 0 <= steps /\ steps <= 20 := by simp [dpB]
def tmO (s : Sys) (n steps : Int) : Int := if sysOk s = true /\ (grds s.1 n).2 = true /\ dpB steps = true then gmx (fun t => lng s t steps) (grds s.1 n).1 0 else -1
def rtO (s : Sys) (n steps : Int) : Int := if (bsc s n).2 = true /\ dpB steps = true then gmx (fun t => lng s t steps) (bsc s n).1 0 else -1
theorem F_impl_deepOk_eq (steps : Int) : F_impl_deepOk steps = some (dpB steps) := by
 unfold F_impl_deepOk dpB
 by_cases h : 0 <= steps <;> simp [h]
theorem F_spec_TimeOf_eq (s : Sys) (n steps : Int) : F_spec_TimeOf s n steps = some (tmO s n steps) := by
 unfold F_spec_TimeOf tmO
 rw [F_spec_GroundsOf_eq, Option.bind_some, F_spec_SystemOk_eq, Option.bind_some]
 cases hs : sysOk s with
 | false => simp
 | true =>
  cases hq : (grds s.1 n).2 with
  | false => simp
  | true =>
   simp only [if_true, F_spec_l1In_eq, Option.bind_some, true_and]
   cases hd : dpB steps with
   | false => unfold dpB at hd; simp [hd]
   | true =>
    have hd' := hd
    unfold dpB at hd'
    rw [hd', if_pos rfl, if_pos rfl]
    have := spec_gmx hs (dpB_iff.1 hd) (grds_el s.1 n).1 grds_ok _ (i := 0) (m := 0) rfl (by omega)
    unfold F_spec_l25Greatest
    rw [show ((0 : Nat) : Int) = 0 from rfl] at this
    rw [this]; rfl
theorem F_impl_TimeOf_eq (s : Sys) (n steps : Int) : F_impl_TimeOf s n steps = some (tmO s n steps) := by
 unfold F_impl_TimeOf tmO
 rw [F_impl_SystemOk_eq, Option.bind_some]
 cases hs : sysOk s with
 | false => simp
 | true =>
  simp only [if_true, F_impl_deepOk_eq, Option.bind_some, true_and]
  cases hd : dpB steps with
  | false => simp
  | true =>
   simp only [if_true, F_impl_GroundsOf_eq, Option.bind_some, and_true]
   cases hq : (grds s.1 n).2 with
   | false => simp
   | true =>
    rw [if_pos rfl, if_pos rfl]
    have := impl_gmx hs (dpB_iff.1 hd) (grds_el s.1 n).1 grds_ok _ (i := 0) (m := 0) rfl (by omega)
    unfold F_impl_greatest
    rw [show ((0 : Nat) : Int) = 0 from rfl] at this
    rw [this]; rfl
theorem bsc_ok {s : Sys} {n : Int} : ∀ t ∈ (bsc s n).1, termOk s.1 t = true := fun t ht => by
 unfold bsc at ht
 split at ht
 ·exact grds_ok t (List.mem_filter.1 ht).1
 ·cases ht
theorem bsc_sys {s : Sys} {n : Int} (h : (bsc s n).2 = true) : sysOk s = true := by
 unfold bsc at h
 split at h
 ·rename_i hk; exact hk.1
 ·cases h
theorem F_spec_RunTime_eq (s : Sys) (n steps : Int) : F_spec_RunTime s n steps = some (rtO s n steps) := by
 unfold F_spec_RunTime rtO
 rw [F_spec_BasicsOf_eq, Option.bind_some]
 cases hq : (bsc s n).2 with
 | false => simp
 | true =>
  simp only [if_true, F_spec_l1In_eq, Option.bind_some, true_and]
  cases hd : dpB steps with
  | false => unfold dpB at hd; simp [hd]
  | true =>
   have hd' := hd
   unfold dpB at hd'
   rw [hd', if_pos rfl, if_pos rfl]
   have := spec_gmx (bsc_sys hq) (dpB_iff.1 hd) (bsc_len s n) bsc_ok _ (i := 0) (m := 0) rfl (by omega)
   unfold F_spec_l25Greatest
   rw [show ((0 : Nat) : Int) = 0 from rfl] at this
   rw [this]; rfl
theorem F_impl_RunTime_eq (s : Sys) (n steps : Int) : F_impl_RunTime s n steps = some (rtO s n steps) := by
 unfold F_impl_RunTime rtO
 rw [F_impl_BasicsOf_eq, Option.bind_some]
 cases hq : (bsc s n).2 with
 | false => simp
 | true =>
  simp only [if_true, F_impl_deepOk_eq, Option.bind_some, true_and]
  cases hd : dpB steps with
  | false => simp
  | true =>
   rw [if_pos rfl, if_pos rfl]
   have := impl_gmx1 (bsc_sys hq) (dpB_iff.1 hd) (bsc_len s n) bsc_ok _ (i := 0) (m := 0) rfl (by omega)
   unfold F_impl_greatest_s1
   rw [show ((0 : Nat) : Int) = 0 from rfl] at this
   rw [this]; rfl
end Go.Proofs.YtglpjlpmijfocaaGreat
namespace Go.Proofs.YtglpjlpmijfocaaGreat
open Go Abx
attribute [local irreducible] vcm vgo vdr vrun vdrun MWp GhostQ BrC BrO BrG BrD BrH AmbO callR callD drQ EnvLe StoLe
set_option maxHeartbeats 4000000
def D_impl_Walk (x : ((List Int) × (List (Int × Int × (List Int))))) : D := .agg [(slD 1 iD) x.1, (slD 3 D_impl_Step) x.2]
def D_impl_choice (x : ((List Int) × (List ((List Int) × (List Int))) × (List Int) × (List Int))) : D := .agg [(slD 1 iD) x.1, (slD 2 D_impl_Rule) x.2.1, (slD 1 iD) x.2.2.1, (slD 1 iD) x.2.2.2]
instance : Cel D_impl_Walk 2 := ⟨fun _ => rfl⟩
instance : Cel D_impl_choice 4 := ⟨fun _ => rfl⟩
attribute [go_sem] D_impl_Walk D_impl_choice
def mc101 : MCode :=
 (.seq (.reg (sq 3 [bo 3 33 0] ++ sq 6 [mb false])) (.seq (.reg (sq 7 [la 2 3, cf 34 [7], mv 8] ++ sg 9 true 10 [fa 0 3, la 1 10, mv 1, cf 96 [11, 12]] ++ sq 14 [pa 9 13, mv 14] ++ sg 15 true 16 [mv 2, bi .geq 16 1] ++ sq 18 [pa 15 17, mv 18] ++ sg 19 true 20 [mv 2, bi .leq 20 3] ++ sq 22 [pa 19 21] ++ sq 6 [mv 22])) .ret))
theorem fn101 : MFn Tryz.prog 101 mc101 23 [.tmp 6] := ⟨_, Tryz.func101, by kernel_rfl, Tryz.ntmps101, by kernel_rfl⟩
def F_impl_strategyOk (sys : ((List Int) × (List ((List Int) × (List Int))))) (t : (List Int)) (strategy : Int) : Option Bool :=
 (F_impl_SystemOk sys).bind fun r =>
 if r = true then
  (F_impl_TermOk sys.1 t).bind fun r_1 =>
  if r_1 = true then
   if (decide (1 <= strategy)) = true then
    some (decide (strategy <= 3))
   else
    some false
  else
   some false
 else
  some false
instance c_impl_strategyOk {sys : ((List Int) × (List ((List Int) × (List Int))))} {t : (List Int)} {strategy : Int} : HasC (F_impl_strategyOk sys t strategy) fun rr => PFun Tryz.prog 101 [D_impl_System sys, (slD 1 iD) t, iD strategy] (bD rr) := ⟨@fun rr h => by
 delta F_impl_strategyOk at h
 refine fn101.pureL (vcm_sound ?_)
 delta mc101
 refine stp ?_
 exact aut⟩
def mc134 : MCode :=
 (.seq (.reg (sq 3 [bo 3 33 0] ++ sq 6 [mi 0])) (.seq (.seq (.reg (sq 8 [fa 1 3, ld 8, ln 9, mi 0])) (.block 0 (.loop (.seq (.reg (sq 12 [bn .lss 11 10])) (.seq (.cond (t0 12) .skip (.exit 0)) (.seq (.block 1 (.seq (.reg (sq 13 [mv 11] ++ sq 7 [mv 13])) (.seq (.reg (sq 14 [la 2 3, mv 1, mv 2, mv 7, cf 130 [14, 15, 16, 17]])) (.cond (t0 18) (.seq (.reg (sq 19 [mv 7] ++ sq 6 [mv 19])) .ret) .skip)))) (.reg (sq 20 [bi .add 11 1] ++ sq 11 [mv 20])))))))) (.seq (.reg (sq 6 [mi (-1)])) .ret)))
theorem fn134 : MFn Tryz.prog 134 mc134 21 [.tmp 6] := ⟨_, Tryz.func134, by kernel_rfl, Tryz.ntmps134, by kernel_rfl⟩
def F_impl_ruleAt_l1 (sys : ((List Int) × (List ((List Int) × (List Int))))) (t : (List Int)) (at' : Int) : Int -> Option (Int ⊕ Int)
 | v11 =>
  if (decide (v11 < (sys.2.length : Int))) = true then
   (F_impl_redex sys t at' v11).bind fun r =>
   if r = true then
    Option.map Sum.inr (
     some v11)
   else
    some (.inl (IntKind.i64.wrap (v11 + 1)))
  else
   Option.map Sum.inr (
    some (-1))
def F_impl_ruleAt (sys : ((List Int) × (List ((List Int) × (List Int))))) (t : (List Int)) (at' : Int) : Option Int :=
 loopC (F_impl_ruleAt_l1 sys t at') 0
instance c_impl_ruleAt {sys : ((List Int) × (List ((List Int) × (List Int))))} {t : (List Int)} {at' : Int} : HasC (F_impl_ruleAt sys t at') fun rr => PFun Tryz.prog 134 [D_impl_System sys, (slD 1 iD) t, iD at'] (iD rr) := ⟨@fun rr h => by
 delta F_impl_ruleAt at h
 refine fn134.pureL (vcm_sound ?_)
 delta mc134
 refine stp ?_
 refine m_lW h [6, 7, 11, 12, 13, 14, 15, 16, 17, 18, 19, 20] (fun pp => [(11, .d (iD pp))]) (fun pp => [(3, .obj 33 [.d (slD 1 iD sys.1), .d (slD 2 D_impl_Rule sys.2)])]) ?_
 rintro v11 t1 h hb1
 unfold F_impl_ruleAt_l1 at h
 try dsimp only at h
 refine vcm_sound (stp ?_)
 exact aut⟩
def mc158 : MCode :=
 (.seq (.reg (sq 2 [bo 2 33 0] ++ sq 4 [.mv (.const (.slice none 0 0))])) (.seq (.reg (sq 5 [.mv (.const (.slice none 0 0))])) (.seq (.seq (.reg (sq 8 [mv 1, ln 8, mi 0])) (.block 0 (.loop (.seq (.reg (sq 11 [bn .lss 10 9])) (.seq (.cond (t0 11) .skip (.exit 0)) (.seq (.block 1 (.seq (.reg (sq 12 [mv 10, ix 1 8 10, ld 13] ++ sq 6 [mv 12, mv 14])) (.seq (.reg (sq 15 [mv 7, bi .geq 15 0, mv 16] ++ sg 17 true 18 [la 2 2, mv 1, mv 6, cf 134 [18, 19, 20], bi .geq 21 0] ++ sq 23 [pa 17 22])) (.cond (t0 23) (.reg (sq 24 [mv 5, mv 6, .bsl 26 3 1 [(t0 25)], ap 27 3 1 8 24 26] ++ sq 5 [mv 27])) .skip)))) (.reg (sq 28 [bi .add 10 1] ++ sq 10 [mv 28])))))))) (.seq (.reg (sq 29 [mv 5] ++ sq 4 [mv 29])) .ret))))
theorem fn158 : MFn Tryz.prog 158 mc158 30 [.tmp 4] := ⟨_, Tryz.func158, by kernel_rfl, Tryz.ntmps158, by kernel_rfl⟩
def F_impl_redexes_l1 (sys : ((List Int) × (List ((List Int) × (List Int))))) (t : (List Int)) : ((List Int) × Int) -> Option (((List Int) × Int) ⊕ (List Int))
 | (out, v10) =>
  if (decide (v10 < (t.length : Int))) = true then
   if 0 <= v10 /\ v10 < (t.length : Int) then
    if (decide (0 <= (t.getD v10.toNat default))) = true then
     (F_impl_ruleAt sys t v10).bind fun r =>
     if (decide (0 <= r)) = true then
      if (out.length + 1) * 8 <= 140737488355328 then
       some (.inl ((out ++ [v10]), (IntKind.i64.wrap (v10 + 1))))
      else none
     else
      some (.inl (out, (IntKind.i64.wrap (v10 + 1))))
    else
     some (.inl (out, (IntKind.i64.wrap (v10 + 1))))
   else none
  else
   Option.map Sum.inr (
    some out)
def F_impl_redexes (sys : ((List Int) × (List ((List Int) × (List Int))))) (t : (List Int)) : Option (List Int) :=
 loopC (F_impl_redexes_l1 sys t) ([], 0)
instance c_impl_redexes {sys : ((List Int) × (List ((List Int) × (List Int))))} {t : (List Int)} : HasC (F_impl_redexes sys t) fun rr => PFun Tryz.prog 158 [D_impl_System sys, (slD 1 iD) t] ((slD 1 iD) rr) := ⟨@fun rr h => by
 delta F_impl_redexes at h
 refine fn158.pureL (vcm_sound ?_)
 delta mc158
 refine stp ?_
 refine m_loopF h [5, 6, 7, 10, 11, 12, 13, 14, 15, 16, 17, 18, 19, 20, 21, 22, 23, 24, 25, 26, 27, 28] (fun pp => [(5, .own 1 27 (List.map iD pp.1)), (10, .d (iD pp.2))]) (fun pp => [(2, .obj 33 [.d (slD 1 iD sys.1), .d (slD 2 D_impl_Rule sys.2)]), (27, .tok 3 1 pp.1.length)]) ?_ ?_
 ·try dsimp only
  refine (Weak.thaw 5 27 3 1 rfl rfl).trans ?_
  exact wk
 rintro ⟨out, v10⟩ t1 h hb1
 unfold F_impl_redexes_l1 at h
 try dsimp only at h
 refine vcm_sound (stp ?_)
 refine iT h fun hc h => ?_
 refine ndI h fun hp h => ?_
 refine iT h fun hc h => ?_
 refine rC h fun r hr h => ?_
 refine iT h fun hc h => ?_
 refine ndI h fun hp h => ?_
 cases h
 refine ⟨_, rfl, ?_⟩
 refine (Weak.drop 26 (by omega)).trans ?_
 exact wk⟩
def mc177 : MCode :=
 (.seq (.reg (sq 4 [bo 4 30 0] ++ sq 8 [mb false])) (.seq (.reg (sq 9 [mv 3, mv 2, bn .geq 9 10, mv 11] ++ sg 12 true 13 [mv 3, la 1 4, mv 1, mv 2, cf 127 [14, 15, 16], bn .lss 13 17] ++ sq 19 [pa 12 18] ++ sq 8 [mv 19])) .ret))
theorem fn177 : MFn Tryz.prog 177 mc177 20 [.tmp 8] := ⟨_, Tryz.func177, by kernel_rfl, Tryz.ntmps177, by kernel_rfl⟩
def F_impl_inside (sig : (List Int)) (t : (List Int)) (at' : Int) (p : Int) : Option Bool :=
 if (decide (at' <= p)) = true then
  (F_impl_endAt sig t at').bind fun r =>
  some (decide (p < r))
 else
  some false
instance c_impl_inside {sig : (List Int)} {t : (List Int)} {at' : Int} {p : Int} : HasC (F_impl_inside sig t at' p) fun rr => PFun Tryz.prog 177 [D_impl_Sig sig, (slD 1 iD) t, iD at', iD p] (bD rr) := ⟨@fun rr h => by
 delta F_impl_inside at h
 refine fn177.pureL (vcm_sound ?_)
 delta mc177
 refine stp ?_
 exact aut⟩
def mc172 : MCode :=
 (.seq (.reg (sq 2 [bo 2 33 0] ++ sq 4 [.mv (.const (.slice none 0 0))])) (.seq (.reg (sq 9 [la 2 2, mv 1, cf 158 [9, 10]] ++ sq 5 [mv 11])) (.seq (.reg (sq 6 [.mv (.const (.slice none 0 0))])) (.seq (.seq (.reg (sq 12 [mv 5, ln 12, mi 0])) (.block 0 (.loop (.seq (.reg (sq 15 [bn .lss 14 13])) (.seq (.cond (t0 15) .skip (.exit 0)) (.seq (.block 1 (.seq (.reg (sq 16 [mv 14, ix 1 12 14, ld 17] ++ sq 7 [mv 16, mv 18])) (.seq (.draw (sq 19 [mv 7, bi .add 19 1, mv 5, ln 21, bn .eql 20 22, mv 23] ++ sg 24 false 25 [fa 0 2, la 1 25, mv 1, mv 8, mv 5, mv 7, bi .add 30 1, ix 1 29 31, ld 32, cf 177 [26, 27, 28, 33], nt 34] ++ sq 36 [po 24 35]) [[], [0], [], [2], [1, 3], [4], [5], [6, 5], [5], [5], [5], [5], [11, 5], [10, 12, 5], [13, 5], [7, 8, 9, 14, 5, 5], [15, 5], [5, 16]]) (.cond (t0 36) (.reg (sq 37 [mv 6, mv 8, .bsl 39 3 1 [(t0 38)], ap 40 3 1 8 37 39] ++ sq 6 [mv 40])) .skip)))) (.reg (sq 41 [bi .add 14 1] ++ sq 14 [mv 41])))))))) (.seq (.reg (sq 42 [mv 6] ++ sq 4 [mv 42])) .ret)))))
theorem fn172 : MFn Tryz.prog 172 mc172 43 [.tmp 4] := ⟨_, Tryz.func172, by kernel_rfl, Tryz.ntmps172, by kernel_rfl⟩
def F_impl_inmost_l1 (sys : ((List Int) × (List ((List Int) × (List Int))))) (t : (List Int)) (r : (List Int)) : ((List Int) × Int) -> Option (((List Int) × Int) ⊕ (List Int))
 | (out, v14) =>
  if (decide (v14 < (r.length : Int))) = true then
   if 0 <= v14 /\ v14 < (r.length : Int) then
    if ((IntKind.i64.wrap (v14 + 1)) == (r.length : Int)) = true then
     if (out.length + 1) * 8 <= 140737488355328 then
      some (.inl ((out ++ [(r.getD v14.toNat default)]), (IntKind.i64.wrap (v14 + 1))))
     else none
    else
     if 0 <= (IntKind.i64.wrap (v14 + 1)) /\ (IntKind.i64.wrap (v14 + 1)) < (r.length : Int) then
      (F_impl_inside sys.1 t (r.getD v14.toNat default) (r.getD (IntKind.i64.wrap (v14 + 1)).toNat default)).bind fun r_1 =>
      if r_1 = true then
       some (.inl (out, (IntKind.i64.wrap (v14 + 1))))
      else
       if (out.length + 1) * 8 <= 140737488355328 then
        some (.inl ((out ++ [(r.getD v14.toNat default)]), (IntKind.i64.wrap (v14 + 1))))
       else none
     else none
   else none
  else
   Option.map Sum.inr (
    some out)
def F_impl_inmost (sys : ((List Int) × (List ((List Int) × (List Int))))) (t : (List Int)) : Option (List Int) :=
 (F_impl_redexes sys t).bind fun r =>
 loopC (F_impl_inmost_l1 sys t r) ([], 0)
instance c_impl_inmost {sys : ((List Int) × (List ((List Int) × (List Int))))} {t : (List Int)} : HasC (F_impl_inmost sys t) fun rr => PFun Tryz.prog 172 [D_impl_System sys, (slD 1 iD) t] ((slD 1 iD) rr) := ⟨@fun rr h => by
 delta F_impl_inmost at h
 refine fn172.pureL (vcm_sound ?_)
 delta mc172
 refine stp ?_
 refine rC h fun r hr h => ?_
 refine m_loopF h [6, 7, 8, 14, 15, 16, 17, 18, 19, 20, 21, 22, 23, 24, 25, 26, 27, 28, 29, 30, 31, 32, 33, 34, 35, 36, 37, 38, 39, 40, 41] (fun pp => [(6, .own 1 40 (List.map iD pp.1)), (14, .d (iD pp.2))]) (fun pp => [(2, .obj 33 [.d (slD 1 iD sys.1), .d (slD 2 D_impl_Rule sys.2)]), (40, .tok 3 1 pp.1.length)]) ?_ ?_
 ·try dsimp only
  refine (Weak.thaw 6 40 3 1 rfl rfl).trans ?_
  exact wk
 rintro ⟨out, v14⟩ t1 h hb1
 unfold F_impl_inmost_l1 at h
 try dsimp only at h
 refine vcm_sound (stp ?_)
 refine iT h fun hc h => ?_
 refine ndI h fun hp h => ?_
 refine it h (fun hc h => ?_) fun hc h => ?_
 ·refine drQ_of (by kernel_rfl) (stp ?_)
  refine ndI h fun hp h => ?_
  cases h
  refine ⟨_, rfl, ?_⟩
  refine (Weak.drop 39 (by omega)).trans ?_
  exact wk
 refine ndI h fun hp h => ?_
 refine dC h fun r_1 hr_1 h => ?_
 refine drQ_of (by kernel_rfl) (stp ?_)
 refine iF h fun hc h => ?_
 refine ndI h fun hp h => ?_
 cases h
 refine ⟨_, rfl, ?_⟩
 refine (Weak.drop 39 (by omega)).trans ?_
 exact wk⟩
def mc159 : MCode :=
 (.seq (.reg (sq 1 [bo 1 196 0, mi 0])) (.seq (.reg (sq 3 [fa 0 1, la 2 3, fa 2 1, ld 5, cf 172 [4, 6], .ixa 1 (t0 7) (i0 0), ld 8] ++ sq 2 [mv 9])) .ret))
theorem fn159 : MFn Tryz.prog 159 mc159 10 [.tmp 2] := ⟨_, Tryz.func159, by kernel_rfl, Tryz.ntmps159, by kernel_rfl⟩
def F_impl_choice_inmost (c : ((List Int) × (List ((List Int) × (List Int))) × (List Int) × (List Int))) : Option Int :=
 (F_impl_inmost (c.1, c.2.1) c.2.2.1).bind fun r =>
 if 0 <= 0 /\ 0 < (r.length : Int) then
  some (r.getD 0 default)
 else none
instance c_impl_choice_inmost {c : ((List Int) × (List ((List Int) × (List Int))) × (List Int) × (List Int))} : HasC (F_impl_choice_inmost c) fun rr => PFun Tryz.prog 159 [D_impl_choice c] (iD rr) := ⟨@fun rr h => by
 delta F_impl_choice_inmost at h
 refine fn159.pureL (vcm_sound ?_)
 delta mc159
 refine stp ?_
 exact aut⟩
def mc160 : MCode :=
 (.seq (.reg (sq 1 [bo 1 196 0, mi 0])) (.seq (.reg (sq 3 [fa 3 1, ld 3, .ixa 1 (t0 4) (i0 0), ld 5] ++ sq 2 [mv 6])) .ret))
theorem fn160 : MFn Tryz.prog 160 mc160 7 [.tmp 2] := ⟨_, Tryz.func160, by kernel_rfl, Tryz.ntmps160, by kernel_rfl⟩
def F_impl_choice_outmost (c : ((List Int) × (List ((List Int) × (List Int))) × (List Int) × (List Int))) : Option Int :=
 if 0 <= 0 /\ 0 < (c.2.2.2.length : Int) then
  some (c.2.2.2.getD 0 default)
 else none
instance c_impl_choice_outmost {c : ((List Int) × (List ((List Int) × (List Int))) × (List Int) × (List Int))} : HasC (F_impl_choice_outmost c) fun rr => PFun Tryz.prog 160 [D_impl_choice c] (iD rr) := ⟨@fun rr h => by
 delta F_impl_choice_outmost at h
 refine fn160.pureL (vcm_sound ?_)
 delta mc160
 refine stp ?_
 exact aut⟩
def mc161 : MCode :=
 (.seq (.reg (sq 1 [bo 1 196 0, mi 0])) (.seq (.reg (sq 3 [fa 3 1, ld 3, fa 3 1, ld 5, ln 6, bi .sub 7 1, ix 1 4 8, ld 9] ++ sq 2 [mv 10])) .ret))
theorem fn161 : MFn Tryz.prog 161 mc161 11 [.tmp 2] := ⟨_, Tryz.func161, by kernel_rfl, Tryz.ntmps161, by kernel_rfl⟩
def F_impl_choice_last (c : ((List Int) × (List ((List Int) × (List Int))) × (List Int) × (List Int))) : Option Int :=
 if 0 <= (IntKind.i64.wrap ((c.2.2.2.length : Int) - 1)) /\ (IntKind.i64.wrap ((c.2.2.2.length : Int) - 1)) < (c.2.2.2.length : Int) then
  some (c.2.2.2.getD (IntKind.i64.wrap ((c.2.2.2.length : Int) - 1)).toNat default)
 else none
instance c_impl_choice_last {c : ((List Int) × (List ((List Int) × (List Int))) × (List Int) × (List Int))} : HasC (F_impl_choice_last c) fun rr => PFun Tryz.prog 161 [D_impl_choice c] (iD rr) := ⟨@fun rr h => by
 delta F_impl_choice_last at h
 refine fn161.pureL (vcm_sound ?_)
 delta mc161
 refine stp ?_
 exact aut⟩
def mc133_impl_pick : MCode :=
 (.seq (.reg (sq 3 [bo 3 33 0] ++ sq 6 [mi 0])) (.seq (.draw (sq 9 [la 2 3, mv 1, la 2 3, mv 1, cf 158 [11, 12], .build [.sl 0 (some true) [], .sl 0 (some true) [], .sl 0 (some true) [], .sl 0 (some true) []] [(0, 2, (t0 9)), (2, 1, (t0 10)), (3, 1, (t0 13))]] ++ sq 7 [.alloc 7 196 [.sl 0 (some true) [], .sl 0 (some true) [], .sl 0 (some true) [], .sl 0 (some true) []]] ++ s0 (sr 4 7 14)) [[], [], [], [], [2, 3], [0, 1, 4], [], [6, 5, 4, 0, 1, 2, 3, 4, 5, 6]]) (.seq (.seq (.reg (sq 15 [fa 3 7, ld 15, ln 16, bi .eql 17 0])) (.cond (t0 18) (.seq (.reg (sq 6 [mi (-1)])) .ret) .skip)) (.seq (.reg (sq 19 [la 4 7, .mkfn 159 [(t0 19)] [], la 4 7, .mkfn 160 [(t0 21)] [], la 4 7, .mkfn 161 [(t0 23)] [], .bslo 25 197 1 [(t0 20), (t0 22), (t0 24)]] ++ sq 8 [mv 25])) (.seq (.reg (sq 26 [mv 8, mv 2, bi .sub 27 1, ix 1 26 28, ld 29, .callv (t0 30) []] ++ sq 6 [mv 31])) .ret)))))
theorem fn133_impl_pick : MFn Tryz.prog 133 mc133_impl_pick 32 [.tmp 6] := ⟨_, Tryz.func133, by kernel_rfl, Tryz.ntmps133, by kernel_rfl⟩
def F_impl_pick (sys : ((List Int) × (List ((List Int) × (List Int))))) (t : (List Int)) (strategy : Int) : Option Int :=
 (F_impl_redexes sys t).bind fun r =>
 if ((r.length : Int) == 0) = true then
  some (-1)
 else
  if ((IntKind.i64.wrap (strategy - 1)) == 0) = true then
   (F_impl_choice_inmost (sys.1, sys.2, t, r)).bind fun r_1 =>
   some r_1
  else
   if ((IntKind.i64.wrap (strategy - 1)) == 1) = true then
    (F_impl_choice_outmost (sys.1, sys.2, t, r)).bind fun r_2 =>
    some r_2
   else
    if ((IntKind.i64.wrap (strategy - 1)) == 2) = true then
     (F_impl_choice_last (sys.1, sys.2, t, r)).bind fun r_3 =>
     some r_3
    else
     none
instance c_impl_pick {sys : ((List Int) × (List ((List Int) × (List Int))))} {t : (List Int)} {strategy : Int} : HasC (F_impl_pick sys t strategy) fun rr => PFun Tryz.prog 133 [D_impl_System sys, (slD 1 iD) t, iD strategy] (iD rr) := ⟨@fun rr h => by
 delta F_impl_pick at h
 refine fn133_impl_pick.pureL (vcm_sound ?_)
 delta mc133_impl_pick
 refine stp ?_
 refine dC h fun r hr h => ?_
 refine drQ_of (by kernel_rfl) (stp ?_)
 refine iF h fun hc h => ?_
 refine nds ?_
 rcases ite_some h with ⟨hc, h⟩ | ⟨hc, h⟩
 ·have hq := eq_of_beq hc
  simp only [hq]
  refine stp ?_
  refine nds ?_
  refine need_i (by kernel_rfl) ?_
  exact aut
 ·skip
  rcases ite_some h with ⟨hc, h⟩ | ⟨hc, h⟩
  ·have hq := eq_of_beq hc
   simp only [hq]
   refine stp ?_
   refine nds ?_
   refine need_i (by kernel_rfl) ?_
   exact aut
  ·skip
   rcases ite_some h with ⟨hc, h⟩ | ⟨hc, h⟩
   ·have hq := eq_of_beq hc
    simp only [hq]
    refine stp ?_
    refine nds ?_
    refine need_i (by kernel_rfl) ?_
    exact aut
   ·cases h⟩
def mc102 : MCode :=
 (.seq (.reg (sq 4 [bo 4 33 0] ++ sq 8 [.alloc 8 103 [.sl 0 (some true) [], .sl 0 (some true) []], mb false])) (.seq (.reg (sq 15 [mv 1, cf 120 [15], .build [.sl 0 (some true) [], .sl 0 (some true) []] [(0, 1, (t0 16))]] ++ sq 10 [.alloc 10 103 [.sl 0 (some true) [], .sl 0 (some true) []]] ++ s0 (sr 2 10 17))) (.block 0 (.loop (.block 1 (.seq (.reg (sq 18 [la 2 4, mv 1, mv 2, cf 133 [18, 19, 20]] ++ sq 11 [mv 21])) (.seq (.seq (.reg (sq 22 [mv 11, bi .lss 22 0])) (.cond (t0 23) (.seq (.reg (sq 24 [la 2 10] ++ s0 (sr 2 8 24) ++ sq 9 [mb true])) .ret) .skip)) (.seq (.seq (.reg (sq 25 [fa 1 10, ld 25, ln 26, mv 3, bn .eql 27 28])) (.cond (t0 29) (.seq (.reg (sq 30 [la 2 10] ++ s0 (sr 2 8 30) ++ sq 9 [mb false])) .ret) .skip)) (.seq (.reg (sq 31 [la 2 4, mv 1, mv 11, cf 134 [31, 32, 33]] ++ sq 12 [mv 34])) (.seq (.reg (sq 36 [la 2 4, mv 1, mv 11, mv 12, cf 131 [36, 37, 38, 39]] ++ sq 35 [mv 40] ++ sq 41 [ex 35 0, ex 35 1] ++ sq 13 [mv 41, mv 42])) (.seq (.seq (.reg (sq 43 [mv 14, nt 43])) (.cond (t0 44) (.seq (.reg (sq 45 [la 2 10] ++ s0 (sr 2 8 45) ++ sq 9 [mb false])) .ret) .skip)) (.seq (.reg (sq 46 [fa 1 10, ld 46, mv 11, mv 12, mv 13, .build [.lit (.int .i64 0), .lit (.int .i64 0), .sl 0 (some true) []] [(0, 1, (t0 48)), (1, 1, (t0 49)), (2, 1, (t0 50))], .bsl 52 97 3 [(t0 51)], ap 53 97 3 40 47 52, fa 1 10] ++ s0 (sr 1 54 53))) (.reg (sq 55 [mv 13] ++ sq 1 [mv 55]))))))))))))))
theorem fn102 : MFn Tryz.prog 102 mc102 56 [.cell 8 2 true, .tmp 9] := ⟨_, Tryz.func102, by kernel_rfl, Tryz.ntmps102, by kernel_rfl⟩
def F_impl_walkBy_l1 (sys : ((List Int) × (List ((List Int) × (List Int))))) (strategy : Int) (fuel : Int) (r : (List Int)) : ((List Int) × (List (Int × Int × (List Int)))) -> Option (((List Int) × (List (Int × Int × (List Int)))) ⊕ (((List Int) × (List (Int × Int × (List Int)))) × Bool))
 | (t_1, w) =>
  (F_impl_pick sys t_1 strategy).bind fun r_1 =>
  if (decide (r_1 < 0)) = true then
   Option.map Sum.inr (
    some ((r, w), true))
  else
   if ((w.length : Int) == fuel) = true then
    Option.map Sum.inr (
     some ((r, w), false))
   else
    (F_impl_ruleAt sys t_1 r_1).bind fun r_2 =>
    (F_impl_step sys t_1 r_1 r_2).bind fun r_3 =>
    if r_3.2 = true then
     if (w.length + 1) * 40 <= 140737488355328 then
      some (.inl (r_3.1, (w ++ [(r_1, r_2, r_3.1)])))
     else none
    else
     Option.map Sum.inr (
      some ((r, w), false))
def F_impl_walkBy (sys : ((List Int) × (List ((List Int) × (List Int))))) (t : (List Int)) (strategy : Int) (fuel : Int) : Option (((List Int) × (List (Int × Int × (List Int)))) × Bool) :=
 (F_slices_Clone_int64_int64 t).bind fun r =>
 loopC (F_impl_walkBy_l1 sys strategy fuel r) (t, [])
instance c_impl_walkBy {sys : ((List Int) × (List ((List Int) × (List Int))))} {t : (List Int)} {strategy : Int} {fuel : Int} : HasC (F_impl_walkBy sys t strategy fuel) fun rr => PFunN Tryz.prog 102 [D_impl_System sys, (slD 1 iD) t, iD strategy, iD fuel] [D_impl_Walk rr.1, bD rr.2] := ⟨@fun rr h => by
 delta F_impl_walkBy at h
 refine fn102.pureLN (vcm_sound ?_)
 delta mc102
 refine stp ?_
 refine rC h fun r hr h => ?_
 refine m_loopF h [1, 9, 11, 12, 13, 14, 18, 19, 20, 21, 22, 23, 24, 25, 26, 27, 28, 29, 30, 31, 32, 33, 34, 35, 36, 37, 38, 39, 40, 41, 42, 43, 44, 45, 46, 47, 48, 49, 50, 51, 52, 53, 54, 55] (fun pp => [(1, .d (slD 1 iD pp.1))]) (fun pp => [(4, .obj 33 [.d (slD 1 iD sys.1), .d (slD 2 D_impl_Rule sys.2)]), (8, .obj 103 [.d (.sl 0 (some true) []), .d (.sl 0 (some true) [])]), (10, .obj 103 [.d (slD 1 iD r), .own 3 53 (List.map D_impl_Step pp.2)]), (53, .tok 97 3 pp.2.length)]) ?_ ?_
 ·try dsimp only
  refine (Weak.thawCell 10 1 53 97 3 rfl rfl rfl).trans ?_
  exact wk
 rintro ⟨t_1, w⟩ t1 h hb1
 unfold F_impl_walkBy_l1 at h
 try dsimp only at h
 refine vcm_sound (stp ?_)
 refine rC h fun r_1 hr_1 h => ?_
 refine iF h fun hc h => ?_
 refine iF h fun hc h => ?_
 refine rC h fun r_2 hr_2 h => ?_
 refine rCN h fun r_3 hr_3 h => ?_
 refine iT h fun hc h => ?_
 refine ndI h fun hp h => ?_
 cases h
 refine ⟨_, rfl, ?_⟩
 refine (Weak.drop 52 (by omega)).trans ?_
 exact wk⟩
def mc78 : MCode :=
 (.seq (.reg (sq 4 [bo 4 33 0] ++ sq 8 [.alloc 8 103 [.sl 0 (some true) [], .sl 0 (some true) []], mb false])) (.seq (.seq (.reg (sq 10 [la 2 4, mv 1, mv 2, cf 101 [10, 11, 12], nt 13, mv 14] ++ sg 15 false 16 [mv 3, bi .lss 16 0] ++ sq 18 [po 15 17, mv 18] ++ sg 19 false 20 [mv 3, bi .gtr 20 60] ++ sq 22 [po 19 21])) (.cond (t0 22) (.seq (.reg (sq 23 [.build [.sl 0 (some true) [], .sl 0 (some true) []] []] ++ s0 (sr 2 8 23) ++ sq 9 [mb false])) .ret) .skip)) (.seq (.reg (sq 24 [la 2 4, mv 1, mv 2, mv 3, cf 102 [24, 25, 26, 27], ex 28 0, ex 28 1] ++ s0 (sr 2 8 29) ++ sq 9 [mv 30])) .ret)))
theorem fn78 : MFn Tryz.prog 78 mc78 31 [.cell 8 2 true, .tmp 9] := ⟨_, Tryz.func78, by kernel_rfl, Tryz.ntmps78, by kernel_rfl⟩
def F_impl_WalkBy (sys : ((List Int) × (List ((List Int) × (List Int))))) (t : (List Int)) (strategy : Int) (fuel : Int) : Option (((List Int) × (List (Int × Int × (List Int)))) × Bool) :=
 (F_impl_strategyOk sys t strategy).bind fun r =>
 if r = true then
  if (decide (fuel < 0)) = true then
   some (([], []), false)
  else
   if (decide (60 < fuel)) = true then
    some (([], []), false)
   else
    (F_impl_walkBy sys t strategy fuel).bind fun r_1 =>
    some r_1
 else
  some (([], []), false)
instance c_impl_WalkBy {sys : ((List Int) × (List ((List Int) × (List Int))))} {t : (List Int)} {strategy : Int} {fuel : Int} : HasC (F_impl_WalkBy sys t strategy fuel) fun rr => PFunN Tryz.prog 78 [D_impl_System sys, (slD 1 iD) t, iD strategy, iD fuel] [D_impl_Walk rr.1, bD rr.2] := ⟨@fun rr h => by
 delta F_impl_WalkBy at h
 refine fn78.pureLN (vcm_sound ?_)
 delta mc78
 refine stp ?_
 exact aut⟩
def mc45 : MCode :=
 (.seq (.reg (sq 4 [bo 4 33 0] ++ sq 8 [mi 0])) (.seq (.reg (sq 12 [la 2 4, mv 1, mv 2, mv 3, cf 78 [12, 13, 14, 15]] ++ sq 11 [mv 16] ++ sq 17 [ex 11 0, ex 11 1] ++ sq 9 [.alloc 9 103 [.sl 0 (some true) [], .sl 0 (some true) []]] ++ s0 (sr 2 9 17) ++ sq 10 [mv 18])) (.seq (.seq (.reg (sq 19 [mv 10, nt 19])) (.cond (t0 20) (.seq (.reg (sq 8 [mi (-1)])) .ret) .skip)) (.seq (.reg (sq 21 [fa 1 9, ld 21, ln 22] ++ sq 8 [mv 23])) .ret))))
theorem fn45 : MFn Tryz.prog 45 mc45 24 [.tmp 8] := ⟨_, Tryz.func45, by kernel_rfl, Tryz.ntmps45, by kernel_rfl⟩
def F_impl_CountBy (sys : ((List Int) × (List ((List Int) × (List Int))))) (t : (List Int)) (strategy : Int) (fuel : Int) : Option Int :=
 (F_impl_WalkBy sys t strategy fuel).bind fun r =>
 if r.2 = true then
  some (r.1.2.length : Int)
 else
  some (-1)
instance c_impl_CountBy {sys : ((List Int) × (List ((List Int) × (List Int))))} {t : (List Int)} {strategy : Int} {fuel : Int} : HasC (F_impl_CountBy sys t strategy fuel) fun rr => PFun Tryz.prog 45 [D_impl_System sys, (slD 1 iD) t, iD strategy, iD fuel] (iD rr) := ⟨@fun rr h => by
 delta F_impl_CountBy at h
 refine fn45.pureL (vcm_sound ?_)
 delta mc45
 refine stp ?_
 exact aut⟩
def mc103 : MCode :=
 (.seq (.reg (sq 3 [bo 3 33 0] ++ sq 6 [mb false])) (.seq (.reg (sq 7 [la 2 3, mv 1, cf 122 [7, 8], mv 9] ++ sg 10 true 11 [mv 2, .callf 30 [(t0 11), (i0 1), (i0 3)]] ++ sq 13 [pa 10 12] ++ sq 6 [mv 13])) .ret))
theorem fn103 : MFn Tryz.prog 103 mc103 14 [.tmp 6] := ⟨_, Tryz.func103, by kernel_rfl, Tryz.ntmps103, by kernel_rfl⟩
def F_spec_l8Right (sys : ((List Int) × (List ((List Int) × (List Int))))) (t : (List Int)) (strategy : Int) : Option Bool :=
 (F_spec_l7Right sys t).bind fun r =>
 if r = true then
  (F_spec_l1In strategy 1 3).bind fun r_1 =>
  some r_1
 else
  some false
instance c_spec_l8Right {sys : ((List Int) × (List ((List Int) × (List Int))))} {t : (List Int)} {strategy : Int} : HasC (F_spec_l8Right sys t strategy) fun rr => PFun Tryz.prog 103 [D_impl_System sys, (slD 1 iD) t, iD strategy] (bD rr) := ⟨@fun rr h => by
 delta F_spec_l8Right at h
 refine fn103.pureL (vcm_sound ?_)
 delta mc103
 refine stp ?_
 exact aut⟩
def mc136 : MCode :=
 (.seq (.reg (sq 3 [bo 3 33 0] ++ sq 6 [mi 0])) (.seq (.reg (sq 11 [fa 0 3, la 1 11, mv 1, mv 2, cf 138 [12, 13, 14]] ++ sq 7 [mv 15])) (.seq (.seq (.reg (sq 8 [mi 0])) (.block 0 (.loop (.seq (.seq (.reg (sq 16 [mv 8, fa 1 3, ld 17, ln 18, bn .lss 16 19])) (.cond (t0 20) .skip (.exit 0))) (.seq (.block 1 (.seq (.draw (sq 24 [fa 0 3, la 1 24, fa 1 3, ld 26, mv 8, ix 2 27 28, fa 0 29, ld 30, mv 7, cf 137 [25, 31, 32]] ++ sq 23 [mv 33] ++ sq 34 [ex 23 0, ex 23 1] ++ sq 9 [.alloc 9 171 [.sl 0 (some true) []]] ++ s0 (sr 1 9 34) ++ sq 10 [mv 35]) [[], [0], [], [2], [], [3, 4], [5], [6], [], [1, 7, 8], [9], [10], [10], [], [13, 11, 9, 0, 1, 2, 3, 4, 5, 6, 7, 8, 9, 10, 11, 13], [12, 14, 0, 1, 2, 3, 4, 5, 6, 7, 8, 9, 10, 11, 12, 13, 14]]) (.seq (.reg (sq 36 [mv 10])) (.cond (t0 36) (.seq (.reg (sq 37 [mv 8] ++ sq 6 [mv 37])) .ret) .skip)))) (.reg (sq 21 [mv 8, bi .add 21 1] ++ sq 8 [mv 22]))))))) (.seq (.reg (sq 6 [mi (-1)])) .ret))))
theorem fn136 : MFn Tryz.prog 136 mc136 38 [.tmp 6] := ⟨_, Tryz.func136, by kernel_rfl, Tryz.ntmps136, by kernel_rfl⟩
def F_spec_l8Redex_l1 (sys : ((List Int) × (List ((List Int) × (List Int))))) (r : (List Int)) : Int -> Option (Int ⊕ Int)
 | rule =>
  if (decide (rule < (sys.2.length : Int))) = true then
   if 0 <= rule /\ rule < (sys.2.length : Int) then
    (F_spec_l4Match sys.1 ((sys.2.getD rule.toNat default).1) r).bind fun r_1 =>
    if r_1.2 = true then
     Option.map Sum.inr (
      some rule)
    else
     some (.inl (IntKind.i64.wrap (rule + 1)))
   else none
  else
   Option.map Sum.inr (
    some (-1))
def F_spec_l8Redex (sys : ((List Int) × (List ((List Int) × (List Int))))) (t : (List Int)) (at' : Int) : Option Int :=
 (F_spec_l1Sub sys.1 t at').bind fun r =>
 loopC (F_spec_l8Redex_l1 sys r) 0
instance c_spec_l8Redex {sys : ((List Int) × (List ((List Int) × (List Int))))} {t : (List Int)} {at' : Int} : HasC (F_spec_l8Redex sys t at') fun rr => PFun Tryz.prog 136 [D_impl_System sys, (slD 1 iD) t, iD at'] (iD rr) := ⟨@fun rr h => by
 delta F_spec_l8Redex at h
 refine fn136.pureL (vcm_sound ?_)
 delta mc136
 refine stp ?_
 refine rC h fun r hr h => ?_
 refine m_lW h [6, 8, 9, 10, 16, 17, 18, 19, 20, 21, 22, 23, 24, 25, 26, 27, 28, 29, 30, 31, 32, 33, 34, 35, 36, 37] (fun pp => [(8, .d (iD pp))]) (fun pp => [(3, .obj 33 [.d (slD 1 iD sys.1), .d (slD 2 D_impl_Rule sys.2)])]) ?_
 rintro rule t1 h hb1
 unfold F_spec_l8Redex_l1 at h
 try dsimp only at h
 refine vcm_sound (stp ?_)
 refine iT h fun hc h => ?_
 refine ndI h fun hp h => ?_
 refine dCN h fun r_1 hr_1 h => ?_
 refine drQ_of (by kernel_rfl) (stp ?_)
 refine iF h fun hc h => ?_
 cases h
 refine ⟨_, rfl, ?_⟩
 refine (Weak.drop 9 (by omega)).trans ?_
 exact wk⟩
def mc163 : MCode :=
 (.seq (.reg (sq 2 [bo 2 33 0] ++ sq 4 [.mv (.const (.slice none 0 0))])) (.seq (.reg (sq 7 [.bsl 7 2 1 []] ++ sq 5 [mv 7])) (.seq (.seq (.reg (sq 6 [mi 0])) (.block 0 (.loop (.seq (.seq (.reg (sq 8 [mv 6, mv 1, ln 9, bn .lss 8 10, mv 11] ++ sg 12 true 13 [la 2 2, mv 1, cf 122 [13, 14]] ++ sq 16 [pa 12 15])) (.cond (t0 16) .skip (.exit 0))) (.seq (.block 1 (.seq (.reg (sq 19 [la 2 2, mv 1, mv 6, cf 136 [19, 20, 21], bi .geq 22 0])) (.cond (t0 23) (.reg (sq 24 [mv 5, mv 6, .bsl 26 2 1 [(t0 25)], ap 27 2 1 8 24 26] ++ sq 5 [mv 27])) .skip))) (.reg (sq 17 [mv 6, bi .add 17 1] ++ sq 6 [mv 18]))))))) (.seq (.reg (sq 28 [mv 5] ++ sq 4 [mv 28])) .ret))))
theorem fn163 : MFn Tryz.prog 163 mc163 29 [.tmp 4] := ⟨_, Tryz.func163, by kernel_rfl, Tryz.ntmps163, by kernel_rfl⟩
def F_spec_RedexesIn_l1 (sys : ((List Int) × (List ((List Int) × (List Int))))) (t : (List Int)) : ((List Int) × Int) -> Option (((List Int) × Int) ⊕ (List Int))
 | (out, at') =>
  if (decide (at' < (t.length : Int))) = true then
   (F_spec_l7Right sys t).bind fun r =>
   if r = true then
    (F_spec_l8Redex sys t at').bind fun r_1 =>
    if (decide (0 <= r_1)) = true then
     if (out.length + 1) * 8 <= 140737488355328 then
      some (.inl ((out ++ [at']), (IntKind.i64.wrap (at' + 1))))
     else none
    else
     some (.inl (out, (IntKind.i64.wrap (at' + 1))))
   else
    Option.map Sum.inr (
     some out)
  else
   Option.map Sum.inr (
    some out)
def F_spec_RedexesIn (sys : ((List Int) × (List ((List Int) × (List Int))))) (t : (List Int)) : Option (List Int) :=
 loopC (F_spec_RedexesIn_l1 sys t) ([], 0)
instance c_spec_RedexesIn {sys : ((List Int) × (List ((List Int) × (List Int))))} {t : (List Int)} : HasC (F_spec_RedexesIn sys t) fun rr => PFun Tryz.prog 163 [D_impl_System sys, (slD 1 iD) t] ((slD 1 iD) rr) := ⟨@fun rr h => by
 delta F_spec_RedexesIn at h
 refine fn163.pureL (vcm_sound ?_)
 delta mc163
 refine stp ?_
 refine m_lW h [5, 6, 8, 9, 10, 11, 12, 13, 14, 15, 16, 17, 18, 19, 20, 21, 22, 23, 24, 25, 26, 27] (fun pp => [(5, .own 1 7 (List.map iD pp.1)), (6, .d (iD pp.2))]) (fun pp => [(2, .obj 33 [.d (slD 1 iD sys.1), .d (slD 2 D_impl_Rule sys.2)]), (7, .tok 2 1 pp.1.length)]) ?_
 rintro ⟨out, at'⟩ t1 h hb1
 unfold F_spec_RedexesIn_l1 at h
 try dsimp only at h
 refine vcm_sound (stp ?_)
 refine iT h fun hc h => ?_
 refine rC h fun r hr h => ?_
 refine iT h fun hc h => ?_
 refine rC h fun r_1 hr_1 h => ?_
 refine iT h fun hc h => ?_
 refine ndI h fun hp h => ?_
 cases h
 refine ⟨_, rfl, ?_⟩
 refine (Weak.drop 26 (by omega)).trans ?_
 exact wk⟩
def mc162 : MCode :=
 (.seq (.reg (sq 2 [bo 2 33 0] ++ sq 4 [.mv (.const (.slice none 0 0))])) (.seq (.reg (sq 9 [.bsl 9 2 1 []] ++ sq 5 [mv 9])) (.seq (.reg (sq 10 [la 2 2, mv 1, cf 163 [10, 11]] ++ sq 6 [mv 12])) (.seq (.seq (.reg (sq 7 [mi 0])) (.block 0 (.loop (.seq (.seq (.reg (sq 13 [mv 7, mv 6, ln 14, bn .lss 13 15])) (.cond (t0 16) .skip (.exit 0))) (.seq (.block 1 (.seq (.draw (sq 19 [fa 0 2, la 1 19, mv 1, mv 6, mv 7, ix 1 22 23, ld 24, cf 87 [20, 21, 25]] ++ sq 8 [mv 26]) [[], [0], [], [], [], [3, 4], [5], [1, 2, 6], [7, 7, 0, 1, 2, 3, 4, 5, 6, 7]]) (.seq (.reg (sq 27 [mv 7, bi .add 27 1, mv 6, ln 29, bn .eql 28 30, mv 31] ++ sg 32 false 33 [mv 6, mv 7, bi .add 34 1, ix 1 33 35, ld 36, mv 8, bn .geq 37 38] ++ sq 40 [po 32 39])) (.cond (t0 40) (.reg (sq 41 [mv 5, mv 6, mv 7, ix 1 42 43, ld 44, .bsl 46 2 1 [(t0 45)], ap 47 2 1 8 41 46] ++ sq 5 [mv 47])) .skip)))) (.reg (sq 17 [mv 7, bi .add 17 1] ++ sq 7 [mv 18]))))))) (.seq (.reg (sq 48 [mv 5] ++ sq 4 [mv 48])) .ret)))))
theorem fn162 : MFn Tryz.prog 162 mc162 49 [.tmp 4] := ⟨_, Tryz.func162, by kernel_rfl, Tryz.ntmps162, by kernel_rfl⟩
def F_spec_InmostIn_l1 (sys : ((List Int) × (List ((List Int) × (List Int))))) (t : (List Int)) (r : (List Int)) : ((List Int) × Int) -> Option (((List Int) × Int) ⊕ (List Int))
 | (out, i) =>
  if (decide (i < (r.length : Int))) = true then
   if 0 <= i /\ i < (r.length : Int) then
    (F_spec_l1End sys.1 t (r.getD i.toNat default)).bind fun r_1 =>
    if ((IntKind.i64.wrap (i + 1)) == (r.length : Int)) = true then
     if 0 <= i /\ i < (r.length : Int) then
      if (out.length + 1) * 8 <= 140737488355328 then
       some (.inl ((out ++ [(r.getD i.toNat default)]), (IntKind.i64.wrap (i + 1))))
      else none
     else none
    else
     if 0 <= (IntKind.i64.wrap (i + 1)) /\ (IntKind.i64.wrap (i + 1)) < (r.length : Int) then
      if (decide (r_1 <= (r.getD (IntKind.i64.wrap (i + 1)).toNat default))) = true then
       if 0 <= i /\ i < (r.length : Int) then
        if (out.length + 1) * 8 <= 140737488355328 then
         some (.inl ((out ++ [(r.getD i.toNat default)]), (IntKind.i64.wrap (i + 1))))
        else none
       else none
      else
       some (.inl (out, (IntKind.i64.wrap (i + 1))))
     else none
   else none
  else
   Option.map Sum.inr (
    some out)
def F_spec_InmostIn (sys : ((List Int) × (List ((List Int) × (List Int))))) (t : (List Int)) : Option (List Int) :=
 (F_spec_RedexesIn sys t).bind fun r =>
 loopC (F_spec_InmostIn_l1 sys t r) ([], 0)
instance c_spec_InmostIn {sys : ((List Int) × (List ((List Int) × (List Int))))} {t : (List Int)} : HasC (F_spec_InmostIn sys t) fun rr => PFun Tryz.prog 162 [D_impl_System sys, (slD 1 iD) t] ((slD 1 iD) rr) := ⟨@fun rr h => by
 delta F_spec_InmostIn at h
 refine fn162.pureL (vcm_sound ?_)
 delta mc162
 refine stp ?_
 refine rC h fun r hr h => ?_
 refine m_lW h [5, 7, 8, 13, 14, 15, 16, 17, 18, 19, 20, 21, 22, 23, 24, 25, 26, 27, 28, 29, 30, 31, 32, 33, 34, 35, 36, 37, 38, 39, 40, 41, 42, 43, 44, 45, 46, 47] (fun pp => [(5, .own 1 9 (List.map iD pp.1)), (7, .d (iD pp.2))]) (fun pp => [(2, .obj 33 [.d (slD 1 iD sys.1), .d (slD 2 D_impl_Rule sys.2)]), (9, .tok 2 1 pp.1.length)]) ?_
 rintro ⟨out, i⟩ t1 h hb1
 unfold F_spec_InmostIn_l1 at h
 try dsimp only at h
 refine vcm_sound (stp ?_)
 refine iT h fun hc h => ?_
 refine ndI h fun hp h => ?_
 refine dC h fun r_1 hr_1 h => ?_
 refine drQ_of (by kernel_rfl) (stp ?_)
 refine it h (fun hc h => ?_) fun hc h => ?_
 ·refine ndI h fun hp h => ?_
  refine ndI h fun hp h => ?_
  cases h
  refine ⟨_, rfl, ?_⟩
  refine (Weak.drop 46 (by omega)).trans ?_
  exact wk
 refine ndI h fun hp h => ?_
 refine iT h fun hc h => ?_
 refine ndI h fun hp h => ?_
 refine ndI h fun hp h => ?_
 cases h
 refine ⟨_, rfl, ?_⟩
 refine (Weak.drop 46 (by omega)).trans ?_
 exact wk⟩
def mc135 : MCode :=
 (.seq (.reg (sq 3 [bo 3 33 0] ++ sq 6 [.mv (.const (.slice none 0 0))])) (.seq (.seq (.reg (sq 8 [mv 2])) (.block 0 (.seq (.reg (sq 10 [bi .eql 8 1] ++ sq 9 [mv 10])) (.cond (t0 9) (.seq (.reg (sq 11 [la 2 3, mv 1, cf 162 [11, 12]] ++ sq 6 [mv 13])) .ret) (.seq (.reg (sq 15 [bi .eql 8 2] ++ sq 14 [mv 15])) (.cond (t0 14) (.seq (.reg (sq 16 [la 2 3, mv 1, cf 163 [16, 17]] ++ sq 6 [mv 18])) .ret) .skip)))))) (.seq (.reg (sq 19 [la 2 3, mv 1, cf 163 [19, 20]] ++ sq 7 [mv 21])) (.seq (.seq (.reg (sq 22 [mv 7, ln 22, bi .gtr 23 0])) (.cond (t0 24) (.reg (sq 25 [mv 7, mv 7, ln 26, bi .sub 27 1, .slc (t0 25) 1 (some (t0 28)) none none] ++ sq 7 [mv 29])) .skip)) (.seq (.reg (sq 30 [mv 7] ++ sq 6 [mv 30])) .ret)))))
theorem fn135 : MFn Tryz.prog 135 mc135 31 [.tmp 6] := ⟨_, Tryz.func135, by kernel_rfl, Tryz.ntmps135, by kernel_rfl⟩
def F_spec_l8Places (sys : ((List Int) × (List ((List Int) × (List Int))))) (t : (List Int)) (strategy : Int) : Option (List Int) :=
 if (strategy == 1) = true then
  (F_spec_InmostIn sys t).bind fun r =>
  some r
 else
  if (strategy == 2) = true then
   (F_spec_RedexesIn sys t).bind fun r_1 =>
   some r_1
  else
   (F_spec_RedexesIn sys t).bind fun r_2 =>
   if (decide (0 < (r_2.length : Int))) = true then
    if 0 <= (IntKind.i64.wrap ((r_2.length : Int) - 1)) /\ (IntKind.i64.wrap ((r_2.length : Int) - 1)) <= (r_2.length : Int) then
     some (r_2.drop (IntKind.i64.wrap ((r_2.length : Int) - 1)).toNat)
    else none
   else
    some r_2
instance c_spec_l8Places {sys : ((List Int) × (List ((List Int) × (List Int))))} {t : (List Int)} {strategy : Int} : HasC (F_spec_l8Places sys t strategy) fun rr => PFun Tryz.prog 135 [D_impl_System sys, (slD 1 iD) t, iD strategy] ((slD 1 iD) rr) := ⟨@fun rr h => by
 delta F_spec_l8Places at h
 refine fn135.pureL (vcm_sound ?_)
 delta mc135
 refine stp ?_
 exact aut⟩
def mc104 : MCode :=
 (.seq (.reg (sq 3 [bo 3 33 0] ++ sq 6 [mi 0, mi 0, mb false])) (.seq (.seq (.reg (sq 10 [la 2 3, mv 1, mv 2, cf 103 [10, 11, 12], nt 13])) (.cond (t0 14) (.seq (.reg (sq 6 [mi 0, mi 0, mb false])) .ret) .skip)) (.seq (.reg (sq 15 [la 2 3, mv 1, mv 2, cf 135 [15, 16, 17]] ++ sq 9 [mv 18])) (.seq (.seq (.reg (sq 19 [mv 9, ln 19, bi .eql 20 0])) (.cond (t0 21) (.seq (.reg (sq 6 [mi 0, mi 0, mb false])) .ret) .skip)) (.seq (.draw (sq 22 [mv 9, .ixa 1 (t0 22) (i0 0), ld 23, la 2 3, mv 1, mv 9, .ixa 1 (t0 27) (i0 0), ld 28, cf 136 [25, 26, 29]] ++ sq 6 [mv 24, mv 30, mb true]) [[], [0], [1], [], [], [], [5], [6], [3, 4, 7], [2, 8, 0, 1, 2], [8, 9, 0, 1, 2, 3, 4, 5, 6, 7, 8, 9], [10, 0, 1, 2, 3, 4, 5, 6, 7, 8, 9, 10]]) .ret)))))
theorem fn104 : MFn Tryz.prog 104 mc104 31 [.tmp 6, .tmp 7, .tmp 8] := ⟨_, Tryz.func104, by kernel_rfl, Tryz.ntmps104, by kernel_rfl⟩
def F_spec_PickBy (sys : ((List Int) × (List ((List Int) × (List Int))))) (t : (List Int)) (strategy : Int) : Option (Int × Int × Bool) :=
 (F_spec_l8Right sys t strategy).bind fun r =>
 if r = true then
  (F_spec_l8Places sys t strategy).bind fun r_1 =>
  if ((r_1.length : Int) == 0) = true then
   some (0, 0, false)
  else
   if 0 <= 0 /\ 0 < (r_1.length : Int) then
    if 0 <= 0 /\ 0 < (r_1.length : Int) then
     (F_spec_l8Redex sys t (r_1.getD 0 default)).bind fun r_2 =>
     some ((r_1.getD 0 default), r_2, true)
    else none
   else none
 else
  some (0, 0, false)
instance c_spec_PickBy {sys : ((List Int) × (List ((List Int) × (List Int))))} {t : (List Int)} {strategy : Int} : HasC (F_spec_PickBy sys t strategy) fun rr => PFunN Tryz.prog 104 [D_impl_System sys, (slD 1 iD) t, iD strategy] [iD rr.1, iD rr.2.1, bD rr.2.2] := ⟨@fun rr h => by
 delta F_spec_PickBy at h
 refine fn104.pureLN (vcm_sound ?_)
 delta mc104
 refine stp ?_
 exact aut⟩
def mc106 : MCode :=
 (.seq (.reg (sq 2 [bo 2 33 0] ++ sq 4 [mb false])) (.seq (.reg (sq 5 [la 2 2, mv 1, cf 122 [5, 6], mv 7] ++ sg 8 true 9 [la 2 2, mv 1, cf 125 [9, 10], bi .eql 11 0] ++ sq 13 [pa 8 12] ++ sq 4 [mv 13])) .ret))
theorem fn106 : MFn Tryz.prog 106 mc106 14 [.tmp 4] := ⟨_, Tryz.func106, by kernel_rfl, Tryz.ntmps106, by kernel_rfl⟩
def F_spec_NormalIn (sys : ((List Int) × (List ((List Int) × (List Int))))) (t : (List Int)) : Option Bool :=
 (F_spec_l7Right sys t).bind fun r =>
 if r = true then
  (F_spec_l7Redexes sys t).bind fun r_1 =>
  some (r_1 == 0)
 else
  some false
instance c_spec_NormalIn {sys : ((List Int) × (List ((List Int) × (List Int))))} {t : (List Int)} : HasC (F_spec_NormalIn sys t) fun rr => PFun Tryz.prog 106 [D_impl_System sys, (slD 1 iD) t] (bD rr) := ⟨@fun rr h => by
 delta F_spec_NormalIn at h
 refine fn106.pureL (vcm_sound ?_)
 delta mc106
 refine stp ?_
 exact aut⟩
def mc79 : MCode :=
 (.seq (.reg (sq 4 [bo 4 33 0] ++ sq 8 [.alloc 8 103 [.sl 0 (some true) [], .sl 0 (some true) []], mb false])) (.seq (.seq (.reg (sq 17 [la 2 4, mv 1, mv 2, cf 103 [17, 18, 19], nt 20, mv 21] ++ sg 22 false 23 [mv 3, .callf 30 [(t0 23), (i0 0), (i0 60)], nt 24] ++ sq 26 [po 22 25])) (.cond (t0 26) (.seq (.reg (sq 27 [.build [.sl 0 (some true) [], .sl 0 (some true) []] []] ++ s0 (sr 2 8 27) ++ sq 9 [mb false])) .ret) .skip)) (.seq (.reg (sq 28 [mv 1, cf 94 [28], .build [.sl 0 (some true) [], .sl 0 (some true) []] [(0, 1, (t0 29))]] ++ sq 10 [.alloc 10 103 [.sl 0 (some true) [], .sl 0 (some true) []]] ++ s0 (sr 2 10 30))) (.seq (.reg (sq 31 [mv 1, cf 94 [31]] ++ sq 11 [mv 32])) (.seq (.block 0 (.loop (.seq (.seq (.reg (sq 33 [fa 1 10, ld 33, ln 34, mv 3, bn .lss 35 36])) (.cond (t0 37) .skip (.exit 0))) (.block 1 (.seq (.reg (sq 39 [la 2 4, mv 11, mv 2, cf 104 [39, 40, 41]] ++ sq 38 [mv 42] ++ sq 43 [ex 38 0, ex 38 1, ex 38 2] ++ sq 12 [mv 43, mv 44, mv 45])) (.seq (.seq (.reg (sq 46 [mv 14, nt 46])) (.cond (t0 47) (.exit 0) .skip)) (.seq (.reg (sq 49 [la 2 4, mv 11, mv 12, mv 13, cf 105 [49, 50, 51, 52]] ++ sq 48 [mv 53] ++ sq 54 [ex 48 0, ex 48 1] ++ sq 15 [mv 54, mv 55])) (.seq (.seq (.reg (sq 56 [mv 16, nt 56])) (.cond (t0 57) (.exit 0) .skip)) (.seq (.reg (sq 58 [fa 1 10, ld 58, mv 12, mv 13, mv 15, .build [.lit (.int .i64 0), .lit (.int .i64 0), .sl 0 (some true) []] [(0, 1, (t0 60)), (1, 1, (t0 61)), (2, 1, (t0 62))], .bsl 64 97 3 [(t0 63)], ap 65 97 3 40 59 64, fa 1 10] ++ s0 (sr 1 66 65))) (.reg (sq 67 [mv 15, cf 94 [67]] ++ sq 11 [mv 68]))))))))))) (.seq (.draw (sq 69 [la 2 10, la 2 4, mv 11, cf 106 [70, 71]] ++ s0 (sr 2 8 69) ++ sq 9 [mv 72]) [[], [], [], [1, 2], [0, 3, 0], [3, 4, 0, 1, 2, 3, 4]]) .ret))))))
theorem fn79 : MFn Tryz.prog 79 mc79 73 [.cell 8 2 true, .tmp 9] := ⟨_, Tryz.func79, by kernel_rfl, Tryz.ntmps79, by kernel_rfl⟩
def F_spec_WalkBy_l1 (sys : ((List Int) × (List ((List Int) × (List Int))))) (strategy : Int) (fuel : Int) (r_2 : (List Int)) : ((List Int) × (List (Int × Int × (List Int)))) -> Option (((List Int) × (List (Int × Int × (List Int)))) ⊕ (((List Int) × (List (Int × Int × (List Int)))) × Bool))
 | (now, w) =>
  if (decide ((w.length : Int) < fuel)) = true then
   (F_spec_PickBy sys now strategy).bind fun r_4 =>
   if r_4.2.2 = true then
    (F_spec_l7Step sys now r_4.1 r_4.2.1).bind fun r_5 =>
    if r_5.2 = true then
     if (w.length + 1) * 40 <= 140737488355328 then
      (F_spec_l1Copy r_5.1).bind fun r_6 =>
      some (.inl (r_6, (w ++ [(r_4.1, r_4.2.1, r_5.1)])))
     else none
    else
     Option.map Sum.inr (
      (F_spec_NormalIn sys now).bind fun r_7 =>
      some ((r_2, w), r_7))
   else
    Option.map Sum.inr (
     (F_spec_NormalIn sys now).bind fun r_8 =>
     some ((r_2, w), r_8))
  else
   Option.map Sum.inr (
    (F_spec_NormalIn sys now).bind fun r_9 =>
    some ((r_2, w), r_9))
def F_spec_WalkBy (sys : ((List Int) × (List ((List Int) × (List Int))))) (t : (List Int)) (strategy : Int) (fuel : Int) : Option (((List Int) × (List (Int × Int × (List Int)))) × Bool) :=
 (F_spec_l8Right sys t strategy).bind fun r =>
 if r = true then
  (F_spec_l1In fuel 0 60).bind fun r_1 =>
  if r_1 = true then
   (F_spec_l1Copy t).bind fun r_2 =>
   (F_spec_l1Copy t).bind fun r_3 =>
   loopC (F_spec_WalkBy_l1 sys strategy fuel r_2) (r_3, [])
  else
   some (([], []), false)
 else
  some (([], []), false)
instance c_spec_WalkBy {sys : ((List Int) × (List ((List Int) × (List Int))))} {t : (List Int)} {strategy : Int} {fuel : Int} : HasC (F_spec_WalkBy sys t strategy fuel) fun rr => PFunN Tryz.prog 79 [D_impl_System sys, (slD 1 iD) t, iD strategy, iD fuel] [D_impl_Walk rr.1, bD rr.2] := ⟨@fun rr h => by
 delta F_spec_WalkBy at h
 refine fn79.pureLN (vcm_sound ?_)
 delta mc79
 refine stp ?_
 refine rC h fun r hr h => ?_
 refine iT h fun hc h => ?_
 refine rC h fun r_1 hr_1 h => ?_
 refine iT h fun hc h => ?_
 refine rCo [] [(3, 29)] h fun r_2 hr_2 h => ?_
 refine rCo [] [(3, 32)] h fun r_3 hr_3 h => ?_
 refine m_loopF h [11, 12, 13, 14, 15, 16, 33, 34, 35, 36, 37, 38, 39, 40, 41, 42, 43, 44, 45, 46, 47, 48, 49, 50, 51, 52, 53, 54, 55, 56, 57, 58, 59, 60, 61, 62, 63, 64, 65, 66, 67, 68] (fun pp => [(11, .d (slD 1 iD pp.1))]) (fun pp => [(4, .obj 33 [.d (slD 1 iD sys.1), .d (slD 2 D_impl_Rule sys.2)]), (8, .obj 103 [.d (.sl 0 (some true) []), .d (.sl 0 (some true) [])]), (10, .obj 103 [.own 1 29 (List.map iD r_2), .own 3 65 (List.map D_impl_Step pp.2)]), (29, .tok 2 1 r_2.length), (32, .tok 2 1 r_3.length), (65, .tok 97 3 pp.2.length)]) ?_ ?_
 ·try dsimp only
  refine (Weak.thawCell 10 1 65 97 3 rfl rfl rfl).trans ?_
  exact wk
 rintro ⟨now, w⟩ t1 h hb1
 unfold F_spec_WalkBy_l1 at h
 try dsimp only at h
 refine vcm_sound (stp ?_)
 refine iT h fun hc h => ?_
 refine rCN h fun r_4 hr_4 h => ?_
 refine iT h fun hc h => ?_
 refine rCN h fun r_5 hr_5 h => ?_
 refine iT h fun hc h => ?_
 refine ndI h fun hp h => ?_
 refine rCo [] [(3, 68)] h fun r_6 hr_6 h => ?_
 cases h
 refine ⟨_, rfl, ?_⟩
 refine (Weak.drop 64 (by omega)).trans ?_
 refine (Weak.drop 68 (by omega)).trans ?_
 exact wk⟩
def mc46 : MCode :=
 (.seq (.reg (sq 4 [bo 4 33 0] ++ sq 8 [mi 0])) (.seq (.reg (sq 12 [la 2 4, mv 1, mv 2, mv 3, cf 79 [12, 13, 14, 15]] ++ sq 11 [mv 16] ++ sq 17 [ex 11 0, ex 11 1] ++ sq 9 [.alloc 9 103 [.sl 0 (some true) [], .sl 0 (some true) []]] ++ s0 (sr 2 9 17) ++ sq 10 [mv 18])) (.seq (.seq (.reg (sq 19 [mv 10, nt 19])) (.cond (t0 20) (.seq (.reg (sq 8 [mi (-1)])) .ret) .skip)) (.seq (.reg (sq 21 [fa 1 9, ld 21, ln 22] ++ sq 8 [mv 23])) .ret))))
theorem fn46 : MFn Tryz.prog 46 mc46 24 [.tmp 8] := ⟨_, Tryz.func46, by kernel_rfl, Tryz.ntmps46, by kernel_rfl⟩
def F_spec_CountBy (sys : ((List Int) × (List ((List Int) × (List Int))))) (t : (List Int)) (strategy : Int) (fuel : Int) : Option Int :=
 (F_spec_WalkBy sys t strategy fuel).bind fun r =>
 if r.2 = true then
  some (r.1.2.length : Int)
 else
  some (-1)
instance c_spec_CountBy {sys : ((List Int) × (List ((List Int) × (List Int))))} {t : (List Int)} {strategy : Int} {fuel : Int} : HasC (F_spec_CountBy sys t strategy fuel) fun rr => PFun Tryz.prog 46 [D_impl_System sys, (slD 1 iD) t, iD strategy, iD fuel] (iD rr) := ⟨@fun rr h => by
 delta F_spec_CountBy at h
 refine fn46.pureL (vcm_sound ?_)
 delta mc46
 refine stp ?_
 exact aut⟩
def mc18 : MCode :=
 (.seq (.reg (sq 3 [bo 3 33 0] ++ sq 6 [mi 0])) (.seq (.reg (sq 13 [la 2 3, mv 1, cf 41 [13, 14]] ++ sq 12 [mv 15] ++ sq 16 [ex 12 0, ex 12 1] ++ sq 7 [mv 16, mv 17])) (.seq (.seq (.reg (sq 18 [mv 8, nt 18, mv 19] ++ sg 20 false 21 [mv 2, .callf 30 [(t0 21), (i0 0), (i0 60)], nt 22] ++ sq 24 [po 20 23])) (.cond (t0 24) (.seq (.reg (sq 6 [mi (-1)])) .ret) .skip)) (.seq (.reg (sq 9 [mi 0])) (.seq (.seq (.reg (sq 10 [mi 0])) (.block 0 (.loop (.seq (.seq (.reg (sq 25 [mv 10, mv 7, ln 26, bn .lss 25 27])) (.cond (t0 28) .skip (.exit 0))) (.seq (.block 1 (.seq (.draw (sq 31 [la 2 3, mv 7, mv 10, ix 1 32 33, ld 34, mv 2, .callf 46 [(t0 31), (t0 35), (i0 1), (t0 36)]] ++ sq 11 [mv 37]) [[], [], [], [1, 2], [3], [], [0, 4, 5], [6, 6, 0, 1, 2, 3, 4, 5, 6]]) (.seq (.seq (.reg (sq 38 [mv 11, bi .lss 38 0])) (.cond (t0 39) (.seq (.reg (sq 6 [mi (-1)])) .ret) .skip)) (.reg (sq 40 [mv 9, mv 11, cf 47 [40, 41]] ++ sq 9 [mv 42]))))) (.reg (sq 29 [mv 10, bi .add 29 1] ++ sq 10 [mv 30]))))))) (.seq (.reg (sq 43 [mv 9] ++ sq 6 [mv 43])) .ret))))))
theorem fn18 : MFn Tryz.prog 18 mc18 44 [.tmp 6] := ⟨_, Tryz.func18, by kernel_rfl, Tryz.ntmps18, by kernel_rfl⟩
def F_spec_InmostTime_l1 (sys : ((List Int) × (List ((List Int) × (List Int))))) (fuel : Int) (r : ((List (List Int)) × Bool)) : (Int × Int) -> Option ((Int × Int) ⊕ Int)
 | (most, i) =>
  if (decide (i < (r.1.length : Int))) = true then
   if 0 <= i /\ i < (r.1.length : Int) then
    (F_spec_CountBy sys (r.1.getD i.toNat default) 1 fuel).bind fun r_2 =>
    if (decide (r_2 < 0)) = true then
     Option.map Sum.inr (
      some (-1))
    else
     (F_spec_l1Max most r_2).bind fun r_3 =>
     some (.inl (r_3, (IntKind.i64.wrap (i + 1))))
   else none
  else
   Option.map Sum.inr (
    some most)
def F_spec_InmostTime (sys : ((List Int) × (List ((List Int) × (List Int))))) (n : Int) (fuel : Int) : Option Int :=
 (F_spec_BasicsOf sys n).bind fun r =>
 if r.2 = true then
  (F_spec_l1In fuel 0 60).bind fun r_1 =>
  if r_1 = true then
   loopC (F_spec_InmostTime_l1 sys fuel r) (0, 0)
  else
   some (-1)
 else
  some (-1)
instance c_spec_InmostTime {sys : ((List Int) × (List ((List Int) × (List Int))))} {n : Int} {fuel : Int} : HasC (F_spec_InmostTime sys n fuel) fun rr => PFun Tryz.prog 18 [D_impl_System sys, iD n, iD fuel] (iD rr) := ⟨@fun rr h => by
 delta F_spec_InmostTime at h
 refine fn18.pureL (vcm_sound ?_)
 delta mc18
 refine stp ?_
 refine rCN h fun r hr h => ?_
 refine iT h fun hc h => ?_
 refine rC h fun r_1 hr_1 h => ?_
 refine iT h fun hc h => ?_
 refine m_lW h [6, 9, 10, 11, 25, 26, 27, 28, 29, 30, 31, 32, 33, 34, 35, 36, 37, 38, 39, 40, 41, 42] (fun pp => [(9, .d (iD pp.1)), (10, .d (iD pp.2))]) (fun pp => [(3, .obj 33 [.d (slD 1 iD sys.1), .d (slD 2 D_impl_Rule sys.2)])]) ?_
 rintro ⟨most, i⟩ t1 h hb1
 unfold F_spec_InmostTime_l1 at h
 try dsimp only at h
 refine vcm_sound (stp ?_)
 exact aut⟩
end Go.Proofs.YtglpjlpmijfocaaGreat
namespace Go.Proofs.YtglpjlpmijfocaaGreat
open Go Abx
attribute [local irreducible] vcm vgo vdr vrun vdrun MWp GhostQ BrC BrO BrG BrD BrH AmbO callR callD drQ EnvLe StoLe
set_option maxHeartbeats 4000000
def mc44 : MCode :=
 (.seq (.reg (sq 4 [mi 0])) (.seq (.reg (sq 5 [la 2 1, mv 0, ld 2, .callf 45 [(t0 5), (t0 6), (i0 1), (t0 7)]] ++ sq 4 [mv 8])) .ret))
theorem fn44 : MFn Tryz.prog 44 mc44 9 [.tmp 4] := ⟨_, Tryz.func44, by kernel_rfl, Tryz.ntmps44, by kernel_rfl⟩
def F_impl_InmostTime_1 (t : (List Int)) (o00 : (List Int)) (o01 : (List ((List Int) × (List Int)))) (o1 : Int) : Option Int :=
 (F_impl_CountBy (o00, o01) t 1 o1).bind fun r =>
 some r
instance c_impl_InmostTime_1 {t : (List Int)} {o00 : (List Int)} {o01 : (List ((List Int) × (List Int)))} {o1 : Int} : HasC (F_impl_InmostTime_1 t o00 o01 o1) fun rr => ACalls Tryz.prog 44 [.d (slD 1 iD t), .ptr 0 0, .ptr 1 0] [(0, .obj 33 [.d (slD 1 iD o00), .d (slD 2 D_impl_Rule o01)]), (1, .obj 2 [.d (iD o1)])] 2 fun xx ss => xx = .d (iD rr) /\ ss = [(0, .obj 33 [.d (slD 1 iD o00), .d (slD 2 D_impl_Rule o01)]), (1, .obj 2 [.d (iD o1)])] := ⟨@fun rr h => by
 delta F_impl_InmostTime_1 at h
 refine fn44.callsO (vcm_sound ?_)
 delta mc44
 refine stp ?_
 exact aut⟩
def F_impl_greatest_s2_l1 (ts : (List (List Int))) (o00 : (List Int)) (o01 : (List ((List Int) × (List Int)))) (o1 : Int) : (Int × Int) -> Option ((Int × Int) ⊕ Int)
 | (out, v11) =>
  if (decide (v11 < (ts.length : Int))) = true then
   if 0 <= v11 /\ v11 < (ts.length : Int) then
    (F_impl_InmostTime_1 (ts.getD v11.toNat default) o00 o01 o1).bind fun r =>
    if (decide (r < 0)) = true then
     Option.map Sum.inr (
      some (-1))
    else
     some (.inl ((if r > out then r else out), (IntKind.i64.wrap (v11 + 1))))
   else none
  else
   Option.map Sum.inr (
    some out)
def F_impl_greatest_s2 (ts : (List (List Int))) (o00 : (List Int)) (o01 : (List ((List Int) × (List Int)))) (o1 : Int) : Option Int :=
 loopC (F_impl_greatest_s2_l1 ts o00 o01 o1) (0, 0)
instance c_impl_greatest_s2 {ts : (List (List Int))} {o00 : (List Int)} {o01 : (List ((List Int) × (List Int)))} {o1 : Int} : HasC (F_impl_greatest_s2 ts o00 o01 o1) fun rr => ACalls Tryz.prog 36 [.d (slD 1 (slD 1 iD) ts), .fn 44 [] [.ptr 0 0, .ptr 1 0]] [(0, .obj 33 [.d (slD 1 iD o00), .d (slD 2 D_impl_Rule o01)]), (1, .obj 2 [.d (iD o1)])] 2 fun xx ss => xx = .d (iD rr) /\ ss = [(0, .obj 33 [.d (slD 1 iD o00), .d (slD 2 D_impl_Rule o01)]), (1, .obj 2 [.d (iD o1)])] := ⟨@fun rr h => by
 delta F_impl_greatest_s2 at h
 refine fn36.callsO (vcm_sound ?_)
 delta mc36
 refine stp ?_
 refine m_lW h [4, 5, 7, 8, 11, 12, 13, 14, 15, 16, 17, 18, 19, 20, 21, 22, 23] (fun pp => [(5, .d (iD pp.1)), (11, .d (iD pp.2))]) (fun pp => [(0, .obj 33 [.d (slD 1 iD o00), .d (slD 2 D_impl_Rule o01)]), (1, .obj 2 [.d (iD o1)])]) ?_
 rintro ⟨out, v11⟩ t1 h hb1
 unfold F_impl_greatest_s2_l1 at h
 try dsimp only at h
 refine vcm_sound (stp ?_)
 refine iT h fun hc h => ?_
 refine ndI h fun hp h => ?_
 refine need_i (by kernel_rfl) ?_
 refine rCo [(0, 0), (1, 1)] [] h fun r hr h => ?_
 exact aut⟩
def mc17 : MCode :=
 (.seq (.reg (sq 3 [bo 3 33 0] ++ sq 5 [bo 5 2 2, mi 0])) (.seq (.reg (sq 10 [la 2 3, mv 1, cf 20 [10, 11]] ++ sq 9 [mv 12] ++ sq 13 [ex 9 0, ex 9 1] ++ sq 7 [mv 13, mv 14])) (.seq (.seq (.reg (sq 15 [mv 8, nt 15, mv 16] ++ sg 17 false 18 [ld 5, bi .lss 18 0] ++ sq 20 [po 17 19, mv 20] ++ sg 21 false 22 [ld 5, bi .gtr 22 60] ++ sq 24 [po 21 23])) (.cond (t0 24) (.seq (.reg (sq 6 [mi (-1)])) .ret) .skip)) (.seq (.reg (sq 25 [mv 7, .mkfn 44 [] [(t0 3), (t0 5)], cf 36 [25, 26]] ++ sq 6 [mv 27])) .ret))))
theorem fn17 : MFn Tryz.prog 17 mc17 28 [.tmp 6] := ⟨_, Tryz.func17, by kernel_rfl, Tryz.ntmps17, by kernel_rfl⟩
def F_impl_InmostTime (sys : ((List Int) × (List ((List Int) × (List Int))))) (n : Int) (fuel : Int) : Option Int :=
 (F_impl_BasicsOf sys n).bind fun r =>
 if r.2 = true then
  if (decide (fuel < 0)) = true then
   some (-1)
  else
   if (decide (60 < fuel)) = true then
    some (-1)
   else
    (F_impl_greatest_s2 r.1 sys.1 sys.2 fuel).bind fun r_1 =>
    some r_1
 else
  some (-1)
instance c_impl_InmostTime {sys : ((List Int) × (List ((List Int) × (List Int))))} {n : Int} {fuel : Int} : HasC (F_impl_InmostTime sys n fuel) fun rr => PFun Tryz.prog 17 [D_impl_System sys, iD n, iD fuel] (iD rr) := ⟨@fun rr h => by
 delta F_impl_InmostTime at h
 refine fn17.pureL (vcm_sound ?_)
 delta mc17
 refine stp ?_
 refine rCN h fun r hr h => ?_
 refine iT h fun hc h => ?_
 refine iF h fun hc h => ?_
 refine iF h fun hc h => ?_
 refine rCo [(0, 3), (1, 5)] [] h fun r_1 hr_1 h => ?_
 exact aut⟩
end Go.Proofs.YtglpjlpmijfocaaGreat
