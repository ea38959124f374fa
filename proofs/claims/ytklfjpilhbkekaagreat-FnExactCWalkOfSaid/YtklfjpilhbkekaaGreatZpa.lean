/- What the equations of both sides come to: forms, match, fill, step, walks; nothing is assumed. -/
import Derived.Test.YtklfjpilhbkekaaGreatZa
import Derived.Test.YtklfjpilhbkekaaGreatZb
import Derived.Test.YtklfjpilhbkekaaGreatZth
set_option linter.all false
namespace Go.Proofs.YtklfjpilhbkekaaGreat
open Go Abx Tm
theorem e7 {n : Int} (h1 : -9223372036854775808 <= n) (h2 : n < 9223372036854775808) : IntKind.i64.wrap n = n := by
 rw [x3g h1 h2]
theorem y9 {α : Type} [Inhabited α] {xs : List α} {i : Nat} (h : i < xs.length) : xs.getD i default = xs[i] := by simp [lgd, List.getElem?_eq_getElem h]
theorem u4 {α : Type} [Inhabited α] {xs : List α} {i : Nat} (h : i < xs.length) : xs.getD i default ∈ xs := by rw [y9 h]; exact List.getElem_mem h
theorem q1j {α : Type} [Inhabited α] {xs : List α} {p : α -> Bool} {f : Int -> Option (Int ⊕ Bool)}
 (h : ∀ (i : Nat) (x : α), i < xs.length -> (i : Int) < xs.length -> x ∈ xs -> xs.getD i default = x -> f i = some (if p x = true then .inl ((i : Int) + 1) else .inr false)) (he : f xs.length = some (.inr true)) : loopC f 0 = some (xs.all p) := by
 have key : ∀ k i : Nat, i + k = xs.length -> loopC f (i : Int) = some ((xs.drop i).all p) := by
  intro k
  induction k with
  | zero =>
   intro i hi
   obtain rfl : i = xs.length := by omega
   rw [x8 he]; simp
  | succ k ih =>
   intro i hi
   have hlt : i < xs.length := by omega
   have e := h i _ hlt (by omega) (List.getElem_mem hlt) (y9 hlt)
   rw [List.drop_eq_getElem_cons hlt, List.all_cons]
   cases hp : p xs[i] with
   | true =>
    rw [hp, if_pos rfl] at e
    rw [p9 e]
    have := ih (i + 1) (by omega)
    rw [show ((i : Int) + 1) = ((i + 1 : Nat) : Int) by omega, this]; simp
   | false =>
    rw [hp] at e
    simp only [bft, if_false] at e
    rw [x8 e]; simp
 simpa using key xs.length 0 (by omega)
theorem x1b {α β : Type} [Inhabited α] {xs : List α} {p : α -> Bool} {f : Int -> Option (Int ⊕ β)} {y n : β}
 (h : ∀ (i : Nat) (x : α), i < xs.length -> (i : Int) < xs.length -> x ∈ xs -> xs.getD i default = x -> f i = some (if p x = true then .inr y else .inl ((i : Int) + 1))) (he : f xs.length = some (.inr n)) :
 loopC f 0 = some (if xs.any p = true then y else n) := by
 have key : ∀ k i : Nat, i + k = xs.length -> loopC f (i : Int) = some (if (xs.drop i).any p = true then y else n) := by
  intro k
  induction k with
  | zero =>
   intro i hi
   obtain rfl : i = xs.length := by omega
   rw [x8 he]; simp
  | succ k ih =>
   intro i hi
   have hlt : i < xs.length := by omega
   have e := h i _ hlt (by omega) (List.getElem_mem hlt) (y9 hlt)
   rw [List.drop_eq_getElem_cons hlt, List.any_cons]
   cases hp : p xs[i] with
   | false =>
    rw [hp] at e
    simp only [bft, if_false] at e
    rw [p9 e]
    have := ih (i + 1) (by omega)
    rw [show ((i : Int) + 1) = ((i + 1 : Nat) : Int) by omega, this]; simp
   | true =>
    rw [hp, if_pos rfl] at e
    rw [x8 e]; simp
 simpa using key xs.length 0 (by omega)
abbrev o4q {α : Type} (xs : List α) : Prop := xs.length < 1099511627776
def arOk (n : Int) : Bool := decide (0 <= n) && decide (n <= 3)
def w7q (a : q7) : Bool := decide (1 <= a.length) && decide (a.length <= 8) && a.all arOk
theorem q2s {a : q7} : w7q a = true ↔ 1 <= a.length /\ a.length <= 8 /\ ∀ n ∈ a, 0 <= n /\ n <= 3 := by simp [w7q, arOk, and_assoc]
theorem u6q (x lo hi : Int) : x9q x lo hi = some (decide (lo <= x) && decide (x <= hi)) := by
 unfold x9q
 by_cases h1 : lo <= x <;> by_cases h2 : x <= hi <;> simp [h1, h2]
theorem q1p (a : q7) : m4q a = some (w7q a) := by
 unfold m4q
 by_cases h1 : (a.length : Int) < 1
 ·have : ¬ 1 <= a.length := by omega
  simp [h1, w7q, this]
 ·by_cases h2 : 8 < (a.length : Int)
  ·have : ¬ a.length <= 8 := by omega
   simp [h1, h2, w7q, this]
  ·have e1 : 1 <= a.length := by omega
   have e2 : a.length <= 8 := by omega
   simp only [h1, h2, decide_false, bft, if_false, w7q, e1, e2, decide_true, Bool.true_and]
   refine q1j (fun i x hi hi' _ hx => ?_) (by simp [r9q])
   have hw : IntKind.i64.wrap ((i : Int) + 1) = i + 1 := e7 (by omega) (by omega)
   simp only [r9q, hi', decide_true, if_true, itn, hw, show (0 : Int) <= i by omega, and_self, arOk, hx]
   by_cases c1 : x < 0
   ·simp [c1, show ¬ 0 <= x by omega]
   ·by_cases c2 : 3 < x
    ·simp [c1, c2, show ¬ x <= 3 by omega]
    ·simp [c1, c2, show 0 <= x by omega, show x <= 3 by omega]
theorem q2b (a : q7) : b8q a = some (w7q a) := by
 unfold b8q
 simp only [u6q, obz]
 by_cases h : 1 <= a.length /\ a.length <= 8
 ·have e1 : (1 : Int) <= a.length := by omega
  have e2 : (a.length : Int) <= 8 := by omega
  simp only [e1, e2, decide_true, Bool.and_self, if_true, w7q, h.1, h.2, Bool.true_and]
  refine q1j (fun i x hi hi' _ hx => ?_) (by simp [t8q])
  have hw : IntKind.i64.wrap ((i : Int) + 1) = i + 1 := e7 (by omega) (by omega)
  simp only [t8q, hi', decide_true, if_true, itn, hw, show (0 : Int) <= i by omega, and_self, arOk, hx, u6q, obz]
  by_cases h3 : 0 <= x <;> by_cases h4 : x <= 3 <;> simp [h3, h4]
 ·have : (decide ((1 : Int) <= a.length) && decide ((a.length : Int) <= 8)) = false := by simp; omega
  rw [this]
  have : w7q a = false := by
   cases hs : w7q a with
   | false => rfl
   | true => have := q2s.1 hs; omega
  simp [this]
theorem k4j {x : q7} (h0 : 0 < x.length) (hs : o4q x) : Okk True (k6q x) fun m => ∀ b, b <= m ↔ ∀ y ∈ x, b <= y := by
 unfold k6q
 have h1 : ¬ (x.length : Int) < 1 := by omega
 have h2 : (0 : Int) < x.length := by omega
 simp only [h1, h2, decide_false, bft, if_false, Int.le_refl, and_self, if_true]
 refine Okk.loop (fun s : Int × Int => ∃ i : Nat, s.2 = (i : Int) /\ 1 <= i /\ i <= x.length /\ ∀ b, b <= s.1 ↔ ∀ y ∈ x.take i, b <= y) (fun s : Int × Int => x.length - s.2.toNat) ⟨1, rfl, Nat.le_refl _, by omega, fun b => ?_⟩ ?_
 ·cases x with
  | nil => simp at h0
  | cons y x => simp
 ·rintro ⟨m, i'⟩ ⟨i, rfl, h3, h4, h5⟩
  simp only [v7q] at h5 ⊢
  by_cases hi : i < x.length
  ·have hi' : (i : Int) < x.length := by omega
   have hw : IntKind.i64.wrap ((i : Int) + 1) = i + 1 := e7 (by omega) (by omega)
   simp only [hi', decide_true, if_true, show (0 : Int) <= i by omega, and_self, itn, y9 hi, hw]
   refine .some ⟨⟨i + 1, by simp, by omega, by omega, fun b => ?_⟩, by simp; omega⟩
   rw [List.take_add_one, List.getElem?_eq_getElem hi]
   have := h5 b
   simp only [List.mem_append, Option.toList_some, List.mem_singleton]
   split
   ·constructor
    ·rintro hb y (hy | rfl)
     ·exact (h5 b).1 (by omega) y hy
     ·exact hb
    ·intro hb; exact hb _ (.inr rfl)
   ·constructor
    ·rintro hb y (hy | rfl)
     ·exact (h5 b).1 hb y hy
     ·omega
    ·intro hb; exact (h5 b).2 fun y hy => hb y (.inl hy)
  ·have hi' : ¬ (i : Int) < x.length := by omega
   simp only [hi', decide_false, bft, if_false, Option.map_some]
   refine .some fun b => ?_
   rw [h5 b, List.take_of_length_le (by omega)]
theorem z6d {a : q7} (ha : w7q a = true) (x : Int) : ari a x <= 3 := by
 have := (q2s.1 ha).2.2
 unfold ari
 split
 ·omega
 ·rw [lgd]
  cases h : a[x.toNat]? with
  | none => simp
  | some y => have := this y (List.mem_of_getElem? h); simp; omega
theorem k0x {a : q7} (ha : w7q a = true) {x : Int} (hx : x < a.length) : c5q a x = some (ari a x : Int) := by
 unfold c5q ari
 by_cases h : x < 0
 ·simp [h]
 ·have h2 : 0 <= x := by omega
  simp only [h, decide_false, bft, if_false, h2, hx, and_self, if_true]
  have hl : x.toNat < a.length := by omega
  have := (q2s.1 ha).2.2 _ (u4 hl)
  rw [show a.getD x.toNat 0 = a.getD x.toNat default from rfl]
  rw [show ((a.getD x.toNat default).toNat : Int) = a.getD x.toNat default by omega]
theorem q5w {a t : q7} (ha : w7q a = true) (hs : o4q t) {i : Nat} (hi : i <= t.length) : g9q a t i =
 some (match t.drop i with | [] => (-1, (i : Int)) | x :: _ => if x < a.length then ((ari a x : Int), (i : Int) + 1) else (-1, i)) := by
 unfold g9q
 by_cases h : i < t.length
 ·have h1 : ¬ (t.length : Int) <= i := by omega
  have h2 : (i : Int) < t.length := by omega
  have hw : IntKind.i64.wrap ((i : Int) + 1) = i + 1 := e7 (by omega) (by omega)
  have hw2 : IntKind.i64.wrap ((i : Int) + 1 - 1) = i := by rw [e7 (by omega) (by omega)]; omega
  rw [List.drop_eq_getElem_cons h]
  simp only [h1, h2, decide_false, bft, if_false, show (0 : Int) <= i by omega, and_self, if_true, itn, y9 h, hw, hw2]
  by_cases h3 : t[i] < a.length
  ·have h4 : ¬ (a.length : Int) <= t[i] := by omega
   simp [h3, h4, k0x ha h3]
  ·have h4 : (a.length : Int) <= t[i] := by omega
   simp [h3, h4]
 ·have h1 : (t.length : Int) <= i := by omega
  rw [List.drop_of_length_le (by omega)]
  simp [h1]
theorem z2z {a t : q7} {i k : Nat} (h : i < t.length) : Tm.skip a (t.drop i) (k + 1) = if okx a (t[i]) then Tm.skip a (t.drop (i + 1)) (k + ari a t[i]) else none := by
 rw [List.drop_eq_getElem_cons h, q0l]
def k1o (a t : q7) (i : Nat) : Int := match Tm.skip a (t.drop i) 1 with | some r => (t.length : Int) - r.length | none => -1
theorem x2d {a : q7} : ∀ {t r : q7} {k : Nat}, Tm.skip a t k = some r -> r.length + k <= t.length := by
 intro t r k h
 obtain ⟨u, rfl, hu⟩ := k2d h
 have := hu.len
 simp; omega
theorem t1q {a t : q7} (ha : w7q a = true) (hs : o4q t) (hm : ∀ x ∈ t, -24 <= x) {i : Nat} (hi : i <= t.length) : y6q a t i = some (k1o a t i) := by
 have key : Okk True (u0q a t i) fun r => match Tm.skip a (t.drop i) 1 with | some q => r = (true, (t.length : Int) - q.length) | none => r.1 = false := by
  unfold u0q
  refine Okk.loop (fun s => ∃ (k c : Nat), s = ((k : Int), (c : Int)) /\ c <= t.length /\ k <= 1 + 3 * c /\ Tm.skip a (t.drop c) k = Tm.skip a (t.drop i) 1) (fun s => t.length - s.2.toNat) ⟨1, i, rfl, hi, by omega, rfl⟩ ?_
  rintro _ ⟨k, c, rfl, h1, h2, h3⟩
  simp only [b2q]
  cases k with
  | zero =>
   simp only [show ¬ (0 : Int) < ((0 : Nat) : Int) by omega, decide_false, bft, if_false, Option.map_some]
   refine .some ?_
   simp only [Rnd]
   rw [<- h3, e0q]
   simp; omega
  | succ k =>
   simp only [show (0 : Int) < ((k + 1 : Nat) : Int) by omega, decide_true, if_true, q5w ha hs h1, obz]
   by_cases hc : c < t.length
   ·rw [List.drop_eq_getElem_cons hc]
    rw [z2z hc] at h3
    simp only
    have hx := hm _ (List.getElem_mem hc)
    by_cases hlt : t[c] < a.length
    ·have ho : okx a t[c] := ⟨hx, hlt⟩
     rw [if_pos ho] at h3
     have hle := z6d ha t[c]
     simp only [hlt, if_true, show ¬ ((ari a t[c] : Nat) : Int) < 0 by omega, decide_false, bft, if_false]
     have hw1 : IntKind.i64.wrap (((k + 1 : Nat) : Int) + (ari a t[c] : Int)) = (k + 1 : Nat) + ari a t[c] := e7 (by omega) (by omega)
     rw [hw1, e7 (by omega) (by omega)]
     refine .some ⟨⟨k + ari a t[c], c + 1, by simp; omega, by omega, by omega, h3⟩, by simp; omega⟩
    ·have ho : ¬ okx a t[c] := fun h => hlt h.2
     rw [if_neg ho] at h3
     simp only [hlt, if_false, show (-1 : Int) < 0 by omega, decide_true, if_true, Option.map_some]
     refine .some ?_
     simp only [Rnd]
     rw [<- h3]; trivial
   ·rw [List.drop_of_length_le (by omega), z0f] at h3
    rw [List.drop_of_length_le (by omega)]
    simp only [show (-1 : Int) < 0 by omega, decide_true, if_true, Option.map_some]
    refine .some ?_
    simp only [Rnd]
    rw [<- h3]; trivial
 unfold y6q
 obtain ⟨r, h1, h2⟩ := key.get
 rw [h1, obz]
 unfold k1o
 cases h : Tm.skip a (t.drop i) 1 with
 | none => rw [h] at h2; simp only at h2; simp [h2]
 | some q => rw [h] at h2; simp only at h2; simp [h2]
def z8 (a t : q7) : Bool := w7q a && (decide (1 <= t.length) && decide (t.length <= 60)) && decide (Wf a 1 t)
theorem j4 {a t : q7} : z8 a t = true ↔ w7q a = true /\ 1 <= t.length /\ t.length <= 60 /\ Wf a 1 t := by simp [z8, and_assoc]
theorem k8w {a t : q7} : k1o a t 0 = (t.length : Int) ↔ Wf a 1 t := by
 unfold k1o Wf
 rw [List.drop_zero]
 cases h : Tm.skip a t 1 with
 | none =>
  simp only [reduceCtorEq, iff_false]
  try omega
 | some q =>
  simp only [Option.some.injEq]
  constructor
  ·intro h; exact List.length_eq_zero_iff.1 (by omega)
  ·rintro rfl; simp
theorem x7q (a t : q7) : r6 a t = some (z8 a t) := by
 unfold r6 z8
 rw [q1p, obz]
 cases ha : w7q a with
 | false => simp
 | true =>
  simp only [if_true, Bool.true_and]
  by_cases h1 : 1 <= t.length
  ·by_cases h2 : t.length <= 60
   ·have e1 : (0 : Int) < t.length := by omega
    have e2 : (t.length : Int) <= 60 := by omega
    simp only [e1, e2, h1, h2, decide_true, if_true, Bool.and_self, Bool.true_and]
    obtain ⟨m, h3, h4⟩ := (k4j (x := t) (by omega) (show t.length < _ by omega)).get
    rw [h3, obz]
    by_cases h5 : -24 <= m
    ·simp only [h5, decide_true, if_true]
     have := t1q ha (show t.length < _ by omega) ((h4 _).1 h5) (i := 0) (by omega)
     rw [show ((0 : Nat) : Int) = 0 by rfl] at this
     rw [this, obz]
     by_cases hw : Wf a 1 t
     ·simp [hw, k8w.2 hw]
     ·have := mt k8w.1 hw
      simp [hw, this]
    ·have hw : ¬ Wf a 1 t := fun hw => h5 ((h4 _).2 fun y hy => (hw.all y hy).1)
     simp [h5, hw]
   ·have e2 : ¬ (t.length : Int) <= 60 := by omega
    have e1 : (0 : Int) < t.length := by omega
    simp [e1, e2, h2]
  ·have e1 : ¬ (0 : Int) < t.length := by omega
   simp only [e1, h1, decide_false, bft, if_false, Bool.false_and]
theorem q3u {a : q7} (ha : w7q a = true) (x : Int) : w1q a x = some (if okx a x then (ari a x : Int) else -1) := by
 have hl := (q2s.1 ha).2.1
 unfold w1q
 simp only [u6q, obz, e7 (n := (a.length : Int) - 1) (by omega) (by omega)]
 by_cases h1 : -24 <= x
 ·by_cases h2 : x <= -1
  ·simp [h1, h2, okx, ari, show x < 0 by omega, show x < (a.length : Int) by omega]
  ·by_cases h3 : x < a.length
   ·have hx : x.toNat < a.length := by omega
    have := (q2s.1 ha).2.2 _ (u4 hx)
    simp only [h1, h2, h3, okx, show 0 <= x by omega, show x <= (a.length : Int) - 1 by omega, decide_true, decide_false, Bool.and_false, Bool.and_self, bft, if_false, and_self, if_true, ari, show ¬ x < 0 by omega]
    rw [show a.getD x.toNat 0 = a.getD x.toNat default from rfl]
    rw [show ((a.getD x.toNat default).toNat : Int) = a.getD x.toNat default by omega]
   ·simp [h1, h2, h3, okx, show ¬ x <= (a.length : Int) - 1 by omega]
 ·simp [h1, okx, show ¬ 0 <= x by omega]
theorem b9q {a t : q7} (ha : w7q a = true) (hs : o4q t) {i : Nat} (hi : i <= t.length) : z6q a t i = some (k1o a t i) := by
 have key : Okk True (z6q a t i) (· = k1o a t i) := by
  unfold z6q
  refine Okk.loop (fun s : Int × Int => ∃ (k c : Nat), s = (((k + 1 : Nat) : Int), (c : Int)) /\ c <= t.length /\ k <= 3 * c /\ Tm.skip a (t.drop c) (k + 1) = Tm.skip a (t.drop i) 1) (fun s : Int × Int => t.length - s.2.toNat) ⟨0, i, rfl, hi, by omega, rfl⟩ ?_
  rintro _ ⟨k, c, rfl, h1, h2, h3⟩
  simp only [q2c]
  by_cases hc : c < t.length
  ·rw [z2z hc] at h3
   have hc' : (c : Int) < t.length := by omega
   simp only [hc', decide_true, if_true, show (0 : Int) <= c by omega, and_self, itn, y9 hc, q3u ha, obz]
   have hle := z6d ha t[c]
   by_cases ho : okx a t[c]
   ·rw [if_pos ho] at h3
    simp only [ho, if_true, show ¬ ((ari a t[c] : Nat) : Int) < 0 by omega, decide_false, bft, if_false]
    rw [e7 (n := ((k + 1 : Nat) : Int) + (ari a t[c] : Int)) (by omega) (by omega), e7 (n := ((k + 1 : Nat) : Int) + (ari a t[c] : Int) - 1) (by omega) (by omega), e7 (n := (c : Int) + 1) (by omega) (by omega)]
    cases hk : k + ari a t[c] with
    | zero =>
     rw [hk, e0q] at h3
     have : (((k + 1 : Nat) : Int) + (ari a t[c] : Int) - 1 == 0) = true := by simp; omega
     simp only [this, if_true, Option.map_some]
     refine .some ?_
     simp only [Rnd, k1o]
     rw [<- h3]
     simp; omega
    | succ q =>
     have : ¬ (((k + 1 : Nat) : Int) + (ari a t[c] : Int) - 1 == 0) = true := by simp; omega
     simp only [this, if_false]
     refine .some ⟨⟨q, c + 1, by simp; omega, by omega, by omega, by rw [<- hk]; exact h3⟩, by simp; omega⟩
   ·rw [if_neg ho] at h3
    simp only [ho, if_false, show (-1 : Int) < 0 by omega, decide_true, if_true, Option.map_some]
    refine .some ?_
    simp only [Rnd, k1o]
    rw [<- h3]
  ·have hc' : ¬ (c : Int) < t.length := by omega
   rw [List.drop_of_length_le (by omega), z0f] at h3
   simp only [hc', decide_false, bft, if_false, Option.map_some]
   refine .some ?_
   simp only [Rnd, k1o]
   rw [<- h3]
 exact key.eq
theorem k4q (a t : q7) : q2q a t = some (z8 a t) := by
 unfold q2q z8
 rw [q2b, obz]
 cases ha : w7q a with
 | false => simp
 | true =>
  simp only [if_true, Bool.true_and, u6q, obz]
  have e : (decide ((1 : Int) <= t.length) && decide ((t.length : Int) <= 60)) = (decide (1 <= t.length) && decide (t.length <= 60)) := by
   congr 1 <;> exact decide_eq_decide.2 (by omega)
  rw [e]
  by_cases h : 1 <= t.length /\ t.length <= 60
  ·simp only [h.1, h.2, decide_true, Bool.and_self, if_true, Bool.true_and]
   have := b9q ha (show o4q t by show t.length < _; omega) (i := 0) (by omega)
   rw [show ((0 : Nat) : Int) = 0 by rfl] at this
   rw [this, obz]
   by_cases hw : Wf a 1 t
   ·simp [hw, k8w.2 hw]
   ·have := mt k8w.1 hw
    simp [hw, this]
  ·have : (decide (1 <= t.length) && decide (t.length <= 60)) = false := by simp; omega
   simp [this]
theorem d1q {s : q7} (hs : o4q s) (v : Int) : m5 s v = some (decide (v ∈ s)) := by
 have key : Okk True (q5q s v) fun r => 0 <= r ↔ v ∈ s := by
  unfold q5q
  refine Okk.loop (fun i' : Int => ∃ i : Nat, i' = i /\ i <= s.length /\ v ∉ s.take i) (fun i' : Int => s.length - i'.toNat) ⟨0, rfl, by omega, by simp⟩ ?_
  rintro _ ⟨i, rfl, h1, h2⟩
  simp only [x8q]
  by_cases hi : i < s.length
  ·have hi' : (i : Int) < s.length := by omega
   simp only [hi', decide_true, if_true, show (0 : Int) <= i by omega, and_self, itn, y9 hi, e7 (n := (i : Int) + 1) (by omega) (by omega)]
   by_cases hv : v = s[i]
   ·simp only [hv, beq_self_eq_true, if_true, Option.map_some]
    refine .some ?_
    simp only [Rnd]
    exact ⟨fun _ => List.getElem_mem hi, fun _ => by omega⟩
   ·have : ¬ (v == s[i]) = true := by simpa using hv
    simp only [this, if_false]
    refine .some ⟨⟨i + 1, by simp, by omega, ?_⟩, by simp; omega⟩
    rw [List.take_add_one, List.getElem?_eq_getElem hi, List.mem_append]
    rintro (h | h)
    ·exact h2 h
    ·exact hv (by simpa using h)
  ·have hi' : ¬ (i : Int) < s.length := by omega
   simp only [hi', decide_false, bft, if_false, Option.map_some]
   refine .some ?_
   rw [List.take_of_length_le (by omega)] at h2
   simp only [Rnd]
   exact ⟨fun h => by omega, fun h => absurd h h2⟩
 unfold m5
 obtain ⟨r, h1, h2⟩ := key.get
 rw [h1, obz]
 congr 1
 exact decide_eq_decide.2 h2
theorem q2d {s : q7} (hs : o4q s) (v : Int) : n0q s v = some (decide (v ∈ s)) := by
 unfold n0q
 rw [x1b (xs := s) (p := fun x => x == v) (y := true) (n := false) (fun i x hi hi' _ hx => ?_) (by simp [t9q])]
 ·congr 1
  by_cases h : v ∈ s
  ·have : s.any (fun x => x == v) = true := List.any_eq_true.2 ⟨v, h, by simp⟩
   simp [this, h]
  ·have : s.any (fun x => x == v) = false := by
    rw [List.any_eq_false]
    intro x hx he
    have : x = v := by simpa using he
    subst this; exact h hx
   simp [this, h]
 ·simp only [t9q, hi', decide_true, if_true, itn, show (0 : Int) <= i by omega, and_self, hx, e7 (n := (i : Int) + 1) (by have := hs; omega) (by have := hs; omega)]
  by_cases h : (x == v) = true
  ·simp [h]
  ·simp [h]
def x2x (l : q7) (x : Int) : Bool := decide (x < 0 -> x ∈ l)
def q7v (a : q7) (r : q7 × q7) : Bool := z8 a r.1 && (z8 a r.2 && (decide (0 <= r.1.headD 0) && r.2.all (x2x r.1)))
def b0q (s : q7 × Ty3) : Bool := w7q s.1 && (decide (s.2.length <= 12) && s.2.all (q7v s.1))
theorem q7b {l : q7} (h : 0 < l.length) : l.getD 0 default = l.headD 0 := by cases l with | nil => simp at h | cons x l => rfl
theorem k2r (a : q7) (r : q7 × q7) : r8q a r = some (q7v a r) := by
 unfold r8q q7v
 rw [x7q, x7q, obz]
 cases h1 : z8 a r.1 with
 | false => simp
 | true =>
  rw [obz]
  cases h2 : z8 a r.2 with
  | false => simp
  | true =>
   have e1 := j4.1 h1
   have e2 := j4.1 h2
   have e3 : (0 : Int) < r.1.length := by omega
   simp only [if_true, Int.le_refl, e3, and_self, Bool.true_and, and_true]
   rw [q7b (by omega)]
   by_cases h3 : r.1.headD 0 < 0
   ·simp [-List.headD_eq_head?_getD, h3, show ¬ 0 <= r.1.headD 0 by omega]
   ·simp only [h3, decide_false, bft, if_false, show 0 <= r.1.headD 0 by omega, decide_true, Bool.true_and]
    refine q1j (fun i x hi hi' _ hx => ?_) (by simp [i4q])
    simp only [i4q, hi', decide_true, if_true, itn, show (0 : Int) <= i by omega, and_self, hx, e7 (n := (i : Int) + 1) (by omega) (by omega), x2x,
     d1q (show o4q r.1 by show r.1.length < _; omega), obz]
    by_cases h4 : x < 0 <;> by_cases h5 : x ∈ r.1 <;> simp [h4, h5]
theorem k2t (a : q7) (r : q7 × q7) : t7q a r = some (q7v a r) := by
 unfold t7q q7v
 rw [k4q, k4q, obz]
 cases h1 : z8 a r.1 with
 | false => simp
 | true =>
  rw [obz]
  cases h2 : z8 a r.2 with
  | false => simp
  | true =>
   have e1 := j4.1 h1
   have e2 := j4.1 h2
   have e3 : (0 : Int) < r.1.length := by omega
   simp only [if_true, Int.le_refl, e3, and_self, Bool.true_and, and_true]
   rw [q7b (by omega)]
   by_cases h3 : r.1.headD 0 < 0
   ·simp [-List.headD_eq_head?_getD, h3, show ¬ 0 <= r.1.headD 0 by omega]
   ·simp only [h3, decide_false, bft, if_false, show 0 <= r.1.headD 0 by omega, decide_true, Bool.true_and]
    refine q1j (fun i x hi hi' _ hx => ?_) (by simp [i5q])
    simp only [i5q, hi', decide_true, if_true, itn, show (0 : Int) <= i by omega, and_self, hx, e7 (n := (i : Int) + 1) (by omega) (by omega), x2x,
     q2d (show o4q r.1 by show r.1.length < _; omega), obz]
    by_cases h4 : x < 0 <;> by_cases h5 : x ∈ r.1 <;> simp [h4, h5]
theorem q8x (s : q7 × Ty3) : x1q s = some (b0q s) := by
 unfold x1q b0q
 rw [q1p, obz]
 cases h1 : w7q s.1 with
 | false => simp
 | true =>
  by_cases h2 : 12 < (s.2.length : Int)
  ·simp [h2, show ¬ s.2.length <= 12 by omega]
  ·simp only [if_true, h2, decide_false, bft, if_false, Bool.true_and, show s.2.length <= 12 by omega, decide_true]
   refine q1j (fun i x hi hi' _ hx => ?_) (by simp [w9q])
   simp only [w9q, hi', decide_true, if_true, itn, show (0 : Int) <= i by omega, and_self, hx, e7 (n := (i : Int) + 1) (by omega) (by omega), k2r, obz]
   cases q7v s.1 x <;> simp
theorem q9e (s : q7 × Ty3) : d5q s = some (b0q s) := by
 unfold d5q b0q
 rw [q2b, obz]
 cases h1 : w7q s.1 with
 | false => simp
 | true =>
  by_cases h2 : 12 < (s.2.length : Int)
  ·simp [h2, show ¬ s.2.length <= 12 by omega]
  ·simp only [if_true, h2, decide_false, bft, if_false, Bool.true_and, show s.2.length <= 12 by omega, decide_true]
   refine q1j (fun i x hi hi' _ hx => ?_) (by simp [p3q])
   simp only [p3q, hi', decide_true, if_true, itn, show (0 : Int) <= i by omega, and_self, hx, e7 (n := (i : Int) + 1) (by omega) (by omega), k2t, obz]
   cases q7v s.1 x <;> simp
theorem x0l {s t : q7} (hl : s.length = t.length) : (s == t) = decide (∀ i < s.length, s.getD i default = t.getD i default) := by
 have : (s == t) = decide (s = t) := by by_cases h : s = t <;> simp [h]
 rw [this]
 refine decide_eq_decide.2 ⟨fun h => by subst h; simp, fun h => ?_⟩
 refine List.ext_getElem hl fun i h1 h2 => ?_
 have := h i h1
 rwa [y9 h1, y9 h2] at this
theorem j5c {s t : q7} (hs : o4q s) (hl : s.length = t.length) {f : Int -> Option (Int ⊕ Bool)}
 (h : ∀ i : Nat, i < s.length -> f i = some (if s.getD i default = t.getD i default then .inl ((i : Int) + 1) else .inr false)) (he : f s.length = some (.inr true)) : loopC f 0 = some (s == t) := by
 have key : Okk True (loopC f 0) fun r => r = decide (∀ i < s.length, s.getD i default = t.getD i default) := by
  refine Okk.loop (fun i' : Int => ∃ i : Nat, i' = i /\ i <= s.length /\ ∀ j < i, s.getD j default = t.getD j default) (fun i' : Int => s.length - i'.toNat) ⟨0, rfl, by omega, by omega⟩ ?_
  rintro _ ⟨i, rfl, h1, h2⟩
  by_cases hi : i < s.length
  ·rw [h i hi]
   by_cases e : s.getD i default = t.getD i default
   ·rw [if_pos e]
    refine .some ⟨⟨i + 1, by simp, by omega, fun j hj => ?_⟩, by simp; omega⟩
    rcases Nat.lt_or_ge j i with h3 | h3
    ·exact h2 j h3
    ·obtain rfl : j = i := by omega
     exact e
   ·rw [if_neg e]
    refine .some ?_
    simp only [Rnd]
    exact (decide_eq_false fun h => e (h i hi)).symm
  ·obtain rfl : i = s.length := by omega
   rw [he]
   refine .some ?_
   simp only [Rnd]
   exact (decide_eq_true h2).symm
 rw [x0l hl]
 obtain ⟨r, h1, h2⟩ := key.get
 rw [h1, h2]
theorem q3t {s t : q7} (hs : o4q s) : f7 s t = some (s == t) := by
 unfold f7
 by_cases hl : s.length = t.length
 ·have : ¬ ((s.length : Int) != (t.length : Int)) = true := by simp; omega
  rw [if_neg this]
  refine j5c hs hl (fun i hi => ?_) (by simp [k3q])
  simp only [k3q, show (i : Int) < s.length by omega, show (i : Int) < t.length by omega, decide_true, if_true, show (0 : Int) <= i by omega, and_self, itn,
   e7 (n := (i : Int) + 1) (by have := hs; omega) (by have := hs; omega)]
  by_cases e : s.getD i default = t.getD i default
  ·simp only [e, bne_self_eq_false, bft, if_false, if_true]
  ·have : (s.getD i default != t.getD i default) = true := by simpa using e
   simp only [this, e, if_true, if_false, Option.map_some]
 ·have : ((s.length : Int) != (t.length : Int)) = true := by simp; omega
  rw [if_pos this]
  congr 1
  symm
  rw [beq_eq_false_iff_ne]
  rintro rfl; exact hl rfl
theorem q2y {s t : q7} (hs : o4q s) : d4q s t = some (s == t) := by
 unfold d4q
 by_cases hl : s.length = t.length
 ·have : ¬ ((s.length : Int) != (t.length : Int)) = true := by simp; omega
  rw [if_neg this]
  refine j5c hs hl (fun i hi => ?_) (by simp [p2q])
  simp only [p2q, show (i : Int) < s.length by omega, show (i : Int) < t.length by omega, decide_true, if_true, show (0 : Int) <= i by omega, and_self, itn,
   e7 (n := (i : Int) + 1) (by have := hs; omega) (by have := hs; omega)]
  by_cases e : s.getD i default = t.getD i default
  ·simp only [e, bne_self_eq_false, bft, if_false, if_true]
  ·have : (s.getD i default != t.getD i default) = true := by simpa using e
   simp only [this, e, if_true, if_false, Option.map_some]
 ·have : ((s.length : Int) != (t.length : Int)) = true := by simp; omega
  rw [if_pos this]
  congr 1
  symm
  rw [beq_eq_false_iff_ne]
  rintro rfl; exact hl rfl
theorem b7 {l : q7} (hs : o4q l) : d6 l = some l := by
 unfold d6; rw [if_pos (by have := hs; omega)]
theorem j3q {l : q7} (hs : o4q l) : y7 l = some l := by
 unfold y7
 refine (Okk.amb (t := True) (P := (· = l)) ?_ fun h => ?_).eq
 ·rw [if_pos (by have := hs; omega)]; exact .some rfl
 ·subst h; simp
theorem q3c {a t u r : q7} {i : Nat} (h : t.drop i = u ++ r) (hu : Wf a 1 u) : k1o a t i = (t.length : Int) - r.length := by
 unfold k1o; rw [h, hu.skip]
theorem z8f {t u r : q7} {i : Nat} (h : t.drop i = u ++ r) (hi : i <= t.length) : (t.take (t.length - r.length)).drop i = u := by
 have hl := congrArg List.length h
 simp at hl
 rw [List.drop_take, h, List.take_append_of_le_length (by omega), List.take_of_length_le (by omega)]
theorem d3q {a t u r : q7} (ha : w7q a = true) (hs : o4q t) (hm : ∀ x ∈ t, -24 <= x) {i : Nat} (h : t.drop i = u ++ r) (hu : Wf a 1 u) : q7q a t i = some u := by
 have hl := congrArg List.length h
 have hul := hu.len
 simp at hl
 have hi : i <= t.length := by omega
 unfold q7q
 rw [t1q ha hs hm hi, obz, q3c h hu, if_pos (by omega), show ((t.length : Int) - r.length).toNat = t.length - r.length by omega, itn, z8f h hi]
theorem n1q {a t u r : q7} (ha : w7q a = true) (hs : o4q t) {i : Nat} (h : t.drop i = u ++ r) (hu : Wf a 1 u) : x2q a t i = some u := by
 have hl := congrArg List.length h
 have hul := hu.len
 simp at hl
 have hi : i <= t.length := by omega
 unfold x2q
 rw [b9q ha hs hi, obz, q3c h hu, if_pos (by omega), show ((t.length : Int) - r.length).toNat = t.length - r.length by omega, itn, z8f h hi,
  b7 (by show u.length < _; have := hs; omega)]
 rfl
def z3z (o : Option Bd) (r : Bd × Bool) : Prop := match o with | some b => r = (b, true) | none => r.2 = false
structure MSt (a p t : q7) (b0 b : Bd) (i c : Nat) : Prop where
 hi : i <= p.length
 hc : c <= t.length
 hb : b.length = 24
 hsm : ∀ u ∈ b, u.length <= 60
 k : ∃ k, Wf a k (p.drop i) /\ Wf a k (t.drop c)
 m : mat a (p.drop i) (t.drop c) b = mat a p t b0
theorem MSt.var {a p t : q7} {b0 b : Bd} {i c : Nat} (h : MSt a p t b0 b i c) (hi : i < p.length) (hn : p[i] < 0) : ∃ u r, t.drop c = u ++ r /\ Wf a 1 u /\ c + u.length <= t.length /\ okx a p[i] /\
 mat a p t b0 = (if r5 b p[i] = [] then mat a (p.drop (i + 1)) (t.drop (c + u.length)) (bset b p[i] u) else if r5 b p[i] = u then mat a (p.drop (i + 1)) (t.drop (c + u.length)) b else none) /\
 ∃ k, Wf a k (p.drop (i + 1)) /\ Wf a k (t.drop (c + u.length)) := by
 obtain ⟨k, h1, h2⟩ := h.k
 rw [List.drop_eq_getElem_cons hi] at h1
 cases k with
 | zero => have := h1.zero; cases this
 | succ k =>
  obtain ⟨ho, h1⟩ := Wf.cons_iff.1 h1
  rw [show k + 1 = 1 + k by omega] at h2
  obtain ⟨u, r, e, hu, hr⟩ := h2.split
  have hr' : t.drop (c + u.length) = r := by rw [<- List.drop_drop, e, List.drop_left]
  have hl := congrArg List.length e
  simp at hl
  have := hu.len
  refine ⟨u, r, e, hu, by omega, ho, ?_, k, ?_, by rw [hr']; exact hr⟩
  ·rw [<- h.m, List.drop_eq_getElem_cons hi, e, k1u hn hu, hr']
  ·have ha : ari a p[i] = 0 := by simp [ari, hn]
   rwa [ha, Nat.add_zero] at h1
theorem MSt.sym {a p t : q7} {b0 b : Bd} {i c : Nat} (h : MSt a p t b0 b i c) (hi : i < p.length) (hn : ¬ p[i] < 0) : ∃ hc : c < t.length, okx a p[i] /\ mat a p t b0 = (if t[c] = p[i] then mat a (p.drop (i + 1)) (t.drop (c + 1)) b else none) /\
 (t[c] = p[i] -> ∃ k, Wf a k (p.drop (i + 1)) /\ Wf a k (t.drop (c + 1))) := by
 obtain ⟨k, h1, h2⟩ := h.k
 rw [List.drop_eq_getElem_cons hi] at h1
 cases k with
 | zero => have := h1.zero; cases this
 | succ k =>
  obtain ⟨ho, h1⟩ := Wf.cons_iff.1 h1
  have hc : c < t.length := by
   rcases Nat.lt_or_ge c t.length with h | h
   ·exact h
   ·rw [List.drop_of_length_le h] at h2; have := h2.len; simp at this
  rw [List.drop_eq_getElem_cons hc] at h2
  obtain ⟨ho', h2⟩ := Wf.cons_iff.1 h2
  refine ⟨hc, ho, ?_, fun e => ⟨k + ari a p[i], h1, by rw [<- e]; exact h2⟩⟩
  rw [<- h.m, List.drop_eq_getElem_cons hi, List.drop_eq_getElem_cons hc, q8m hn]
theorem MSt.at_lt {a p t : q7} {b0 b : Bd} {i c : Nat} (h : MSt a p t b0 b i c) (hi : i < p.length) : c < t.length := by
 obtain ⟨k, h1, h2⟩ := h.k
 rw [List.drop_eq_getElem_cons hi] at h1
 cases k with
 | zero => have := h1.zero; cases this
 | succ k =>
  rcases Nat.lt_or_ge c t.length with h | h
  ·exact h
  ·rw [List.drop_of_length_le h] at h2; have := h2.len; simp at this
theorem k1j {b : Bd} {n : Int} {u : q7} (hs : ∀ u ∈ b, u.length <= 60) (hu : u.length <= 60) : ∀ v ∈ bset b n u, v.length <= 60 := fun v hv => by
 rcases List.mem_or_eq_of_mem_set hv with h | h
 ·exact hs v h
 ·subst h; exact hu
theorem q6y {b : Bd} {n : Int} (hs : ∀ u ∈ b, u.length <= 60) : (r5 b n).length <= 60 := by
 unfold r5
 rw [lgd]
 cases h : b[(-1 - n).toNat]? with
 | none => simp
 | some u => exact hs u (List.mem_of_getElem? h)
theorem q1t {a p t : q7} {b0 : Bd} (ha : w7q a = true) (hp : Wf a 1 p) (ht : Wf a 1 t) (hpl : p.length <= 60) (htl : t.length <= 60) (hb : b0.length = 24) (hbs : ∀ u ∈ b0, u.length <= 60) :
 Okk True (i9 a p t b0) (fun r => z3z (mat a p t b0) r /\ r.1.length = 24) := by
 unfold i9
 refine Okk.loop (fun s : Int × Int × Bd => ∃ i c : Nat, s.1 = (c : Int) /\ s.2.1 = (i : Int) /\ MSt a p t b0 s.2.2 i c) (fun s : Int × Int × Bd => p.length - s.2.1.toNat)
  ⟨0, 0, rfl, rfl, by omega, by omega, hb, hbs, ⟨1, by simpa using hp, by simpa using ht⟩, by simp⟩ ?_
 rintro ⟨_, _, b⟩ ⟨i, c, rfl, rfl, h⟩
 simp only at h
 have hb := h.hb
 simp only [i9q]
 by_cases hi : i < p.length
 ·have hc := h.at_lt hi
  simp only [show (i : Int) < p.length by omega, show ¬ (t.length : Int) <= c by omega, decide_true, decide_false, if_true, show (0 : Int) <= i by omega, show (0 : Int) <= c by omega, show (c : Int) < t.length by omega, and_self,
   bft, if_false, itn, y9 hi, y9 hc, e7 (n := (i : Int) + 1) (by omega) (by omega), e7 (n := (c : Int) + 1) (by omega) (by omega)]
  by_cases hn : p[i] < 0
  ·obtain ⟨u, r, e, hu, hl, ho, hm, hk⟩ := h.var hi hn
   have hul := hu.len
   have hx : -24 <= p[i] := ho.1
   have hlt : (-1 - p[i]).toNat < b.length := by omega
   simp only [show ¬ 0 <= p[i] by omega, decide_false, bft, if_false, d3q ha (show o4q t by show t.length < _; omega) (fun x hx => (ht.all x hx).1) e hu, obz,
    e7 (n := -1 - p[i]) (by omega) (by omega), show 0 <= -1 - p[i] by omega, show -1 - p[i] < 24 by omega, show -1 - p[i] < (b.length : Int) by omega, and_self, if_true, hb, show ((-1 : Int) - p[i] < ((24 : Nat) : Int)) by omega,
    e7 (n := (c : Int) + u.length) (by omega) (by omega)]
   have eg : b.getD (-1 - p[i]).toNat default = r5 b p[i] := rfl
   rw [eg]
   by_cases h0 : r5 b p[i] = []
   ·rw [if_pos h0] at hm
    simp only [h0, List.isEmpty_nil, if_true, show 0 < u.length by omega]
    exact .some ⟨⟨i + 1, c + u.length, by simp, by simp, by omega, by omega, by simpa using hb, k1j h.hsm (by omega), hk, by rw [hm]; rfl⟩, by simp; omega⟩
   ·rw [if_neg h0] at hm
    have : ¬ (r5 b p[i]).isEmpty = true := by simpa using h0
    simp only [this, if_false, q3t (show o4q (r5 b p[i]) by show List.length _ < _; have := q6y (n := p[i]) h.hsm; omega), obz]
    by_cases h1 : r5 b p[i] = u
    ·rw [if_pos h1] at hm
     simp only [h1, beq_self_eq_true, if_true]
     exact .some ⟨⟨i + 1, c + u.length, by simp, by simp, by omega, by omega, hb, h.hsm, hk, hm.symm⟩, by simp; omega⟩
    ·rw [if_neg h1] at hm
     have : ¬ (r5 b p[i] == u) = true := by simpa using h1
     simp only [this, if_false, Option.map_some]
     refine .some ?_
     simp only [Rnd, z3z, hm]
     exact ⟨trivial, hb⟩
  ·obtain ⟨hc', ho, hm, hk⟩ := h.sym hi hn
   simp only [show 0 <= p[i] by omega, decide_true, if_true]
   by_cases e : t[c] = p[i]
   ·rw [if_pos e] at hm
    simp only [e, bne_self_eq_false, bft, if_false]
    exact .some ⟨⟨i + 1, c + 1, by simp, by simp, by omega, by omega, hb, h.hsm, hk e, hm.symm⟩, by simp; omega⟩
   ·rw [if_neg e] at hm
    have : (t[c] != p[i]) = true := by simpa using e
    simp only [this, if_true, hb, Option.map_some]
    refine .some ?_
    simp only [Rnd, z3z, hm]
    exact ⟨trivial, hb⟩
 ·have hm := h.m
  rw [List.drop_of_length_le (by omega), q6r] at hm
  simp only [show ¬ (i : Int) < p.length by omega, decide_false, bft, if_false, hb, if_true, Option.map_some]
  refine .some ?_
  simp only [Rnd, z3z, <- hm]
  exact ⟨trivial, hb⟩
def z7q (s : Bd) (i : Nat) : q7 := if s.getD i [] = [] ∨ s.getD i [] = [-1 - (i : Int)] then [] else s.getD i []
theorem j5u {s o : Bd} (h : ∀ i, o.getD i [] = z7q s i) {n : Int} (hn : n < 0) : Tm.sig o n = Tm.sig s n := by
 unfold Tm.sig r5
 rw [h]
 unfold z7q
 rw [show -1 - ((-1 - n).toNat : Int) = n by omega]
 by_cases h1 : s.getD (-1 - n).toNat [] = []
 ·simp only [h1, true_or, if_true]
 ·by_cases h2 : s.getD (-1 - n).toNat [] = [n]
  ·simp only [h2, or_true, if_true]; simp
  ·simp only [h1, h2, or_self, if_false]
theorem q8l {s : Bd} {u : q7} {i : Nat} : (s ++ [u]).getD i [] = if i < s.length then s.getD i [] else if i = s.length then u else [] := by
 rw [lgd]
 by_cases h : i < s.length
 ·rw [if_pos h, List.getElem?_append_left h, lgd]
 ·rw [if_neg h, List.getElem?_append_right (by omega)]
  by_cases h2 : i = s.length
  ·subst h2; simp
  ·rw [if_neg h2, List.getElem?_eq_none (by simp; omega)]; rfl
theorem q1i {s : Bd} {i : Nat} (h : s.length <= i) : s.getD i [] = [] := by
 rw [lgd, List.getElem?_eq_none h]; rfl
structure PSt (s : Bd) (o : Bd) (i : Nat) : Prop where
 hi : i <= s.length
 hl : o.length <= i
 he : ∀ j < i, o.getD j [] = z7q s j
theorem k4g {s : Bd} (hl : s.length <= 24) (hs : ∀ u ∈ s, u.length <= 60) : Okk True (h7q s) fun o => o.length <= 24 /\ ∀ i, o.getD i [] = z7q s i := by
 unfold h7q
 refine Okk.loop (fun q : Int × Bd => ∃ i : Nat, q.1 = i /\ PSt s q.2 i) (fun q : Int × Bd => s.length - q.1.toNat) ⟨0, rfl, by omega, by simp, by omega⟩ ?_
 rintro ⟨_, o⟩ ⟨i, rfl, h⟩
 simp only at h
 simp only [q1u]
 by_cases hi : i < s.length
 ·have hu := hs _ (List.getElem_mem hi)
  have hg : s.getD i [] = s[i] := y9 hi
  simp only [show (i : Int) < s.length by omega, decide_true, if_true, show (0 : Int) <= i by omega, and_self, itn, y9 hi, e7 (n := (i : Int) + 1) (by omega) (by omega)]
  have skip : z7q s i = [] -> Okk True (some (Sum.inl ((i : Int) + 1, o)) : Option ((Int × Bd) ⊕ Bd)) (Rnd (fun q : Int × Bd => ∃ i : Nat, q.1 = i /\ PSt s q.2 i) (fun q : Int × Bd => s.length - q.1.toNat) (fun o => o.length <= 24 /\ ∀ i, o.getD i [] = z7q s i) (s.length - i)) := fun hp =>
   .some ⟨⟨i + 1, by simp, by omega, Nat.le_succ_of_le h.hl, fun j hj => by
    rcases Nat.lt_or_ge j i with h3 | h3
    ·exact h.he j h3
    ·obtain rfl : j = i := by omega
     rw [hp, q1i h.hl]⟩, by simp; omega⟩
  by_cases h0 : s[i] = []
  ·simp only [h0, List.length_nil, Int.natCast_zero, beq_self_eq_true, if_true]
   exact skip (by unfold z7q; rw [hg, if_pos (.inl h0)])
  ·have hne : ¬ (((s[i]).length : Int) == 0) = true := by
    have := List.length_pos_iff.2 h0
    simp only [beq_iff_eq]; omega
   simp only [hne, if_false, t4q, obz, e7 (n := -1 - (i : Int)) (by omega) (by omega), q3t (show o4q s[i] by show List.length _ < _; omega)]
   by_cases h1 : s[i] = [-1 - (i : Int)]
   ·simp only [h1, beq_self_eq_true, if_true]
    exact skip (by unfold z7q; rw [hg, if_pos (.inr h1)])
   ·have : ¬ (s[i] == [-1 - (i : Int)]) = true := by simpa using h1
    simp only [this, if_false]
    have hp : z7q s i = s[i] := by unfold z7q; rw [hg, if_neg (by simp [h0, h1])]
    refine Okk.loop (fun o' : Bd => o'.length <= i /\ ∀ j < i, o'.getD j [] = z7q s j) (fun o' : Bd => i - o'.length) ⟨h.hl, h.he⟩ ?_
    rintro o' ⟨h3, h4⟩
    simp only [q1v]
    by_cases h5 : o'.length < i
    ·simp only [show (o'.length : Int) < i by omega, decide_true, if_true, show (o'.length + 1) * 24 <= 140737488355328 by omega]
     refine .some ⟨⟨by simp; omega, fun j hj => ?_⟩, by simp; omega⟩
     rw [q8l]
     split
     ·exact h4 j hj
     ·have := h4 j hj
      rw [q1i (by omega)] at this
      simp [<- this]
    ·simp only [show ¬ (o'.length : Int) < i by omega, decide_false, bft, if_false, show (o'.length + 1) * 24 <= 140737488355328 by omega, if_true]
     rw [itn, y9 hi, j3q (show o4q s[i] by show List.length _ < _; omega), obz, Option.map_some]
     refine .some ?_
     refine ⟨⟨i + 1, by simp [e7 (n := (i : Int) + 1) (by omega) (by omega)], by omega, by simp; omega, fun j hj => ?_⟩, by simp [e7 (n := (i : Int) + 1) (by omega) (by omega)]; omega⟩
     rw [q8l]
     split
     ·exact h4 j (by omega)
     ·obtain rfl : j = i := by omega
      rw [if_pos (by omega), hp]
 ·simp only [show ¬ (i : Int) < s.length by omega, decide_false, bft, if_false, Option.map_some]
  refine .some ⟨by have := h.hl; have := h.hi; omega, fun j => ?_⟩
  by_cases hj : j < i
  ·exact h.he j hj
  ·rw [q1i (by have := h.hl; omega)]
   unfold z7q
   rw [q1i (s := s) (by omega)]; simp
def k6n (o : Option Bd) (r : Bd × Bool) : Prop := match o with
 | some b => r.2 = true /\ r.1.length <= 24 /\ ∀ i, r.1.getD i [] = z7q b i
 | none => r.2 = false
theorem q0h {a : q7} : ∀ {p t : q7} {b b' : Bd}, mat a p t b = some b' -> (∀ u ∈ b, u.length <= 60) -> t.length <= 60 -> b.length = 24 -> b'.length = 24 /\ ∀ u ∈ b', u.length <= 60
 | [], t, b, b', h, hs, _, hb => by rw [q6r] at h; cases h; exact ⟨hb, hs⟩
 | n :: p, t, b, b', h, hs, ht, hb => by
  unfold mat at h
  split at h
  ·split at h
   ·cases h
   ·rename_i r hr
    have := x2d hr
    simp only at h
    split at h
    ·exact q0h (b := Tm.bset b n _) h (k1j hs (by simp; omega)) (by omega) (by simpa [Tm.bset] using hb)
    ·split at h
     ·exact q0h h hs (by omega) hb
     ·cases h
  ·split at h
   ·cases h
   ·split at h
    ·exact q0h h hs (by simp at ht; omega) hb
    ·cases h
theorem k4f {a p t : q7} (ha : w7q a = true) (hp : Wf a 1 p) (ht : Wf a 1 t) (hpl : p.length <= 60) (htl : t.length <= 60) : Okk True (h6q a p t) (k6n (mat a p t j1q)) := by
 unfold h6q
 have hn : ∀ u ∈ j1q, u.length <= 60 := by intro u hu; simp [j1q] at hu; subst hu; simp
 obtain ⟨r, h1, h2, h3⟩ := (q1t ha hp ht hpl htl (b0 := j1q) (by simp [j1q]) hn).get
 rw [show (List.replicate 24 [] : Bd) = j1q from rfl, h1, obz, if_pos h3]
 cases hm : mat a p t j1q with
 | none =>
  rw [hm] at h2
  simp only [z3z] at h2
  simp only [h2, bft, if_false]
  exact .some rfl
 | some b =>
  rw [hm] at h2
  simp only [z3z] at h2
  subst h2
  obtain ⟨h4, h5⟩ := q0h hm hn htl (by simp [j1q])
  simp only [if_true, h4, w6, obz]
  refine Okk.bind (k4g (by omega) h5) fun o ho => .some ⟨rfl, ho.1, ho.2⟩
theorem q3v {s : Bd} (hs : ∀ u ∈ s, u.length <= 60) (hl : s.length <= 24) {i : Nat} (hi : i <= 24) : w2q s i = some (if s.getD i [] = [] then [-1 - (i : Int)] else s.getD i []) := by
 unfold w2q
 rw [e7 (n := -1 - (i : Int)) (by omega) (by omega)]
 by_cases h : i < s.length
 ·have hu := hs _ (List.getElem_mem h)
  have hg : s.getD i [] = s[i] := y9 h
  simp only [show (i : Int) < s.length by omega, decide_true, if_true, show (0 : Int) <= i by omega, and_self, itn, y9 h, hg]
  by_cases h0 : s[i] = []
  ·simp [h0]
  ·have := List.length_pos_iff.2 h0
   simp only [h0, if_false, show (0 : Int) < s[i].length by omega, decide_true, if_true, b7 (show o4q s[i] by show List.length _ < _; omega), obz]
 ·simp only [show ¬ (i : Int) < s.length by omega, decide_false, bft, if_false, q1i (s := s) (i := i) (by omega), if_true]
theorem k1d {s : Bd} (hl : s.length <= 24) (hs : ∀ u ∈ s, u.length <= 60) : Okk True (o2q s) fun o => o.length <= 24 /\ ∀ i, o.getD i [] = z7q s i := by
 unfold o2q
 refine Okk.loop (fun q : Int × Bd => ∃ i : Nat, q.1 = i /\ i <= s.length /\ q.2.length = i /\ ∀ j < i, q.2.getD j [] = z7q s j) (fun q : Int × Bd => s.length - q.1.toNat) ⟨0, rfl, by omega, rfl, by omega⟩ ?_
 rintro ⟨_, o⟩ ⟨i, rfl, h1, h2, h3⟩
 simp only at h2 h3
 simp only [a0q]
 by_cases hi : i < s.length
 ·have hw : IntKind.i64.wrap ((i : Int) + 1) = i + 1 := e7 (by omega) (by omega)
  have hw2 : IntKind.i64.wrap (-1 - (i : Int)) = -1 - i := e7 (by omega) (by omega)
  have hm : (o.length + 1) * 24 <= 140737488355328 := by omega
  have hg : s.getD i [] = s[i] := y9 hi
  have step : ∀ u : q7, z7q s i = u -> Okk True (some (Sum.inl ((i : Int) + 1, o ++ [u])) : Option ((Int × Bd) ⊕ Bd)) (Rnd (fun q : Int × Bd => ∃ i : Nat, q.1 = i /\ i <= s.length /\ q.2.length = i /\ ∀ j < i, q.2.getD j [] = z7q s j) (fun q : Int × Bd => s.length - q.1.toNat) (fun o => o.length <= 24 /\ ∀ i, o.getD i [] = z7q s i) (s.length - i)) := fun u hu =>
   .some ⟨⟨i + 1, by simp, by omega, by simp [h2], fun j hj => by
    rw [q8l]
    split
    ·exact h3 j (by omega)
    ·rw [if_pos (by omega), show j = i by omega, hu]⟩, by simp; omega⟩
  simp only [show (i : Int) < s.length by omega, decide_true, if_true, q3v hs hl (i := i) (by omega), obz, hm, hw, hw2]
  by_cases h0 : s[i] = []
  ·simp only [hg, h0, if_true, List.length_singleton, Int.natCast_one, beq_self_eq_true, Int.le_refl, show (0 : Int) < 1 by omega, and_self, List.getD_cons_zero]
   exact step [] (by unfold z7q; rw [hg, if_pos (.inl h0)])
  ·simp only [hg, h0, if_false]
   by_cases hlen : s[i].length = 1
   ·obtain ⟨x, hx⟩ := List.length_eq_one_iff.1 hlen
    simp only [hx, List.length_singleton, Int.natCast_one, beq_self_eq_true, if_true, Int.le_refl, show (0 : Int) < 1 by omega, and_self, List.getD_cons_zero]
    by_cases e : x = -1 - (i : Int)
    ·simp only [e, beq_self_eq_true, if_true]
     exact step [] (by unfold z7q; rw [hg, if_pos (.inr (by rw [hx, e]))])
    ·have : ¬ (x == -1 - (i : Int)) = true := by simpa using e
     simp only [this, if_false]
     exact step [x] (by unfold z7q; rw [hg, hx, if_neg (by simp [e])])
   ·have : ¬ ((s[i].length : Int) == 1) = true := by simp only [beq_iff_eq]; omega
    simp only [this, if_false]
    refine step s[i] ?_
    unfold z7q
    rw [hg, if_neg]
    rintro (h | h)
    ·exact h0 h
    ·exact hlen (by rw [h]; rfl)
 ·simp only [show ¬ (i : Int) < s.length by omega, decide_false, bft, if_false]
  have hall : ∀ j, o.getD j [] = z7q s j := fun j => by
   by_cases hj : j < i
   ·exact h3 j hj
   ·rw [q1i (by omega)]; unfold z7q; rw [q1i (s := s) (by omega)]; simp
  refine Okk.inr ?_
  simp only [Rnd]
  refine Okk.loop (fun o' : Bd => o'.length <= 24 /\ ∀ j, o'.getD j [] = z7q s j) (fun o' : Bd => o'.length) ⟨by omega, hall⟩ ?_
  rintro o' ⟨h4, h5⟩
  simp only [a1q]
  by_cases h6 : 0 < o'.length
  ·have hw : IntKind.i64.wrap ((o'.length : Int) - 1) = o'.length - 1 := e7 (by omega) (by omega)
   have ht : ((o'.length : Int) - 1).toNat = o'.length - 1 := by omega
   have hlt : o'.length - 1 < o'.length := by omega
   simp only [show (0 : Int) < o'.length by omega, decide_true, if_true, hw, show 0 <= (o'.length : Int) - 1 by omega, show (o'.length : Int) - 1 < o'.length by omega, show (o'.length : Int) - 1 <= o'.length by omega, and_self, ht, y9 hlt]
   by_cases h7 : o'[o'.length - 1] = []
   ·simp only [h7, List.length_nil, Int.natCast_zero, beq_self_eq_true, if_true]
    refine .some ⟨⟨by simp; omega, fun j => ?_⟩, by simp; omega⟩
    rw [<- h5 j, lgd, lgd, List.getElem?_take]
    split
    ·rfl
    ·by_cases hj : j = o'.length - 1
     ·subst hj; rw [List.getElem?_eq_getElem hlt, h7]; rfl
     ·rw [List.getElem?_eq_none (by omega)]
   ·have := List.length_pos_iff.2 h7
    have : ¬ ((o'[o'.length - 1].length : Int) == 0) = true := by simp only [beq_iff_eq]; omega
    simp only [this, if_false, Option.map_some]
    exact .some ⟨h4, h5⟩
  ·simp only [show ¬ (0 : Int) < o'.length by omega, decide_false, bft, if_false, Option.map_some]
   exact .some ⟨h4, h5⟩
theorem k1e {a p t : q7} (ha : w7q a = true) (hp : Wf a 1 p) (ht : Wf a 1 t) (hpl : p.length <= 60) (htl : t.length <= 60) : Okk True (o3q a p t) (k6n (mat a p t j1q)) := by
 have hn : ∀ u ∈ j1q, u.length <= 60 := by intro u hu; simp [j1q] at hu; subst hu; simp
 unfold o3q
 rw [show (List.replicate 24 [] : Bd) = j1q from rfl]
 refine Okk.loop (fun s : Int × Int × Bd => ∃ i c : Nat, s.1 = (c : Int) /\ s.2.1 = (i : Int) /\ MSt a p t j1q s.2.2 i c) (fun s : Int × Int × Bd => p.length - s.2.1.toNat)
  ⟨0, 0, rfl, rfl, by omega, by omega, by simp [j1q], hn, ⟨1, by simpa using hp, by simpa using ht⟩, by simp⟩ ?_
 rintro ⟨_, _, b⟩ ⟨i, c, rfl, rfl, h⟩
 simp only at h
 have hb := h.hb
 simp only [a2q]
 by_cases hi : i < p.length
 ·have hc := h.at_lt hi
  simp only [show (i : Int) < p.length by omega, show ¬ (t.length : Int) <= c by omega, decide_true, decide_false, if_true, show (0 : Int) <= i by omega, show (0 : Int) <= c by omega, show (c : Int) < t.length by omega, and_self,
   bft, if_false, itn, y9 hi, y9 hc, e7 (n := (i : Int) + 1) (by omega) (by omega), e7 (n := (c : Int) + 1) (by omega) (by omega)]
  by_cases hn : p[i] < 0
  ·obtain ⟨u, r, e, hu, hl, ho, hm, hk⟩ := h.var hi hn
   have hul := hu.len
   have hx : -24 <= p[i] := ho.1
   have hlt : (-1 - p[i]).toNat < b.length := by omega
   simp only [show ¬ 0 <= p[i] by omega, decide_false, bft, if_false, n1q ha (show o4q t by show t.length < _; omega) e hu, obz,
    e7 (n := -1 - p[i]) (by omega) (by omega), show 0 <= -1 - p[i] by omega, show -1 - p[i] < 24 by omega, and_self, if_true, hb, show ((-1 : Int) - p[i] < ((24 : Nat) : Int)) by omega,
    e7 (n := (c : Int) + u.length) (by omega) (by omega)]
   have eg : b.getD (-1 - p[i]).toNat default = r5 b p[i] := rfl
   rw [eg]
   by_cases h0 : r5 b p[i] = []
   ·rw [if_pos h0] at hm
    simp only [h0, List.length_nil, Int.natCast_zero, Int.lt_irrefl, decide_false, bft, if_false]
    exact .some ⟨⟨i + 1, c + u.length, by simp, by simp, by omega, by omega, by simpa using hb, k1j h.hsm (by omega), hk, by rw [hm]; rfl⟩, by simp; omega⟩
   ·rw [if_neg h0] at hm
    have hp0 := List.length_pos_iff.2 h0
    simp only [show (0 : Int) < ((r5 b p[i]).length : Int) by omega, decide_true, if_true, q2y (show o4q (r5 b p[i]) by show List.length _ < _; have := q6y (n := p[i]) h.hsm; omega), obz]
    by_cases h1 : r5 b p[i] = u
    ·rw [if_pos h1] at hm
     simp only [h1, beq_self_eq_true, if_true]
     have hset : b.set (-1 - p[i]).toNat u = b := by
      have : b[(-1 - p[i]).toNat] = u := by rw [<- h1]; exact (y9 hlt).symm
      rw [<- this]; exact List.set_getElem_self hlt
     rw [hset]
     exact .some ⟨⟨i + 1, c + u.length, by simp, by simp, by omega, by omega, hb, h.hsm, hk, hm.symm⟩, by simp; omega⟩
    ·rw [if_neg h1] at hm
     have : ¬ (r5 b p[i] == u) = true := by simpa using h1
     simp only [this, if_false, Option.map_some]
     refine .some ?_
     simp only [Rnd, k6n, hm]
  ·obtain ⟨hc', ho, hm, hk⟩ := h.sym hi hn
   simp only [show 0 <= p[i] by omega, decide_true, if_true]
   by_cases e : t[c] = p[i]
   ·rw [if_pos e] at hm
    simp only [e, bne_self_eq_false, bft, if_false]
    exact .some ⟨⟨i + 1, c + 1, by simp, by simp, by omega, by omega, hb, h.hsm, hk e, hm.symm⟩, by simp; omega⟩
   ·rw [if_neg e] at hm
    have : (p[i] != t[c]) = true := by simpa using fun h => e h.symm
    simp only [this, if_true, Option.map_some]
    refine .some ?_
    simp only [Rnd, k6n, hm]
 ·have hm := h.m
  rw [List.drop_of_length_le (by omega), q6r] at hm
  simp only [show ¬ (i : Int) < p.length by omega, decide_false, bft, if_false, hb, if_true]
  refine Okk.inr ?_
  refine Okk.bind (k1d (by omega) h.hsm) fun o ho => .some ?_
  simp only [Rnd, k6n, <- hm]
  exact ⟨trivial, ho.1, ho.2⟩
theorem x2n {σ : Int -> q7} {t : q7} {i : Nat} (hi : i < t.length) : sub σ (t.take (i + 1)) = sub σ (t.take i) ++ (if t[i] < 0 then σ t[i] else [t[i]]) := by
 rw [List.take_add_one, List.getElem?_eq_getElem hi, z5p]
 simp [sub]
theorem z5r {σ : Int -> q7} {t : q7} {i : Nat} : (sub σ (t.take i)).length <= (sub σ t).length := by
 have : sub σ t = sub σ (t.take i) ++ sub σ (t.drop i) := by rw [<- z5p, List.take_append_drop]
 rw [this]; simp
def o5q (σ : Int -> q7) (t : q7) : Option q7 := if (sub σ t).length <= 60 then some (sub σ t) else none
def c4 (o : Option q7) : q7 × Bool := match o with | some x => (x, true) | none => ([], false)
theorem k4e {s : Bd} (hl : s.length <= 24) {i : Nat} (hi : i <= 24) : x4q s i = some (s.getD i []) := by
 unfold x4q
 by_cases h : i < s.length
 ·have hg : s.getD i [] = s[i] := y9 h
  simp only [show ¬ (s.length : Int) <= i by omega, decide_false, bft, if_false, show (0 : Int) <= i by omega, show (i : Int) < s.length by omega, and_self, if_true, itn, y9 h, hg]
  by_cases h0 : s[i] = []
  ·simp [h0]
  ·have := List.length_pos_iff.2 h0
   have h2 : ¬ ((s[i].length : Int) == 0) = true := by simp only [beq_iff_eq]; omega
   simp only [h2, bft, if_false, this, if_true]
 ·simp only [show (s.length : Int) <= i by omega, decide_true, if_true, q1i (s := s) (i := i) (by omega)]
theorem z1x {σ : Int -> q7} {t : q7} {i : Nat} (hi : i < t.length) {out u : q7} (ho : out = sub σ (t.take i)) (hu : u = if t[i] < 0 then σ t[i] else [t[i]]) :
 (60 < (out ++ u).length -> o5q σ t = none) /\ out ++ u = sub σ (t.take (i + 1)) := by
 have e : out ++ u = sub σ (t.take (i + 1)) := by rw [x2n hi, ho, hu]
 refine ⟨fun h => ?_, e⟩
 rw [e] at h
 unfold o5q
 rw [if_neg]
 have := z5r (σ := σ) (t := t) (i := i + 1)
 omega
theorem q7m {s : Bd} {t : q7} (hl : s.length <= 24) (hs : ∀ i, (s.getD i []).length <= 60) (ht : t.length <= 60) (hx : ∀ x ∈ t, -24 <= x) : k5q s t = some (c4 (o5q (Tm.sig s) t)) := by
 have key : Okk True (k5q s t) (· = c4 (o5q (Tm.sig s) t)) := by
  unfold k5q
  simp only [m5q, obz, show 0 <= (t.length : Int) /\ 8 * (t.length : Int) <= 281474976710656 by omega, and_self, if_true]
  refine Okk.loop (fun q : q7 × Int => ∃ i : Nat, q.2 = i /\ i <= t.length /\ q.1 = sub (Tm.sig s) (t.take i) /\ q.1.length <= 60) (fun q : q7 × Int => t.length - q.2.toNat) ⟨0, rfl, by omega, by simp [sub], by simp⟩ ?_
  rintro ⟨out, _⟩ ⟨i, rfl, h1, h2, h3⟩
  simp only at h2 h3
  simp only [q3j]
  by_cases hi : i < t.length
  ·have hxi := hx _ (List.getElem_mem hi)
   simp only [show (i : Int) < t.length by omega, decide_true, if_true, show (0 : Int) <= i by omega, and_self, itn, y9 hi, e7 (n := (i : Int) + 1) (by omega) (by omega)]
   have fin : ∀ u : q7, u.length <= 60 -> u = (if t[i] < 0 then Tm.sig s t[i] else [t[i]]) -> Okk True (if decide (60 < ((out ++ u).length : Int)) = true then Option.map Sum.inr (some (([] : q7), false)) else some (Sum.inl (out ++ u, (i : Int) + 1)))
    (Rnd (fun q : q7 × Int => ∃ i : Nat, q.2 = i /\ i <= t.length /\ q.1 = sub (Tm.sig s) (t.take i) /\ q.1.length <= 60) (fun q : q7 × Int => t.length - q.2.toNat) (· = c4 (o5q (Tm.sig s) t)) (t.length - i)) := fun u hu e => by
    obtain ⟨h4, h5⟩ := z1x hi h2 e
    by_cases h6 : 60 < (out ++ u).length
    ·simp only [show (60 : Int) < ((out ++ u).length : Int) by omega, decide_true, if_true, Option.map_some]
     refine .some ?_
     simp only [Rnd, h4 h6, c4]
    ·simp only [show ¬ (60 : Int) < ((out ++ u).length : Int) by omega, decide_false, bft, if_false]
     exact .some ⟨⟨i + 1, by simp, by omega, h5, by simp only; omega⟩, by simp; omega⟩
   unfold g7q
   by_cases hn : t[i] < 0
   ·have hi24 : ((-1 - t[i]).toNat : Int) = -1 - t[i] := by omega
    simp only [show ¬ 0 <= t[i] by omega, decide_false, bft, if_false, e7 (n := -1 - t[i]) (by omega) (by omega)]
    rw [<- hi24, k4e hl (by omega), obz, obz]
    have hb : s.getD (-1 - t[i]).toNat [] = r5 s t[i] := rfl
    rw [hb]
    have hbl : (r5 s t[i]).length <= 60 := hs _
    by_cases h0 : r5 s t[i] = []
    ·simp only [h0, List.isEmpty_nil, if_true, show (out.length + 1) * 8 <= 140737488355328 by omega]
     exact fin [t[i]] (by simp) (by rw [if_pos hn]; unfold Tm.sig; rw [if_pos h0])
    ·have : ¬ (r5 s t[i]).isEmpty = true := by simpa using h0
     simp only [this, if_false, show (out.length + (r5 s t[i]).length) * 8 <= 140737488355328 by omega, if_true]
     exact fin (r5 s t[i]) hbl (by rw [if_pos hn]; unfold Tm.sig; rw [if_neg h0])
   ·simp only [show 0 <= t[i] by omega, decide_true, if_true, obz, List.isEmpty_nil, show (out.length + 1) * 8 <= 140737488355328 by omega]
    exact fin [t[i]] (by simp) (by rw [if_neg hn])
  ·simp only [show ¬ (i : Int) < t.length by omega, decide_false, bft, if_false, Option.map_some]
   refine .some ?_
   rw [List.take_of_length_le (by omega)] at h2
   simp only [Rnd, o5q, <- h2, h3, if_true, c4]
 exact key.eq
theorem q3a {s : Bd} {t : q7} (hl : s.length <= 24) (hs : ∀ u ∈ s, u.length <= 60) (ht : t.length <= 60) (hx : ∀ x ∈ t, -24 <= x) : e8 s t = some (c4 (o5q (Tm.sig s) t)) := by
 have key : Okk True (e8 s t) (· = c4 (o5q (Tm.sig s) t)) := by
  unfold e8
  refine Okk.loop (fun q : q7 × Int => ∃ i : Nat, q.2 = i /\ i <= t.length /\ q.1 = sub (Tm.sig s) (t.take i) /\ q.1.length <= 60) (fun q : q7 × Int => t.length - q.2.toNat) ⟨0, rfl, by omega, by simp [sub], by simp⟩ ?_
  rintro ⟨out, _⟩ ⟨i, rfl, h1, h2, h3⟩
  simp only at h2 h3
  simp only [s4q]
  by_cases hi : i < t.length
  ·have hxi := hx _ (List.getElem_mem hi)
   simp only [show (i : Int) < t.length by omega, decide_true, if_true, show (0 : Int) <= i by omega, and_self, itn, y9 hi, e7 (n := (i : Int) + 1) (by omega) (by omega)]
   have fin : ∀ u : q7, u.length <= 60 -> u = (if t[i] < 0 then Tm.sig s t[i] else [t[i]]) -> Okk True (if decide (60 < ((out ++ u).length : Int)) = true then Option.map Sum.inr (some (([] : q7), false)) else some (Sum.inl (out ++ u, (i : Int) + 1)))
    (Rnd (fun q : q7 × Int => ∃ i : Nat, q.2 = i /\ i <= t.length /\ q.1 = sub (Tm.sig s) (t.take i) /\ q.1.length <= 60) (fun q : q7 × Int => t.length - q.2.toNat) (· = c4 (o5q (Tm.sig s) t)) (t.length - i)) := fun u hu e => by
    obtain ⟨h4, h5⟩ := z1x hi h2 e
    by_cases h6 : 60 < (out ++ u).length
    ·simp only [show (60 : Int) < ((out ++ u).length : Int) by omega, decide_true, if_true, Option.map_some]
     refine .some ?_
     simp only [Rnd, h4 h6, c4]
    ·simp only [show ¬ (60 : Int) < ((out ++ u).length : Int) by omega, decide_false, bft, if_false]
     exact .some ⟨⟨i + 1, by simp, by omega, h5, by simp only; omega⟩, by simp; omega⟩
   by_cases hn : t[i] < 0
   ·have hi24 : ((-1 - t[i]).toNat : Int) = -1 - t[i] := by omega
    simp only [hn, decide_true, if_true, e7 (n := -1 - t[i]) (by omega) (by omega)]
    rw [<- hi24, q3v hs hl (by omega), obz, hi24]
    have hb : s.getD (-1 - t[i]).toNat [] = r5 s t[i] := rfl
    rw [hb]
    have hbl : (r5 s t[i]).length <= 60 := q6y hs
    by_cases h0 : r5 s t[i] = []
    ·simp only [h0, if_true, List.length_singleton, show (out.length + 1) * 8 <= 140737488355328 by omega, show -1 - (-1 - t[i]) = t[i] by omega]
     exact fin [t[i]] (by simp) (by rw [if_pos hn]; unfold Tm.sig; rw [if_pos h0])
    ·simp only [h0, if_false, show (out.length + (r5 s t[i]).length) * 8 <= 140737488355328 by omega, if_true]
     exact fin (r5 s t[i]) hbl (by rw [if_pos hn]; unfold Tm.sig; rw [if_neg h0])
   ·simp only [hn, decide_false, bft, if_false, show (out.length + 1) * 8 <= 140737488355328 by omega, if_true]
    exact fin [t[i]] (by simp) (by rw [if_neg hn])
  ·simp only [show ¬ (i : Int) < t.length by omega, decide_false, bft, if_false, Option.map_some]
   refine .some ?_
   rw [List.take_of_length_le (by omega)] at h2
   simp only [Rnd, o5q, <- h2, h3, if_true, c4]
 exact key.eq
theorem q9d {xs : Ty1} (hl : xs.length <= 3) (hs : ∀ u ∈ xs, u.length <= 60) : y6 xs = some xs.flatten := by
 have hfl : ∀ i, i <= xs.length -> (xs.take i).flatten.length <= 60 * i := fun i => by
  induction i with
  | zero => simp
  | succ i ih =>
   intro hi
   have h1 : i < xs.length := by omega
   rw [List.take_add_one, List.getElem?_eq_getElem h1, List.flatten_append, lap]
   have := ih (by omega)
   have := hs _ (List.getElem_mem h1)
   simp only [Option.toList_some, List.flatten_cons, List.flatten_nil, List.append_nil]; omega
 have tk : ∀ i (h1 : i < xs.length), (xs.take (i + 1)).flatten = (xs.take i).flatten ++ xs[i] := fun i h1 => by
  rw [List.take_add_one, List.getElem?_eq_getElem h1, List.flatten_append]; simp
 have key : Okk True (y6 xs) (· = xs.flatten) := by
  unfold y6
  refine Okk.loop (fun q : Int × Int => ∃ i : Nat, q.2 = i /\ i <= xs.length /\ q.1 = ((xs.take i).flatten.length : Int)) (fun q : Int × Int => xs.length - q.2.toNat) ⟨0, rfl, by omega, by simp⟩ ?_
  rintro ⟨_, _⟩ ⟨i, rfl, h1, rfl⟩
  simp only [q8q]
  have hb := hfl i h1
  by_cases hi : i < xs.length
  ·have hu := hs _ (List.getElem_mem hi)
   simp only [show (i : Int) < xs.length by omega, decide_true, if_true, show (0 : Int) <= i by omega, and_self, itn, y9 hi, e7 (n := (i : Int) + 1) (by omega) (by omega),
    e7 (n := ((xs.take i).flatten.length : Int) + (xs[i].length : Int)) (by omega) (by omega), show ¬ ((xs.take i).flatten.length : Int) + (xs[i].length : Int) < 0 by omega, decide_false, bft, if_false]
   exact .some ⟨⟨i + 1, by simp, by omega, by rw [tk i hi]; simp⟩, by simp; omega⟩
  ·simp only [show ¬ (i : Int) < xs.length by omega, decide_false, bft, if_false, j7q, show 0 <= ((xs.take i).flatten.length : Int) /\ ((xs.take i).flatten.length : Int) * 8 <= 140737488355328 by omega, and_self, if_true, obz]
   refine Okk.inr ?_
   simp only [Rnd]
   refine Okk.loop (fun q : q7 × Int => ∃ i : Nat, q.2 = i /\ i <= xs.length /\ q.1 = (xs.take i).flatten) (fun q : q7 × Int => xs.length - q.2.toNat) ⟨0, rfl, by omega, by simp⟩ ?_
   rintro ⟨_, _⟩ ⟨j, rfl, h2, rfl⟩
   simp only [q9q]
   have hb := hfl j h2
   by_cases hj : j < xs.length
   ·have hu := hs _ (List.getElem_mem hj)
    simp only [show (j : Int) < xs.length by omega, decide_true, if_true, show (0 : Int) <= j by omega, and_self, itn, y9 hj, e7 (n := (j : Int) + 1) (by omega) (by omega),
     show ((xs.take j).flatten.length + xs[j].length) * 8 <= 140737488355328 by omega]
    exact .some ⟨⟨j + 1, by simp, by omega, by rw [tk j hj]⟩, by simp; omega⟩
   ·simp only [show ¬ (j : Int) < xs.length by omega, decide_false, bft, if_false, Option.map_some]
    refine .some ?_
    simp only [Rnd]
    rw [List.take_of_length_le (by omega)]
 exact key.eq
def z2u (a t : q7) (i : Nat) (v : q7) : Option q7 := if (j8f a t i v).length <= 60 then some (j8f a t i v) else none
theorem q1c {a p u s v : q7} (ha : w7q a = true) (hu : Wf a 1 u) (hm : ∀ x ∈ p ++ (u ++ s), -24 <= x) (hl : (p ++ (u ++ s)).length <= 60) (hv : v.length <= 60) :
 g4q a (p ++ (u ++ s)) (p.length : Int) v = some (c4 (z2u a (p ++ (u ++ s)) p.length v)) := by
 have hd : (p ++ (u ++ s)).drop p.length = u ++ s := List.drop_left
 have hl' := hl
 simp only [lap] at hl'
 unfold g4q
 rw [if_pos (by simp only [lap]; omega), t1q ha (by show List.length _ < _; omega) hm (by simp), obz, q3c hd hu]
 have e1 : ((p ++ (u ++ s)).length : Int) - s.length = ((p.length + u.length : Nat) : Int) := by simp; omega
 rw [e1, if_pos (by simp; omega), itn, itn, List.take_left, <- List.drop_drop, hd, List.drop_left]
 rw [q9d (by simp) (by intro w hw; simp at hw; rcases hw with rfl | rfl | rfl <;> omega), obz]
 unfold z2u
 rw [k6a hu]
 have e2 : [p, v, s].flatten = p ++ (v ++ s) := by simp
 rw [e2]
 by_cases h : (p ++ (v ++ s)).length <= 60
 ·simp only [show ¬ (60 : Int) < ((p ++ (v ++ s)).length : Int) by omega, decide_false, bft, if_false, h, if_true, c4]
 ·simp only [show (60 : Int) < ((p ++ (v ++ s)).length : Int) by omega, decide_true, if_true, h, if_false, c4]
theorem q6b {a p u s v : q7} (ha : w7q a = true) (hu : Wf a 1 u) (hl : (p ++ (u ++ s)).length <= 60) (hv : v.length <= 60) :
 n4q a (p ++ (u ++ s)) (p.length : Int) v = some (c4 (z2u a (p ++ (u ++ s)) p.length v)) := by
 have hd : (p ++ (u ++ s)).drop p.length = u ++ s := List.drop_left
 have hl' := hl
 simp only [lap] at hl'
 unfold n4q
 rw [if_pos (by simp only [lap]; omega), itn, List.take_left, b7 (by show List.length _ < _; omega), obz, if_pos (by omega), b9q ha (by show List.length _ < _; omega) (by simp), obz, q3c hd hu]
 have e1 : ((p ++ (u ++ s)).length : Int) - s.length = ((p.length + u.length : Nat) : Int) := by simp; omega
 rw [e1, if_pos (by simp; omega), itn, <- List.drop_drop, hd, List.drop_left, if_pos (by simp; omega), laa]
 unfold z2u
 rw [k6a hu]
 by_cases h : (p ++ (v ++ s)).length <= 60
 ·simp only [show ¬ (60 : Int) < ((p ++ (v ++ s)).length : Int) by omega, decide_false, bft, if_false, h, if_true, c4]
 ·simp only [show (60 : Int) < ((p ++ (v ++ s)).length : Int) by omega, decide_true, if_true, h, if_false, c4]
abbrev Sys := q7 × Ty3
theorem i1q {s : Sys} : b0q s = true ↔ w7q s.1 = true /\ s.2.length <= 12 /\ ∀ r ∈ s.2, q7v s.1 r = true := by simp [b0q]
theorem k2c {a : q7} {r : q7 × q7} : q7v a r = true ↔ z8 a r.1 = true /\ z8 a r.2 = true /\ 0 <= r.1.headD 0 /\ ∀ x ∈ r.2, x < 0 -> x ∈ r.1 := by
 simp only [q7v, x2x, Bool.and_eq_true, decide_eq_true_eq, List.all_eq_true]
def j1c (s : Sys) (t : q7) (i rule : Nat) : Option q7 := j6h s.1 (s.2.getD rule default).1 (s.2.getD rule default).2 t i
theorem k5z {b o : Bd} (hb : ∀ u ∈ b, u.length <= 60) (h : ∀ i, o.getD i [] = z7q b i) : (∀ i, (o.getD i []).length <= 60) /\ ∀ u ∈ o, u.length <= 60 := by
 have h1 : ∀ i, (o.getD i []).length <= 60 := fun i => by
  rw [h]
  unfold z7q
  split
  ·simp
  ·rw [lgd]
   cases hx : b[i]? with
   | none => simp
   | some u => exact hb u (List.mem_of_getElem? hx)
 refine ⟨h1, fun u hu => ?_⟩
 obtain ⟨i, hi, rfl⟩ := List.getElem_of_mem hu
 have := h1 i
 rwa [show o.getD i [] = o[i] from y9 hi] at this
theorem k7j {b o : Bd} (h : ∀ i, o.getD i [] = z7q b i) (t : q7) : o5q (Tm.sig o) t = o5q (Tm.sig b) t := by
 unfold o5q
 rw [q6u fun x _ hx => j5u h hx]
theorem z8b {a l r p u s : q7} (hu : Wf a 1 u) : j6h a l r (p ++ (u ++ s)) p.length = (mat a l u j1q).bind fun b => (o5q (Tm.sig b) r).bind fun v => z2u a (p ++ (u ++ s)) p.length v := by
 unfold j6h
 rw [k8o hu]
 congr 1
 funext b
 unfold o5q z2u
 by_cases h1 : (sub (Tm.sig b) r).length <= 60
 ·rw [if_pos h1, obz]
  by_cases h2 : (j8f a (p ++ (u ++ s)) p.length (sub (Tm.sig b) r)).length <= 60
  ·rw [if_pos ⟨h1, h2⟩, if_pos h2]
  ·rw [if_neg (fun h => h2 h.2), if_neg h2]
 ·rw [if_neg (fun h => h1 h.1), if_neg h1]; rfl
theorem k6u {s : Sys} {t : q7} {i rule : Nat} (hs : b0q s = true) (ht : z8 s.1 t = true) (hi : i < t.length) (hr : rule < s.2.length) : m6q s t i rule = some (c4 (j1c s t i rule)) := by
 obtain ⟨ha, _, hrs⟩ := i1q.1 hs
 obtain ⟨_, h1, h2, hw⟩ := j4.1 ht
 obtain ⟨p, u, q, rfl, rfl, hu⟩ := hw.place hi
 have hrule := k2c.1 (hrs _ (u4 hr))
 obtain ⟨hL, hR, _, hv⟩ := hrule
 obtain ⟨_, hL1, hL2, hL3⟩ := j4.1 hL
 obtain ⟨_, hR1, hR2, hR3⟩ := j4.1 hR
 have hm : ∀ x ∈ p ++ (u ++ q), -24 <= x := fun x hx => (hw.all x hx).1
 have hul : u.length <= 60 := by simp at h2; omega
 unfold m6q j1c
 rw [if_pos (by omega), d3q ha (by show List.length _ < _; omega) hm List.drop_left hu, obz, itn]
 obtain ⟨o, e1, e2⟩ := (k4f ha hL3 hu hL2 hul).get
 rw [e1, obz, z8b hu]
 cases hmat : mat s.1 (s.2.getD rule default).1 u j1q with
 | none =>
  rw [hmat] at e2
  simp only [k6n] at e2
  simp only [e2, bft, if_false, Option.bind_none, c4]
 | some b =>
  rw [hmat] at e2
  obtain ⟨e3, e4, e5⟩ := e2
  obtain ⟨hb1, hb2⟩ := q0h hmat (by intro u hu; simp [j1q] at hu; subst hu; simp) hul (by simp [j1q])
  obtain ⟨hp1, hp2⟩ := k5z hb2 e5
  rw [if_pos e3, if_pos (by omega), q7m e4 hp1 hR2 (fun x hx => (hR3.all x hx).1), obz, obz, k7j e5]
  cases hf : o5q (Tm.sig b) (s.2.getD rule default).2 with
  | none => simp [c4]
  | some v =>
   have hv60 : v.length <= 60 := by
    unfold o5q at hf
    split at hf
    ·rename_i h; cases hf; exact h
    ·cases hf
   simp only [c4, if_true, obz]
   rw [q1c ha hu hm h2 hv60]; rfl
theorem k2w {s : Sys} {t : q7} {i rule : Nat} (hs : b0q s = true) (ht : z8 s.1 t = true) (hi : i < t.length) (hr : rule < s.2.length) : s5q s t i rule = some (c4 (j1c s t i rule)) := by
 obtain ⟨ha, _, hrs⟩ := i1q.1 hs
 obtain ⟨_, h1, h2, hw⟩ := j4.1 ht
 obtain ⟨p, u, q, rfl, rfl, hu⟩ := hw.place hi
 have hrule := k2c.1 (hrs _ (u4 hr))
 obtain ⟨hL, hR, _, hv⟩ := hrule
 obtain ⟨_, hL1, hL2, hL3⟩ := j4.1 hL
 obtain ⟨_, hR1, hR2, hR3⟩ := j4.1 hR
 have hul : u.length <= 60 := by simp at h2; omega
 unfold s5q j1c
 rw [if_pos (by omega), n1q ha (by show List.length _ < _; omega) List.drop_left hu, obz, itn]
 obtain ⟨o, e1, e2⟩ := (k1e ha hL3 hu hL2 hul).get
 rw [e1, obz, z8b hu]
 cases hmat : mat s.1 (s.2.getD rule default).1 u j1q with
 | none =>
  rw [hmat] at e2
  simp only [k6n] at e2
  simp only [e2, bft, if_false, Option.bind_none, c4]
 | some b =>
  rw [hmat] at e2
  obtain ⟨e3, e4, e5⟩ := e2
  obtain ⟨hb1, hb2⟩ := q0h hmat (by intro u hu; simp [j1q] at hu; subst hu; simp) hul (by simp [j1q])
  obtain ⟨hp1, hp2⟩ := k5z hb2 e5
  rw [if_pos e3, q3a e4 hp2 hR2 (fun x hx => (hR3.all x hx).1), obz, obz, k7j e5]
  cases hf : o5q (Tm.sig b) (s.2.getD rule default).2 with
  | none => simp [c4]
  | some v =>
   have hv60 : v.length <= 60 := by
    unfold o5q at hf
    split at hf
    ·rename_i h; cases hf; exact h
    ·cases hf
   simp only [c4, if_true, obz]
   rw [q6b ha hu h2 hv60]; rfl
abbrev Stp := Int × Int × q7
end Go.Proofs.YtklfjpilhbkekaaGreat
