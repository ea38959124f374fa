/- Copies, marks and tests; nothing is assumed. -/
import Derived.Test.YtklfjpilhbkekaaGreatZpb
import Derived.Test.YtklfjpilhbkekaaGreatZe
import Derived.Test.YtklfjpilhbkekaaGreatZi
set_option linter.all false
namespace Go.Proofs.YtklfjpilhbkekaaGreat
open Go Abx Tm
theorem f1q {σ γ : Type} {n : Nat} (st : Nat -> σ) {c : γ} {f : σ -> Option (σ ⊕ γ)} (h : ∀ i, i < n -> f (st i) = some (.inl (st (i + 1)))) (he : f (st n) = some (.inr c)) : loopC f (st 0) = some c := by
 have key : ∀ k i, i + k = n -> loopC f (st i) = some c := by
  intro k
  induction k with
  | zero =>
   intro i hi; obtain rfl : i = n := by omega
   exact x8 he
  | succ k ih => intro i hi; rw [p9 (h i (by omega))]; exact ih (i + 1) (by omega)
 exact key n 0 (by omega)
theorem n5q {α : Type} [Inhabited α] {a : List α} {i : Nat} {x : α} {r : List α} (h : a.drop i = x :: r) : i < a.length /\ a.getD i default = x /\ a.drop (i + 1) = r := by
 have hlt : i < a.length := Nat.lt_of_not_le fun hn => by rw [List.drop_of_length_le hn] at h; cases h
 rw [List.drop_eq_getElem_cons hlt] at h
 simp only [List.cons.injEq] at h
 exact ⟨hlt, by rw [y9 hlt, h.1], h.2⟩
theorem z5c {α β : Type} [Inhabited α] {a : List α} {z : List β} {g : α -> β} (hl : z.length = a.length) {f : Int × List β -> Option ((Int × List β) ⊕ List β)}
 (h : ∀ (i : Nat) (out : List β), i < a.length -> out.length = a.length -> a.getD i default ∈ a -> f ((i : Int), out) = some (.inl ((i : Int) + 1, out.set i (g (a.getD i default)))))
 (he : ∀ out, f ((a.length : Int), out) = some (.inr out)) : loopC f (0, z) = some (a.map g) := by
 have hz : (a.take 0).map g ++ z.drop 0 = z := by simp
 refine Eq.trans ?_ (f1q (n := a.length) (fun i => ((i : Int), (a.take i).map g ++ z.drop i)) (fun i hi => ?_) ((he _).trans (by rw [List.take_length, <- hl, List.drop_length, List.append_nil])))
 ·simp
 ·rw [h i _ hi (by simp; omega) (u4 hi)]
  refine congrArg (fun x => some (Sum.inl x)) (Prod.ext (by simp) ?_)
  show ((a.take i).map g ++ z.drop i).set i _ = _
  rw [List.set_append_right _ _ (by simp; omega)]
  have hm : i - ((a.take i).map g).length = 0 := by simp; omega
  have hzl : i < z.length := by omega
  rw [hm, List.drop_eq_getElem_cons hzl, List.set_cons_zero, List.take_succ_eq_append_getElem hi, List.map_append, laa, y9 hi]
  simp
def c5 {α : Type} (g : α -> Int -> α × Int) : List α -> Int -> List α × Int
 | [], k => ([], k)
 | x :: r, k => ((g x k).1 :: (c5 g r (g x k).2).1, (c5 g r (g x k).2).2)
theorem k0e {α : Type} {g : α -> Int -> α × Int} : ∀ {a : List α} {k : Int}, (c5 g a k).1.length = a.length
 | [], _ => rfl
 | x :: r, k => by simp [c5, k0e (a := r)]
theorem k9k {α : Type} [Inhabited α] {a : List α} {g : α -> Int -> α × Int} (P : Nat -> Int -> Prop) {k0 : Int} {f : Int × Int × List α -> Option ((Int × Int × List α) ⊕ (List α × Int))}
 (h : ∀ (i : Nat) (k : Int) (b : List α) (x : α), i < a.length -> b.length = a.length -> x ∈ a -> b.getD i default = x -> P i k ->
  f (k, (i : Int), b) = some (.inl ((g x k).2, (i : Int) + 1, b.set i (g x k).1)) /\ P (i + 1) (g x k).2)
 (he : ∀ k b, f (k, (a.length : Int), b) = some (.inr (b, k))) (h0 : P 0 k0) : loopC f (k0, 0, a) = some (c5 g a k0) := by
 have key : ∀ (r done : List α) (k : Int), done.length + r.length = a.length -> (∀ x ∈ r, x ∈ a) -> P done.length k -> loopC f (k, (done.length : Int), done ++ r) = some (done ++ (c5 g r k).1, (c5 g r k).2) := by
  intro r
  induction r with
  | nil =>
   intro done k hl _ _
   have : done.length = a.length := by simpa using hl
   rw [this]
   exact x8 (by rw [he]; simp [c5])
  | cons x r ih =>
   intro done k hl hr hp
   simp only [List.length_cons] at hl
   obtain ⟨h1, h2⟩ := h done.length k (done ++ x :: r) x (by omega) (by simp; omega) (hr x (by simp)) (by rw [y9 (by simp)]; simp) hp
   rw [p9 h1]
   have e : (done ++ x :: r).set done.length (g x k).1 = (done ++ [(g x k).1]) ++ r := by
    rw [List.set_append_right _ _ (Nat.le_refl _), Nat.sub_self, List.set_cons_zero]; simp
   rw [e]
   have := ih (done ++ [(g x k).1]) (g x k).2 (by simp; omega) (fun y hy => hr y (by simp [hy])) (by simpa using h2)
   simp only [lap, List.length_cons, List.length_nil, Nat.zero_add, Int.natCast_add, Int.natCast_one] at this
   rw [this]
   simp [c5]
 have := key a [] k0 (by simp) (fun x hx => hx) h0
 simpa using this
theorem z2m {α : Type} [Inhabited α] {a : List α} {g : α -> Int -> α × Int} (P : Nat -> Int -> Prop) {k0 : Int} {f : Int × Int -> Option ((Int × Int) ⊕ Int)}
 (h : ∀ (i : Nat) (k : Int) (x : α), i < a.length -> x ∈ a -> (c5 g a k0).1.getD i default = (g x k).1 -> P i k ->
  f (k, (i : Int)) = some (.inl ((g x k).2, (i : Int) + 1)) /\ P (i + 1) (g x k).2)
 (he : ∀ k, f (k, (a.length : Int)) = some (.inr k)) (h0 : P 0 k0) : loopC f (k0, 0) = some (c5 g a k0).2 := by
 have key : ∀ (r : List α) (i : Nat) (k : Int), i + r.length = a.length -> (∀ x ∈ r, x ∈ a) -> (c5 g a k0).1.drop i = (c5 g r k).1 -> P i k -> loopC f (k, (i : Int)) = some (c5 g r k).2 := by
  intro r
  induction r with
  | nil =>
   intro i k hl _ _ _
   have : i = a.length := by simpa using hl
   rw [this]
   exact x8 (he _)
  | cons x r ih =>
   intro i k hl hr hd hp
   simp only [List.length_cons] at hl
   obtain ⟨g1, g2, g3⟩ := n5q hd
   obtain ⟨h1, h2⟩ := h i k x (by omega) (hr x (by simp)) g2 hp
   rw [p9 h1, show ((i : Int) + 1) = ((i + 1 : Nat) : Int) by omega]
   exact ih (i + 1) _ (by omega) (fun y hy => hr y (by simp [hy])) g3 h2
 have := key a 0 k0 (by simp) (fun x hx => hx) (by simp) h0
 simpa using this
theorem k0d {α : Type} {a : List α} {f : Int -> Option (Int ⊕ Bool)} (h : ∀ i : Nat, i < a.length -> f (i : Int) = some (.inl ((i : Int) + 1))) (he : f a.length = some (.inr true)) : loopC f 0 = some true :=
 f1q (n := a.length) (fun i => (i : Int)) (fun i hi => h i hi) he
theorem x6q {α : Type} [Inhabited α] {xs : List α} {i : Nat} (h : i < xs.length) : xs.take (i + 1) = xs.take i ++ [xs.getD i default] := by
 rw [List.take_succ_eq_append_getElem h, y9 h]
theorem q0x {l : q7} (hs : o4q l) : n7 l = some l := by
 unfold n7
 refine (Okk.amb (t := True) (P := (· = l)) ?_ fun h => ?_).eq
 ·rw [if_pos (by have := hs; omega)]; exact .some rfl
 ·subst h; simp
abbrev Mx : Nat := 1048576
abbrev Big {α : Type} (xs : List α) : Prop := xs.length < 9223372036854775808
theorem szI {a : q7} (ha : Big a) {left : Int} (h0 : 0 <= left) (hM : left <= Mx) : ∃ r, k2q a left = some r /\ -1 <= r /\ r <= left /\ (0 <= r -> a.length <= Mx) := by
 unfold k2q
 have ha' : a.length < 9223372036854775808 := ha
 have hM' : left <= 1048576 := hM
 rw [e7 (n := left - (a.length : Int)) (by omega) (by omega)]
 by_cases h : left - (a.length : Int) < 0
 ·exact ⟨-1, by simp [h], by omega, by omega, by omega⟩
 ·exact ⟨left - a.length, by simp [h], by omega, by omega, fun _ => by show a.length <= 1048576; omega⟩
theorem j5d {α : Type} [Inhabited α] {a : List α} {Q : α -> Prop} {f : Int × Int -> Option ((Int × Int) ⊕ Int)}
 (h : ∀ (i : Nat) (left : Int) (x : α), i < a.length -> x ∈ a -> a.getD i default = x -> 0 <= left -> left <= Mx -> (∃ r, 0 <= r /\ r <= left /\ Q x /\ f (left, (i : Int)) = some (.inl (r, (i : Int) + 1))) ∨ f (left, (i : Int)) = some (.inr (-1)))
 (he : ∀ left, f (left, (a.length : Int)) = some (.inr left)) {left : Int} (h0 : 0 <= left) (hM : left <= Mx) : ∃ r, loopC f (left, 0) = some r /\ -1 <= r /\ r <= left /\ (0 <= r -> ∀ x ∈ a, Q x) := by
 have key : ∀ (rs : List α) (i : Nat) (left : Int), a.drop i = rs -> i + rs.length = a.length -> 0 <= left -> left <= Mx -> ∃ r, loopC f (left, (i : Int)) = some r /\ -1 <= r /\ r <= left /\ (0 <= r -> ∀ x ∈ rs, Q x) := by
  intro rs
  induction rs with
  | nil =>
   intro i left hd hl h0 hM
   obtain rfl : i = a.length := by simpa using hl
   exact ⟨left, x8 (he _), by omega, by omega, fun _ x hx => by cases hx⟩
  | cons x rs ih =>
   intro i left hd hl h0 hM
   simp only [List.length_cons] at hl
   obtain ⟨g1, g2, g3⟩ := n5q hd
   rcases h i left x g1 (by rw [<- g2]; exact u4 g1) g2 h0 hM with ⟨r, r0, r1, r2, r3⟩ | hx
   ·obtain ⟨r', e1, e2, e3, e4⟩ := ih (i + 1) r g3 (by omega) r0 (by omega)
    rw [p9 r3, show ((i : Int) + 1) = ((i + 1 : Nat) : Int) by omega]
    refine ⟨r', e1, e2, by omega, fun hr y hy => ?_⟩
    rcases List.mem_cons.1 hy with rfl | hy
    ·exact r2
    ·exact e4 hr y hy
   ·exact ⟨-1, x8 hx, by omega, by omega, by omega⟩
 exact key a 0 left (by simp) (by simp) h0 hM
theorem q2f {a : q7} (h : a.length <= Mx) : q3w a = some a := by
 have h' : a.length <= 1048576 := h
 unfold q3w
 rw [if_pos ⟨by omega, by omega, by omega⟩]
 have := z5c (a := a) (z := List.replicate a.length 0) (g := id) (f := q9i a) (by simp) (fun i out hi ho hm => by
  simp only [q9i, show (i : Int) < a.length by omega, show (i : Int) < out.length by omega, decide_true, if_true, show (0 : Int) <= i by omega, and_self, itn, e7 (n := (i : Int) + 1) (by omega) (by omega), id]) (fun out => by simp [q9i])
 simpa using this
theorem z8p {a : q7} (h : a.length <= Mx) : k8h a = some a := by
 unfold k8h
 rw [q2f h, obz, if_pos rfl]
theorem q3d {a : q7} (h : o4q a) : i6 a a = some true := by
 have h' : a.length < 1099511627776 := h
 unfold i6
 rw [if_neg (by simp)]
 refine k0d (a := a) (fun i hi => ?_) (by simp [p1q])
 simp [p1q, show (i : Int) < a.length by omega, e7 (n := (i : Int) + 1) (by omega) (by omega)]
abbrev Kx : Int := 1152921504606846976
def mI (x : Int) (k : Int) : Int × Int := (k, k + 1)
theorem k5s {α : Type} {g : α -> Int -> α × Int} {B : Int} (hB : 0 <= B) : ∀ {a : List α} {k : Int}, 0 <= k -> (∀ x ∈ a, ∀ k, 0 <= k -> k <= (g x k).2 /\ (g x k).2 <= k + B) -> k <= (c5 g a k).2 /\ (c5 g a k).2 <= k + B * a.length
 | [], k, _, _ => by simp [c5]
 | x :: r, k, h0, h => by
  obtain ⟨h1, h2⟩ := h x (by simp) k h0
  obtain ⟨h3, h4⟩ := k5s hB (a := r) (k := (g x k).2) (by omega) (fun y hy => h y (by simp [hy]))
  simp only [c5, List.length_cons, Int.natCast_add, Int.natCast_one, Int.mul_add, Int.mul_one]
  omega
theorem k9l {a : q7} {k : Int} (h0 : 0 <= k) : k <= (c5 mI a k).2 /\ (c5 mI a k).2 <= k + a.length := by
 have := k5s (g := mI) (B := 1) (by decide) (a := a) (k := k) h0 (fun x _ k _ => by simp only [mI]; omega)
 omega
theorem q0c {a : q7} {n : Nat} {k : Int} (hn : n = a.length) (hl : a.length <= Mx) (h0 : 0 <= k) (hk : k <= 4 * Kx) : q5i n a k = some (c5 mI a k) := by
 subst hn
 have hl' : a.length <= 1048576 := hl
 have hk' : k <= 4 * 1152921504606846976 := hk
 unfold q5i
 refine k9k (g := mI) (fun i k' => 0 <= k' /\ k' <= k + i) (fun i k' b x hi hb hx hg hp => ?_) (fun k' b => by simp [k3g]) ⟨h0, by omega⟩
 obtain ⟨p0, p1⟩ := hp
 refine ⟨?_, by simp only [mI]; omega⟩
 simp only [k3g, show (i : Int) < a.length by omega, show (i : Int) < b.length by omega, decide_true, if_true, show (0 : Int) <= i by omega, and_self, itn, e7 (n := (i : Int) + 1) (by omega) (by omega), e7 (n := k' + 1) (by omega) (by omega), mI]
def mR (x : q7 × q7) (k : Int) : Ty2 × Int := (((c5 mI x.1 k).1, (c5 mI x.2 (c5 mI x.1 k).2).1), (c5 mI x.2 (c5 mI x.1 k).2).2)
theorem y2p {x : q7 × q7} {k : Int} (h0 : 0 <= k) (h : x.1.length <= Mx /\ x.2.length <= Mx) : k <= (mR x k).2 /\ (mR x k).2 <= k + 2097152 := by
 have h1 : x.1.length <= 1048576 := h.1
 have h2 : x.2.length <= 1048576 := h.2
 have g1 := k9l (a := x.1) h0
 have g2 := k9l (a := x.2) (k := (c5 mI x.1 k).2) (by omega)
 simp only [mR]; omega
theorem y2i {a : q7} {k : Int} (hl : a.length <= Mx) (h0 : 0 <= k) (hk : k <= 4 * Kx) : j2q (c5 mI a k).1 k = some (c5 mI a k).2 := by
 have hl' : a.length <= 1048576 := hl
 have hk' : k <= 4 * 1152921504606846976 := hk
 have hm : (c5 mI a k).1.length = a.length := k0e
 unfold j2q
 refine z2m (g := mI) (fun i k' => 0 <= k' /\ k' <= k + i) (fun i k' x hi hx hg hp => ?_) (fun k' => by simp [d0q, hm]) ⟨h0, by omega⟩
 obtain ⟨p0, p1⟩ := hp
 refine ⟨?_, by simp only [mI]; omega⟩
 simp only [d0q, hm, show (i : Int) < a.length by omega, decide_true, if_true, show (0 : Int) <= i by omega, and_self, itn, hg, mI, bne_self_eq_false, bft, if_false, e7 (n := (i : Int) + 1) (by omega) (by omega), e7 (n := k' + 1) (by omega) (by omega)]
end Go.Proofs.YtklfjpilhbkekaaGreat
