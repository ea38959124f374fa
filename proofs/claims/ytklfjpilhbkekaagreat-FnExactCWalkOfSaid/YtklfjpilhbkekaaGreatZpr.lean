/- Conditional steps and the unravelled system: both sides come to the same; nothing is assumed. -/
import Derived.Test.YtklfjpilhbkekaaGreatZpq
import Derived.Test.YtklfjpilhbkekaaGreatZg
import Derived.Test.YtklfjpilhbkekaaGreatZpb
import Derived.Test.YtklfjpilhbkekaaGreatZh
set_option linter.all false
namespace Go.Proofs.YtklfjpilhbkekaaGreat
open Go Abx Tm
def ins (n : Int) : q7 -> q7
 | [] => [n]
 | x :: r => if x < n then x :: ins n r else if x = n then x :: r else n :: x :: r
theorem z4x {n m : Int} : ∀ {l : q7}, m ∈ ins n l ↔ m = n ∨ m ∈ l
 | [] => by simp [ins]
 | x :: r => by
  unfold ins
  split
  ·simp only [List.mem_cons, z4x (l := r)]
   constructor
   ·rintro (h | h | h) <;> simp [h]
   ·rintro (h | h | h) <;> simp [h]
  ·split
   ·rename_i h; subst h; simp
   ·simp
theorem j4l {n : Int} : ∀ {l : q7}, (ins n l).length <= l.length + 1
 | [] => by simp [ins]
 | x :: r => by
  unfold ins
  have := j4l (n := n) (l := r)
  split
  ·simp; omega
  ·split
   ·simp
   ·simp
theorem k2v {l : q7} {n : Int} (hl : l.length <= 100000) : s0q l n = some (ins n l) := by
 have key : ∀ (r : q7) (i : Nat), l.drop i = r -> i + r.length = l.length -> loopC (y0q l n) (i : Int) = some (l.take i ++ ins n r) := by
  intro r
  induction r with
  | nil =>
   intro i hd hi
   obtain rfl : i = l.length := by simpa using hi
   refine x8 ?_
   have e1 : d6 (List.take l.length l) = some l := by rw [List.take_length]; exact b7 (show l.length < _ by omega)
   simp only [y0q, Int.lt_irrefl, decide_false, bft, if_false, itn, e1, obz, List.drop_length, show (0 : Int) <= l.length by omega, Int.le_refl, and_self, if_true, lap, List.length_singleton, List.length_nil]
   rw [if_pos (by omega), if_pos (by omega)]
   simp [ins]
  | cons x r ih =>
   intro i hd hi
   obtain ⟨g1, g2, g3⟩ := n5q hd
   simp only [List.length_cons] at hi
   by_cases h1 : x < n
   ·have hf : y0q l n (i : Int) = some (.inl ((i : Int) + 1)) := by
     simp only [y0q, show (i : Int) < l.length by omega, show (0 : Int) <= i by omega, and_self, decide_true, if_true, itn, g2, h1, e7 (n := (i : Int) + 1) (by omega) (by omega)]
    rw [p9 hf, show ((i : Int) + 1) = ((i + 1 : Nat) : Int) by omega, ih (i + 1) g3 (by omega), x6q g1, g2]
    simp [ins, h1]
   ·refine x8 ?_
    have e1 : d6 (List.take i l) = some (List.take i l) := b7 (show (List.take i l).length < _ by rw [List.length_take]; omega)
    simp only [y0q, show (i : Int) < l.length by omega, show (0 : Int) <= i by omega, and_self, decide_true, if_true, itn, g2, h1, decide_false, bft, if_false, e1, obz, show (i : Int) <= l.length by omega]
    by_cases h2 : x = n
    ·have e2 : (x == n) = true := by simpa using h2
     have hin : ins n (x :: r) = x :: r := by unfold ins; rw [if_neg h1, if_pos h2]
     rw [if_pos e2, hin, <- hd, List.take_append_drop]; rfl
    ·have e2 : (x == n) = false := by simpa using h2
     have hin : ins n (x :: r) = n :: x :: r := by unfold ins; rw [if_neg h1, if_neg h2]
     have hlt : (List.take i l).length <= i := by rw [List.length_take]; omega
     rw [if_neg (by rw [e2]; decide), hin, hd, if_pos (by omega), if_pos (by simp only [lap, List.length_cons, List.length_nil]; omega)]
     simp
 have := key l 0 (by simp) (by simp)
 unfold s0q
 simpa using this
def b9 (v : q7) (t : q7) : q7 := t.foldl (fun v x => if x < 0 then ins (-1 - x) v else v) v
theorem e1q {m : Int} : ∀ {t v : q7}, m ∈ b9 v t ↔ m ∈ v ∨ ∃ x ∈ t, x < 0 /\ m = -1 - x
 | [], v => by simp [b9]
 | x :: t, v => by
  have := e1q (m := m) (t := t) (v := if x < 0 then ins (-1 - x) v else v)
  unfold b9 at this ⊢
  rw [List.foldl_cons, this]
  by_cases hx : x < 0
  ·simp only [hx, if_true, z4x, List.mem_cons, exists_eq_or_imp, true_and]
   constructor
   ·rintro ((h | h) | h) <;> simp [h]
   ·rintro (h | h | h) <;> simp [h]
  ·simp [hx]
theorem f9q : ∀ {t v : q7}, (b9 v t).length <= v.length + t.length
 | [], v => by simp [b9]
 | x :: t, v => by
  have := f9q (t := t) (v := if x < 0 then ins (-1 - x) v else v)
  unfold b9 at this ⊢
  rw [List.foldl_cons, List.length_cons]
  have h2 := j4l (n := -1 - x) (l := v)
  split at this <;> split <;> omega
theorem k7q {v t : q7} (hv : v.length <= 10000) (ht : t.length <= 60) (hx : ∀ x ∈ t, -24 <= x) : r4 v t = some (b9 v t) := by
 unfold r4
 have := f1q (n := t.length) (fun i => (b9 v (t.take i), (i : Int))) (c := b9 v t) (f := d9q t) (fun i hi => by
  have hl := f9q (t := t.take i) (v := v)
  have h2 : (t.take i).length <= 60 := by rw [List.length_take]; omega
  have hm := hx _ (u4 hi)
  simp only [d9q, show (i : Int) < t.length by omega, show (0 : Int) <= i by omega, and_self, decide_true, if_true, itn, e7 (n := (i : Int) + 1) (by omega) (by omega)]
  have e : b9 v (t.take (i + 1)) = if t.getD i default < 0 then ins (-1 - t.getD i default) (b9 v (t.take i)) else b9 v (t.take i) := by
   rw [x6q hi]; unfold b9; rw [List.foldl_append]; rfl
  rw [e]
  by_cases h0 : t.getD i default < 0
  ·simp only [h0, decide_true, if_true, e7 (n := -1 - t.getD i default) (by omega) (by omega), k2v (l := b9 v (t.take i)) (n := -1 - t.getD i default) (by omega), obz]
   simp
  ·simp only [h0, decide_false, bft, if_false]
   simp) (by simp [d9q])
 simpa [b9] using this
theorem q2e {v t : q7} (hv : o4q v) (ht : t.length <= 60) (hx : ∀ x ∈ t, -24 <= x) : y1q t v = some (t.all fun x => decide (x < 0 -> -1 - x ∈ v)) := by
 unfold y1q
 refine q1j (xs := t) (fun i x hi hi' hm hg => ?_) (by simp [m9q])
 have := hx x hm
 simp only [m9q, hi', decide_true, if_true, show (0 : Int) <= i by omega, and_self, itn, hg, e7 (n := (i : Int) + 1) (by omega) (by omega)]
 by_cases h0 : x < 0
 ·simp only [h0, decide_true, if_true, e7 (n := -1 - x) (by omega) (by omega), q2d hv, obz, true_implies]
  by_cases h : -1 - x ∈ v <;> simp [h]
 ·simp [h0]
abbrev CRl := q7 × q7 × Ty3
abbrev CSy := q7 × List CRl
def q7y (b t : q7) : Bool := t.all fun x => decide (x < 0 -> x ∈ b)
def k1p (a : q7) (c : q7 × q7) : Bool := z8 a c.1 && z8 a c.2
def q0f (a : q7) : q7 -> Ty3 -> q7 -> Bool
 | b, [], r => q7y b r
 | b, c :: cs, r => k1p a c && (q7y b c.1 && q0f a (b ++ c.2) cs r)
def q1g (a : q7) (r : CRl) : Bool := z8 a r.1 && (z8 a r.2.1 && (decide (0 <= r.1.headD 0) && (decide (r.2.2.length <= 2) && q0f a r.1 r.2.2 r.2.1)))
def p7q (cs : CSy) : Bool := w7q cs.1 && (decide (cs.2.length <= 12) && cs.2.all (q1g cs.1))
theorem z3v {v b t : q7} (h : ∀ x : Int, x < 0 -> (-1 - x ∈ v ↔ x ∈ b)) : (t.all fun x => decide (x < 0 -> -1 - x ∈ v)) = q7y b t := by
 unfold q7y
 congr 1
 funext x
 by_cases hx : x < 0
 ·simp [hx, h x hx]
 ·simp [hx]
theorem z8l {v b t : q7} (h : ∀ x : Int, x < 0 -> (-1 - x ∈ v ↔ x ∈ b)) : ∀ x : Int, x < 0 -> (-1 - x ∈ b9 v t ↔ x ∈ b ++ t) := fun x hx => by
 rw [e1q, h x hx, List.mem_append]
 constructor
 ·rintro (h | ⟨y, h1, h2, h3⟩)
  ·exact .inl h
  ·obtain rfl : x = y := by omega
   exact .inr h1
 ·rintro (h | h)
  ·exact .inl h
  ·exact .inr ⟨x, h, hx, rfl⟩
theorem k4k (a : q7) (c : q7 × q7) : e7q a c = some (k1p a c) := by
 unfold e7q k1p
 rw [k4q, obz]
 cases z8 a c.1 with
 | false => simp
 | true => simp [k4q]
theorem k1a (a : q7) (r : CRl) : c9q a r = some (q1g a r) := by
 unfold c9q q1g
 rw [k4q, obz]
 cases h1 : z8 a r.1 with
 | false => simp
 | true =>
  simp only [if_true, k4q, obz, Bool.true_and]
  cases h2 : z8 a r.2.1 with
  | false => simp
  | true =>
   obtain ⟨_, l1, l2, l3⟩ := j4.1 h1
   obtain ⟨_, r1, r2, r3⟩ := j4.1 h2
   have e3 : (0 : Int) < r.1.length := by omega
   simp only [if_true, Int.le_refl, Nat.le_refl, e3, and_self, Bool.true_and, and_true, true_and]
   rw [q7b (by omega)]
   by_cases h0 : r.1.headD 0 < 0
   ·simp [-List.headD_eq_head?_getD, h0, show ¬ 0 <= r.1.headD 0 by omega]
   ·simp only [h0, decide_false, bft, if_false, show 0 <= r.1.headD 0 by omega, decide_true, Bool.true_and]
    by_cases hc : r.2.2.length <= 2
    ·rw [if_neg (by simp only [decide_eq_true_eq]; omega)]
     simp only [hc, decide_true, Bool.true_and]
     rw [k7q (by simp) l2 fun x hx => (l3.all x hx).1, obz]
     have key : ∀ (ms : Ty3) (i : Nat) (v b : q7), r.2.2.drop i = ms -> i + ms.length = r.2.2.length -> v.length <= 60 + 60 * i -> (∀ x : Int, x < 0 -> (-1 - x ∈ v ↔ x ∈ b)) ->
      loopC (v2q a r) (v, (i : Int)) = some (q0f a b ms r.2.1) := by
      intro ms
      induction ms with
      | nil =>
       intro i v b hd hi hv hb
       obtain rfl : i = r.2.2.length := by simpa using hi
       refine x8 ?_
       simp only [v2q, Int.lt_irrefl, decide_false, bft, if_false, q2e (show v.length < _ by omega) r2 fun x hx => (r3.all x hx).1, obz, z3v hb, q0f]
       rfl
      | cons c ms ih =>
       intro i v b hd hi hv hb
       obtain ⟨g1, g2, g3⟩ := n5q hd
       simp only [List.length_cons] at hi
       have hf : v2q a r (v, (i : Int)) = (e7q a c).bind fun r_4 => if r_4 = true then (y1q c.1 v).bind fun r_5 => if r_5 = true then (r4 v c.2).bind fun r_6 => some (.inl (r_6, (i : Int) + 1)) else some (.inr false) else some (.inr false) := by
        simp only [v2q, show (i : Int) < r.2.2.length by omega, show (0 : Int) <= i by omega, and_self, decide_true, if_true, itn, g2, e7 (n := (i : Int) + 1) (by omega) (by omega)]
        rfl
       rw [k4k, obz] at hf
       rw [q0f]
       cases he : k1p a c with
       | false =>
        rw [he] at hf
        exact x8 (by rw [hf]; rfl)
       | true =>
        rw [he, if_pos rfl] at hf
        simp only [k1p, Bool.and_eq_true] at he
        obtain ⟨_, _, c2, c3⟩ := j4.1 he.1
        obtain ⟨_, _, d2, d3⟩ := j4.1 he.2
        rw [q2e (show v.length < _ by omega) c2 (fun x hx => (c3.all x hx).1), obz, z3v hb] at hf
        cases hw : q7y b c.1 with
        | false =>
         rw [hw] at hf
         exact x8 (by rw [hf]; rfl)
        | true =>
         rw [hw, if_pos rfl, k7q (by omega) d2 (fun x hx => (d3.all x hx).1), obz] at hf
         rw [p9 hf, show ((i : Int) + 1) = ((i + 1 : Nat) : Int) by omega]
         have hl := f9q (t := c.2) (v := v)
         rw [ih (i + 1) (b9 v c.2) (b ++ c.2) g3 (by omega) (by omega) (z8l hb)]
         simp
     have hl := f9q (t := r.1) (v := [])
     have := key r.2.2 0 (b9 [] r.1) r.1 (by simp) (by simp) (by simp at hl; omega) (by
      have := z8l (v := []) (b := []) (t := r.1) (by simp)
      simpa using this)
     simpa using this
    ·rw [if_pos (by simp only [decide_eq_true_eq]; omega)]
     simp [hc]
theorem q2a (cs : CSy) : g6q cs = some (p7q cs) := by
 unfold g6q p7q
 rw [q2b, obz]
 cases w7q cs.1 with
 | false => simp
 | true =>
  by_cases hl : cs.2.length <= 12
  ·rw [if_pos rfl, if_neg (by simp; omega)]
   simp only [Bool.true_and, hl, decide_true]
   refine q1j (xs := cs.2) (fun i x hi hi' hm hg => ?_) (by simp [m8q])
   simp only [m8q, hi', decide_true, if_true, show (0 : Int) <= i by omega, and_self, itn, hg, e7 (n := (i : Int) + 1) (by omega) (by omega)]
   rw [k1a, obz]
   cases q1g cs.1 x <;> simp
  ·rw [if_pos rfl, if_pos (by simp; omega)]
   simp [hl]
def Le {α : Type} (x y : Option α) : Prop := ∀ a, x = some a -> y = some a
theorem Le.refl {α : Type} (x : Option α) : Le x x := fun _ h => h
theorem Le.none {α : Type} (y : Option α) : Le (none : Option α) y := fun _ h => by cases h
theorem Le.bind {α β : Type} {x y : Option α} {f g : α -> Option β} (h : Le x y) (hf : ∀ a, Le (f a) (g a)) : Le (x.bind f) (y.bind g) := fun b hb => by
 obtain ⟨a, h1, h2⟩ := Option.bind_eq_some_iff.1 hb
 rw [h a h1]; exact hf a b h2
theorem Le.ite {α : Type} {c : Prop} [Decidable c] {x y x' y' : Option α} (h : c -> Le x y) (h' : ¬ c -> Le x' y') : Le (if c then x else x') (if c then y else y') := by
 by_cases hc : c
 ·rw [if_pos hc, if_pos hc]; exact h hc
 ·rw [if_neg hc, if_neg hc]; exact h' hc
theorem Le.loop {σ β : Type} {f g : σ -> Option (σ ⊕ β)} (h : ∀ s, Le (f s) (g s)) (s : σ) : Le (loopC f s) (loopC g s) := fun b hb => by
 obtain ⟨n, hn⟩ := a6q hb
 have key : ∀ n s, q9k f n s b -> loopC g s = some b := by
  intro n
  induction n with
  | zero => intro s hr; cases hr
  | succ n ih =>
   intro s hr
   rcases hr with hr | ⟨s', h1, h2⟩
   ·exact x8 (h s _ hr)
   ·rw [p9 (h s _ h1)]; exact ih s' h2
 exact key n s hn
theorem Le.fuel {α : Type} {f : Nat -> Option α} (h : ∀ n, Le (f n) (f (n + 1))) : ∀ {m n : Nat}, m <= n -> Le (f m) (f n) := fun {m n} hmn => by
 induction hmn with
 | refl => exact Le.refl _
 | step _ ih => exact fun a ha => h _ a (ih a ha)
theorem k9j {α : Type} {f : Nat -> Option α} (h : ∀ n, Le (f n) (f (n + 1))) {n : Nat} {a : α} (hn : f n = some a) : j0j f = some a :=
 j4x n hn fun m b hb => by
  rcases Nat.le_total m n with hmn | hmn
  ·have := Le.fuel h hmn b hb
   rw [hn] at this; cases this; rfl
  ·have := Le.fuel h hmn a hn
   rw [hb] at this; cases this; rfl
abbrev x5t := CSy -> q7 -> Int -> Int -> Int -> Option (q7 × Bool)
abbrev LeS (f g : x5t) : Prop := ∀ cs t i r d, Le (f cs t i r d) (g cs t i r d)
section
variable {f g : x5t} (h : LeS f g)
include h
theorem z2v (cs : CSy) (t : q7) (d : Int) : Le (r7 f cs t d) (r7 g cs t d) := by
 unfold r7
 refine Le.loop (fun s => ?_) _
 obtain ⟨out, i⟩ := s
 unfold z3q
 refine Le.ite (fun _ => Le.loop (fun s => ?_) _) fun _ => Le.refl _
 obtain ⟨k, r⟩ := s
 unfold o8
 exact Le.ite (fun _ => Le.ite (fun _ => Le.bind (h _ _ _ _ _) fun _ => Le.refl _) fun _ => Le.refl _) fun _ => Le.refl _
theorem j5t (cs : CSy) (t : q7) (d : Int) : Le (k8q f cs t d) (k8q g cs t d) := by
 unfold k8q
 exact Le.bind (z2v h cs t d) fun _ => Le.refl _
theorem z5g (cs : CSy) (t : q7) (d : Int) : Le (c6 f cs t d) (c6 g cs t d) := by
 unfold c6
 refine Le.bind (Le.refl _) fun _ => Le.loop (fun s => ?_) _
 obtain ⟨now, k⟩ := s
 unfold q1q
 exact Le.bind (j5t h cs now d) fun _ => Le.ite (fun _ => Le.ite (fun _ => Le.refl _) fun _ => Le.bind (h _ _ _ _ _) fun _ => Le.refl _) fun _ => Le.refl _
theorem j0b (cs : CSy) (u : q7) (r : CRl) (d : Int) : Le (k9q f cs u r d) (k9q g cs u r d) := by
 unfold k9q
 refine Le.bind (Le.refl _) fun _ => Le.loop (fun s => ?_) _
 obtain ⟨b, ok, i⟩ := s
 unfold n5
 exact Le.ite (fun _ => Le.ite (fun _ => Le.ite (fun _ => Le.refl _) fun _ => Le.ite (fun _ => Le.bind (Le.refl _) fun _ => Le.ite (fun _ => Le.bind (z5g h _ _ _) fun _ => Le.refl _) fun _ => Le.refl _) fun _ => Le.refl _) fun _ => Le.refl _) fun _ => Le.refl _
end
theorem z3h : ∀ (n : Nat), LeS (p6 n) (p6 (n + 1))
 | 0 => fun cs t i r d => by rw [p6]; exact Le.none _
 | n + 1 => fun cs t i r d => by
  rw [p6, p6]
  exact Le.bind (Le.refl _) fun _ => Le.ite (fun _ => Le.bind (j0b (z3h n) _ _ _ _) fun _ => Le.refl _) fun _ => Le.refl _
def s6q (a : q7) (nf : q7 -> Option q7) : Ty3 -> Bd -> Option Bd
 | [], b => some b
 | c :: cs, b => (o5q (Tm.sig b) c.1).bind fun x => (nf x).bind fun y => (mat a c.2 y b).bind (s6q a nf cs)
def q9y (a : q7) (nf : Option (q7 -> Option q7)) (r : CRl) (u : q7) : Option Bd :=
 (mat a r.1 u j1q).bind fun b => if r.2.2 = [] then some b else match nf with | none => none | some f => s6q a f r.2.2 b
def csO (cs : CSy) (nf : Option (q7 -> Option q7)) (t : q7) (i k : Nat) : Option q7 :=
 (q9y cs.1 nf (cs.2.getD k default) (x7 cs.1 t i)).bind fun b => (o5q (Tm.sig b) (cs.2.getD k default).2.1).bind fun v => z2u cs.1 t i v
abbrev q2t := q7 -> Nat -> Nat -> Option q7
def r1q (st : q2t) (n : Nat) (t : q7) (i : Nat) : Option Nat := (List.range n).find? fun k => (st t i k).isSome
def k3b (cs : CSy) (st : q2t) (t : q7) (i : Nat) : Bool :=
 (r1q st cs.2.length t i).isSome && (List.range t.length).all fun p => decide (i < p /\ (p : Int) < k1o cs.1 t i -> r1q st cs.2.length t p = none)
def p9q (cs : CSy) (st : q2t) (t : q7) : Option (Nat × Nat) := ((List.range t.length).find? (k3b cs st t)).bind fun i => (r1q st cs.2.length t i).map fun k => (i, k)
def q7d (cs : CSy) (st : q2t) : Nat -> q7 -> Option q7
 | 0, t => match p9q cs st t with | none => some t | some _ => none
 | n + 1, t => match p9q cs st t with | none => some t | some p => (st t p.1 p.2).bind (q7d cs st n)
def stD (cs : CSy) : Nat -> q2t
 | 0 => csO cs none
 | d + 1 => csO cs (some (q7d cs (stD cs d) 8))
open Go Abx Tm
def kOf (st : q2t) (n : Nat) (t : q7) (i : Nat) : Int := match r1q st n t i with | some k => (k : Int) | none => -1
theorem z4z {st : q2t} {n : Nat} {t : q7} {i : Nat} : kOf st n t i < 0 ↔ r1q st n t i = none := by
 unfold kOf
 cases r1q st n t i with
 | none => simp
 | some k => simp
theorem k2a {st : q2t} {n : Nat} {t : q7} {i : Nat} : r1q st n t i = none ↔ ∀ k < n, st t i k = none := by
 unfold r1q
 rw [List.find?_eq_none]
 simp [List.mem_range]
theorem k2b {st : q2t} {n : Nat} {t : q7} {i k : Nat} : r1q st n t i = some k ↔ (k < n /\ (st t i k).isSome = true) /\ ∀ j < k, st t i j = none := by
 unfold r1q
 rw [List.find?_range_eq_some]
 simp only [List.mem_range, Bool.not_eq_true', Option.isSome_eq_false_iff, Option.isNone_iff_eq_none]
 constructor
 ·rintro ⟨h1, h2, h3⟩; exact ⟨⟨h2, h1⟩, h3⟩
 ·rintro ⟨⟨h2, h1⟩, h3⟩; exact ⟨h1, h2, h3⟩
section
variable {cs : CSy} {t : q7} {d : Int} {st : q2t} {rec : x5t}
theorem j0w (hn : cs.2.length <= 12) {i : Nat} (hi : i < 60) (h : ∀ k : Nat, k < cs.2.length -> rec cs t i k d = some (c4 (st t i k))) {out : q7} (ho : out.length <= 60) :
 loopC (o8 rec cs t d out i) (-1, 0) = some (.inl (out ++ [kOf st cs.2.length t i], (i : Int) + 1)) := by
 have hlen : (out.length + 1) * 8 <= 140737488355328 := by omega
 have key : ∀ m j : Nat, j + m = cs.2.length -> (∀ k < j, st t i k = none) -> loopC (o8 rec cs t d out i) (-1, (j : Int)) = some (.inl (out ++ [kOf st cs.2.length t i], (i : Int) + 1)) := by
  intro m
  induction m with
  | zero =>
   intro j hj hno
   obtain rfl : j = cs.2.length := by omega
   have e : kOf st cs.2.length t i = -1 := by unfold kOf; rw [k2a.2 hno]
   refine x8 ?_
   simp only [o8, Int.lt_irrefl, decide_false, bft, if_false, hlen, if_true, e, e7 (n := (i : Int) + 1) (by omega) (by omega)]
   rfl
  | succ m ih =>
   intro j hj hno
   have hf : o8 rec cs t d out i (-1, (j : Int)) = some (.inl (if (st t i j).isSome = true then ((j : Int), (j : Int) + 1) else (-1, (j : Int) + 1))) := by
    simp only [o8, show (j : Int) < cs.2.length by omega, show ((-1 : Int) < 0) by decide, decide_true, if_true, h j (by omega), obz, e7 (n := (j : Int) + 1) (by omega) (by omega)]
    cases st t i j <;> simp [c4]
   cases hs : st t i j with
   | none =>
    rw [hs] at hf
    rw [p9 hf]
    simp only [Option.isSome_none, bft, if_false]
    rw [show ((j : Int) + 1) = ((j + 1 : Nat) : Int) by omega]
    refine ih (j + 1) (by omega) fun k hk => ?_
    by_cases hkj : k = j
    ·rw [hkj]; exact hs
    ·exact hno k (by omega)
   | some u =>
    rw [hs] at hf
    rw [p9 hf]
    simp only [Option.isSome_some, if_true]
    have e : kOf st cs.2.length t i = j := by unfold kOf; rw [k2b.2 ⟨⟨by omega, by rw [hs]; rfl⟩, hno⟩]
    refine x8 ?_
    simp only [o8, show ¬ (j : Int) < 0 by omega, decide_false, bft, if_false, hlen, if_true, e, e7 (n := (i : Int) + 1) (by omega) (by omega), ite_self]
    rfl
 exact key cs.2.length 0 (by omega) fun k hk => by omega
theorem j0x (hn : cs.2.length <= 12) (ht : t.length <= 60) (h : ∀ i k : Nat, i < t.length -> k < cs.2.length -> rec cs t i k d = some (c4 (st t i k))) :
 r7 rec cs t d = some ((List.range t.length).map (kOf st cs.2.length t)) := by
 unfold r7
 have := f1q (n := t.length) (fun i => ((List.range i).map (kOf st cs.2.length t), (i : Int))) (c := (List.range t.length).map (kOf st cs.2.length t)) (f := z3q rec cs t d) (fun i hi => by
  simp only [z3q, show (i : Int) < t.length by omega, decide_true, if_true]
  rw [j0w hn (by omega) (fun k hk => h i k hi hk) (by simp; omega), List.range_succ, List.map_append]
  simp) (by simp [z3q])
 simpa using this
end
open Go Abx Tm
def j1r (o : Option (Nat × Nat)) : Int × Int × Bool := match o with | some p => ((p.1 : Int), (p.2 : Int), true) | none => (0, 0, false)
theorem q4a {a t : q7} (ht : z8 a t = true) {i : Nat} (hi : i < t.length) : (i : Int) < k1o a t i /\ k1o a t i <= t.length := by
 obtain ⟨_, _, _, hw⟩ := j4.1 ht
 obtain ⟨p, u, s, e, hp, hu⟩ := hw.place hi
 have hd : t.drop i = u ++ s := by rw [e, <- hp, List.drop_left]
 have hul := hu.len
 have hl := congrArg List.length e
 simp only [lap] at hl
 rw [q3c hd hu]
 omega
section
variable {cs : CSy} {t : q7} {d : Int} {st : q2t} {rec : x5t}
theorem z7g {n : Nat} {i : Nat} (hi : i < t.length) : ((List.range t.length).map (kOf st n t)).getD i default = kOf st n t i := by
 rw [y9 (by simpa using hi)]; simp
theorem j0u (ht : z8 cs.1 t = true) {i : Nat} (hi : i < t.length) :
 loopC (v5q cs t ((List.range t.length).map (kOf st cs.2.length t)) i) (true, (i : Int) + 1) =
  some (if ((List.range t.length).all fun p => decide (i < p /\ (p : Int) < k1o cs.1 t i -> r1q st cs.2.length t p = none)) = true then .inr ((i : Int), kOf st cs.2.length t i, true) else .inl ((i : Int) + 1)) := by
 obtain ⟨ha, _, hl, hw⟩ := j4.1 ht
 obtain ⟨e1, e2⟩ := q4a ht hi
 obtain ⟨e, he⟩ : ∃ e : Nat, k1o cs.1 t i = e := ⟨(k1o cs.1 t i).toNat, by omega⟩
 rw [he] at e1 e2
 have hend : z6q cs.1 t i = some (e : Int) := by rw [b9q ha (show t.length < _ by omega) (by omega), he]
 have := f1q (n := e - (i + 1)) (fun j => (decide (∀ q < i + 1 + j, i < q -> r1q st cs.2.length t q = none), (((i + 1 + j : Nat)) : Int))) (c := if ((List.range t.length).all fun p => decide (i < p /\ (p : Int) < k1o cs.1 t i -> r1q st cs.2.length t p = none)) = true then Sum.inr ((i : Int), kOf st cs.2.length t i, true) else Sum.inl ((i : Int) + 1))
  (f := v5q cs t ((List.range t.length).map (kOf st cs.2.length t)) i) (fun j hj => by
   have hp : i + 1 + j < t.length := by omega
   simp only [v5q, hend, obz, show ((i + 1 + j : Nat) : Int) < (e : Int) by omega, decide_true, if_true, show (0 : Int) <= ((i + 1 + j : Nat) : Int) by omega, List.length_map, List.length_range, show ((i + 1 + j : Nat) : Int) < t.length by omega, and_self, itn, z7g hp,
    e7 (n := ((i + 1 + j : Nat) : Int) + 1) (by omega) (by omega)]
   by_cases hc : ∀ q < i + 1 + j, i < q -> r1q st cs.2.length t q = none
   ·simp only [z4z]
    rw [decide_eq_true hc, if_pos rfl]
    refine congrArg (fun x => some (Sum.inl x)) ?_
    refine Prod.ext ?_ ?_
    ·show decide _ = decide _
     congr 1
     refine propext ⟨fun h q hq hiq => ?_, fun h => h _ (by omega) (by omega)⟩
     by_cases hqe : q = i + 1 + j
     ·rw [hqe]; exact h
     ·exact hc q (by omega) hiq
    ·show ((i + 1 + j : Nat) : Int) + 1 = ((i + 1 + (j + 1) : Nat) : Int)
     omega
   ·have hc' : ¬ ∀ q < i + 1 + (j + 1), i < q -> r1q st cs.2.length t q = none := fun h => hc fun q hq => h q (by omega)
    rw [decide_eq_false hc, if_neg (by decide), decide_eq_false hc']
    refine congrArg (fun x => some (Sum.inl x)) ?_
    refine Prod.ext rfl ?_
    show ((i + 1 + j : Nat) : Int) + 1 = ((i + 1 + (j + 1) : Nat) : Int)
    omega) (by
   have hs : i + 1 + (e - (i + 1)) = e := by omega
   simp only [v5q, hend, obz, hs, Int.lt_irrefl, decide_false, bft, if_false, List.length_map, List.length_range, show (0 : Int) <= i by omega, show (i : Int) < t.length by omega, and_self, if_true, itn, z7g hi, e7 (n := (i : Int) + 1) (by omega) (by omega), he]
   have hiff : (∀ q < e, i < q -> r1q st cs.2.length t q = none) ↔ ((List.range t.length).all fun p => decide (i < p /\ (p : Int) < (e : Int) -> r1q st cs.2.length t p = none)) = true := by
    simp only [List.all_eq_true, List.mem_range, decide_eq_true_eq]
    constructor
    ·rintro h q _ ⟨h1, h2⟩; exact h q (by omega) h1
    ·intro h q hq h1; exact h q (by omega) ⟨h1, by omega⟩
   by_cases hc : ∀ q < e, i < q -> r1q st cs.2.length t q = none
   ·rw [decide_eq_true hc, if_pos rfl, if_pos (hiff.1 hc)]; rfl
   ·rw [decide_eq_false hc, if_neg (by decide), if_neg fun h => hc (hiff.2 h)]; rfl)
 have h0 : decide (∀ q < i + 1 + 0, i < q -> r1q st cs.2.length t q = none) = true := decide_eq_true fun q hq h => by omega
 rw [h0] at this
 simpa using this
theorem k9v (hn : cs.2.length <= 12) (ht : z8 cs.1 t = true) (h : ∀ i k : Nat, i < t.length -> k < cs.2.length -> rec cs t i k d = some (c4 (st t i k))) :
 k8q rec cs t d = some (j1r (p9q cs st t)) := by
 obtain ⟨ha, _, hl, hw⟩ := j4.1 ht
 unfold k8q
 rw [j0x hn hl h, obz]
 have key : ∀ m i : Nat, i + m = t.length -> (∀ j < i, k3b cs st t j = false) -> loopC (q3q cs t ((List.range t.length).map (kOf st cs.2.length t))) (i : Int) = some (j1r (p9q cs st t)) := by
  intro m
  induction m with
  | zero =>
   intro i hi hno
   obtain rfl : i = t.length := by omega
   have e : p9q cs st t = none := by
    unfold p9q
    rw [List.find?_eq_none.2 (fun j hj => by rw [hno j (List.mem_range.1 hj)]; decide)]; rfl
   exact x8 (by simp [q3q, e, j1r])
  | succ m ih =>
   intro i hi hno
   have hil : i < t.length := by omega
   have hnext : k3b cs st t i = false -> loopC (q3q cs t ((List.range t.length).map (kOf st cs.2.length t))) ((i : Int) + 1) = some (j1r (p9q cs st t)) := fun hf => by
    rw [show ((i : Int) + 1) = ((i + 1 : Nat) : Int) by omega]
    refine ih (i + 1) (by omega) fun j hj => ?_
    by_cases hji : j = i
    ·rw [hji]; exact hf
    ·exact hno j (by omega)
   cases hr : r1q st cs.2.length t i with
   | none =>
    have hk : kOf st cs.2.length t i < 0 := z4z.2 hr
    have hf : q3q cs t ((List.range t.length).map (kOf st cs.2.length t)) (i : Int) = some (.inl ((i : Int) + 1)) := by
     simp only [q3q, show (i : Int) < t.length by omega, decide_true, if_true, show (0 : Int) <= i by omega, List.length_map, List.length_range, and_self, itn, z7g hil, hk, e7 (n := (i : Int) + 1) (by omega) (by omega)]
    rw [p9 hf]
    exact hnext (by unfold k3b; rw [hr]; rfl)
   | some k =>
    have hk : ¬ kOf st cs.2.length t i < 0 := fun h => by rw [z4z.1 h] at hr; cases hr
    have hkk : kOf st cs.2.length t i = k := by unfold kOf; rw [hr]
    have hf : q3q cs t ((List.range t.length).map (kOf st cs.2.length t)) (i : Int) = some (if k3b cs st t i = true then .inr ((i : Int), (k : Int), true) else .inl ((i : Int) + 1)) := by
     simp only [q3q, show (i : Int) < t.length by omega, decide_true, if_true, show (0 : Int) <= i by omega, List.length_map, List.length_range, and_self, itn, z7g hil, hk, decide_false, bft, if_false, e7 (n := (i : Int) + 1) (by omega) (by omega), j0u ht hil]
     unfold k3b
     rw [hr, hkk]
     simp
    cases hq : k3b cs st t i with
    | false => rw [hq] at hf; rw [p9 hf]; exact hnext hq
    | true =>
     rw [hq] at hf
     have e : p9q cs st t = some (i, k) := by
      unfold p9q
      have : (List.range t.length).find? (k3b cs st t) = some i := List.find?_range_eq_some.2 ⟨hq, List.mem_range.2 hil, fun j hj => by rw [hno j hj]; rfl⟩
      rw [this, obz, hr]; rfl
     exact x8 (by rw [hf, e]; rfl)
 have := key t.length 0 (by omega) fun j hj => by omega
 simpa using this
end
open Go Abx Tm
theorem l4q {cs : CSy} {st : q2t} {t : q7} {p : Nat × Nat} (h : p9q cs st t = some p) : p.1 < t.length /\ p.2 < cs.2.length /\ (st t p.1 p.2).isSome = true := by
 unfold p9q at h
 obtain ⟨i, h1, h2⟩ := Option.bind_eq_some_iff.1 h
 obtain ⟨k, h3, h4⟩ := Option.map_eq_some_iff.1 h2
 subst h4
 obtain ⟨_, hm, _⟩ := List.find?_range_eq_some.1 h1
 obtain ⟨⟨g1, g2⟩, _⟩ := k2b.1 h3
 exact ⟨List.mem_range.1 hm, g1, g2⟩
abbrev k1f (cs : CSy) (st : q2t) : Prop := ∀ t i k u, z8 cs.1 t = true -> i < t.length -> k < cs.2.length -> st t i k = some u -> z8 cs.1 u = true
abbrev x5s (cs : CSy) (d : Int) (st : q2t) (rec : x5t) : Prop := ∀ (t : q7) (i k : Nat), z8 cs.1 t = true -> i < t.length -> k < cs.2.length -> rec cs t i k d = some (c4 (st t i k))
theorem q6s {cs : CSy} {st : q2t} (hk : k1f cs st) : ∀ {n : Nat} {t u : q7}, z8 cs.1 t = true -> q7d cs st n t = some u -> z8 cs.1 u = true
 | 0, t, u, ht, h => by
  rw [q7d] at h
  cases hp : p9q cs st t with
  | none => rw [hp] at h; cases h; exact ht
  | some p => rw [hp] at h; cases h
 | n + 1, t, u, ht, h => by
  rw [q7d] at h
  cases hp : p9q cs st t with
  | none => rw [hp] at h; cases h; exact ht
  | some p =>
   rw [hp] at h
   obtain ⟨v, h1, h2⟩ := Option.bind_eq_some_iff.1 h
   obtain ⟨p1, p2, _⟩ := l4q hp
   exact q6s hk (hk _ _ _ _ ht p1 p2 h1) h2
theorem j5n {cs : CSy} {d : Int} {st : q2t} {rec : x5t} (hn : cs.2.length <= 12) (hk : k1f cs st) (hr : x5s cs d st rec) {t : q7} (ht : z8 cs.1 t = true) :
 c6 rec cs t d = some (c4 (q7d cs st 8 t)) := by
 have key : ∀ (n : Nat) (now : q7), n <= 8 -> z8 cs.1 now = true -> loopC (q1q rec cs d) (now, ((8 - n : Nat) : Int)) = some (c4 (q7d cs st n now)) := by
  intro n
  induction n with
  | zero =>
   intro now _ hw
   refine x8 ?_
   simp only [q1q, k9v hn hw (fun i k hi hk => hr now i k hw hi hk), obz, q7d]
   cases p9q cs st now with
   | none => simp [j1r, c4]
   | some p => simp [j1r, c4]
  | succ n ih =>
   intro now h8 hw
   have hne : (((8 - (n + 1) : Nat) : Int) == 8) = false := beq_eq_false_iff_ne.2 (by omega)
   cases hp : p9q cs st now with
   | none =>
    refine x8 ?_
    simp only [q1q, k9v hn hw (fun i k hi hk => hr now i k hw hi hk), obz, q7d, hp]
    simp [j1r, c4]
   | some p =>
    obtain ⟨p1, p2, p3⟩ := l4q hp
    obtain ⟨u, hu⟩ := Option.isSome_iff_exists.1 p3
    have hf : q1q rec cs d (now, ((8 - (n + 1) : Nat) : Int)) = some (.inl (u, ((8 - n : Nat) : Int))) := by
     simp only [q1q, k9v hn hw (fun i k hi hk => hr now i k hw hi hk), obz, hp, j1r, if_true, hne, bft, if_false, hr now p.1 p.2 hw p1 p2, hu, c4]
     rw [e7 (by omega) (by omega), show ((8 - (n + 1) : Nat) : Int) + 1 = ((8 - n : Nat) : Int) by omega]
    rw [p9 hf, ih u (by omega) (hk _ _ _ _ hw p1 p2 hu), q7d, hp]
    simp only [hu, obz]
 obtain ⟨_, _, hl, _⟩ := j4.1 ht
 unfold c6
 rw [b7 (show t.length < _ by omega), obz]
 exact key 8 t (by omega) ht
theorem x1x {a p u q v : q7} (hu : Wf a 1 u) : z2u a (p ++ (u ++ q)) p.length v = if (p ++ (v ++ q)).length <= 60 then some (p ++ (v ++ q)) else none := by
 unfold z2u; rw [k6a hu]
structure GdB (a : q7) (b : Bd) : Prop where
 len : b.length = 24
 to : ∀ u ∈ b, u.length <= 60
 wf : ∀ n, n < 0 -> r5 b n = [] ∨ Wf a 1 (r5 b n)
theorem GdB.sub {a : q7} {b : Bd} (h : GdB a b) : SubF a b := ⟨by rw [h.len]; decide, h.to, fun x h1 h2 => by
 unfold Tm.sig
 rcases h.wf x h2 with hb | hb
 ·rw [if_pos hb]; exact Wf.cons_iff.2 ⟨⟨h1, by omega⟩, by simp [ari, h2]; exact Wf.nil⟩
 ·rw [if_neg hb.ne]; exact hb⟩
theorem q6o {a : q7} : GdB a j1q := ⟨by simp [j1q], fun u hu => by simp [j1q] at hu; rw [hu]; simp, fun n _ => .inl (z1d n)⟩
theorem q7s {a p t : q7} {b b' : Bd} (h : GdB a b) (hp : z8 a p = true) (ht : z8 a t = true) (hm : mat a p t b = some b') :
 GdB a b' /\ t = Tm.sub (r5 b') p /\ (∀ n ∈ p, n < 0 -> r5 b' n ≠ []) /\ ∀ n, n < 0 -> r5 b n ≠ [] -> r5 b' n = r5 b n := by
 obtain ⟨_, _, _, hpw⟩ := j4.1 hp
 obtain ⟨_, _, htl, htw⟩ := j4.1 ht
 obtain ⟨e1, l1, k1, w1, n1⟩ := k0f hpw htw h.len hm
 obtain ⟨_, s2⟩ := q0h hm h.to htl h.len
 refine ⟨⟨l1, s2, fun n hn => ?_⟩, e1, fun n hnp hn => ?_, k1⟩
 ·by_cases hnp : n ∈ p
  ·rcases w1 n hnp hn with h1 | ⟨h1, h2⟩
   ·exact .inr h1
   ·rw [<- h1]; exact h.wf n hn
  ·rw [n1 n hn hnp]; exact h.wf n hn
 ·rcases w1 n hnp hn with h1 | ⟨h1, h2⟩
  ·exact h1.ne
  ·rw [<- h1]; exact h2
abbrev KnB (b : Bd) (l : q7) : Prop := ∀ n ∈ l, n < 0 -> r5 b n ≠ []
theorem KnB.app {b b' : Bd} {l p : q7} (h : KnB b l) (h1 : ∀ n ∈ p, n < 0 -> r5 b' n ≠ []) (h2 : ∀ n, n < 0 -> r5 b n ≠ [] -> r5 b' n = r5 b n) : KnB b' (l ++ p) := fun n hn h0 => by
 rcases List.mem_append.1 hn with hn | hn
 ·rw [h2 n h0 (h n hn h0)]; exact h n hn h0
 ·exact h1 n hn h0
theorem KnB.var {b : Bd} {l t : q7} (h : KnB b l) (hv : q7y l t = true) : KnB b t := fun n hn h0 => by
 simp only [q7y, List.all_eq_true, decide_eq_true_eq] at hv
 exact h n (hv n hn h0) h0
theorem q4t {a : q7} {b : Bd} {t x : q7} (h : GdB a b) (ht : z8 a t = true) (hx : o5q (Tm.sig b) t = some x) : z8 a x = true := by
 obtain ⟨ha, _, _, hw⟩ := j4.1 ht
 unfold o5q at hx
 split at hx
 ·rename_i hl
  cases hx
  exact n6q ha (y7o h.sub.wf hw) hl
 ·cases hx
theorem z1n {a : q7} {nf : q7 -> Option q7} (hnf : ∀ x y, z8 a x = true -> nf x = some y -> z8 a y = true) : ∀ {cs : Ty3} {b b' : Bd} {l r : q7}, q0f a l cs r = true -> GdB a b -> KnB b l -> s6q a nf cs b = some b' -> GdB a b' /\ KnB b' r
 | [], b, b', l, r, hc, hg, hk, h => by
  cases h
  exact ⟨hg, hk.var hc⟩
 | c :: cs, b, b', l, r, hc, hg, hk, h => by
  rw [q0f, Bool.and_eq_true, Bool.and_eq_true] at hc
  obtain ⟨h1, h2, h3⟩ := hc
  simp only [k1p, Bool.and_eq_true] at h1
  rw [s6q] at h
  obtain ⟨x, g1, h⟩ := Option.bind_eq_some_iff.1 h
  obtain ⟨y, g2, h⟩ := Option.bind_eq_some_iff.1 h
  obtain ⟨b2, g3, h⟩ := Option.bind_eq_some_iff.1 h
  have hx := q4t hg h1.1 g1
  obtain ⟨m1, _, m3, m4⟩ := q7s hg h1.2 (hnf x y hx g2) g3
  exact z1n hnf h3 m1 (hk.app m3 m4) h
theorem i4 {a : q7} {r : CRl} : q1g a r = true ↔ z8 a r.1 = true /\ z8 a r.2.1 = true /\ 0 <= r.1.headD 0 /\ r.2.2.length <= 2 /\ q0f a r.1 r.2.2 r.2.1 = true := by simp [q1g]
theorem y4q {cs : CSy} : p7q cs = true ↔ w7q cs.1 = true /\ cs.2.length <= 12 /\ ∀ r ∈ cs.2, q1g cs.1 r = true := by simp [p7q]
theorem z2g {a : q7} {nf : Option (q7 -> Option q7)} {r : CRl} {u : q7} {b : Bd} (hr : q1g a r = true) (hu : z8 a u = true) (hnf : ∀ f, nf = some f -> ∀ x y, z8 a x = true -> f x = some y -> z8 a y = true) (h : q9y a nf r u = some b) : GdB a b /\ KnB b r.2.1 := by
 obtain ⟨h1, h2, _, _, h5⟩ := i4.1 hr
 unfold q9y at h
 obtain ⟨b0, g1, h⟩ := Option.bind_eq_some_iff.1 h
 obtain ⟨m1, _, m3, m4⟩ := q7s q6o h1 hu g1
 split at h
 ·rename_i hc
  cases h
  rw [hc] at h5
  exact ⟨m1, KnB.var m3 h5⟩
 ·cases nf with
  | none => cases h
  | some f => exact z1n (hnf f rfl) h5 m1 m3 h
theorem x4m {cs : CSy} {nf : Option (q7 -> Option q7)} (hc : p7q cs = true) (hnf : ∀ f, nf = some f -> ∀ x y, z8 cs.1 x = true -> f x = some y -> z8 cs.1 y = true) : k1f cs (csO cs nf) := fun t i k u ht hi hk h => by
 obtain ⟨ha, _, hr⟩ := y4q.1 hc
 obtain ⟨_, _, _, hw⟩ := j4.1 ht
 have hrk := hr _ (u4 hk)
 obtain ⟨h1, h2, _, _, _⟩ := i4.1 hrk
 obtain ⟨p, s, q, e, hp, hs⟩ := hw.place hi
 have hat : x7 cs.1 t i = s := by rw [e, <- hp]; exact k8o hs
 unfold csO at h
 obtain ⟨b, g1, h⟩ := Option.bind_eq_some_iff.1 h
 obtain ⟨v, g2, h⟩ := Option.bind_eq_some_iff.1 h
 have hsl : s.length <= 60 := by have := (j4.1 ht).2.2.1; rw [e] at this; simp at this; omega
 rw [hat] at g1
 obtain ⟨m1, m2⟩ := z2g hrk (n6q ha hs hsl) hnf g1
 have hv := q4t m1 h2 g2
 rw [e, <- hp, x1x hs] at h
 split at h
 ·rename_i hl
  cases h
  exact n6q ha (Wf.put hs (j4.1 hv).2.2.2 (by rw [<- e]; exact hw)) hl
 ·cases h
theorem q7x {cs : CSy} (hc : p7q cs = true) : ∀ d, k1f cs (stD cs d)
 | 0 => x4m hc fun f h => by cases h
 | d + 1 => x4m hc fun f h x y hx hy => by
  cases h
  exact q6s (q7x hc d) hx hy
theorem z7h {a p t : q7} {b : Bd} (hp : z8 a p = true) (ht : z8 a t = true) (hg : GdB a b) : ∃ q, m7 a b p t = some q /\ z3z (mat a p t b) q := by
 have h := q5n hp ht hg.len hg.to
 obtain ⟨q, hq⟩ := h.2 trivial
 exact ⟨q, hq, h.1 q hq⟩
section
variable {cs : CSy} {d : Int} {rec : x5t} {r : CRl}
theorem k5l {g : Bd} {j : Int} : loopC (n5 rec cs r d) (g, false, j) = some (g, false) := by
 refine x8 ?_
 by_cases h : j < (r.2.2.length : Int) <;> simp [n5, h]
theorem j0a {nf : q7 -> Option q7} (hd : d ≠ 0) (hnf : ∀ x, z8 cs.1 x = true -> c6 rec cs x (IntKind.i64.wrap (d - 1)) = some (c4 (nf x)))
 (hkeep : ∀ x y, z8 cs.1 x = true -> nf x = some y -> z8 cs.1 y = true) (hr : r.2.2.length <= 2) :
 ∀ (ms : Ty3) (i : Nat) (b : Bd) (l : q7), r.2.2.drop i = ms -> i + ms.length = r.2.2.length -> q0f cs.1 l ms r.2.1 = true -> GdB cs.1 b -> KnB b l ->
  ∃ q, loopC (n5 rec cs r d) (b, true, (i : Int)) = some q /\ z3z (s6q cs.1 nf ms b) q := by
 intro ms
 induction ms with
 | nil =>
  intro i b l hdr hi hc hg hk
  obtain rfl : i = r.2.2.length := by simpa using hi
  exact ⟨(b, true), x8 (by simp [n5]), rfl⟩
 | cons c ms ih =>
  intro i b l hdr hi hc hg hk
  simp only [List.length_cons] at hi
  obtain ⟨g1, g2, g3⟩ := n5q hdr
  rw [q0f, Bool.and_eq_true, Bool.and_eq_true] at hc
  obtain ⟨h1, h2, h3⟩ := hc
  simp only [k1p, Bool.and_eq_true] at h1
  have hd' : (d == 0) = false := beq_eq_false_iff_ne.2 hd
  have hf : n5 rec cs r d (b, true, (i : Int)) = (e8 b c.1).bind fun r_2 => if r_2.2 = true then (c6 rec cs r_2.1 (IntKind.i64.wrap (d - 1))).bind fun r_3 => if r_3.2 = true then (m7 cs.1 b c.2 r_3.1).bind fun r_4 => some (.inl (r_4.1, r_4.2, (i : Int) + 1)) else some (.inr (b, false)) else some (.inr (b, false)) := by
   simp only [n5, show (i : Int) < r.2.2.length by omega, show (0 : Int) <= i by omega, and_self, decide_true, if_true, itn, g2, hd', bft, if_false, e7 (n := (i : Int) + 1) (by omega) (by omega)]
   rfl
  rw [(q9v hg.sub h1.1).2, obz] at hf
  rw [s6q]
  cases hx : o5q (Tm.sig b) c.1 with
  | none =>
   rw [hx] at hf
   exact ⟨(b, false), x8 (by rw [hf]; rfl), rfl⟩
  | some x =>
   have hxo := q4t hg h1.1 hx
   rw [hx] at hf
   simp only [c4, if_true, hnf x hxo, obz] at hf
   rw [obz]
   cases hy : nf x with
   | none =>
    rw [hy] at hf
    exact ⟨(b, false), x8 (by rw [hf]; rfl), rfl⟩
   | some y =>
    have hyo := hkeep x y hxo hy
    obtain ⟨q, q1, q2⟩ := z7h h1.2 hyo hg
    rw [hy] at hf
    simp only [c4, if_true, q1, obz] at hf
    rw [obz, p9 hf]
    cases hm : mat cs.1 c.2 y b with
    | none =>
     rw [hm] at q2
     have q2' : q.2 = false := q2
     rw [q2']
     exact ⟨(q.1, false), k5l, rfl⟩
    | some b2 =>
     rw [hm] at q2
     have q2' : q = (b2, true) := q2
     rw [q2', obz, show ((i : Int) + 1) = ((i + 1 : Nat) : Int) by omega]
     obtain ⟨m1, _, m3, m4⟩ := q7s hg h1.2 hyo hm
     exact ih (i + 1) b2 (l ++ c.2) g3 (by omega) h3 m1 (hk.app m3 m4)
theorem x0m {nf : q7 -> Option q7} {nfo : Option (q7 -> Option q7)} (hd : (d = 0 /\ nfo = none) ∨ (d ≠ 0 /\ nfo = some nf /\ (∀ x, z8 cs.1 x = true -> c6 rec cs x (IntKind.i64.wrap (d - 1)) = some (c4 (nf x))) /\ ∀ x y, z8 cs.1 x = true -> nf x = some y -> z8 cs.1 y = true))
 (hr : q1g cs.1 r = true) {u : q7} (hu : z8 cs.1 u = true) : ∃ q, k9q rec cs u r d = some q /\ z3z (q9y cs.1 nfo r u) q := by
 obtain ⟨h1, h2, _, h4, h5⟩ := i4.1 hr
 obtain ⟨q, q1, q2⟩ := z7h h1 hu (q6o (a := cs.1))
 unfold k9q q9y
 have q1' : m7 cs.1 (List.replicate 24 []) r.1 u = some q := q1
 rw [q1', obz]
 cases hm : mat cs.1 r.1 u j1q with
 | none =>
  rw [hm] at q2
  have q2' : q.2 = false := q2
  rw [q2']
  exact ⟨(q.1, false), k5l, rfl⟩
 | some b =>
  rw [hm] at q2
  have q2' : q = (b, true) := q2
  obtain ⟨m1, _, m3, m4⟩ := q7s q6o h1 hu hm
  rw [q2', obz]
  by_cases hc : r.2.2 = []
  ·rw [if_pos hc]
   exact ⟨(b, true), x8 (by simp [n5, hc]), rfl⟩
  ·rw [if_neg hc]
   rcases hd with ⟨d0, rfl⟩ | ⟨d1, rfl, hnf, hkeep⟩
   ·have hlen : 0 < r.2.2.length := List.length_pos_iff.2 hc
    exact ⟨(b, false), x8 (by simp [n5, d0, show (0 : Int) < r.2.2.length by omega, hc]), rfl⟩
   ·exact j0a d1 hnf hkeep h4 r.2.2 0 b r.1 (by simp) (by simp) h5 m1 m3
end
theorem z3c {cs : CSy} (hc : p7q cs = true) : ∀ (d : Nat), d <= 2 -> x5s cs (d : Int) (stD cs d) (p6 (d + 1)) := by
 obtain ⟨ha, hn, hrs⟩ := y4q.1 hc
 have body : ∀ (n : Nat) (d : Int) (nf : q7 -> Option q7) (nfo : Option (q7 -> Option q7)),
  ((d = 0 /\ nfo = none) ∨ (d ≠ 0 /\ nfo = some nf /\ (∀ x, z8 cs.1 x = true -> c6 (p6 n) cs x (IntKind.i64.wrap (d - 1)) = some (c4 (nf x))) /\ ∀ x y, z8 cs.1 x = true -> nf x = some y -> z8 cs.1 y = true)) ->
  x5s cs d (csO cs nfo) (p6 (n + 1)) := by
  intro n d nf nfo hd t i k ht hi hk
  obtain ⟨_, _, hl, hw⟩ := j4.1 ht
  have hrk := hrs _ (u4 hk)
  obtain ⟨h1, h2, _, _, _⟩ := i4.1 hrk
  obtain ⟨p, s, q, e, hp, hs, f4, _, f6⟩ := x1v ht (i := (i : Int)) (by omega) (by omega)
  have hpi : p.length = i := by omega
  have hsl : s.length <= 60 := by rw [e] at hl; simp at hl; omega
  have hso := n6q ha hs hsl
  rw [itn] at f4
  obtain ⟨g, g1, g2⟩ := x0m (rec := p6 n) hd hrk hso
  rw [p6, f6, obz, if_pos ⟨by omega, by omega⟩, itn]
  have g1' : k9q (p6 n) cs s ((cs.2.getD k default).1, (cs.2.getD k default).2.1, (cs.2.getD k default).2.2) d = some g := g1
  rw [g1', obz]
  unfold csO
  rw [f4]
  cases hg : q9y cs.1 nfo (cs.2.getD k default) s with
  | none =>
   rw [hg] at g2
   have g2' : g.2 = false := g2
   simp [g2', c4]
  | some b =>
   rw [hg] at g2
   have g2' : g = (b, true) := g2
   obtain ⟨m1, m2⟩ := z2g hrk hso (fun f hf x y hx hy => by
    rcases hd with ⟨_, hd2⟩ | ⟨_, hd2, _, hd4⟩
    ·rw [hd2] at hf; cases hf
    ·rw [hd2] at hf; cases hf; exact hd4 x y hx hy) hg
   simp only [g2', if_true, show (0 : Int) <= k /\ (k : Int) < cs.2.length from ⟨by omega, by omega⟩, and_self, (q9v m1.sub h2).2, obz]
   cases hv : o5q (Tm.sig b) (cs.2.getD k default).2.1 with
   | none => simp [c4]
   | some v =>
    have hvo := q4t m1 h2 hv
    have hput : n4q cs.1 t i v = some (c4 (z2u cs.1 t i v)) := by
     have := q6b (p := p) (s := q) ha hs (by rw [<- e]; exact hl) (j4.1 hvo).2.2.1
     rwa [<- e, hpi] at this
    simp only [c4, if_true, hput, obz]
 intro d
 induction d with
 | zero => intro _; exact body 0 0 (fun _ => none) none (.inl ⟨rfl, rfl⟩)
 | succ d ih =>
  intro h2
  have ihd := ih (by omega)
  exact body (d + 1) ((d + 1 : Nat) : Int) (q7d cs (stD cs d) 8) _ (.inr ⟨by omega, rfl, fun x hx => by
   rw [e7 (by omega) (by omega), show ((d + 1 : Nat) : Int) - 1 = (d : Int) by omega]
   exact j5n hn (q7x hc d) ihd hx, fun x y hx hy => q6s (q7x hc d) hx hy⟩)
theorem q5d {cs : CSy} (hc : p7q cs = true) {d : Nat} (hd : d <= 2) {t : q7} {i k : Nat} (ht : z8 cs.1 t = true) (hi : i < t.length) (hk : k < cs.2.length) :
 s7 cs t i k d = some (c4 (stD cs d t i k)) := by
 unfold s7
 exact k9j (fun n => z3h n cs t i k d) (z3c hc d hd t i k ht hi hk)
open Go Abx Tm
def q9n (cs : CSy) (t : q7) (d : Int) : Bool := p7q cs && (z8 cs.1 t && decide (0 <= d /\ d <= 2))
theorem q9g (cs : CSy) (t : q7) (d : Int) : n3q cs t d = some (q9n cs t d) := by
 unfold n3q q9n
 rw [q2a, obz]
 cases p7q cs with
 | false => simp
 | true =>
  simp only [if_true, k4q, obz, Bool.true_and]
  cases z8 cs.1 t with
  | false => simp
  | true => simp [u6q]
def x0f (cs : CSy) (t : q7) (i k d : Int) : Option q7 :=
 if q9n cs t d = true /\ (0 <= i /\ i < t.length) /\ (0 <= k /\ k < cs.2.length) then stD cs d.toNat t i.toNat k.toNat else none
theorem k1k {cs : CSy} {t : q7} {d : Int} : q9n cs t d = true ↔ p7q cs = true /\ z8 cs.1 t = true /\ 0 <= d /\ d <= 2 := by simp [q9n]
theorem k1b (cs : CSy) (t : q7) (i k d : Int) : o0q cs t i k d = some (c4 (x0f cs t i k d)) := by
 unfold o0q x0f
 rw [q9g, obz]
 cases hr : q9n cs t d with
 | false => simp [c4]
 | true =>
  obtain ⟨hc, ht, d0, d2⟩ := k1k.1 hr
  obtain ⟨_, _, hl, _⟩ := j4.1 ht
  obtain ⟨_, hn, _⟩ := y4q.1 hc
  simp only [if_true, e8q hl, obz, true_and]
  by_cases hi : 0 <= i /\ i < t.length
  ·simp only [hi, and_self, decide_true, if_true, u6q, obz, e7 (n := (cs.2.length : Int) - 1) (by omega) (by omega), true_and]
   by_cases hk : 0 <= k /\ k < cs.2.length
   ·have e1 : (decide (0 <= k) && decide (k <= (cs.2.length : Int) - 1)) = true := by simp; omega
    rw [if_pos e1, if_pos hk]
    have h := q5d hc (d := d.toNat) (by omega) ht (i := i.toNat) (k := k.toNat) (by omega) (by omega)
    rw [show ((i.toNat : Nat) : Int) = i by omega, show ((k.toNat : Nat) : Int) = k by omega, show ((d.toNat : Nat) : Int) = d by omega] at h
    rw [h, obz]
    cases stD cs d.toNat t i.toNat k.toNat <;> simp [c4]
   ·have e1 : ¬ (decide (0 <= k) && decide (k <= (cs.2.length : Int) - 1)) = true := by simp; omega
    rw [if_neg e1, if_neg hk]; rfl
  ·simp [hi, c4]
theorem s7q {a : q7} : ∀ {cs : Ty3} {l r : q7}, q0f a l cs r = true -> ∀ c ∈ cs, z8 a c.1 = true /\ z8 a c.2 = true
 | [], _, _, _, c, hc => by cases hc
 | x :: cs, l, r, h, c, hc => by
  rw [q0f, Bool.and_eq_true, Bool.and_eq_true] at h
  rcases List.mem_cons.1 hc with rfl | hc
  ·simpa [k1p] using h.1
  ·exact s7q h.2.2 c hc
theorem m9 {a t : q7} (h : z8 a t = true) : t.length <= 60 /\ ∀ x ∈ t, -24 <= x := ⟨(j4.1 h).2.2.1, fun x hx => ((j4.1 h).2.2.2.all x hx).1⟩
def q0g (r : CRl) (i : Nat) : q7 := (r.2.2.take i).foldl (fun v c => b9 v c.2) (b9 [] r.1)
def k1w (r : CRl) (i : Nat) : q7 := (r.2.2.drop (i + 1)).foldl (fun v c => b9 (b9 v c.1) c.2) (b9 (b9 [] r.2.1) (r.2.2.getD i default).2)
def p8q (r : CRl) (i : Nat) : q7 := (q0g r i).filter fun x => decide (x ∈ k1w r i)
theorem k5f : ∀ {cs : Ty3} {v : q7} {m : Nat}, (∀ c ∈ cs, c.2.length <= 60) -> v.length <= m -> (cs.foldl (fun v c => b9 v c.2) v).length <= m + 60 * cs.length
 | [], v, m, _, h => by simpa using h
 | c :: cs, v, m, hc, h => by
  have h1 := f9q (t := c.2) (v := v)
  have h2 := hc c (by simp)
  have := k5f (cs := cs) (v := b9 v c.2) (m := m + 60) (fun c hc' => hc c (by simp [hc'])) (by omega)
  simp only [List.foldl_cons, List.length_cons]; omega
theorem k5g : ∀ {cs : Ty3} {v : q7} {m : Nat}, (∀ c ∈ cs, c.1.length <= 60 /\ c.2.length <= 60) -> v.length <= m -> (cs.foldl (fun v c => b9 (b9 v c.1) c.2) v).length <= m + 120 * cs.length
 | [], v, m, _, h => by simpa using h
 | c :: cs, v, m, hc, h => by
  have h1 := f9q (t := c.1) (v := v)
  have h3 := f9q (t := c.2) (v := b9 v c.1)
  have h2 := hc c (by simp)
  have := k5g (cs := cs) (v := b9 (b9 v c.1) c.2) (m := m + 120) (fun c hc' => hc c (by simp [hc'])) (by omega)
  simp only [List.foldl_cons, List.length_cons]; omega
theorem l1q {a : q7} {r : CRl} (hr : q1g a r = true) {i : Nat} (hi : i < r.2.2.length) : j8q r i = some (p8q r i) := by
 obtain ⟨h1, h2, _, h4, h5⟩ := i4.1 hr
 obtain ⟨l1, x1⟩ := m9 h1
 obtain ⟨l2, x2⟩ := m9 h2
 have hcs := s7q h5
 have hc1 : ∀ c ∈ r.2.2, c.1.length <= 60 /\ c.2.length <= 60 := fun c hc => ⟨(m9 (hcs c hc).1).1, (m9 (hcs c hc).2).1⟩
 have hkl : ∀ j, ((r.2.2.take j).foldl (fun v c => b9 v c.2) (b9 [] r.1)).length <= 60 + 60 * 2 := fun j => by
  have h0 := f9q (t := r.1) (v := [])
  have := k5f (cs := r.2.2.take j) (v := b9 [] r.1) (m := 60) (fun c hc => (hc1 c (List.mem_of_mem_take hc)).2) (by simp at h0; omega)
  have h3 : (r.2.2.take j).length <= 2 := by rw [List.length_take]; omega
  omega
 unfold j8q
 rw [k7q (by simp) l1 x1, obz]
 have A := f1q (n := i) (fun j => ((r.2.2.take j).foldl (fun v c => b9 v c.2) (b9 [] r.1), (j : Int))) (c := p8q r i) (f := d7q r i) (fun j hj => by
  have hjl : j < r.2.2.length := by omega
  have hm := hcs _ (u4 hjl)
  obtain ⟨m1, m2⟩ := m9 hm.2
  have := hkl j
  simp only [d7q, show (j : Int) < (i : Int) by omega, decide_true, if_true, show (0 : Int) <= j by omega, show (j : Int) < r.2.2.length by omega, and_self, itn, k7q (show ((r.2.2.take j).foldl (fun v c => b9 v c.2) (b9 [] r.1)).length <= 10000 by omega) m1 m2, obz, e7 (n := (j : Int) + 1) (by omega) (by omega)]
  rw [x6q hjl, List.foldl_append]
  simp) (by
  have hm := hcs _ (u4 hi)
  obtain ⟨m1, m2⟩ := m9 hm.2
  have n0 := f9q (t := r.2.1) (v := [])
  have n1 := f9q (t := (r.2.2.getD i default).2) (v := b9 [] r.2.1)
  simp only [List.length_nil] at n0
  simp only [d7q, Int.lt_irrefl, decide_false, bft, if_false, k7q (v := []) (by simp) l2 x2, obz, show (0 : Int) <= i by omega, show (i : Int) < r.2.2.length by omega, and_self, if_true, itn, k7q (v := b9 [] r.2.1) (by omega) m1 m2, e7 (n := (i : Int) + 1) (by omega) (by omega)]
  have B := f1q (n := r.2.2.length - (i + 1)) (fun j => (((r.2.2.drop (i + 1)).take j).foldl (fun v c => b9 (b9 v c.1) c.2) (b9 (b9 [] r.2.1) (r.2.2.getD i default).2), ((i + 1 + j : Nat) : Int))) (c := p8q r i) (f := v3q r (q0g r i)) (fun j hj => by
   have hjl : i + 1 + j < r.2.2.length := by omega
   have hm := hcs _ (u4 hjl)
   obtain ⟨a1, a2⟩ := m9 hm.1
   obtain ⟨b1, b2⟩ := m9 hm.2
   have g := k5g (cs := (r.2.2.drop (i + 1)).take j) (v := b9 (b9 [] r.2.1) (r.2.2.getD i default).2) (m := 120) (fun c hc => hc1 c (List.mem_of_mem_drop (List.mem_of_mem_take hc))) (by omega)
   have g2 : ((r.2.2.drop (i + 1)).take j).length <= 2 := by rw [List.length_take, List.length_drop]; omega
   have g3 := f9q (t := (r.2.2.getD (i + 1 + j) default).1) (v := ((r.2.2.drop (i + 1)).take j).foldl (fun v c => b9 (b9 v c.1) c.2) (b9 (b9 [] r.2.1) (r.2.2.getD i default).2))
   simp only [v3q, show ((i + 1 + j : Nat) : Int) < r.2.2.length by omega, decide_true, if_true, show (0 : Int) <= ((i + 1 + j : Nat) : Int) by omega, and_self, itn]
   rw [k7q (by omega) a1 a2, obz, k7q (by omega) b1 b2, obz, e7 (by omega) (by omega)]
   have hlt : j < (r.2.2.drop (i + 1)).length := by rw [List.length_drop]; omega
   have hg : (r.2.2.drop (i + 1)).getD j default = r.2.2.getD (i + 1 + j) default := by rw [y9 hlt, y9 hjl, List.getElem_drop]
   rw [x6q hlt, List.foldl_append, hg]
   simp only [List.foldl_cons, List.foldl_nil]
   refine congrArg (fun x => some (Sum.inl x)) ?_
   refine Prod.ext rfl ?_
   show ((i + 1 + j : Nat) : Int) + 1 = ((i + 1 + (j + 1) : Nat) : Int)
   omega) (by
   have hs : i + 1 + (r.2.2.length - (i + 1)) = r.2.2.length := by omega
   have ht : (r.2.2.drop (i + 1)).take (r.2.2.length - (i + 1)) = r.2.2.drop (i + 1) := by rw [List.take_of_length_le (by rw [List.length_drop]; omega)]
   simp only [v3q, hs, ht, Int.lt_irrefl, decide_false, bft, if_false]
   have hkn : (q0g r i).length <= 180 := hkl i
   have hnn : o4q (k1w r i) := by
    have g := k5g (cs := r.2.2.drop (i + 1)) (v := b9 (b9 [] r.2.1) (r.2.2.getD i default).2) (m := 120) (fun c hc => hc1 c (List.mem_of_mem_drop hc)) (by omega)
    have g2 : (r.2.2.drop (i + 1)).length <= 2 := by rw [List.length_drop]; omega
    show (k1w r i).length < _
    unfold k1w; omega
   have C := f1q (n := (q0g r i).length) (fun j => (((q0g r i).take j).filter fun x => decide (x ∈ k1w r i), (j : Int))) (c := p8q r i) (f := v4q (q0g r i) (k1w r i)) (fun j hj => by
    have hl : (((q0g r i).take j).filter fun x => decide (x ∈ k1w r i)).length <= 180 := Nat.le_trans (List.length_filter_le _ _) (by rw [List.length_take]; omega)
    simp only [v4q, show (j : Int) < (q0g r i).length by omega, decide_true, if_true, show (0 : Int) <= j by omega, and_self, itn, q2d hnn, obz, e7 (n := (j : Int) + 1) (by omega) (by omega), show ((((q0g r i).take j).filter fun x => decide (x ∈ k1w r i)).length + 1) * 8 <= 140737488355328 by omega]
    rw [x6q hj, List.filter_append]
    by_cases hm : (q0g r i).getD j default ∈ k1w r i
    ·rw [if_pos (by simpa using hm)]
     rw [List.filter_cons_of_pos (by simpa using hm)]
     simp
    ·rw [if_neg (by simpa using hm)]
     rw [List.filter_cons_of_neg (by simpa using hm)]
     simp) (by simp [v4q, p8q])
   have C' : loopC (v4q (q0g r i) (k1w r i)) ([], 0) = some (p8q r i) := by simpa using C
   unfold k1w at C'
   rw [C']; rfl)
  have B' : loopC (v3q r (q0g r i)) (b9 (b9 [] r.2.1) (r.2.2.getD i default).2, (i : Int) + 1) = some (p8q r i) := by simpa using B
  unfold q0g at B'
  rw [B']; rfl)
 simpa using A
abbrev Rng (v : q7) : Prop := ∀ x ∈ v, 0 <= x /\ x <= 23
theorem z3u {v t : q7} (hv : Rng v) (ht : ∀ x ∈ t, -24 <= x) : Rng (b9 v t) := fun m hm => by
 rcases e1q.1 hm with h | ⟨x, h1, h2, rfl⟩
 ·exact hv m h
 ·have := ht x h1; omega
theorem z2b {a : q7} : ∀ {cs : Ty3} {v : q7}, (∀ c ∈ cs, z8 a c.2 = true) -> Rng v -> Rng (cs.foldl (fun v c => b9 v c.2) v)
 | [], v, _, h => h
 | c :: cs, v, hc, h => z2b (cs := cs) (v := b9 v c.2) (fun c hc' => hc c (by simp [hc'])) (z3u h (m9 (hc c (by simp))).2)
theorem q4b {a : q7} {r : CRl} (hr : q1g a r = true) (i : Nat) : (p8q r i).length <= 180 /\ Rng (p8q r i) := by
 obtain ⟨h1, h2, _, h4, h5⟩ := i4.1 hr
 obtain ⟨l1, x1⟩ := m9 h1
 have hcs := s7q h5
 constructor
 ·have h0 := f9q (t := r.1) (v := [])
  have := k5f (cs := r.2.2.take i) (v := b9 [] r.1) (m := 60) (fun c hc => (m9 (hcs c (List.mem_of_mem_take hc)).2).1) (by simp at h0; omega)
  have h3 : (r.2.2.take i).length <= 2 := by rw [List.length_take]; omega
  refine Nat.le_trans (List.length_filter_le _ _) ?_
  unfold q0g
  omega
 ·intro x hx
  have hk : Rng (q0g r i) := z2b (fun c hc => (hcs c (List.mem_of_mem_take hc)).2) (z3u (fun x hx => by cases hx) x1)
  exact hk x (List.mem_filter.1 hx).1
def q7l (sym : Int) (t vars : q7) : q7 := [sym] ++ t ++ vars.map fun v => -1 - v
theorem e9q {sym : Int} {t vars : q7} (ht : t.length <= 60) (hv : vars.length <= 1000) (hx : Rng vars) : u8q sym t vars = some (q7l sym t vars) := by
 unfold u8q
 rw [if_pos (by omega)]
 refine k3r (mk := fun i out => (out, i)) (xs := vars) (g := fun v => -1 - v) (out0 := [sym] ++ t) (fun i out x hi hm hg ho => ?_) ?_
 ·have := hx x hm
  have ho' : out.length = t.length + 1 + i := by simpa [Nat.add_comm] using ho
  simp only [l2q, show (i : Int) < vars.length by omega, decide_true, if_true, show (0 : Int) <= i by omega, and_self, itn, hg, e7 (n := -1 - x) (by omega) (by omega), e7 (n := (i : Int) + 1) (by omega) (by omega), show (out.length + 1) * 8 <= 140737488355328 by omega]
 ·simp [l2q, q7l]
def q8s (r : CRl) (sym : Int) (i : Nat) : q7 × q7 :=
 (q7l (sym + i) (r.2.2.getD i default).2 (p8q r i), if i + 1 < r.2.2.length then q7l (sym + i + 1) (r.2.2.getD (i + 1) default).1 (p8q r (i + 1)) else r.2.1)
def f5 (r : CRl) (sym : Int) : Ty3 :=
 (r.1, if 0 < r.2.2.length then q7l sym (r.2.2.getD 0 default).1 (p8q r 0) else r.2.1) :: (List.range r.2.2.length).map (q8s r sym)
theorem q9h {a : q7} {r : CRl} (hr : q1g a r = true) {sym : Int} (h0 : 0 <= sym) (hs : sym <= 1000) : d8q r sym = some (f5 r sym) := by
 obtain ⟨h1, h2, _, h4, h5⟩ := i4.1 hr
 obtain ⟨l1, x1⟩ := m9 h1
 obtain ⟨l2, x2⟩ := m9 h2
 have hcs := s7q h5
 unfold d8q f5
 rw [b7 (show r.1.length < _ by omega), b7 (show r.2.1.length < _ by omega)]
 by_cases hc : r.2.2.length = 0
 ·simp [hc]
 ·have hc' : ((r.2.2.length : Int) == 0) = false := beq_eq_false_iff_ne.2 (by omega)
  have hpos : 0 < r.2.2.length := by omega
  obtain ⟨g1, g2⟩ := q4b hr 0
  have hm0 := hcs _ (u4 hpos)
  simp only [hc', bft, if_false, obz, hpos, if_true]
  rw [if_pos (by constructor <;> omega), show ((0 : Int)) = ((0 : Nat) : Int) from rfl, l1q hr hpos, obz, e9q (m9 hm0.1).1 (by omega) g2, obz]
  have A := f1q (n := r.2.2.length) (fun j => ((r.1, q7l sym (r.2.2.getD 0 default).1 (p8q r 0)) :: (List.range j).map (q8s r sym), (j : Int))) (c := (r.1, q7l sym (r.2.2.getD 0 default).1 (p8q r 0)) :: (List.range r.2.2.length).map (q8s r sym)) (f := u4q r sym) (fun j hj => by
   obtain ⟨k1, k2⟩ := q4b hr j
   have hm := hcs _ (u4 hj)
   simp only [u4q, show (j : Int) < r.2.2.length by omega, decide_true, if_true, show (0 : Int) <= j by omega, and_self, itn, l1q hr hj, obz, e7 (n := sym + (j : Int)) (by omega) (by omega), e9q (m9 hm.2).1 (show (p8q r j).length <= 1000 by omega) k2, b7 (show r.2.1.length < _ by omega), e7 (n := (j : Int) + 1) (by omega) (by omega),
    e7 (n := sym + (j : Int) + 1) (by omega) (by omega)]
   have hout : (((r.1, q7l sym (r.2.2.getD 0 default).1 (p8q r 0)) :: (List.range j).map (q8s r sym)).length + 1) * 48 <= 140737488355328 := by simp; omega
   have hnx : ((r.1, q7l sym (r.2.2.getD 0 default).1 (p8q r 0)) :: (List.range (j + 1)).map (q8s r sym)) = ((r.1, q7l sym (r.2.2.getD 0 default).1 (p8q r 0)) :: (List.range j).map (q8s r sym)) ++ [q8s r sym j] := by
    rw [List.range_succ, List.map_append]; rfl
   rw [hnx]
   by_cases hlast : j + 1 < r.2.2.length
   ·obtain ⟨q1, q2⟩ := q4b hr (j + 1)
    have hmq := hcs _ (u4 hlast)
    have e1 : ((j : Int) + 1) = ((j + 1 : Nat) : Int) := by omega
    rw [if_pos (by simp; omega), if_pos (by omega), e1, l1q hr hlast, obz, itn, e9q (m9 hmq.1).1 (by omega) q2, obz, if_pos hout]
    simp only [q8s, hlast, if_true]
   ·rw [if_neg (by simp; omega), if_pos hout]
    simp only [q8s, hlast, if_false]
    rfl) (by simp [u4q])
  simpa using A
def arV (r : CRl) (n : Nat) : q7 := (List.range n).map fun k => 1 + ((p8q r k).length : Int)
def z0q (acc : Sys) (r : CRl) : Sys := (acc.1 ++ arV r r.2.2.length, acc.2 ++ f5 r acc.1.length)
def f9 (cs : CSy) : Sys := cs.2.foldl z0q (cs.1, [])
theorem l6q (r : CRl) (sym : Int) : (f5 r sym).length = r.2.2.length + 1 := by simp [f5]
theorem z5t : ∀ {rs : List CRl} {acc : Sys} {m : Nat}, (∀ r ∈ rs, r.2.2.length <= 2) -> acc.1.length <= m -> acc.2.length <= m -> (rs.foldl z0q acc).1.length <= m + 3 * rs.length /\ (rs.foldl z0q acc).2.length <= m + 3 * rs.length
 | [], acc, m, _, h1, h2 => by simpa using ⟨h1, h2⟩
 | r :: rs, acc, m, hr, h1, h2 => by
  have h := hr r (by simp)
  have := z5t (rs := rs) (acc := z0q acc r) (m := m + 3) (fun r hr' => hr r (by simp [hr'])) (by simp only [z0q, lap, arV, List.length_map, List.length_range]; omega) (by simp only [z0q, lap, l6q]; omega)
  simp only [List.foldl_cons, List.length_cons]
  omega
theorem j6u {cs : CSy} {i : Nat} {out1 r2 : Ty3} {a : q7} (hr : q1g a (cs.2.getD i default) = true) (hi : i < 1000) {ar : q7} (ha : ar.length <= 1000) :
 loopC (z2q cs i out1 r2) (0, ar) = some (.inl ((i : Int) + 1, ar ++ arV (cs.2.getD i default) (cs.2.getD i default).2.2.length, out1 ++ r2)) := by
 have h4 := (i4.1 hr).2.2.2.1
 have A := f1q (n := (cs.2.getD i default).2.2.length) (fun j => ((j : Int), ar ++ arV (cs.2.getD i default) j)) (c := Sum.inl ((i : Int) + 1, ar ++ arV (cs.2.getD i default) (cs.2.getD i default).2.2.length, out1 ++ r2)) (f := z2q cs i out1 r2) (fun j hj => by
  obtain ⟨k1, _⟩ := q4b hr j
  have e : j8q ((cs.2.getD i default).1, (cs.2.getD i default).2.1, (cs.2.getD i default).2.2) (j : Int) = some (p8q (cs.2.getD i default) j) := l1q hr hj
  have hl : ((ar ++ arV (cs.2.getD i default) j).length + 1) * 8 <= 140737488355328 := by simp only [lap, arV, List.length_map, List.length_range]; omega
  simp only [z2q, itn, show (j : Int) < (cs.2.getD i default).2.2.length by omega, decide_true, if_true, e, obz, hl, e7 (n := 1 + ((p8q (cs.2.getD i default) j).length : Int)) (by omega) (by omega), e7 (n := (j : Int) + 1) (by omega) (by omega)]
  have hx : arV (cs.2.getD i default) (j + 1) = arV (cs.2.getD i default) j ++ [1 + ((p8q (cs.2.getD i default) j).length : Int)] := by unfold arV; rw [List.range_succ, List.map_append]; rfl
  rw [hx, laa]
  rfl) (by
  simp only [z2q, itn, Int.lt_irrefl, decide_false, bft, if_false, e7 (n := (i : Int) + 1) (by omega) (by omega)]
  rfl)
 simpa [arV] using A
theorem q7j (cs : CSy) : d6q cs = some (if p7q cs = true /\ b0q (f9 cs) = true then (f9 cs, true) else (([], []), false)) := by
 unfold d6q
 rw [q2a, obz]
 cases hc : p7q cs with
 | false => simp
 | true =>
  obtain ⟨ha, hn, hrs⟩ := y4q.1 hc
  have hal := (q2s.1 ha).2.1
  have h2 : ∀ r ∈ cs.2, r.2.2.length <= 2 := fun r hr => (i4.1 (hrs r hr)).2.2.2.1
  simp only [if_true, b7 (show cs.1.length < _ by omega), obz, true_and]
  have A := f1q (n := cs.2.length) (fun j => ((j : Int), ((cs.2.take j).foldl z0q (cs.1, [])).1, ((cs.2.take j).foldl z0q (cs.1, [])).2)) (c := if b0q (f9 cs) = true then (f9 cs, true) else (([], []), false)) (f := y2q cs) (fun j hj => by
   have hl := z5t (rs := cs.2.take j) (acc := (cs.1, [])) (m := 8) (fun r hr => h2 r (List.mem_of_mem_take hr)) hal (by simp)
   have htl : (cs.2.take j).length <= 12 := by rw [List.length_take]; omega
   have hr := hrs _ (u4 hj)
   have hr2 := h2 _ (u4 hj)
   have e : d8q ((cs.2.getD j default).1, (cs.2.getD j default).2.1, (cs.2.getD j default).2.2) ((((cs.2.take j).foldl z0q (cs.1, [])).1.length : Nat) : Int) = some (f5 (cs.2.getD j default) (((cs.2.take j).foldl z0q (cs.1, [])).1.length : Int)) := q9h hr (by omega) (by omega)
   simp only [y2q, show (j : Int) < cs.2.length by omega, decide_true, if_true, show (0 : Int) <= j by omega, and_self, itn, e, obz]
   rw [if_pos (by rw [l6q]; omega), j6u hr (by omega) (by omega), x6q hj, List.foldl_append]
   rfl) (by
   have e : cs.2.take cs.2.length = cs.2 := List.take_length
   simp only [y2q, Int.lt_irrefl, decide_false, bft, if_false, e]
   have : d5q ((cs.2.foldl z0q (cs.1, [])).1, (cs.2.foldl z0q (cs.1, [])).2) = some (b0q (f9 cs)) := q9e (f9 cs)
   rw [this, obz]
   cases b0q (f9 cs) <;> rfl)
  simpa using A
theorem k7m {α : Type} {p : α -> Bool} {xs : List α} : decide (0 <= k7l p xs) = xs.any p := by
 by_cases h : ∃ x ∈ xs, p x = true
 ·obtain ⟨x, hx, hp⟩ := h
  rw [decide_eq_true (j3w hx hp), List.any_eq_true.2 ⟨x, hx, hp⟩]
 ·have h' : ∀ x ∈ xs, p x = false := fun x hx => by
   cases hp : p x with
   | false => rfl
   | true => exact absurd ⟨x, hx, hp⟩ h
  have e := z4s h'
  rw [e, List.any_eq_false.2 (fun x hx => by rw [h' x hx]; decide)]
  decide
theorem q5x {t : q7} {os : Ty1} (ht : t.length <= 60) (ho : os.length <= 60) (hs : ∀ u ∈ os, u.length <= 60) : b3q t os = some (q7y os.flatten t) := by
 have hc : ∀ n, w9 os n = some (os.any fun u => decide (n ∈ u)) := fun n => by
  unfold w9 e9
  have := k7r (xs := os) (p := fun u => decide (n ∈ u)) (f := p5 os n) (fun i u hi hm hg => by
   have := hs u hm
   simp only [p5, h0q, show (i : Int) < os.length by omega, decide_true, if_true, show (0 : Int) <= i by omega, and_self, itn, hg, d1q (show u.length < _ by omega), obz, e7 (n := (i : Int) + 1) (by omega) (by omega)]
   by_cases h : n ∈ u <;> simp [h]) (by simp [p5])
  rw [this, obz, k7m]
 unfold b3q q7y
 refine q1j (xs := t) (fun i x hi hi' hm hg => ?_) (by simp [t2q])
 simp only [t2q, hi', decide_true, if_true, show (0 : Int) <= i by omega, and_self, itn, hg, hc, obz, e7 (n := (i : Int) + 1) (by omega) (by omega)]
 have e : (os.any fun u => decide (x ∈ u)) = decide (x ∈ os.flatten) := by
  by_cases h : x ∈ os.flatten
  ·rw [decide_eq_true h]
   obtain ⟨u, hu, hx⟩ := List.mem_flatten.1 h
   exact List.any_eq_true.2 ⟨u, hu, by simpa using hx⟩
  ·rw [decide_eq_false h]
   exact List.any_eq_false.2 fun u hu hx => h (List.mem_flatten.2 ⟨u, hu, by simpa using hx⟩)
 rw [e]
 by_cases h0 : x < 0
 ·by_cases h : x ∈ os.flatten
  ·simp only [h0, h, decide_true, if_true, true_implies]
  ·simp only [h0, h, decide_true, decide_false, if_true, bft, if_false, true_implies]
   rfl
 ·simp [h0]
theorem k4d (a : q7) (c : q7 × q7) : e5q a c = some (k1p a c) := by
 unfold e5q k1p
 rw [x7q, obz]
 cases z8 a c.1 with
 | false => simp
 | true => simp [x7q]
theorem k0u (a : q7) (r : CRl) : w0q a r = some (q1g a r) := by
 unfold w0q q1g
 rw [x7q, obz]
 cases h1 : z8 a r.1 with
 | false => simp
 | true =>
  simp only [if_true, x7q, obz, Bool.true_and]
  cases h2 : z8 a r.2.1 with
  | false => simp
  | true =>
   obtain ⟨_, l1, l2, l3⟩ := j4.1 h1
   obtain ⟨_, r1, r2, r3⟩ := j4.1 h2
   have e3 : (0 : Int) < r.1.length := by omega
   simp only [if_true, Int.le_refl, Nat.le_refl, e3, and_self, Bool.true_and, and_true, true_and]
   rw [q7b (by omega)]
   by_cases h0 : r.1.headD 0 < 0
   ·simp [-List.headD_eq_head?_getD, h0, show ¬ 0 <= r.1.headD 0 by omega]
   ·simp only [h0, decide_false, bft, if_false, show 0 <= r.1.headD 0 by omega, decide_true, Bool.true_and]
    by_cases hc : r.2.2.length <= 2
    ·rw [if_neg (by simp only [decide_eq_true_eq]; omega)]
     simp only [hc, decide_true, Bool.true_and]
     have key : ∀ (ms : Ty3) (i : Nat) (b : Ty1), r.2.2.drop i = ms -> i + ms.length = r.2.2.length -> b.length = i + 1 -> (∀ u ∈ b, u.length <= 60) ->
      loopC (y9q a r) (b, (i : Int)) = some (q0f a b.flatten ms r.2.1) := by
      intro ms
      induction ms with
      | nil =>
       intro i b hd hi hb hs
       obtain rfl : i = r.2.2.length := by simpa using hi
       refine x8 ?_
       simp only [y9q, Int.lt_irrefl, decide_false, bft, if_false, q5x r2 (show b.length <= 60 by omega) hs, obz, q0f]
       rfl
      | cons c ms ih =>
       intro i b hd hi hb hs
       obtain ⟨g1, g2, g3⟩ := n5q hd
       simp only [List.length_cons] at hi
       have hf : y9q a r (b, (i : Int)) = (e5q a c).bind fun r_4 => if r_4 = true then (b3q c.1 b).bind fun r_5 => if r_5 = true then some (.inl (b ++ [c.2], (i : Int) + 1)) else some (.inr false) else some (.inr false) := by
        simp only [y9q, show (i : Int) < r.2.2.length by omega, show (0 : Int) <= i by omega, and_self, decide_true, if_true, itn, g2, e7 (n := (i : Int) + 1) (by omega) (by omega), show (b.length + 1) * 24 <= 140737488355328 by omega]
        rfl
       rw [k4d, obz] at hf
       rw [q0f]
       cases he : k1p a c with
       | false =>
        rw [he] at hf
        exact x8 (by rw [hf]; rfl)
       | true =>
        rw [he, if_pos rfl] at hf
        simp only [k1p, Bool.and_eq_true] at he
        rw [q5x (m9 he.1).1 (by omega) hs, obz] at hf
        cases hw : q7y b.flatten c.1 with
        | false =>
         rw [hw] at hf
         exact x8 (by rw [hf]; rfl)
        | true =>
         rw [hw, if_pos rfl] at hf
         rw [p9 hf, show ((i : Int) + 1) = ((i + 1 : Nat) : Int) by omega, ih (i + 1) (b ++ [c.2]) g3 (by omega) (by simp [hb]) (fun u hu => by
          rcases List.mem_append.1 hu with hu | hu
          ·exact hs u hu
          ·simp at hu; subst hu; exact (m9 he.2).1)]
         simp
     have := key r.2.2 0 [r.1] (by simp) (by simp) rfl (fun u hu => by simp at hu; subst hu; exact l2)
     simpa using this
    ·rw [if_pos (by simp only [decide_eq_true_eq]; omega)]
     simp [hc]
theorem q8a (cs : CSy) : f3q cs = some (p7q cs) := by
 unfold f3q p7q
 rw [q1p, obz]
 cases w7q cs.1 with
 | false => simp
 | true =>
  by_cases hl : cs.2.length <= 12
  ·rw [if_pos rfl, if_neg (by simp only [decide_eq_true_eq]; omega)]
   simp only [Bool.true_and, hl, decide_true]
   unfold w7 n6
   have := k7r (xs := cs.2) (p := fun r => !q1g cs.1 r) (f := d9 cs.2 cs.1 cs.2) (fun i x hi hm hg => by
    have e : w0q cs.1 (x.1, x.2.1, x.2.2) = some (q1g cs.1 x) := k0u cs.1 x
    simp only [d9, w8q, show (i : Int) < cs.2.length by omega, decide_true, if_true, show (0 : Int) <= i by omega, and_self, itn, hg, e, obz, e7 (n := (i : Int) + 1) (by omega) (by omega)]
    cases q1g cs.1 x <;> simp) (by simp [d9])
   rw [this, obz, obz, k7m]
   congr 1
   cases h : cs.2.all (q1g cs.1) with
   | true =>
    rw [List.any_eq_false.2 fun x hx => by rw [List.all_eq_true.1 h x hx]; decide]; rfl
   | false =>
    obtain ⟨x, hx, hn⟩ := List.all_eq_false.1 h
    rw [List.any_eq_true.2 ⟨x, hx, by simpa using hn⟩]; rfl
  ·rw [if_pos rfl, if_pos (by simp only [decide_eq_true_eq]; omega)]
   simp [hl]
theorem k0y (cs : CSy) (t : q7) (d : Int) : z9q cs t d = some (q9n cs t d) := by
 unfold z9q q9n
 rw [q8a, obz]
 cases p7q cs with
 | false => simp
 | true =>
  simp only [if_true, x7q, obz, Bool.true_and]
  cases z8 cs.1 t with
  | false => simp
  | true => by_cases h : 0 <= d <;> simp [h]
theorem z1t {a t : q7} (ht : z8 a t = true) {i q : Nat} (hi : i < t.length) (h1 : i <= q) (h2 : (q : Int) < k1o a t i) : k1o a t q <= k1o a t i := by
 obtain ⟨_, _, _, hw⟩ := j4.1 ht
 obtain ⟨p, u, s, e, hp, hu⟩ := hw.place hi
 have hd : t.drop i = u ++ s := by rw [e, <- hp, List.drop_left]
 have hl := congrArg List.length e
 simp only [lap] at hl
 rw [q3c hd hu] at h2 ⊢
 obtain ⟨p', u', s', e', hp', hu'⟩ := hu.place (i := q - i) (by omega)
 have hd' : t.drop q = u' ++ (s' ++ s) := by
  have : t.drop q = (t.drop i).drop (q - i) := by rw [List.drop_drop]; congr 1; omega
  rw [this, hd, e', <- hp', laa, List.drop_left, laa]
 rw [q3c hd' hu']
 simp only [lap]
 omega
section
variable {cs : CSy} {t : q7} {st : q2t}
theorem k7p (ht : z8 cs.1 t = true) : ∀ (m p : Nat), p < t.length -> (k1o cs.1 t p).toNat <= p + m -> r1q st cs.2.length t p ≠ none -> ∃ q, p <= q /\ (q : Int) < k1o cs.1 t p /\ k3b cs st t q = true
 | 0, p, hp, hm, hr => by have := (q4a ht hp).1; omega
 | m + 1, p, hp, hm, hr => by
  by_cases h : ∃ p', p' < t.length /\ p < p' /\ (p' : Int) < k1o cs.1 t p /\ r1q st cs.2.length t p' ≠ none
  ·obtain ⟨p', a1, a2, a3, a4⟩ := h
   have hn := z1t ht hp (Nat.le_of_lt a2) a3
   obtain ⟨q, b1, b2, b3⟩ := k7p ht m p' a1 (by omega) a4
   exact ⟨q, by omega, by omega, b3⟩
  ·refine ⟨p, Nat.le_refl _, (q4a ht hp).1, ?_⟩
   unfold k3b
   rw [Bool.and_eq_true]
   refine ⟨?_, List.all_eq_true.2 fun q hq => decide_eq_true fun hc => ?_⟩
   ·cases hk : r1q st cs.2.length t p with
    | none => exact absurd hk hr
    | some k => rfl
   ·cases hk : r1q st cs.2.length t q with
    | none => rfl
    | some k => exact absurd ⟨q, List.mem_range.1 hq, hc.1, hc.2, by rw [hk]; simp⟩ h
end
open Go Abx Tm
abbrev x3k := CSy -> q7 -> Int -> CRl -> Int -> Option (q7 × Bool)
abbrev z1a (cs : CSy) (d : Int) (st : q2t) (rec : x3k) : Prop := ∀ (t : q7) (i k : Nat), z8 cs.1 t = true -> i < t.length -> k < cs.2.length -> rec cs t i (cs.2.getD k default) d = some (c4 (st t i k))
def z0r (cs : CSy) (st : q2t) (t : q7) (i : Nat) : Option Nat := (List.range t.length).find? fun j => decide (i <= j) && k3b cs st t j
def stI (cs : CSy) (st : q2t) (t : q7) (i : Nat) : Int × Int × q7 × Int × Int := match z0r cs st t i with
 | none => (-1, 0, [], (t.length : Int), (i : Int) - 1)
 | some j => ((j : Int), kOf st cs.2.length t j, (st t j (kOf st cs.2.length t j).toNat).getD [], (j : Int), (i : Int) - 1)
theorem j5p {cs : CSy} {st : q2t} {t : q7} {i : Nat} (h : k3b cs st t i = false) : z0r cs st t i = z0r cs st t (i + 1) := by
 unfold z0r
 congr 1
 funext j
 by_cases hj : j = i
 ·subst hj; rw [h]; simp
 ·have : decide (i <= j) = decide (i + 1 <= j) := by
   by_cases h2 : i <= j
   ·rw [decide_eq_true h2, decide_eq_true (by omega)]
   ·rw [decide_eq_false h2, decide_eq_false (by omega)]
  rw [this]
theorem x8p {cs : CSy} {st : q2t} {t : q7} {i : Nat} (hi : i < t.length) (h : k3b cs st t i = true) : z0r cs st t i = some i := by
 unfold z0r
 exact List.find?_range_eq_some.2 ⟨by simp [h], List.mem_range.2 hi, fun j hj => by simp; omega⟩
section
variable {cs : CSy} {t : q7} {d : Int} {st : q2t} {rec : x3k}
theorem j0s (hn : cs.2.length <= 12) {i : Nat} (hi : i < 60) (h : ∀ k : Nat, k < cs.2.length -> rec cs t i (cs.2.getD k default) d = some (c4 (st t i k))) {best rule lowest : Int} {to : q7} :
 loopC (c8 rec cs t d best rule to lowest i) 0 = some (.inl (match r1q st cs.2.length t i with
  | some k => ((i : Int), (k : Int), (st t i k).getD [], (i : Int), (i : Int) - 1)
  | none => (best, rule, to, lowest, (i : Int) - 1))) := by
 have key : ∀ m j : Nat, j + m = cs.2.length -> (∀ k < j, st t i k = none) -> loopC (c8 rec cs t d best rule to lowest i) (j : Int) = some (.inl (match r1q st cs.2.length t i with
  | some k => ((i : Int), (k : Int), (st t i k).getD [], (i : Int), (i : Int) - 1)
  | none => (best, rule, to, lowest, (i : Int) - 1))) := by
  intro m
  induction m with
  | zero =>
   intro j hj hno
   obtain rfl : j = cs.2.length := by omega
   rw [k2a.2 hno]
   refine x8 ?_
   simp only [c8, Int.lt_irrefl, decide_false, bft, if_false, e7 (n := (i : Int) - 1) (by omega) (by omega)]
   rfl
  | succ m ih =>
   intro j hj hno
   have hrec : rec cs t i ((cs.2.getD j default).1, (cs.2.getD j default).2.1, (cs.2.getD j default).2.2) d = some (c4 (st t i j)) := h j (by omega)
   have hf : c8 rec cs t d best rule to lowest i (j : Int) = some (match st t i j with | some u => .inr (.inl ((i : Int), (j : Int), u, (i : Int), (i : Int) - 1)) | none => .inl ((j : Int) + 1)) := by
    simp only [c8, show (j : Int) < cs.2.length by omega, show (0 : Int) <= j by omega, and_self, decide_true, if_true, itn, hrec, obz, e7 (n := (j : Int) + 1) (by omega) (by omega), e7 (n := (i : Int) - 1) (by omega) (by omega)]
    cases st t i j <;> simp [c4]
   cases hs : st t i j with
   | none =>
    rw [hs] at hf
    rw [p9 hf, show ((j : Int) + 1) = ((j + 1 : Nat) : Int) by omega]
    refine ih (j + 1) (by omega) fun k hk => ?_
    by_cases hkj : k = j
    ·rw [hkj]; exact hs
    ·exact hno k (by omega)
   | some u =>
    rw [hs] at hf
    rw [k2b.2 ⟨⟨by omega, by rw [hs]; rfl⟩, hno⟩]
    exact x8 (by rw [hf]; simp [hs])
 exact key cs.2.length 0 (by omega) fun k hk => by omega
end
open Go Abx Tm
abbrev j1w (cs : CSy) (st : q2t) : Prop := ∀ (t : q7) (i k : Nat), z8 cs.1 t = true -> i < t.length -> k < cs.2.length -> t.getD i default < 0 -> st t i k = none
def k1z (cs : CSy) (st : q2t) (t : q7) : Int × Int × q7 := match p9q cs st t with
 | none => (-1, 0, [])
 | some p => ((p.1 : Int), (p.2 : Int), (st t p.1 p.2).getD [])
theorem z2r {cs : CSy} {st : q2t} {t : q7} {i j : Nat} (h : z0r cs st t i = some j) : i <= j /\ j < t.length /\ k3b cs st t j = true /\ ∀ q < j, i <= q -> k3b cs st t q = false := by
 unfold z0r at h
 obtain ⟨h1, h2, h3⟩ := List.find?_range_eq_some.1 h
 simp only [Bool.and_eq_true, decide_eq_true_eq] at h1
 refine ⟨h1.1, List.mem_range.1 h2, h1.2, fun q hq hi => ?_⟩
 have := h3 q hq
 simpa [hi] using this
theorem j5o {cs : CSy} {st : q2t} {t : q7} {i : Nat} (h : z0r cs st t i = none) {q : Nat} (hi : i <= q) (hq : q < t.length) : k3b cs st t q = false := by
 unfold z0r at h
 have := List.find?_eq_none.1 h q (List.mem_range.2 hq)
 simpa [hi] using this
theorem k0c {cs : CSy} {st : q2t} {t : q7} {i : Nat} (h : r1q st cs.2.length t i = none) : k3b cs st t i = false := by unfold k3b; rw [h]; rfl
theorem x2m {cs : CSy} {st : q2t} {t : q7} {i : Nat} (h : k3b cs st t i = false) : stI cs st t i = ((stI cs st t (i + 1)).1, (stI cs st t (i + 1)).2.1, (stI cs st t (i + 1)).2.2.1, (stI cs st t (i + 1)).2.2.2.1, (i : Int) - 1) := by
 unfold stI; rw [j5p h]
 cases z0r cs st t (i + 1) <;> rfl
section
variable {cs : CSy} {t : q7} {d : Int} {st : q2t} {rec : x3k}
theorem j0t (hn : cs.2.length <= 12) (hr : z1a cs d st rec) (hv : j1w cs st) (ht : z8 cs.1 t = true) {i : Nat} (hi : i < t.length) :
 m6 rec cs t d (stI cs st t (i + 1)) = some (.inl (stI cs st t i)) := by
 obtain ⟨ha, hm, hl, hw⟩ := j4.1 ht
 obtain ⟨best, rule, to, lowest, hst⟩ : ∃ best rule to lowest, stI cs st t (i + 1) = (best, rule, to, lowest, (i : Int)) := by
  unfold stI
  cases z0r cs st t (i + 1) with
  | none => exact ⟨_, _, _, _, by rw [show (((i + 1 : Nat) : Int) - 1) = i by omega]⟩
  | some j => exact ⟨_, _, _, _, by rw [show (((i + 1 : Nat) : Int) - 1) = i by omega]⟩
 have hend : y6q cs.1 t i = some (k1o cs.1 t i) := t1q ha (show t.length < _ by omega) (fun x hx => (hw.all x hx).1) (by omega)
 have hsame : k3b cs st t i = false -> (best, rule, to, lowest, (i : Int) - 1) = stI cs st t i := fun h => by rw [x2m h, hst]
 rw [hst]
 simp only [m6, show (0 : Int) <= i by omega, show (i : Int) < t.length by omega, and_self, decide_true, if_true, itn, hend, obz, e7 (n := (i : Int) - 1) (by omega) (by omega), decide_eq_true_eq]
 by_cases hneg : t.getD i default < 0
 ·rw [if_pos hneg, hsame (k0c (k2a.2 fun k hk => hv t i k ht hi hk hneg))]
 rw [if_neg hneg]
 by_cases hlow : lowest < k1o cs.1 t i
 ·rw [if_pos hlow, hsame]
  unfold stI at hst
  cases hx : z0r cs st t (i + 1) with
  | none =>
   rw [hx] at hst
   have := (q4a ht hi).2
   simp only [Prod.mk.injEq] at hst
   omega
  | some j =>
   rw [hx] at hst
   simp only [Prod.mk.injEq] at hst
   obtain ⟨h1, h2, h3, h4⟩ := z2r hx
   have hjr : r1q st cs.2.length t j ≠ none := fun hc => by rw [k0c hc] at h3; cases h3
   unfold k3b
   rw [Bool.and_eq_false_iff]
   right
   rw [List.all_eq_false]
   exact ⟨j, List.mem_range.2 h2, by rw [decide_eq_true_eq]; exact fun hc => hjr (hc ⟨by omega, by omega⟩)⟩
 ·rw [if_neg hlow, j0s hn (by omega) (fun k hk => hr t i k ht hi hk)]
  cases hk : r1q st cs.2.length t i with
  | none => simp only [hsame (k0c hk)]
  | some k =>
   have hin : k3b cs st t i = true := by
    unfold k3b
    rw [hk]
    rw [Bool.and_eq_true]
    refine ⟨rfl, List.all_eq_true.2 fun p hp => decide_eq_true fun hc => ?_⟩
    cases hkp : r1q st cs.2.length t p with
    | none => rfl
    | some k' =>
     exfalso
     have hp' := List.mem_range.1 hp
     obtain ⟨q, q1, q2, q3⟩ := k7p ht (k1o cs.1 t p).toNat p hp' (by omega) (by rw [hkp]; simp)
     have hnest := z1t ht hi (Nat.le_of_lt hc.1) hc.2
     have hqe := (q4a ht hp').2
     unfold stI at hst
     cases hx : z0r cs st t (i + 1) with
     | none => rw [j5o hx (q := q) (by omega) (by omega)] at q3; cases q3
     | some j =>
      rw [hx] at hst
      simp only [Prod.mk.injEq] at hst
      obtain ⟨h1, h2, h3, h4⟩ := z2r hx
      by_cases hqj : q < j
      ·rw [h4 q hqj (by omega)] at q3; cases q3
      ·omega
   have e : stI cs st t i = ((i : Int), (k : Int), (st t i k).getD [], (i : Int), (i : Int) - 1) := by
    unfold stI kOf
    rw [x8p hi hin]
    simp [hk]
   simp only [e]
theorem k3x (hn : cs.2.length <= 12) (hr : z1a cs d st rec) (hv : j1w cs st) (ht : z8 cs.1 t = true) :
 n9 rec cs t d = some (k1z cs st t) := by
 obtain ⟨ha, hm, hl, hw⟩ := j4.1 ht
 have hlast : m6 rec cs t d (stI cs st t 0) = some (.inr (k1z cs st t)) := by
  unfold stI k1z p9q
  have e0 : z0r cs st t 0 = (List.range t.length).find? (k3b cs st t) := by unfold z0r; simp
  rw [e0]
  cases hx : (List.range t.length).find? (k3b cs st t) with
  | none => simp [m6]
  | some j =>
   obtain ⟨h1, h2, h3⟩ := List.find?_range_eq_some.1 hx
   cases hk : r1q st cs.2.length t j with
   | none => rw [k0c hk] at h1; cases h1
   | some k => simp [m6, kOf, hk]
 have h0 : ((-1 : Int), (0 : Int), ([] : q7), (t.length : Int), (IntKind.i64.wrap ((t.length : Int) - 1))) = stI cs st t t.length := by
  unfold stI
  have : z0r cs st t t.length = none := by
   unfold z0r
   rw [List.find?_eq_none]
   intro j hj
   have := List.mem_range.1 hj
   simp; omega
  rw [this, e7 (by omega) (by omega)]
 unfold n9
 rw [h0]
 have := f1q (n := t.length) (fun i => stI cs st t (t.length - i)) (c := k1z cs st t) (f := m6 rec cs t d) (fun i hi => by
  have e : t.length - i = (t.length - (i + 1)) + 1 := by omega
  show m6 rec cs t d (stI cs st t (t.length - i)) = _
  rw [e]
  exact j0t hn hr hv ht (by omega)) (by
  show m6 rec cs t d (stI cs st t (t.length - t.length)) = _
  rw [Nat.sub_self]; exact hlast)
 simpa using this
end
open Go Abx Tm
theorem j0m {cs : CSy} {d : Int} {st : q2t} {rec : x3k} (hn : cs.2.length <= 12) (hk : k1f cs st) (hr : z1a cs d st rec) (hv : j1w cs st) {t : q7} (ht : z8 cs.1 t = true) :
 d8 rec cs t d = some (c4 (q7d cs st 8 t)) := by
 have key : ∀ (n : Nat) (now : q7), n <= 8 -> z8 cs.1 now = true -> loopC (b6 rec cs d) (now, (n : Int)) = some (c4 (q7d cs st n now)) := by
  intro n
  induction n with
  | zero =>
   intro now _ hw
   refine x8 ?_
   simp only [b6, k3x hn hr hv hw, obz, q7d, k1z]
   cases p9q cs st now with
   | none => simp [c4]
   | some p =>
    have : ¬ (p.1 : Int) < 0 := by omega
    simp [c4, this, h8q]
  | succ n ih =>
   intro now h8 hw
   cases hp : p9q cs st now with
   | none =>
    refine x8 ?_
    simp only [b6, k3x hn hr hv hw, obz, q7d, k1z, hp]
    simp [c4]
   | some p =>
    obtain ⟨p1, p2, p3⟩ := l4q hp
    obtain ⟨u, hu⟩ := Option.isSome_iff_exists.1 p3
    have hz : (((n + 1 : Nat) : Int) == 0) = false := beq_eq_false_iff_ne.2 (by omega)
    have hf : b6 rec cs d (now, ((n + 1 : Nat) : Int)) = some (.inl (u, (n : Int))) := by
     simp only [b6, k3x hn hr hv hw, obz, k1z, hp, show ¬ (p.1 : Int) < 0 by omega, decide_false, bft, if_false, h8q, hz, if_true, hu, Option.getD_some]
     rw [e7 (by omega) (by omega), show ((n + 1 : Nat) : Int) - 1 = (n : Int) by omega]
    rw [p9 hf, ih u (by omega) (hk _ _ _ _ hw p1 p2 hu), q7d, hp]
    simp only [hu, obz]
 unfold d8
 exact key 8 t (by omega) ht
theorem k7z {rec : x3k} {cs : CSy} {t : q7} {i : Int} {r : CRl} {d : Int} : g1q rec cs t i r d = u8 rec cs t i r d := by
 funext s
 obtain ⟨v, b⟩ := s
 rw [g1q, u8]
section
variable {cs : CSy} {d : Int} {rec : x3k} {r : CRl} {t : q7} {p : Nat}
abbrev endO (a : q7) (t : q7) (p : Nat) (v : q7) (b : Bd) : Option q7 := (o5q (Tm.sig b) v).bind fun v => z2u a t p v
theorem z3g (hput : ∀ v : q7, v.length <= 60 -> g4q cs.1 t p v = some (c4 (z2u cs.1 t p v))) (hR : z8 cs.1 r.2.1 = true) {b : Bd} (hg : GdB cs.1 b) :
 loopC (u8 rec cs t p r d) ((r.2.2.length : Int), b) = some (c4 (endO cs.1 t p r.2.1 b)) := by
 refine x8 ?_
 simp only [u8, Int.lt_irrefl, decide_false, bft, if_false, hg.len, if_true, w6, obz, (q9v hg.sub hR).1, endO]
 cases hv : o5q (Tm.sig b) r.2.1 with
 | none => simp [c4]
 | some v =>
  have hvo := q4t hg hR hv
  simp [c4, hput v (j4.1 hvo).2.2.1]
theorem y2o {a q t : q7} {b : Bd} (hq : z8 a q = true) (ht : z8 a t = true) (hg : GdB a b) : ∃ o, i9 a q t b = some o /\ z3z (mat a q t b) o /\ o.1.length = 24 := by
 obtain ⟨ha, _, h1, h2⟩ := j4.1 hq
 obtain ⟨_, _, h3, h4⟩ := j4.1 ht
 obtain ⟨o, e1, e2⟩ := (q1t ha h2 h4 h1 h3 hg.len hg.to).get
 exact ⟨o, e1, e2⟩
theorem j1b {nf : q7 -> Option q7} (hnf : ∀ x, z8 cs.1 x = true -> d8 rec cs x (IntKind.i64.wrap (d - 1)) = some (c4 (nf x)))
 (hkeep : ∀ x y, z8 cs.1 x = true -> nf x = some y -> z8 cs.1 y = true) (hr : r.2.2.length <= 2)
 (hput : ∀ v : q7, v.length <= 60 -> g4q cs.1 t p v = some (c4 (z2u cs.1 t p v))) (hR : z8 cs.1 r.2.1 = true) :
 ∀ (ms : Ty3) (i : Nat) (b : Bd) (l : q7), r.2.2.drop i = ms -> i + ms.length = r.2.2.length -> q0f cs.1 l ms r.2.1 = true -> GdB cs.1 b ->
  loopC (u8 rec cs t p r d) ((i : Int), b) = some (c4 ((s6q cs.1 nf ms b).bind (endO cs.1 t p r.2.1))) := by
 intro ms
 induction ms with
 | nil =>
  intro i b l hdr hi hc hg
  obtain rfl : i = r.2.2.length := by simpa using hi
  rw [z3g hput hR hg]; rfl
 | cons c ms ih =>
  intro i b l hdr hi hc hg
  simp only [List.length_cons] at hi
  obtain ⟨g1, g2, g3⟩ := n5q hdr
  rw [q0f, Bool.and_eq_true, Bool.and_eq_true] at hc
  obtain ⟨h1, h2, h3⟩ := hc
  simp only [k1p, Bool.and_eq_true] at h1
  have hf : u8 rec cs t p r d ((i : Int), b) = (k5q b c.1).bind fun r_4 => if r_4.2 = true then (d8 rec cs r_4.1 (IntKind.i64.wrap (d - 1))).bind fun r_5 => if r_5.2 = true then (i9 cs.1 c.2 r_5.1 b).bind fun r_6 => if r_6.1.length = 24 then if r_6.2 = true then some (.inl ((i : Int) + 1, r_6.1)) else some (.inr ([], false)) else none else some (.inr ([], false)) else some (.inr ([], false)) := by
   simp only [u8, show (i : Int) < r.2.2.length by omega, show (0 : Int) <= i by omega, and_self, decide_true, if_true, itn, g2, hg.len, w6, obz, and_true, e7 (n := (i : Int) + 1) (by omega) (by omega)]
   rfl
  rw [(q9v hg.sub h1.1).1, obz] at hf
  rw [s6q]
  cases hx : o5q (Tm.sig b) c.1 with
  | none =>
   rw [hx] at hf
   exact x8 (by rw [hf]; rfl)
  | some x =>
   have hxo := q4t hg h1.1 hx
   rw [hx] at hf
   simp only [c4, if_true, hnf x hxo, obz] at hf
   rw [obz]
   cases hy : nf x with
   | none =>
    rw [hy] at hf
    exact x8 (by rw [hf]; rfl)
   | some y =>
    have hyo := hkeep x y hxo hy
    obtain ⟨q, q1, q2, q3⟩ := y2o h1.2 hyo hg
    rw [hy] at hf
    simp only [c4, if_true, q1, obz, q3] at hf
    rw [obz]
    cases hm : mat cs.1 c.2 y b with
    | none =>
     rw [hm] at q2
     have q2' : q.2 = false := q2
     rw [q2'] at hf
     exact x8 (by rw [hf]; rfl)
    | some b2 =>
     rw [hm] at q2
     have q2' : q = (b2, true) := q2
     rw [q2'] at hf
     simp only [if_true] at hf
     rw [p9 hf, obz, show ((i : Int) + 1) = ((i + 1 : Nat) : Int) by omega]
     obtain ⟨m1, _, m3, m4⟩ := q7s hg h1.2 hyo hm
     exact ih (i + 1) b2 (l ++ c.2) g3 (by omega) h3 m1
end
theorem z1r {cs : CSy} {nf : Option (q7 -> Option q7)} (hc : p7q cs = true) : j1w cs (csO cs nf) := fun t i k ht hi hk hneg => by
 obtain ⟨ha, _, hr⟩ := y4q.1 hc
 obtain ⟨_, _, _, hw⟩ := j4.1 ht
 obtain ⟨h1, _, h3, _, _⟩ := i4.1 (hr _ (u4 hk))
 obtain ⟨p, s, q, e, hp, hs⟩ := hw.place hi
 have hat : x7 cs.1 t i = s := by rw [e, <- hp]; exact k8o hs
 unfold csO q9y
 rw [hat]
 have hsne := hs.ne
 cases s with
 | nil => exact absurd rfl hsne
 | cons x s =>
  have hx : x < 0 := by
   have : t.getD i default = x := by rw [e, <- hp]; simp
   rw [<- this]; exact hneg
  have : mat cs.1 (cs.2.getD k default).1 (x :: s) j1q = none := by
   cases hl : (cs.2.getD k default).1 with
   | nil => rw [hl] at h1; simp [j4] at h1
   | cons f l =>
    rw [hl] at h3
    simp only [List.headD_cons] at h3
    rw [q8m (by omega), if_neg (by omega)]
  rw [this]; rfl
theorem z3f {cs : CSy} (hc : p7q cs = true) : ∀ d, j1w cs (stD cs d)
 | 0 => z1r hc
 | d + 1 => z1r hc
open Go Abx Tm
abbrev LeI (f g : x3k) : Prop := ∀ cs t i r d, Le (f cs t i r d) (g cs t i r d)
section
variable {f g : x3k} (h : LeI f g)
include h
theorem j0r (cs : CSy) (t : q7) (d : Int) : Le (n9 f cs t d) (n9 g cs t d) := by
 unfold n9
 refine Le.loop (fun s => ?_) _
 obtain ⟨a, b, c, e, i⟩ := s
 unfold m6
 refine Le.ite (fun _ => Le.ite (fun _ => Le.ite (fun _ => Le.refl _) fun _ => Le.bind (Le.refl _) fun _ => Le.ite (fun _ => Le.refl _) fun _ => Le.loop (fun s => ?_) _) fun _ => Le.refl _) fun _ => Le.refl _
 unfold c8
 exact Le.ite (fun _ => Le.ite (fun _ => Le.bind (h _ _ _ _ _) fun _ => Le.refl _) fun _ => Le.refl _) fun _ => Le.refl _
theorem z2p (cs : CSy) (t : q7) (d : Int) : Le (d8 f cs t d) (d8 g cs t d) := by
 unfold d8
 refine Le.loop (fun s => ?_) _
 obtain ⟨now, k⟩ := s
 unfold b6
 exact Le.bind (j0r h cs now d) fun _ => Le.refl _
theorem k0o (cs : CSy) (t : q7) (i : Int) (r : CRl) (d : Int) (s : Int × Bd) : Le (loopC (u8 f cs t i r d) s) (loopC (u8 g cs t i r d) s) := by
 refine Le.loop (fun s => ?_) _
 obtain ⟨v, b⟩ := s
 unfold u8
 exact Le.ite (fun _ => Le.ite (fun _ => Le.ite (fun _ => Le.bind (Le.refl _) fun _ => Le.bind (Le.refl _) fun _ => Le.ite (fun _ => Le.bind (z2p h _ _ _) fun _ => Le.refl _) fun _ => Le.refl _) fun _ => Le.refl _) fun _ => Le.refl _) fun _ => Le.refl _
end
theorem k2e : ∀ (n : Nat), LeI (v6 n) (v6 (n + 1))
 | 0 => fun cs t i r d => by rw [v6]; exact Le.none _
 | n + 1 => fun cs t i r d => by
  rw [v6, v6]
  simp only [k7z]
  exact Le.bind (Le.refl _) fun _ => Le.bind (Le.refl _) fun _ => Le.ite (fun _ => Le.ite (fun _ => Le.ite (fun _ => Le.ite (fun _ => Le.refl _) fun _ => k0o (k2e n) _ _ _ _ _ _) fun _ => k0o (k2e n) _ _ _ _ _ _) fun _ => Le.refl _) fun _ => Le.refl _
theorem z2h {cs : CSy} (hc : p7q cs = true) : ∀ (d : Nat), d <= 2 -> z1a cs (d : Int) (stD cs d) (v6 (d + 1)) := by
 obtain ⟨ha, hn, hrs⟩ := y4q.1 hc
 have body : ∀ (n : Nat) (d : Int) (nf : q7 -> Option q7) (nfo : Option (q7 -> Option q7)),
  ((d = 0 /\ nfo = none) ∨ (d ≠ 0 /\ nfo = some nf /\ (∀ x, z8 cs.1 x = true -> d8 (v6 n) cs x (IntKind.i64.wrap (d - 1)) = some (c4 (nf x))) /\ ∀ x y, z8 cs.1 x = true -> nf x = some y -> z8 cs.1 y = true)) ->
  z1a cs d (csO cs nfo) (v6 (n + 1)) := by
  intro n d nf nfo hd t i k ht hi hk
  obtain ⟨_, _, hl, hw⟩ := j4.1 ht
  have hm24 : ∀ x ∈ t, -24 <= x := fun x hx => (hw.all x hx).1
  have hrk := hrs _ (u4 hk)
  obtain ⟨h1, h2, _, h4, h5⟩ := i4.1 hrk
  obtain ⟨p, s, q, e, hp, hs⟩ := hw.place hi
  have hat : x7 cs.1 t i = s := by rw [e, <- hp]; exact k8o hs
  have hsl : s.length <= 60 := by rw [e] at hl; simp at hl; omega
  have hso := n6q ha hs hsl
  have hdr : t.drop i = s ++ q := by rw [e, <- hp]; exact List.drop_left
  have hsub : q7q cs.1 t i = some s := d3q ha (show t.length < _ by omega) hm24 hdr hs
  have hput : ∀ v : q7, v.length <= 60 -> g4q cs.1 t i v = some (c4 (z2u cs.1 t i v)) := fun v hv => by
   have := q1c (p := p) (s := q) ha hs (by rw [<- e]; exact hm24) (by rw [<- e]; exact hl) hv
   rwa [<- e, hp] at this
  obtain ⟨o, o1, o2, o3⟩ := y2o h1 hso (q6o (a := cs.1))
  have o1' : i9 cs.1 (cs.2.getD k default).1 s (List.replicate 24 []) = some o := o1
  rw [v6, hsub, obz, o1', obz, if_pos o3]
  unfold csO q9y
  rw [hat]
  cases hm : mat cs.1 (cs.2.getD k default).1 s j1q with
  | none =>
   rw [hm] at o2
   have o2' : o.2 = false := o2
   simp [o2', c4]
  | some b =>
   rw [hm] at o2
   have o2' : o = (b, true) := o2
   obtain ⟨m1, _, m3, m4⟩ := q7s q6o h1 hso hm
   rw [o2', if_pos rfl, obz]
   by_cases hz : (cs.2.getD k default).2.2 = []
   ·have hlen : (cs.2.getD k default).2.2.length = 0 := by rw [hz]; rfl
    have hend := z3g (rec := v6 n) (d := d) (r := cs.2.getD k default) hput h2 m1
    rw [hlen] at hend
    rw [hlen, if_neg (by decide), k7z, if_pos hz, obz]
    exact hend
   ·have hlen : 0 < (cs.2.getD k default).2.2.length := List.length_pos_iff.2 hz
    rw [if_pos (decide_eq_true (by omega)), if_neg hz]
    rcases hd with ⟨d0, rfl⟩ | ⟨d1, rfl, hnf, hkeep⟩
    ·rw [if_pos (by rw [d0]; rfl)]; rfl
    ·rw [if_neg (by simpa using d1)]
     exact j1b (r := cs.2.getD k default) hnf hkeep h4 hput h2 _ 0 b _ (by simp) (by simp) h5 m1
 intro d
 induction d with
 | zero => intro _; exact body 0 0 (fun _ => none) none (.inl ⟨rfl, rfl⟩)
 | succ d ih =>
  intro h2
  have ihd := ih (by omega)
  exact body (d + 1) ((d + 1 : Nat) : Int) (q7d cs (stD cs d) 8) _ (.inr ⟨by omega, rfl, fun x hx => by
   rw [e7 (by omega) (by omega), show ((d + 1 : Nat) : Int) - 1 = (d : Int) by omega]
   exact j0m hn (q7x hc d) ihd (z3f hc d) hx, fun x y hx hy => q6s (q7x hc d) hx hy⟩)
theorem k0a {cs : CSy} (hc : p7q cs = true) {d : Nat} (hd : d <= 2) {t : q7} {i k : Nat} (ht : z8 cs.1 t = true) (hi : i < t.length) (hk : k < cs.2.length) :
 i7 cs t i (cs.2.getD k default) d = some (c4 (stD cs d t i k)) := by
 unfold i7
 exact k9j (fun n => k2e n cs t i _ d) (z2h hc d hd t i k ht hi hk)
theorem k0v (cs : CSy) (t : q7) (i k d : Int) : c1q cs t i k d = some (c4 (x0f cs t i k d)) := by
 unfold c1q x0f
 rw [k0y, obz]
 cases hr : q9n cs t d with
 | false => simp [c4]
 | true =>
  obtain ⟨hc, ht, d0, d2⟩ := k1k.1 hr
  simp only [if_true, true_and, decide_eq_true_eq]
  by_cases hi0 : i < 0
  ·rw [if_pos hi0, if_neg (by omega)]; rfl
  rw [if_neg hi0]
  by_cases hi1 : (t.length : Int) <= i
  ·rw [if_pos hi1, if_neg (by omega)]; rfl
  rw [if_neg hi1]
  by_cases hk0 : k < 0
  ·rw [if_pos hk0, if_neg (by omega)]; rfl
  rw [if_neg hk0]
  by_cases hk1 : (cs.2.length : Int) <= k
  ·rw [if_pos hk1, if_neg (by omega)]; rfl
  rw [if_neg hk1, if_pos (by omega), if_pos (by omega)]
  have h := k0a hc (d := d.toNat) (by omega) ht (i := i.toNat) (k := k.toNat) (by omega) (by omega)
  rw [show ((i.toNat : Nat) : Int) = i by omega, show ((d.toNat : Nat) : Int) = d by omega] at h
  have h' : i7 cs t i ((cs.2.getD k.toNat default).1, (cs.2.getD k.toNat default).2.1, (cs.2.getD k.toNat default).2.2) d = some (c4 (stD cs d.toNat t i.toNat k.toNat)) := h
  rw [h', obz]
open Go Abx Tm
theorem r0q {xs : Ty1} (hl : xs.length <= 3) (hs : ∀ u ∈ xs, u.length <= 1000) : y6 xs = some xs.flatten := by
 have hfl : ∀ i, i <= xs.length -> (xs.take i).flatten.length <= 1000 * i := fun i => by
  induction i with
  | zero => simp
  | succ i ih =>
   intro hi
   have h1 : i < xs.length := by omega
   rw [List.take_add_one, List.getElem?_eq_getElem h1, List.flatten_append, lap]
   have := ih (by omega)
   have := hs _ (List.getElem_mem h1)
   simp only [Option.toList_some, List.flatten_cons, List.flatten_nil, List.append_nil]; omega
 have tk : ∀ i (h1 : i < xs.length), (xs.take (i + 1)).flatten = (xs.take i).flatten ++ xs[i] := fun i h1 => by
  rw [List.take_add_one, List.getElem?_eq_getElem h1, List.flatten_append]; simp
 have key : Okk True (y6 xs) (· = xs.flatten) := by
  unfold y6
  refine Okk.loop (fun q : Int × Int => ∃ i : Nat, q.2 = i /\ i <= xs.length /\ q.1 = ((xs.take i).flatten.length : Int)) (fun q : Int × Int => xs.length - q.2.toNat) ⟨0, rfl, by omega, by simp⟩ ?_
  rintro ⟨_, _⟩ ⟨i, rfl, h1, rfl⟩
  simp only [q8q]
  have hb := hfl i h1
  by_cases hi : i < xs.length
  ·have hu := hs _ (List.getElem_mem hi)
   simp only [show (i : Int) < xs.length by omega, decide_true, if_true, show (0 : Int) <= i by omega, and_self, itn, y9 hi, e7 (n := (i : Int) + 1) (by omega) (by omega),
    e7 (n := ((xs.take i).flatten.length : Int) + (xs[i].length : Int)) (by omega) (by omega), show ¬ ((xs.take i).flatten.length : Int) + (xs[i].length : Int) < 0 by omega, decide_false, bft, if_false]
   exact .some ⟨⟨i + 1, by simp, by omega, by rw [tk i hi]; simp⟩, by simp; omega⟩
  ·simp only [show ¬ (i : Int) < xs.length by omega, decide_false, bft, if_false, j7q, show 0 <= ((xs.take i).flatten.length : Int) /\ ((xs.take i).flatten.length : Int) * 8 <= 140737488355328 by omega, and_self, if_true, obz]
   refine Okk.inr ?_
   simp only [Rnd]
   refine Okk.loop (fun q : q7 × Int => ∃ i : Nat, q.2 = i /\ i <= xs.length /\ q.1 = (xs.take i).flatten) (fun q : q7 × Int => xs.length - q.2.toNat) ⟨0, rfl, by omega, by simp⟩ ?_
   rintro ⟨_, _⟩ ⟨j, rfl, h2, rfl⟩
   simp only [q9q]
   have hb := hfl j h2
   by_cases hj : j < xs.length
   ·have hu := hs _ (List.getElem_mem hj)
    simp only [show (j : Int) < xs.length by omega, decide_true, if_true, show (0 : Int) <= j by omega, and_self, itn, y9 hj, e7 (n := (j : Int) + 1) (by omega) (by omega),
     show ((xs.take j).flatten.length + xs[j].length) * 8 <= 140737488355328 by omega]
    exact .some ⟨⟨j + 1, by simp, by omega, by rw [tk j hj]⟩, by simp; omega⟩
   ·simp only [show ¬ (j : Int) < xs.length by omega, decide_false, bft, if_false, Option.map_some]
    refine .some ?_
    simp only [Rnd]
    rw [List.take_of_length_le (by omega)]
 exact key.eq
theorem j2c : ∀ {l m : q7}, l.Pairwise (· < ·) -> m.Pairwise (· < ·) -> (∀ x, x ∈ l ↔ x ∈ m) -> l = m
 | [], [], _, _, _ => rfl
 | [], y :: m, _, _, h => by have := (h y).2 (by simp); simp at this
 | x :: l, [], _, _, h => by have := (h x).1 (by simp); simp at this
 | x :: l, y :: m, hl, hm, h => by
  rw [List.pairwise_cons] at hl hm
  have e : x = y := by
   rcases List.mem_cons.1 ((h x).1 (by simp)) with h1 | h1
   ·exact h1
   ·rcases List.mem_cons.1 ((h y).2 (by simp)) with h2 | h2
    ·exact h2.symm
    ·have := hl.1 y h2; have := hm.1 x h1; omega
  subst e
  rw [j2c hl.2 hm.2 fun z => ⟨fun hz => ?_, fun hz => ?_⟩]
  ·rcases List.mem_cons.1 ((h z).1 (by simp [hz])) with h1 | h1
   ·have := hl.1 z hz; omega
   ·exact h1
  ·rcases List.mem_cons.1 ((h z).2 (by simp [hz])) with h1 | h1
   ·have := hm.1 z hz; omega
   ·exact h1
theorem j4k {n : Int} : ∀ {l : q7}, l.Pairwise (· < ·) -> (ins n l).Pairwise (· < ·)
 | [], _ => by simp [ins]
 | x :: l, h => by
  rw [List.pairwise_cons] at h
  unfold ins
  by_cases h1 : x < n
  ·rw [if_pos h1, List.pairwise_cons]
   refine ⟨fun y hy => ?_, j4k h.2⟩
   rcases z4x.1 hy with rfl | hy
   ·exact h1
   ·exact h.1 y hy
  ·rw [if_neg h1]
   by_cases h2 : x = n
   ·rw [if_pos h2]; exact List.pairwise_cons.2 h
   ·rw [if_neg h2, List.pairwise_cons]
    refine ⟨fun y hy => ?_, List.pairwise_cons.2 h⟩
    rcases List.mem_cons.1 hy with rfl | hy
    ·omega
    ·have := h.1 y hy; omega
theorem k0t : ∀ {t v : q7}, v.Pairwise (· < ·) -> (b9 v t).Pairwise (· < ·)
 | [], v, h => h
 | x :: t, v, h => by
  show (b9 (if x < 0 then ins (-1 - x) v else v) t).Pairwise (· < ·)
  split
  ·exact k0t (j4k h)
  ·exact k0t h
theorem z1z : ∀ {cs : Ty3} {v : q7}, v.Pairwise (· < ·) -> (cs.foldl (fun v c => b9 v c.2) v).Pairwise (· < ·)
 | [], v, h => h
 | c :: cs, v, h => z1z (cs := cs) (k0t h)
theorem z2a {m : Int} : ∀ {cs : Ty3} {v : q7}, m ∈ cs.foldl (fun v c => b9 v c.2) v ↔ m ∈ v ∨ ∃ x ∈ cs.flatMap (·.2), x < 0 /\ m = -1 - x
 | [], v => by simp
 | c :: cs, v => by
  rw [List.foldl_cons, z2a (cs := cs), e1q, or_assoc]
  simp only [List.flatMap_cons, List.mem_append]
  constructor
  ·rintro (h | ⟨x, h1, h2⟩ | ⟨x, h1, h2⟩)
   ·exact .inl h
   ·exact .inr ⟨x, .inl h1, h2⟩
   ·exact .inr ⟨x, .inr h1, h2⟩
  ·rintro (h | ⟨x, h1 | h1, h2⟩)
   ·exact .inl h
   ·exact .inr (.inl ⟨x, h1, h2⟩)
   ·exact .inr (.inr ⟨x, h1, h2⟩)
theorem z2c {m : Int} : ∀ {cs : Ty3} {v : q7}, m ∈ cs.foldl (fun v c => b9 (b9 v c.1) c.2) v ↔ m ∈ v ∨ ∃ x ∈ cs.flatMap (fun c => c.1 ++ c.2), x < 0 /\ m = -1 - x
 | [], v => by simp
 | c :: cs, v => by
  rw [List.foldl_cons, z2c (cs := cs), e1q, e1q, or_assoc, or_assoc]
  simp only [List.flatMap_cons, List.mem_append]
  constructor
  ·rintro (h | ⟨x, h1, h2⟩ | ⟨x, h1, h2⟩ | ⟨x, h1, h2⟩)
   ·exact .inl h
   ·exact .inr ⟨x, .inl (.inl h1), h2⟩
   ·exact .inr ⟨x, .inl (.inr h1), h2⟩
   ·exact .inr ⟨x, .inr h1, h2⟩
  ·rintro (h | ⟨x, (h1 | h1) | h1, h2⟩)
   ·exact .inl h
   ·exact .inr (.inl ⟨x, h1, h2⟩)
   ·exact .inr (.inr (.inl ⟨x, h1, h2⟩))
   ·exact .inr (.inr (.inr ⟨x, h1, h2⟩))
def vin (t : q7) : q7 := ((List.range 24).map fun i : Nat => (i : Int)).filter fun i => decide (-1 - i ∈ t)
theorem x9y (t : q7) : (vin t).Pairwise (· < ·) := by
 refine List.Pairwise.filter _ ?_
 rw [List.pairwise_map]
 exact List.pairwise_lt_range.imp fun h => by omega
theorem z5v {t : q7} {m : Int} : m ∈ vin t ↔ (0 <= m /\ m < 24) /\ -1 - m ∈ t := by
 simp only [vin, List.mem_filter, List.mem_map, List.mem_range, decide_eq_true_eq]
 constructor
 ·rintro ⟨⟨i, h1, rfl⟩, h2⟩; exact ⟨by omega, h2⟩
 ·rintro ⟨h1, h2⟩; exact ⟨⟨m.toNat, by omega, by omega⟩, h2⟩
theorem k2s {t : q7} (hs : o4q t) : n7q t = some (vin t) := by
 unfold n7q
 have := f1q (n := 24) (fun j => ((((List.range j).map fun i : Nat => (i : Int)).filter fun i => decide (-1 - i ∈ t)), (j : Int))) (c := vin t) (f := f4q t) (fun j hj => by
  have hl : ((((List.range j).map fun i : Nat => (i : Int)).filter fun i => decide (-1 - i ∈ t)).length) <= 24 := Nat.le_trans (List.length_filter_le _ _) (by simp; omega)
  simp only [f4q, show (j : Int) < 24 by omega, decide_true, if_true, e7 (n := -1 - (j : Int)) (by omega) (by omega), d1q hs, obz, e7 (n := (j : Int) + 1) (by omega) (by omega), show ((((List.range j).map fun i : Nat => (i : Int)).filter fun i => decide (-1 - i ∈ t)).length + 1) * 8 <= 140737488355328 by omega]
  rw [List.range_succ, List.map_append, List.filter_append]
  by_cases hm : -1 - (j : Int) ∈ t
  ·rw [if_pos (by simpa using hm), List.map_cons, List.filter_cons_of_pos (by simpa using hm)]
   simp
  ·rw [if_neg (by simpa using hm), List.map_cons, List.filter_cons_of_neg (by simpa using hm)]
   simp) (by simp [f4q, vin])
 simpa using this
def q9l (r : CRl) (i : Nat) : q7 := r.1 ++ (r.2.2.take i).flatMap (·.2)
def z9b (r : CRl) (i : Nat) : q7 := ((r.2.2.getD i default).2 ++ r.2.1) ++ (r.2.2.drop (i + 1)).flatMap fun c => c.1 ++ c.2
theorem z7c {a : q7} {r : CRl} (hr : q1g a r = true) {i : Nat} (hi : i < r.2.2.length) : (vin (q9l r i)).filter (fun x => decide (-1 - x ∈ z9b r i)) = p8q r i := by
 obtain ⟨h1, h2, _, h4, h5⟩ := i4.1 hr
 have hcs := s7q h5
 refine j2c ((x9y _).filter _) ((z1z (k0t List.Pairwise.nil)).filter _) fun x => ?_
 have hk : x ∈ q0g r i ↔ ∃ y ∈ q9l r i, y < 0 /\ x = -1 - y := by
  unfold q0g q9l
  rw [z2a, e1q]
  simp only [List.not_mem_nil, false_or, List.mem_append]
  constructor
  ·rintro (⟨y, a1, a2⟩ | ⟨y, a1, a2⟩)
   ·exact ⟨y, .inl a1, a2⟩
   ·exact ⟨y, .inr a1, a2⟩
  ·rintro ⟨y, a1 | a1, a2⟩
   ·exact .inl ⟨y, a1, a2⟩
   ·exact .inr ⟨y, a1, a2⟩
 have hn : x ∈ k1w r i ↔ ∃ y ∈ z9b r i, y < 0 /\ x = -1 - y := by
  unfold k1w z9b
  rw [z2c, e1q, e1q]
  simp only [List.not_mem_nil, false_or, List.mem_append]
  constructor
  ·rintro ((⟨y, a1, a2⟩ | ⟨y, a1, a2⟩) | ⟨y, a1, a2⟩)
   ·exact ⟨y, .inl (.inr a1), a2⟩
   ·exact ⟨y, .inl (.inl a1), a2⟩
   ·exact ⟨y, .inr a1, a2⟩
  ·rintro ⟨y, (a1 | a1) | a1, a2⟩
   ·exact .inl (.inr ⟨y, a1, a2⟩)
   ·exact .inl (.inl ⟨y, a1, a2⟩)
   ·exact .inr ⟨y, a1, a2⟩
 have hb : ∀ y ∈ q9l r i, -24 <= y := fun y hy => by
  rcases List.mem_append.1 hy with hy | hy
  ·exact (m9 h1).2 y hy
  ·obtain ⟨c, c1, c2⟩ := List.mem_flatMap.1 hy
   exact (m9 (hcs c (List.mem_of_mem_take c1)).2).2 y c2
 unfold p8q
 rw [List.mem_filter, List.mem_filter, decide_eq_true_eq, decide_eq_true_eq, z5v, hk, hn]
 constructor
 ·rintro ⟨⟨a1, a2⟩, a3⟩
  exact ⟨⟨_, a2, by omega, by omega⟩, ⟨_, a3, by omega, by omega⟩⟩
 ·rintro ⟨⟨y, a1, a2, a3⟩, ⟨z, b1, b2, b3⟩⟩
  have e1 : -1 - x = y := by omega
  have e2 : -1 - x = z := by omega
  have := hb y a1
  exact ⟨⟨by omega, by rw [e1]; exact a1⟩, by rw [e2]; exact b1⟩
theorem q0y {l : q7} (hs : o4q l) : n8 l = some l := by
 unfold n8
 refine (Okk.amb (t := True) (P := (· = l)) ?_ fun h => ?_).eq
 ·rw [if_pos (by have := hs; omega)]; exact .some rfl
 ·subst h; simp
theorem z1y {cs : Ty3} (h : ∀ c ∈ cs, c.1.length <= 60 /\ c.2.length <= 60) : (cs.flatMap (·.2)).length <= 60 * cs.length /\ (cs.flatMap fun c => c.1 ++ c.2).length <= 120 * cs.length := by
 induction cs with
 | nil => simp
 | cons c cs ih =>
  have h1 := h c (by simp)
  have h2 := ih fun c hc => h c (by simp [hc])
  simp only [List.flatMap_cons, lap, List.length_cons]
  omega
theorem k6t {a : q7} {r : CRl} (hr : q1g a r = true) {i : Nat} (hi : i < r.2.2.length) : v0q r i = some (p8q r i) := by
 obtain ⟨h1, h2, _, h4, h5⟩ := i4.1 hr
 obtain ⟨l1, x1⟩ := m9 h1
 obtain ⟨l2, x2⟩ := m9 h2
 have hcs := s7q h5
 have hc1 : ∀ c ∈ r.2.2, c.1.length <= 60 /\ c.2.length <= 60 := fun c hc => ⟨(m9 (hcs c hc).1).1, (m9 (hcs c hc).2).1⟩
 have hci := hc1 _ (u4 hi)
 unfold v0q
 rw [q0y (show r.1.length < _ by omega), obz, if_pos (by omega), itn, r0q (by simp) (fun u hu => by
  rcases List.mem_cons.1 hu with rfl | hu
  ·omega
  ·rw [List.mem_singleton.1 hu]; omega), obz]
 have hbl : ∀ j, (((r.2.2.take j).drop (i + 1)).flatMap fun c => c.1 ++ c.2).length <= 240 := fun j => by
  have := (z1y (cs := (r.2.2.take j).drop (i + 1)) fun c hc => hc1 c (List.mem_of_mem_take (List.mem_of_mem_drop hc))).2
  have hl : ((r.2.2.take j).drop (i + 1)).length <= 2 := by rw [List.length_drop, List.length_take]; omega
  omega
 have hgl : ∀ j, (((r.2.2.take j).take i).flatMap (·.2)).length <= 120 := fun j => by
  have := (z1y (cs := (r.2.2.take j).take i) fun c hc => hc1 c (List.mem_of_mem_take (List.mem_of_mem_take hc))).1
  have hl : ((r.2.2.take j).take i).length <= 2 := by rw [List.length_take, List.length_take]; omega
  omega
 have A := f1q (n := r.2.2.length) (fun j => (((r.2.2.getD i default).2 ++ r.2.1) ++ ((r.2.2.take j).drop (i + 1)).flatMap fun c => c.1 ++ c.2, (j : Int), r.1 ++ ((r.2.2.take j).take i).flatMap (·.2))) (c := p8q r i) (f := z1q r i) (fun j hj => by
  have hcj := hc1 _ (u4 hj)
  have hb := hbl j
  have hg := hgl j
  have hlt : (r.2.2.take j).length = j := by rw [List.length_take]; omega
  have d1 : (r.2.2.take (j + 1)).drop (i + 1) = (r.2.2.take j).drop (i + 1) ++ (if i < j then [r.2.2.getD j default] else []) := by
   rw [x6q hj, List.drop_append, hlt]
   by_cases hij : i < j
   ·rw [if_pos hij, show i + 1 - j = 0 by omega]; rfl
   ·rw [if_neg hij, List.drop_of_length_le (l := [_]) (by simp; omega)]
  have d2 : (r.2.2.take (j + 1)).take i = (r.2.2.take j).take i ++ (if j < i then [r.2.2.getD j default] else []) := by
   rw [x6q hj, List.take_append, hlt]
   by_cases hij : j < i
   ·rw [if_pos hij, List.take_of_length_le (l := [_]) (by simp; omega)]
   ·rw [if_neg hij, show i - j = 0 by omega]; rfl
  simp only [z1q, show (j : Int) < r.2.2.length by omega, decide_true, if_true, show (0 : Int) <= j by omega, and_self, itn, e7 (n := (j : Int) + 1) (by omega) (by omega), d1, d2, List.flatMap_append]
  rcases Nat.lt_trichotomy j i with hij | hij | hij
  ·have hsz : ((r.1 ++ ((r.2.2.take j).take i).flatMap (·.2)).length + (r.2.2.getD j default).2.length) * 8 <= 140737488355328 := by rw [lap]; omega
   rw [if_pos (decide_eq_true (by omega)), if_pos hsz, if_neg (by simp only [decide_eq_true_eq]; omega), if_neg (show ¬ i < j by omega), if_pos hij]
   simp
  ·rw [if_neg (by simp only [decide_eq_true_eq]; omega), if_neg (by simp only [decide_eq_true_eq]; omega), if_neg (show ¬ i < j by omega), if_neg (show ¬ j < i by omega)]
   simp
  ·rw [if_neg (by simp only [decide_eq_true_eq]; omega), if_pos (decide_eq_true (by omega)), if_pos hij, if_neg (show ¬ j < i by omega), r0q (by simp) (by
    intro u hu
    simp only [List.mem_cons, List.not_mem_nil, or_false] at hu
    rcases hu with rfl | rfl | rfl
    ·simp only [lap]; omega
    ·omega
    ·omega), obz]
   simp) (by
  have e1 : r.2.2.take r.2.2.length = r.2.2 := List.take_length
  have hb := hbl r.2.2.length
  have hg := hgl r.2.2.length
  rw [e1] at hb hg
  have hbs : o4q (q9l r i) := by show (q9l r i).length < _; unfold q9l; rw [lap]; omega
  have hds : o4q (z9b r i) := by show (z9b r i).length < _; unfold z9b; rw [lap, lap]; omega
  simp only [e1]
  have eg : z1q r i (((r.2.2.getD i default).2 ++ r.2.1) ++ (r.2.2.drop (i + 1)).flatMap fun c => c.1 ++ c.2, (r.2.2.length : Int), r.1 ++ (r.2.2.take i).flatMap (·.2)) = Option.map Sum.inr ((n7q (q9l r i)).bind fun r_5 => loopC (q6q (z9b r i) r_5) ([], 0)) := by
   simp only [z1q, Int.lt_irrefl, decide_false, bft, if_false]
   rfl
  rw [eg, k2s hbs, obz]
  have hvl : (vin (q9l r i)).length <= 24 := Nat.le_trans (List.length_filter_le _ _) (by simp)
  have C := f1q (n := (vin (q9l r i)).length) (fun j => (((vin (q9l r i)).take j).filter fun x => decide (-1 - x ∈ z9b r i), (j : Int))) (c := p8q r i) (f := q6q (z9b r i) (vin (q9l r i))) (fun j hj => by
   have hl : (((vin (q9l r i)).take j).filter fun x => decide (-1 - x ∈ z9b r i)).length <= 24 := Nat.le_trans (List.length_filter_le _ _) (by rw [List.length_take]; omega)
   have hx := (z5v.1 (u4 hj)).1
   simp only [q6q, show (j : Int) < (vin (q9l r i)).length by omega, decide_true, if_true, show (0 : Int) <= j by omega, and_self, itn, e7 (n := -1 - (vin (q9l r i)).getD j default) (by omega) (by omega), d1q hds, obz, e7 (n := (j : Int) + 1) (by omega) (by omega), show ((((vin (q9l r i)).take j).filter fun x => decide (-1 - x ∈ z9b r i)).length + 1) * 8 <= 140737488355328 by omega]
   rw [x6q hj, List.filter_append]
   by_cases hm : -1 - (vin (q9l r i)).getD j default ∈ z9b r i
   ·rw [if_pos (by simpa using hm), List.filter_cons_of_pos (by simpa using hm)]
    simp
   ·rw [if_neg (by simpa using hm), List.filter_cons_of_neg (by simpa using hm)]
    simp) (by
   have := z7c hr hi
   simp [q6q, this])
  have C' : loopC (q6q (z9b r i) (vin (q9l r i))) ([], 0) = some (p8q r i) := by simpa using C
  rw [C']; rfl)
 simpa using A
theorem q5y {sym : Int} {t vars : q7} (ht : t.length <= 60) (hv : vars.length <= 1000) (hx : Rng vars) : r2q sym t vars = some (q7l sym t vars) := by
 unfold r2q
 rw [r0q (by simp) (by simp; omega), obz]
 have he : [[sym], t].flatten = [sym] ++ t := by simp
 rw [he]
 refine k3r (mk := fun i out => (out, i)) (xs := vars) (g := fun v => -1 - v) (out0 := [sym] ++ t) (fun i out x hi hm hg ho => ?_) ?_
 ·have := hx x hm
  have ho' : out.length = t.length + 1 + i := by simpa [Nat.add_comm] using ho
  simp only [t3q, show (i : Int) < vars.length by omega, decide_true, if_true, show (0 : Int) <= i by omega, and_self, itn, hg, e7 (n := -1 - x) (by omega) (by omega), e7 (n := (i : Int) + 1) (by omega) (by omega), show (out.length + 1) * 8 <= 140737488355328 by omega]
 ·simp [t3q, q7l]
theorem z2w {r : CRl} {sym : Int} {j : Nat} (hj : j < r.2.2.length) : ((f5 r sym).getD j default).2 = q7l (sym + j) (r.2.2.getD j default).1 (p8q r j) /\ ((f5 r sym).getD (j + 1) default).1 = q7l (sym + j) (r.2.2.getD j default).2 (p8q r j) := by
 constructor
 ·cases j with
  | zero =>
   simp only [f5, List.getD_cons_zero, hj, if_true]
   rw [show sym + ((0 : Nat) : Int) = sym by omega]
  | succ j =>
   have h : j < ((List.range r.2.2.length).map (q8s r sym)).length := by simp; omega
   rw [f5, List.getD_cons_succ, y9 h]
   simp only [List.getElem_map, List.getElem_range, q8s, hj, if_true]
   rw [show sym + (j : Int) + 1 = sym + ((j + 1 : Nat) : Int) by omega]
 ·have h : j < ((List.range r.2.2.length).map (q8s r sym)).length := by simp; omega
  rw [f5, List.getD_cons_succ, y9 h]
  simp only [List.getElem_map, List.getElem_range, q8s]
theorem k6c {r : CRl} {sym : Int} : ((f5 r sym).getD r.2.2.length default).2 = r.2.1 := by
 cases hl : r.2.2.length with
 | zero => simp [f5, hl]
 | succ n =>
  have h : n < ((List.range (n + 1)).map (q8s r sym)).length := by simp
  rw [f5, List.getD_cons_succ, hl, y9 h]
  simp only [List.getElem_map, List.getElem_range, q8s, hl, Nat.lt_irrefl, if_false]
theorem k9f {cs : CSy} {i : Nat} {a : q7} (hr : q1g a (cs.2.getD i default) = true) (hi : i < 1000) {ar : q7} {out : Ty3} (ha : ar.length <= 1000) (ho : out.length <= 1000) :
 loopC (t8 cs i) ((cs.2.getD i default).1, 0, ar, out) = some (.inl ((i : Int) + 1, ar ++ arV (cs.2.getD i default) (cs.2.getD i default).2.2.length, out ++ f5 (cs.2.getD i default) ar.length)) := by
 obtain ⟨h1, h2, _, h4, h5⟩ := i4.1 hr
 obtain ⟨l2, x2⟩ := m9 h2
 have hcs := s7q h5
 have A := f1q (n := (cs.2.getD i default).2.2.length) (fun j => (((f5 (cs.2.getD i default) ar.length).getD j default).1, (j : Int), ar ++ arV (cs.2.getD i default) j, out ++ (f5 (cs.2.getD i default) ar.length).take j)) (c := Sum.inl ((i : Int) + 1, ar ++ arV (cs.2.getD i default) (cs.2.getD i default).2.2.length, out ++ f5 (cs.2.getD i default) ar.length)) (f := t8 cs i) (fun j hj => by
  obtain ⟨k1, k2⟩ := q4b hr j
  have hm := hcs _ (u4 hj)
  have e : v0q ((cs.2.getD i default).1, (cs.2.getD i default).2.1, (cs.2.getD i default).2.2) (j : Int) = some (p8q (cs.2.getD i default) j) := k6t hr hj
  have hal : (ar ++ arV (cs.2.getD i default) j).length = ar.length + j := by simp [arV]
  have htl : ((f5 (cs.2.getD i default) ar.length).take j).length = j := by rw [List.length_take, l6q]; omega
  have hol : (out ++ (f5 (cs.2.getD i default) ar.length).take j).length = out.length + j := by rw [lap, htl]
  have hcast : ((ar.length + j : Nat) : Int) = (ar.length : Int) + (j : Int) := by omega
  obtain ⟨r1, r2⟩ := z2w (r := cs.2.getD i default) (sym := (ar.length : Int)) hj
  simp only [t8, itn, show (j : Int) < (cs.2.getD i default).2.2.length by omega, decide_true, if_true, show (0 : Int) <= j by omega, and_self, e, obz, hal, hol, hcast, show (ar.length + j + 1) * 8 <= 140737488355328 by omega, show (out.length + j + 1) * 48 <= 140737488355328 by omega,
   q5y (sym := (ar.length : Int) + (j : Int)) (m9 hm.1).1 (show (p8q (cs.2.getD i default) j).length <= 1000 by omega) k2, q5y (sym := (ar.length : Int) + (j : Int)) (m9 hm.2).1 (show (p8q (cs.2.getD i default) j).length <= 1000 by omega) k2,
   e7 (n := 1 + ((p8q (cs.2.getD i default) j).length : Int)) (by omega) (by omega), e7 (n := (j : Int) + 1) (by omega) (by omega)]
  have hx : arV (cs.2.getD i default) (j + 1) = arV (cs.2.getD i default) j ++ [1 + ((p8q (cs.2.getD i default) j).length : Int)] := by unfold arV; rw [List.range_succ, List.map_append]; rfl
  have hlt : j < (f5 (cs.2.getD i default) ar.length).length := by rw [l6q]; omega
  rw [hx, x6q hlt, laa, laa, r2, <- r1]
  rfl) (by
  have htl : ((f5 (cs.2.getD i default) ar.length).take (cs.2.getD i default).2.2.length).length = (cs.2.getD i default).2.2.length := by rw [List.length_take, l6q]; omega
  have hol : (out ++ (f5 (cs.2.getD i default) ar.length).take (cs.2.getD i default).2.2.length).length = out.length + (cs.2.getD i default).2.2.length := by rw [lap, htl]
  have hall : f5 (cs.2.getD i default) ar.length = (f5 (cs.2.getD i default) ar.length).take (cs.2.getD i default).2.2.length ++ [(((f5 (cs.2.getD i default) ar.length).getD (cs.2.getD i default).2.2.length default).1, (cs.2.getD i default).2.1)] := by
   have hlt : (cs.2.getD i default).2.2.length < (f5 (cs.2.getD i default) ar.length).length := by rw [l6q]; omega
   have h := x6q hlt
   rw [List.take_of_length_le (by rw [l6q]; omega)] at h
   refine h.trans ?_
   rw [<- k6c (r := cs.2.getD i default) (sym := (ar.length : Int))]
  simp only [t8, itn, Int.lt_irrefl, decide_false, bft, if_false, j3q (show (cs.2.getD i default).2.1.length < _ by omega), obz, hol, show (out.length + (cs.2.getD i default).2.2.length + 1) * 48 <= 140737488355328 by omega, if_true, e7 (n := (i : Int) + 1) (by omega) (by omega)]
  rw [laa, <- hall]
  rfl)
 simpa [arV, f5] using A
theorem k0z {cs : CSy} (hc : p7q cs = true) : j0q cs = some (f9 cs, b0q (f9 cs)) := by
 obtain ⟨ha, hn, hrs⟩ := y4q.1 hc
 have hal := (q2s.1 ha).2.1
 have h2 : ∀ r ∈ cs.2, r.2.2.length <= 2 := fun r hr => (i4.1 (hrs r hr)).2.2.2.1
 unfold j0q
 rw [q0y (show cs.1.length < _ by omega), obz]
 have A := f1q (n := cs.2.length) (fun j => ((j : Int), ((cs.2.take j).foldl z0q (cs.1, [])).1, ((cs.2.take j).foldl z0q (cs.1, [])).2)) (c := (f9 cs, b0q (f9 cs))) (f := k0q cs) (fun j hj => by
  have hl := z5t (rs := cs.2.take j) (acc := (cs.1, [])) (m := 8) (fun r hr => h2 r (List.mem_of_mem_take hr)) hal (by simp)
  have htl : (cs.2.take j).length <= 12 := by rw [List.length_take]; omega
  have hr := hrs _ (u4 hj)
  have hl1 := (m9 (i4.1 hr).1).1
  simp only [k0q, show (j : Int) < cs.2.length by omega, decide_true, if_true, show (0 : Int) <= j by omega, and_self, itn, j3q (show (cs.2.getD j default).1.length < _ by omega), obz]
  rw [k9f hr (by omega) (by omega) (by omega), x6q hj, List.foldl_append]
  rfl) (by
  have e : cs.2.take cs.2.length = cs.2 := List.take_length
  simp only [k0q, Int.lt_irrefl, decide_false, bft, if_false, e]
  have : x1q ((cs.2.foldl z0q (cs.1, [])).1, (cs.2.foldl z0q (cs.1, [])).2) = some (b0q (f9 cs)) := q8x (f9 cs)
  rw [this, obz]
  rfl)
 simpa using A
def o6q (cs : CSy) (k : Nat) : Nat := ((cs.2.take k).map fun r => 1 + r.2.2.length).sum
theorem k1s {cs : CSy} (hn : cs.2.length <= 12) (h2 : ∀ r ∈ cs.2, r.2.2.length <= 2) : ∀ k, o6q cs k <= 36 := fun k => by
 have key : ∀ l : List CRl, (∀ r ∈ l, r.2.2.length <= 2) -> (l.map fun r => 1 + r.2.2.length).sum <= 3 * l.length := fun l => by
  induction l with
  | nil => simp
  | cons r l ih =>
   intro h
   have := h r (by simp)
   have := ih fun r hr => h r (by simp [hr])
   simp only [List.map_cons, List.sum_cons, List.length_cons]; omega
 have := key (cs.2.take k) fun r hr => h2 r (List.mem_of_mem_take hr)
 have hl : (cs.2.take k).length <= 12 := by rw [List.length_take]; omega
 unfold o6q; omega
theorem z2e {cs : CSy} {k : Nat} (hk : k < cs.2.length) : o6q cs (k + 1) = o6q cs k + (1 + (cs.2.getD k default).2.2.length) := by
 unfold o6q; rw [x6q hk]; simp
theorem q1w {cs : CSy} (hc : p7q cs = true) {k : Nat} (hk : k < cs.2.length) : a8 cs k = some (o6q cs k : Int) := by
 obtain ⟨ha, hn, hrs⟩ := y4q.1 hc
 have h2 : ∀ r ∈ cs.2, r.2.2.length <= 2 := fun r hr => (i4.1 (hrs r hr)).2.2.2.1
 unfold a8
 rw [if_pos (by omega)]
 have hlt : (cs.2.take k).length = k := by rw [List.length_take]; omega
 have A := f1q (n := k) (fun j => ((o6q cs j : Int), (j : Int))) (c := (o6q cs k : Int)) (f := q0q cs k) (fun j hj => by
  have hg : (cs.2.take k).getD j default = cs.2.getD j default := by rw [y9 (by omega), y9 (show j < cs.2.length by omega), List.getElem_take]
  have hb := k1s hn h2 j
  have hb2 := h2 _ (u4 (show j < cs.2.length by omega))
  have hs := z2e (show j < cs.2.length by omega)
  simp only [q0q, itn, hlt, show (j : Int) < (k : Int) by omega, decide_true, if_true, show (0 : Int) <= j by omega, and_self, hg, e7 (n := 1 + ((cs.2.getD j default).2.2.length : Int)) (by omega) (by omega), e7 (n := (o6q cs j : Int) + (1 + ((cs.2.getD j default).2.2.length : Int))) (by omega) (by omega), e7 (n := (j : Int) + 1) (by omega) (by omega)]
  refine congrArg (fun x => some (Sum.inl x)) ?_
  refine Prod.ext ?_ ?_
  ·show (o6q cs j : Int) + (1 + ((cs.2.getD j default).2.2.length : Int)) = (o6q cs (j + 1) : Int)
   omega
  ·show (j : Int) + 1 = ((j + 1 : Nat) : Int)
   omega) (by simp [q0q, hlt])
 simpa [o6q] using A
theorem q9f {cs : CSy} (hc : p7q cs = true) {k : Nat} (hk : k < cs.2.length) : n2q cs k = some (o6q cs k : Int) := by
 obtain ⟨ha, hn, hrs⟩ := y4q.1 hc
 have h2 : ∀ r ∈ cs.2, r.2.2.length <= 2 := fun r hr => (i4.1 (hrs r hr)).2.2.2.1
 unfold n2q
 have A := f1q (n := k) (fun j => ((o6q cs j : Int), (j : Int))) (c := (o6q cs k : Int)) (f := u3q cs k) (fun j hj => by
  have hb := k1s hn h2 j
  have hb2 := h2 _ (u4 (show j < cs.2.length by omega))
  have hs := z2e (show j < cs.2.length by omega)
  simp only [u3q, show (j : Int) < (k : Int) by omega, decide_true, if_true, show (0 : Int) <= j by omega, show (j : Int) < cs.2.length by omega, and_self, itn, e7 (n := (o6q cs j : Int) + 1) (by omega) (by omega), e7 (n := (o6q cs j : Int) + 1 + ((cs.2.getD j default).2.2.length : Int)) (by omega) (by omega), e7 (n := (j : Int) + 1) (by omega) (by omega)]
  refine congrArg (fun x => some (Sum.inl x)) ?_
  refine Prod.ext ?_ ?_
  ·show (o6q cs j : Int) + 1 + ((cs.2.getD j default).2.2.length : Int) = (o6q cs (j + 1) : Int)
   omega
  ·show (j : Int) + 1 = ((j + 1 : Nat) : Int)
   omega) (by simp [u3q])
 simpa [o6q] using A
end Go.Proofs.YtklfjpilhbkekaaGreat
