/- The layer of data and running functions, and its rules; nothing is assumed. -/
import Derived.Orders
import Derived.Laws.Cells
import Derived.Laws.World
import Derived.Laws.AppendOwn
import Derived.Below
import Derived.ControlIn
import Derived.CallsIn
import Derived.RangeFuncIn
import Derived.OrdersIn
import Derived.RangeFuncRecord
import Derived.RangeFuncLeaves
import Derived.RangeFuncOwn
import Derived.Maps.OwnSet
set_option linter.all false
noncomputable section
namespace Abx
open Go
inductive D where
 | any
 | lit (v : Value)
 | sl (e : Nat) (nl : Option Bool) (xs : List D)
 | agg (cs : List D)
 deriving Inhabited
abbrev Own := Nat -> Nat -> Prop
def one : Value -> Bool
 | .agg _ => false
 | .tuple _ => false
 | _ => true
def Cells (O : Own) (w : World) (b o : Nat) (vs : List Value) : Prop :=
 ∀ j v, vs[j]? = some v -> w.cell? ⟨b, o + j, none⟩ = some v /\ ¬ O b (o + j) /\ one v = true
def LenOk (n cap : Nat) : Prop := n <= cap /\ cap < 2 ^ 63
def NlOk (nl : Option Bool) (a : Option Addr) (cap : Nat) : Prop :=
 match nl with
 | none => True
 | some true => a = none /\ cap = 0
 | some false => a ≠ none
mutual
def D.ok (O : Own) (w : World) : D -> Value -> Prop
 | .any, v => one v = true
 | .lit u, v => v = u /\ one u = true
 | .agg cs, v => ∃ vs : Array Value, v = .agg vs /\ D.oks O w cs vs.toList
 | .sl e nl xs, v => ∃ a cap, v = .slice a xs.length cap /\ LenOk xs.length cap /\ NlOk nl a cap /\
  (xs = [] ∨ ∃ b o, a = some ⟨b, o, none⟩ /\ D.row O w b o e xs)
def D.oks (O : Own) (w : World) : List D -> List Value -> Prop
 | [], vs => vs = []
 | c :: cs, vs => ∃ v r, vs = v :: r /\ one v = true /\ D.ok O w c v /\ D.oks O w cs r
def D.row (O : Own) (w : World) (b o e : Nat) : List D -> Prop
 | [] => True
 | .agg cs :: xs => (∃ vs, vs.length = e /\ Cells O w b o vs /\ D.oks O w cs vs) /\ D.row O w b (o + e) e xs
 | x :: xs => (∃ v, e = 1 /\ Cells O w b o [v] /\ D.ok O w x v) /\ D.row O w b (o + e) e xs
end
def D.cel (O : Own) (w : World) (x : D) (vs : List Value) : Prop :=
 match x with
 | .agg cs => D.oks O w cs vs
 | x => ∃ v, vs = [v] /\ D.ok O w x v
theorem D.row_cons {O : Own} {w : World} {b o e : Nat} {x : D} {xs : List D} : D.row O w b o e (x :: xs) ↔
 (∃ vs, vs.length = e /\ Cells O w b o vs /\ D.cel O w x vs) /\ D.row O w b (o + e) e xs := by
 cases x with
 | agg cs => simp only [D.row, D.cel]
 | any =>
  simp only [D.row, D.cel]
  refine and_congr_left fun _ => ⟨?_, ?_⟩
  ·rintro ⟨v, rfl, h1, h2⟩; exact ⟨[v], rfl, h1, v, rfl, h2⟩
  ·rintro ⟨vs, rfl, h1, v, rfl, h2⟩; exact ⟨v, rfl, h1, h2⟩
 | lit u =>
  simp only [D.row, D.cel]
  refine and_congr_left fun _ => ⟨?_, ?_⟩
  ·rintro ⟨v, rfl, h1, h2⟩; exact ⟨[v], rfl, h1, v, rfl, h2⟩
  ·rintro ⟨vs, rfl, h1, v, rfl, h2⟩; exact ⟨v, rfl, h1, h2⟩
 | sl e' nl ys =>
  simp only [D.row, D.cel]
  refine and_congr_left fun _ => ⟨?_, ?_⟩
  ·rintro ⟨v, rfl, h1, h2⟩; exact ⟨[v], rfl, h1, v, rfl, h2⟩
  ·rintro ⟨vs, rfl, h1, v, rfl, h2⟩; exact ⟨v, rfl, h1, h2⟩
theorem Cells.mono {O O' : Own} {w w' : World} {b o : Nat} {vs : List Value}
 (h : ∀ b o v, w.cell? ⟨b, o, none⟩ = some v -> ¬ O b o -> w'.cell? ⟨b, o, none⟩ = some v /\ ¬ O' b o)
 (hc : Cells O w b o vs) : Cells O' w' b o vs := fun j v hj =>
 have h1 := h _ _ _ (hc j v hj).1 (hc j v hj).2.1; ⟨h1.1, h1.2, (hc j v hj).2.2⟩
mutual
theorem D.ok_mono {O O' : Own} {w w' : World}
 (h : ∀ b o v, w.cell? ⟨b, o, none⟩ = some v -> ¬ O b o -> w'.cell? ⟨b, o, none⟩ = some v /\ ¬ O' b o) :
 ∀ (x : D) (v : Value), D.ok O w x v -> D.ok O' w' x v
 | .any, v => fun hx => by simpa [D.ok] using hx
 | .lit u, v => fun hx => by simpa [D.ok] using hx
 | .agg cs, v => fun hx => by
  simp only [D.ok] at hx ⊢
  obtain ⟨vs, h1, h2⟩ := hx
  exact ⟨vs, h1, D.oks_mono h cs _ h2⟩
 | .sl e nl xs, v => fun hx => by
  simp only [D.ok] at hx ⊢
  obtain ⟨a, cap, h1, h2, h3, h4⟩ := hx
  refine ⟨a, cap, h1, h2, h3, ?_⟩
  rcases h4 with h4 | ⟨b, o, h4, h5⟩
  ·exact .inl h4
  ·exact .inr ⟨b, o, h4, D.row_mono h b o e xs h5⟩
theorem D.oks_mono {O O' : Own} {w w' : World}
 (h : ∀ b o v, w.cell? ⟨b, o, none⟩ = some v -> ¬ O b o -> w'.cell? ⟨b, o, none⟩ = some v /\ ¬ O' b o) :
 ∀ (cs : List D) (vs : List Value), D.oks O w cs vs -> D.oks O' w' cs vs
 | [], vs => fun hx => by simpa [D.oks] using hx
 | c :: cs, vs => fun hx => by
  simp only [D.oks] at hx ⊢
  obtain ⟨v, r, h1, h0, h2, h3⟩ := hx
  exact ⟨v, r, h1, h0, D.ok_mono h c _ h2, D.oks_mono h cs r h3⟩
theorem D.row_mono {O O' : Own} {w w' : World}
 (h : ∀ b o v, w.cell? ⟨b, o, none⟩ = some v -> ¬ O b o -> w'.cell? ⟨b, o, none⟩ = some v /\ ¬ O' b o) :
 ∀ (b o e : Nat) (xs : List D), D.row O w b o e xs -> D.row O' w' b o e xs
 | _, _, _, [] => fun _ => by simp [D.row]
 | b, o, e, .agg cs :: xs => fun hx => by
  simp only [D.row] at hx ⊢
  obtain ⟨⟨vs, h1, h2, h3⟩, h4⟩ := hx
  exact ⟨⟨vs, h1, h2.mono h, D.oks_mono h cs vs h3⟩, D.row_mono h b (o + e) e xs h4⟩
 | b, o, e, .any :: xs => fun hx => by
  simp only [D.row] at hx ⊢
  obtain ⟨⟨v, h1, h2, h3⟩, h4⟩ := hx
  exact ⟨⟨v, h1, h2.mono h, D.ok_mono h .any v h3⟩, D.row_mono h b (o + e) e xs h4⟩
 | b, o, e, .lit u :: xs => fun hx => by
  simp only [D.row] at hx ⊢
  obtain ⟨⟨v, h1, h2, h3⟩, h4⟩ := hx
  exact ⟨⟨v, h1, h2.mono h, D.ok_mono h (.lit u) v h3⟩, D.row_mono h b (o + e) e xs h4⟩
 | b, o, e, .sl e' nl ys :: xs => fun hx => by
  simp only [D.row] at hx ⊢
  obtain ⟨⟨v, h1, h2, h3⟩, h4⟩ := hx
  exact ⟨⟨v, h1, h2.mono h, D.ok_mono h (.sl e' nl ys) v h3⟩, D.row_mono h b (o + e) e xs h4⟩
end
inductive AV where
 | junk
 | d (x : D)
 | own (e id : Nat) (xs : List D)
 | ptr (id off : Nat)
 | msl (e id off len : Nat)
 | pv (cs : List D)
 | agg (cs : List AV)
 | tup (cs : List AV)
 | fn (f : Nat) (first cap : List AV)
 | gow (e id n : Nat)
 | gptr (id k off : Nat)
 | ful (e : Nat) (xs : List D)
 | dp (x : D)
 | mp (id : Nat)
 deriving Inhabited
inductive Place where
 | no
 | blk (b : Nat)
 | tok (v : Value) (n : Nat)
 | nst (v : Value) (n : Nat) (bs : List Nat)
def Place.at : Place -> Value -> Nat -> Prop
 | .tok u n, v, m => u = v /\ n = m
 | .nst u n _, v, m => u = v /\ n = m
 | _, _, _ => False
abbrev Beta := Nat -> Place
inductive Ob where
 | dead
 | obj (t : Nat) (cs : List AV)
 | tok (t e n : Nat)
 | gro (t e n : Nat) (cs : List D)
 | nst (t e n : Nat) (cs : List AV)
 | prv (e n : Nat) (cs : List AV)
 | mp (P : Program) (k : Nat) (es : List (Lit × D))
 deriving Inhabited
abbrev Sto := List (Nat × Ob)
def sat : Sto -> Nat -> Ob
 | [], _ => .dead
 | (j, x) :: r, i => if i = j then x else sat r i
def sset : Sto -> Nat -> Ob -> Sto
 | [], i, ob => [(i, ob)]
 | (j, x) :: r, i, ob => if i = j then (i, ob) :: r else if i < j then (i, ob) :: (j, x) :: r else (j, x) :: sset r i ob
theorem sat_sset (s : Sto) (i j : Nat) (ob : Ob) : sat (sset s i ob) j = if j = i then ob else sat s j := by
 induction s with
 | nil => simp [sset, sat]
 | cons p r ih =>
  obtain ⟨q, x⟩ := p
  simp only [sset]
  split
  ·rename_i h; subst h; simp only [sat]; split <;> simp_all
  ·split
   ·simp only [sat]
   ·simp only [sat, ih]; repeat' split
    all_goals simp_all
mutual
def AV.ok (β : Beta) (O : Own) (w : World) : AV -> Value -> Prop
 | .junk, _ => True
 | .d x, v => D.ok O w x v
 | .own e id xs, v => D.ok O w (.sl e none xs) v /\ ∃ u n, (β id).at u n /\ xs.length <= n /\ (xs.length = n -> v = u)
 | .ptr id off, v => ∃ b, β id = .blk b /\ v = .pointer (some ⟨b, off, none⟩)
 | .msl _ id off len, v => ∃ b cap, β id = .blk b /\ (len <= cap /\ cap < 2 ^ 63) /\ v = .slice (some ⟨b, off, none⟩) len cap
 | .pv cs, v => ∃ b o vs, v = .pointer (some ⟨b, o, none⟩) /\ Cells O w b o vs /\ D.oks O w cs vs
 | .agg cs, v => ∃ vs : Array Value, v = .agg vs /\ (∀ u ∈ vs.toList, one u = true) /\ AV.oks β O w cs vs.toList
 | .tup cs, v => ∃ vs : Array Value, v = .tuple vs /\ AV.oks β O w cs vs.toList
 | .fn f first cap, v => ∃ fs cs : Array Value, v = .func (.func f) fs cs /\ AV.oks β O w first fs.toList /\ AV.oks β O w cap cs.toList
 | .gow _ id n, v => ∃ u m, (β id).at u m /\ n <= m /\ (n = m -> v = u) /\ ((∃ a, v = .slice a 0 0 /\ n = 0) ∨ ∃ b cap, v = .slice (some ⟨b, 0, none⟩) n cap /\ n <= cap /\ cap < 2 ^ 63)
 | .gptr id k off, v => ∃ u m b off', (β id).at u m /\ k <= m /\ v = .pointer (some ⟨b, off', none⟩) /\ (m = k -> ∃ cap, u = .slice (some ⟨b, 0, none⟩) m cap /\ off' = off)
 | .ful e xs, v => ∃ a, v = .slice a xs.length xs.length /\ D.ok O w (.sl e none xs) v
 | .dp _, _ => True
 | .mp id, v => ∃ b, β id = .blk b /\ v = .map (some b)
def AV.oks (β : Beta) (O : Own) (w : World) : List AV -> List Value -> Prop
 | [], vs => vs = []
 | x :: xs, vs => ∃ v r, vs = v :: r /\ AV.ok β O w x v /\ AV.oks β O w xs r
end
def PlaceLe : Place -> Place -> Prop
 | .no, _ => True
 | .blk b, p => p = .blk b
 | .tok u n, p => ∃ u' n', p = .tok u' n' /\ n <= n' /\ (n = n' -> u' = u)
 | .nst u n _, p => ∃ u' n' bs', p = .nst u' n' bs' /\ n <= n' /\ (n = n' -> u' = u)
theorem PlaceLe.refl (p : Place) : PlaceLe p p := by
 cases p with
 | no => trivial
 | blk b => rfl
 | tok u n => exact ⟨u, n, rfl, Nat.le_refl _, fun _ => rfl⟩
 | nst u n bs => exact ⟨u, n, bs, rfl, Nat.le_refl _, fun _ => rfl⟩
theorem PlaceLe.trans {p q r : Place} (h : PlaceLe p q) (k : PlaceLe q r) : PlaceLe p r := by
 cases p with
 | no => trivial
 | blk b => cases h; cases k; rfl
 | tok u n =>
  obtain ⟨u', n', rfl, h1, h2⟩ := h
  obtain ⟨u'', n'', rfl, k1, k2⟩ := k
  refine ⟨u'', n'', rfl, by omega, fun e => ?_⟩
  rw [k2 (by omega), h2 (by omega)]
 | nst u n bs =>
  obtain ⟨u', n', b1, rfl, h1, h2⟩ := h
  obtain ⟨u'', n'', b2, rfl, k1, k2⟩ := k
  refine ⟨u'', n'', b2, rfl, by omega, fun e => ?_⟩
  rw [k2 (by omega), h2 (by omega)]
theorem PlaceLe.at {p q : Place} (h : PlaceLe p q) {u : Value} {n : Nat} (hp : p.at u n) : ∃ u' n', q.at u' n' /\ n <= n' /\ (n = n' -> u' = u) := by
 cases p with
 | no => exact hp.elim
 | blk b => exact hp.elim
 | tok u0 n0 =>
  obtain ⟨rfl, rfl⟩ := hp
  obtain ⟨u', n', rfl, h1, h2⟩ := h
  exact ⟨u', n', ⟨rfl, rfl⟩, h1, h2⟩
 | nst u0 n0 bs =>
  obtain ⟨rfl, rfl⟩ := hp
  obtain ⟨u', n', b1, rfl, h1, h2⟩ := h
  exact ⟨u', n', ⟨rfl, rfl⟩, h1, h2⟩
mutual
theorem AV.ok_mono {β β' : Beta} {O O' : Own} {w w' : World}
 (h : ∀ b o v, w.cell? ⟨b, o, none⟩ = some v -> ¬ O b o -> w'.cell? ⟨b, o, none⟩ = some v /\ ¬ O' b o)
 (hb : ∀ id, PlaceLe (β id) (β' id)) : ∀ (x : AV) (v : Value), AV.ok β O w x v -> AV.ok β' O' w' x v
 | .junk, v => fun _ => by simp [AV.ok]
 | .d x, v => fun hx => by
  simp only [AV.ok] at hx ⊢
  exact D.ok_mono h x v hx
 | .own e id xs, v => fun hx => by
  simp only [AV.ok] at hx ⊢
  obtain ⟨h1, u, n, h2, h3, h4⟩ := hx
  obtain ⟨u', n', h5, h6, h7⟩ := (hb id).at h2
  exact ⟨D.ok_mono h _ _ h1, u', n', h5, by omega, fun e => by rw [h7 (by omega)]; exact h4 (by omega)⟩
 | .ptr id off, v => fun hx => by
  simp only [AV.ok] at hx ⊢
  obtain ⟨b, h1, h2⟩ := hx
  have hp := hb id
  rw [h1] at hp
  exact ⟨b, hp, h2⟩
 | .msl e id off len, v => fun hx => by
  simp only [AV.ok] at hx ⊢
  obtain ⟨b, cap, h1, h2⟩ := hx
  have hp := hb id
  rw [h1] at hp
  exact ⟨b, cap, hp, h2⟩
 | .pv cs, v => fun hx => by
  simp only [AV.ok] at hx ⊢
  obtain ⟨b, o, vs, h1, h2, h3⟩ := hx
  exact ⟨b, o, vs, h1, h2.mono h, D.oks_mono h _ _ h3⟩
 | .agg cs, v => fun hx => by
  simp only [AV.ok] at hx ⊢
  obtain ⟨vs, h1, h0, h2⟩ := hx
  exact ⟨vs, h1, h0, AV.oks_mono h hb cs _ h2⟩
 | .tup cs, v => fun hx => by
  simp only [AV.ok] at hx ⊢
  obtain ⟨vs, h1, h2⟩ := hx
  exact ⟨vs, h1, AV.oks_mono h hb cs _ h2⟩
 | .fn f first cap, v => fun hx => by
  simp only [AV.ok] at hx ⊢
  obtain ⟨fs, cs, h1, h2, h3⟩ := hx
  exact ⟨fs, cs, h1, AV.oks_mono h hb first _ h2, AV.oks_mono h hb cap _ h3⟩
 | .gow e id n, v => fun hx => by
  simp only [AV.ok] at hx ⊢
  obtain ⟨u, m, h1, h2, h3, h4⟩ := hx
  obtain ⟨u', m', h5, h6, h7⟩ := (hb id).at h1
  exact ⟨u', m', h5, by omega, fun e => by rw [h7 (by omega)]; exact h3 (by omega), h4⟩
 | .gptr id k off, v => fun hx => by
  simp only [AV.ok] at hx ⊢
  obtain ⟨u, m, b, off', h1, h2, h0, h3⟩ := hx
  obtain ⟨u', m', h5, h6, h7⟩ := (hb id).at h1
  refine ⟨u', m', b, off', h5, by omega, h0, fun e => ?_⟩
  have hm : m = m' := by omega
  subst hm
  rw [h7 rfl]
  exact h3 e
 | .ful e xs, v => fun hx => by
  simp only [AV.ok] at hx ⊢
  obtain ⟨a, h1, h2⟩ := hx
  exact ⟨a, h1, D.ok_mono h _ v h2⟩
 | .dp x, v => fun _ => by simp [AV.ok]
 | .mp id, v => fun hx => by
  simp only [AV.ok] at hx ⊢
  obtain ⟨b, h1, h2⟩ := hx
  have hp := hb id
  rw [h1] at hp
  exact ⟨b, hp, h2⟩
theorem AV.oks_mono {β β' : Beta} {O O' : Own} {w w' : World}
 (h : ∀ b o v, w.cell? ⟨b, o, none⟩ = some v -> ¬ O b o -> w'.cell? ⟨b, o, none⟩ = some v /\ ¬ O' b o)
 (hb : ∀ id, PlaceLe (β id) (β' id)) : ∀ (xs : List AV) (vs : List Value), AV.oks β O w xs vs -> AV.oks β' O' w' xs vs
 | [], vs => fun hx => by simpa [AV.oks] using hx
 | x :: xs, vs => fun hx => by
  simp only [AV.oks] at hx ⊢
  obtain ⟨v, r, h1, h2, h3⟩ := hx
  exact ⟨v, r, h1, AV.ok_mono h hb x v h2, AV.oks_mono h hb xs r h3⟩
end
mutual
def AV.ren (ρ : Nat -> Option Nat) : AV -> AV
 | .junk => .junk
 | .d x => .d x
 | .own e id xs => match ρ id with | some j => .own e j xs | none => .d (.sl e none xs)
 | .ptr id off => match ρ id with | some j => .ptr j off | none => .junk
 | .msl e id off len => match ρ id with | some j => .msl e j off len | none => .junk
 | .pv cs => .pv cs
 | .agg cs => .agg (AV.rens ρ cs)
 | .tup cs => .tup (AV.rens ρ cs)
 | .fn f a b => .fn f (AV.rens ρ a) (AV.rens ρ b)
 | .gow e id n => match ρ id with | some j => .gow e j n | none => .junk
 | .gptr id k off => match ρ id with | some j => .gptr j k off | none => .junk
 | .ful e xs => .ful e xs
 | .dp x => .dp x
 | .mp id => match ρ id with | some j => .mp j | none => .junk
def AV.rens (ρ : Nat -> Option Nat) : List AV -> List AV
 | [] => []
 | x :: xs => AV.ren ρ x :: AV.rens ρ xs
end
mutual
theorem AV.ok_ren {β β' : Beta} {O : Own} {w : World} {ρ : Nat -> Option Nat} (hr : ∀ i j, ρ i = some j -> β' j = β i) :
 ∀ (x : AV) (v : Value), AV.ok β O w x v -> AV.ok β' O w (x.ren ρ) v
 | .junk, v => fun _ => by simp [AV.ren, AV.ok]
 | .d x, v => fun hx => by simpa [AV.ren, AV.ok] using hx
 | .own e id xs, v => fun hx => by
  simp only [AV.ok, AV.ren] at hx ⊢
  cases hq : ρ id with
  | none => exact hx.1
  | some j => simp only [AV.ok]; rw [hr _ _ hq]; exact hx
 | .ptr id off, v => fun hx => by
  simp only [AV.ok, AV.ren] at hx ⊢
  cases hq : ρ id with
  | none => simp [AV.ok]
  | some j => simp only [AV.ok]; rw [hr _ _ hq]; exact hx
 | .msl e id off len, v => fun hx => by
  simp only [AV.ok, AV.ren] at hx ⊢
  cases hq : ρ id with
  | none => simp [AV.ok]
  | some j => simp only [AV.ok]; rw [hr _ _ hq]; exact hx
 | .pv cs, v => fun hx => by simpa [AV.ren, AV.ok] using hx
 | .agg cs, v => fun hx => by
  simp only [AV.ok, AV.ren] at hx ⊢
  obtain ⟨vs, h1, h0, h2⟩ := hx
  exact ⟨vs, h1, h0, AV.oks_ren hr cs _ h2⟩
 | .tup cs, v => fun hx => by
  simp only [AV.ok, AV.ren] at hx ⊢
  obtain ⟨vs, h1, h2⟩ := hx
  exact ⟨vs, h1, AV.oks_ren hr cs _ h2⟩
 | .fn f a b, v => fun hx => by
  simp only [AV.ok, AV.ren] at hx ⊢
  obtain ⟨fs, cs, h1, h2, h3⟩ := hx
  exact ⟨fs, cs, h1, AV.oks_ren hr a _ h2, AV.oks_ren hr b _ h3⟩
 | .gow e id n, v => fun hx => by
  simp only [AV.ok, AV.ren] at hx ⊢
  cases hq : ρ id with
  | none => simp [AV.ok]
  | some j => simp only [AV.ok]; rw [hr _ _ hq]; exact hx
 | .gptr id k off, v => fun hx => by
  simp only [AV.ok, AV.ren] at hx ⊢
  cases hq : ρ id with
  | none => simp [AV.ok]
  | some j => simp only [AV.ok]; rw [hr _ _ hq]; exact hx
 | .ful e xs, v => fun hx => by
  simp only [AV.ok, AV.ren] at hx ⊢
  exact hx
 | .dp x, v => fun _ => by simp [AV.ren, AV.ok]
 | .mp id, v => fun hx => by
  simp only [AV.ok, AV.ren] at hx ⊢
  cases hq : ρ id with
  | none => simp [AV.ok]
  | some j => simp only [AV.ok]; rw [hr _ _ hq]; exact hx
theorem AV.oks_ren {β β' : Beta} {O : Own} {w : World} {ρ : Nat -> Option Nat} (hr : ∀ i j, ρ i = some j -> β' j = β i) :
 ∀ (xs : List AV) (vs : List Value), AV.oks β O w xs vs -> AV.oks β' O w (AV.rens ρ xs) vs
 | [], vs => fun hx => by simpa [AV.rens, AV.oks] using hx
 | x :: xs, vs => fun hx => by
  simp only [AV.oks, AV.rens] at hx ⊢
  obtain ⟨v, r, h1, h2, h3⟩ := hx
  exact ⟨v, r, h1, AV.ok_ren hr x v h2, AV.oks_ren hr xs r h3⟩
end
def AV.cells : AV -> Option (List AV)
 | .d (.agg cs) => some (cs.map .d)
 | .agg cs => some cs
 | .junk => none
 | .tup _ => none
 | .dp _ => none
 | x => some [x]
def AV.undo : List AV -> Option (List D)
 | [] => some []
 | .d x :: xs => (AV.undo xs).map (x :: ·)
 | _ :: _ => none
def AV.mk (cs : List AV) : AV :=
 match AV.undo cs with
 | some ds => .d (.agg ds)
 | none => .agg cs
def own (β : Beta) (s : Sto) (b o : Nat) : Prop :=
 ∃ id, match sat s id with
  | .dead => False
  | .obj _ _ => β id = .blk b
  | .tok _ e n => ∃ cap, β id = .tok (.slice (some ⟨b, 0, none⟩) n cap) n /\ n * e <= o
  | .gro _ _ n _ => ∃ cap, β id = .tok (.slice (some ⟨b, 0, none⟩) n cap) n
  | .nst _ e n _ => ∃ cap bs, β id = .nst (.slice (some ⟨b, 0, none⟩) n cap) n bs /\ n * e <= o
  | .prv _ n _ => ∃ v bs, β id = .nst v n bs /\ ((∃ cap, v = .slice (some ⟨b, 0, none⟩) n cap /\ 0 < cap) ∨ b ∈ bs)
  | .mp _ _ _ => False
def blockOf (β : Beta) (s : Sto) (id b : Nat) : Prop :=
 match sat s id with
 | .dead => False
 | .obj _ _ => β id = .blk b
 | .tok _ _ n => ∃ cap, β id = .tok (.slice (some ⟨b, 0, none⟩) n cap) n
 | .gro _ _ n _ => ∃ cap, β id = .tok (.slice (some ⟨b, 0, none⟩) n cap) n
 | .nst _ _ n _ => ∃ v bs, β id = .nst v n bs /\ ((∃ cap, v = .slice (some ⟨b, 0, none⟩) n cap) ∨ b ∈ bs)
 | .prv _ n _ => ∃ v bs, β id = .nst v n bs /\ ((∃ cap, v = .slice (some ⟨b, 0, none⟩) n cap /\ 0 < cap) ∨ b ∈ bs)
 | .mp _ _ _ => β id = .blk b
theorem own.block {β : Beta} {s : Sto} {b o : Nat} (h : own β s b o) : ∃ id, blockOf β s id b := by
 obtain ⟨id, h⟩ := h
 refine ⟨id, ?_⟩
 unfold blockOf
 cases hs : sat s id with
 | dead => rw [hs] at h; exact h
 | obj t cs => rw [hs] at h; exact h
 | tok t e n => rw [hs] at h; obtain ⟨cap, h1, _⟩ := h; exact ⟨cap, h1⟩
 | gro t e n cs => rw [hs] at h; exact h
 | nst t e n cs => rw [hs] at h; obtain ⟨cap, bs, h1, _⟩ := h; exact ⟨_, bs, h1, .inl ⟨cap, rfl⟩⟩
 | prv e n cs => rw [hs] at h; exact h
 | mp P k es => rw [hs] at h; exact h.elim
def TokOk (w : World) (t e n : Nat) (u : Value) : Prop :=
 (u = .slice none 0 0 /\ n = 0) ∨ ∃ b cap vs, u = .slice (some ⟨b, 0, none⟩) n cap /\ w.heap[b]? = some (.cells vs t (0, 0)) /\
  vs.size = cap * e /\ n <= cap /\ cap < 2 ^ 63 /\ ∀ v ∈ vs.toList, one v = true
def GroOk (O : Own) (w : World) (t e n : Nat) (u : Value) (cs : List D) : Prop :=
 (u = .slice none 0 0 /\ n = 0) ∨ ∃ b cap vs, u = .slice (some ⟨b, 0, none⟩) n cap /\ w.heap[b]? = some (.cells vs t (0, 0)) /\
  vs.size = cap * e /\ n <= cap /\ cap < 2 ^ 63 /\ (∀ v ∈ vs.toList, one v = true) /\ ∃ pre rest, vs.toList = pre ++ rest /\ D.oks O w cs pre
def POks (β : Beta) (O : Own) (w : World) (cs : List AV) (vs : List Value) : Prop := ∃ pre rest, vs = pre ++ rest /\ AV.oks β O w cs pre
theorem POks.of {β : Beta} {O : Own} {w : World} {cs : List AV} {vs : List Value} (h : AV.oks β O w cs vs) : POks β O w cs vs := ⟨vs, [], by simp, h⟩
theorem POks.imp {β β' : Beta} {O O' : Own} {w w' : World} {cs cs' : List AV} {vs : List Value} (h : POks β O w cs vs) (f : ∀ vs, AV.oks β O w cs vs -> AV.oks β' O' w' cs' vs) : POks β' O' w' cs' vs :=
 let ⟨pre, rest, h1, h2⟩ := h; ⟨pre, rest, h1, f _ h2⟩
mutual
def NV (w : World) : D -> Value -> List Nat -> Prop
 | .any, _, _ => False
 | .agg _, _, _ => False
 | .lit u, v, bs => v = u /\ one u = true /\ bs = []
 | .sl e nl xs, v, bs => ∃ a cap, v = .slice a xs.length cap /\ LenOk xs.length cap /\ NlOk nl a cap /\
  ((cap = 0 /\ xs = [] /\ bs = []) ∨ ∃ b vs t bs', a = some ⟨b, 0, none⟩ /\ bs = b :: bs' /\ w.heap[b]? = some (.cells vs t (0, 0)) /\ vs.size = cap * e /\
   (∀ v ∈ vs.toList, one v = true) /\ NR w e xs vs.toList bs')
def NC (w : World) : List D -> List Value -> List Nat -> Prop
 | [], vs, bs => vs = [] /\ bs = []
 | c :: cs, vs, bs => ∃ v r b1 b2, vs = v :: r /\ bs = b1 ++ b2 /\ NV w c v b1 /\ NC w cs r b2
def NR (w : World) (e : Nat) : List D -> List Value -> List Nat -> Prop
 | [], _, bs => bs = []
 | .agg cs :: xs, vs, bs => ∃ us r b1 b2, vs = us ++ r /\ us.length = e /\ bs = b1 ++ b2 /\ NC w cs us b1 /\ NR w e xs r b2
 | x :: xs, vs, bs => ∃ v r b1 b2, vs = v :: r /\ e = 1 /\ bs = b1 ++ b2 /\ NV w x v b1 /\ NR w e xs r b2
end
def NX (β : Beta) (O : Own) (w : World) : AV -> Value -> List Nat -> Prop
 | .dp d, v, bs => NV w d v bs
 | x, v, bs => AV.ok β O w x v /\ bs = []
def NXs (β : Beta) (O : Own) (w : World) : List AV -> List Value -> List Nat -> Prop
 | [], _, bs => bs = []
 | x :: xs, vs, bs => ∃ v r b1 b2, vs = v :: r /\ bs = b1 ++ b2 /\ NX β O w x v b1 /\ NXs β O w xs r b2
def NstOk (β : Beta) (O : Own) (w : World) (t e n : Nat) (u : Value) (bs : List Nat) (cs : List AV) : Prop :=
 cs.length = n * e /\ ((u = .slice none 0 0 /\ n = 0 /\ bs = []) ∨ ∃ b cap vs, u = .slice (some ⟨b, 0, none⟩) n cap /\ w.heap[b]? = some (.cells vs t (0, 0)) /\
  vs.size = cap * e /\ n <= cap /\ cap < 2 ^ 63 /\ (∀ v ∈ vs.toList, one v = true) /\ (b :: bs).Nodup /\ NXs β O w cs vs.toList bs)
def PrvOk (β : Beta) (O : Own) (w : World) (e n : Nat) (u : Value) (bs : List Nat) (cs : List AV) : Prop :=
 cs.length = n * e /\ (((∃ a, u = .slice a 0 0) /\ n = 0 /\ bs = []) ∨ ∃ b cap vs t, u = .slice (some ⟨b, 0, none⟩) n cap /\ w.heap[b]? = some (.cells vs t (0, 0)) /\
  vs.size = cap * e /\ n <= cap /\ cap < 2 ^ 63 /\ (∀ v ∈ vs.toList, one v = true) /\ 0 < cap /\ (b :: bs).Nodup /\ NXs β O w cs vs.toList bs)
def heldR (v : Value) : Option (DataW Value × List MemPlace) := some (.held v, [])
noncomputable instance litDec : DecidableEq Lit := fun a b => Classical.propDecidable (a = b)
def mget {α : Type} : List (Lit × α) -> Lit -> Option α
 | [], _ => none
 | (k, x) :: r, kl => if k = kl then some x else mget r kl
def mdel {α : Type} (kl : Lit) (es : List (Lit × α)) : List (Lit × α) := es.filter fun p => !decide (p.1 = kl)
theorem mget_mdel {α : Type} {kl l : Lit} : ∀ {es : List (Lit × α)}, mget (mdel kl es) l = if l = kl then none else mget es l
 | [] => by simp [mdel, mget]
 | (k, x) :: r => by
  have ih := mget_mdel (kl := kl) (l := l) (es := r)
  unfold mdel at ih ⊢
  rw [List.filter_cons]
  by_cases hk : k = kl
  ·subst hk
   simp only [decide_true, Bool.not_true, Bool.false_eq_true, if_false, ih, mget]
   by_cases hl : l = k
   ·simp [hl]
   ·have : k ≠ l := fun e => hl e.symm
    simp [hl, this]
  ·simp only [hk, decide_false, Bool.not_false, if_true, mget, ih]
   by_cases hl : k = l
   ·subst hl; simp [hk]
   ·simp [hl]
theorem mget_mem {α : Type} {kl : Lit} {x : α} : ∀ {es : List (Lit × α)}, mget es kl = some x -> kl ∈ es.map (·.1)
 | [], h => by simp [mget] at h
 | (k, y) :: r, h => by
  unfold mget at h
  split at h
  ·rename_i e; simp [e]
  ·simp [mget_mem h]
def MapOk (O : Own) (w : World) (P : Program) (k : Nat) (es : List (Lit × D)) (b : Nat) : Prop :=
 ∃ E : DataW Value, w.ownsMap P k heldR b (Maps.size E) E /\ ∀ kl, match mget es kl with
  | none => Maps.has E kl = false
  | some x => ∃ v, (∀ z, E.atKey kl z = .held v) /\ one v = true /\ D.ok O w x v
theorem MapOk.block {O : Own} {w : World} {P : Program} {k : Nat} {es : List (Lit × D)} {b : Nat} (h : MapOk O w P k es b) : ∃ xs c, w.heap[b]? = some (.map xs c) :=
 let ⟨_, ⟨xs, c, h1, _⟩, _⟩ := h; ⟨xs, c, h1⟩
theorem MapOk.imp {O O' : Own} {w w' : World} {P : Program} {k : Nat} {es : List (Lit × D)} {b : Nat} (hb : w'.heap[b]? = w.heap[b]?) (hd : ∀ x v, D.ok O w x v -> D.ok O' w' x v)
 (h : MapOk O w P k es b) : MapOk O' w' P k es b := by
 obtain ⟨E, ⟨xs, c, h1, h2⟩, h3⟩ := h
 refine ⟨E, ⟨xs, c, by rw [hb, h1], h2⟩, fun kl => ?_⟩
 have := h3 kl
 cases hm : mget es kl with
 | none => rw [hm] at this; exact this
 | some x => rw [hm] at this; obtain ⟨v, k1, k2, k3⟩ := this; exact ⟨v, k1, k2, hd _ _ k3⟩
def ObOk (β : Beta) (O : Own) (w : World) (id : Nat) : Ob -> Prop
 | .dead => β id = .no
 | .obj t cs => ∃ b vs, β id = .blk b /\ w.heap[b]? = some (.cells vs t (0, 0)) /\ (∀ v ∈ vs.toList, one v = true) /\ POks β O w cs vs.toList
 | .tok t e n => ∃ u, β id = .tok u n /\ TokOk w t e n u
 | .gro t e n cs => ∃ u, β id = .tok u n /\ cs.length = n * e /\ GroOk O w t e n u cs
 | .nst t e n cs => ∃ u bs, β id = .nst u n bs /\ (∀ b ∈ bs, ∃ vs t', w.heap[b]? = some (.cells vs t' (0, 0))) /\ NstOk β O w t e n u bs cs
 | .prv e n cs => ∃ u bs, β id = .nst u n bs /\ (∀ b ∈ bs, ∃ vs t', w.heap[b]? = some (.cells vs t' (0, 0))) /\ PrvOk β O w e n u bs cs
 | .mp P k es => ∃ b, β id = .blk b /\ MapOk O w P k es b
mutual
theorem NV.congr {w w' : World} : ∀ {x : D} {v : Value} {bs : List Nat}, (∀ b ∈ bs, w'.heap[b]? = w.heap[b]?) -> NV w x v bs -> NV w' x v bs
 | .any, _, _ => fun _ h => h.elim
 | .agg _, _, _ => fun _ h => h.elim
 | .lit u, _, _ => fun _ h => h
 | .sl e nl xs, v, bs => fun hb h => by
  simp only [NV] at h ⊢
  obtain ⟨a, cap, h1, h2, h3, h4⟩ := h
  refine ⟨a, cap, h1, h2, h3, ?_⟩
  rcases h4 with h4 | ⟨b, vs, t, bs', h4, h5, h6, h7, h8, h9⟩
  ·exact .inl h4
  ·subst h5
   exact .inr ⟨b, vs, t, bs', h4, rfl, by rw [hb b (by simp)]; exact h6, h7, h8, NR.congr (fun b' hb' => hb b' (by simp [hb'])) h9⟩
theorem NC.congr {w w' : World} : ∀ {xs : List D} {vs : List Value} {bs : List Nat}, (∀ b ∈ bs, w'.heap[b]? = w.heap[b]?) -> NC w xs vs bs -> NC w' xs vs bs
 | [], _, _ => fun _ h => h
 | c :: cs, vs, bs => fun hb h => by
  simp only [NC] at h ⊢
  obtain ⟨v, r, b1, b2, h1, h2, h3, h4⟩ := h
  subst h2
  exact ⟨v, r, b1, b2, h1, rfl, NV.congr (fun b h => hb b (by simp [h])) h3, NC.congr (fun b h => hb b (by simp [h])) h4⟩
theorem NR.congr {w w' : World} {e : Nat} : ∀ {xs : List D} {vs : List Value} {bs : List Nat}, (∀ b ∈ bs, w'.heap[b]? = w.heap[b]?) -> NR w e xs vs bs -> NR w' e xs vs bs
 | [], _, _ => fun _ h => h
 | .agg cs :: xs, vs, bs => fun hb h => by
  simp only [NR] at h ⊢
  obtain ⟨us, r, b1, b2, h1, h0, h2, h3, h4⟩ := h
  subst h2
  exact ⟨us, r, b1, b2, h1, h0, rfl, NC.congr (fun b h => hb b (by simp [h])) h3, NR.congr (fun b h => hb b (by simp [h])) h4⟩
 | .any :: xs, vs, bs => fun hb h => by
  simp only [NR] at h ⊢
  obtain ⟨v, r, b1, b2, h1, h0, h2, h3, h4⟩ := h
  exact h3.elim
 | .lit u :: xs, vs, bs => fun hb h => by
  have hc := fun v b => NV.congr (w := w) (w' := w') (x := .lit u) (v := v) (bs := b)
  simp only [NR] at h ⊢
  obtain ⟨v, r, b1, b2, h1, h0, h2, h3, h4⟩ := h
  subst h2
  exact ⟨v, r, b1, b2, h1, h0, rfl, hc v b1 (fun b h => hb b (by simp [h])) h3, NR.congr (fun b h => hb b (by simp [h])) h4⟩
 | .sl e' nl ys :: xs, vs, bs => fun hb h => by
  have hc := fun v b => NV.congr (w := w) (w' := w') (x := .sl e' nl ys) (v := v) (bs := b)
  simp only [NR] at h ⊢
  obtain ⟨v, r, b1, b2, h1, h0, h2, h3, h4⟩ := h
  subst h2
  exact ⟨v, r, b1, b2, h1, h0, rfl, hc v b1 (fun b h => hb b (by simp [h])) h3, NR.congr (fun b h => hb b (by simp [h])) h4⟩
end
theorem NX.imp {β β' : Beta} {O O' : Own} {w w' : World} {x x' : AV} {v : Value} {bs : List Nat} (hb : ∀ b ∈ bs, w'.heap[b]? = w.heap[b]?)
 (hx : (∃ d, x = .dp d /\ x' = .dp d) ∨ (∀ d, x ≠ .dp d) /\ (∀ d, x' ≠ .dp d) /\ (AV.ok β O w x v -> AV.ok β' O' w' x' v)) (h : NX β O w x v bs) : NX β' O' w' x' v bs := by
 rcases hx with ⟨d, rfl, rfl⟩ | ⟨h1, h2, h3⟩
 ·exact NV.congr hb h
 ·have e1 : AV.ok β O w x v /\ bs = [] := by cases x <;> first | exact h | exact absurd rfl (h1 _)
  have e2 : AV.ok β' O' w' x' v /\ bs = [] := ⟨h3 e1.1, e1.2⟩
  cases x' <;> first | exact e2 | exact absurd rfl (h2 _)
theorem NXs.imp {β β' : Beta} {O O' : Own} {w w' : World} {f : AV -> AV} (hf : ∀ x v, ((∃ d, x = .dp d /\ f x = .dp d) ∨ (∀ d, x ≠ .dp d) /\ (∀ d, f x ≠ .dp d) /\ (AV.ok β O w x v -> AV.ok β' O' w' (f x) v))) :
 ∀ {xs : List AV} {vs : List Value} {bs : List Nat}, (∀ b ∈ bs, w'.heap[b]? = w.heap[b]?) -> NXs β O w xs vs bs -> NXs β' O' w' (xs.map f) vs bs
 | [], _, _ => fun _ h => h
 | x :: xs, vs, bs => fun hb h => by
  simp only [NXs, List.map_cons] at h ⊢
  obtain ⟨v, r, b1, b2, h1, h2, h3, h4⟩ := h
  subst h2
  exact ⟨v, r, b1, b2, h1, rfl, h3.imp (fun b h => hb b (by simp [h])) (hf x v), NXs.imp hf (fun b h => hb b (by simp [h])) h4⟩
theorem NstOk.imp {β β' : Beta} {O O' : Own} {w w' : World} {f : AV -> AV} {t e n : Nat} {u : Value} {bs : List Nat} {cs : List AV}
 (hf : ∀ x v, ((∃ d, x = .dp d /\ f x = .dp d) ∨ (∀ d, x ≠ .dp d) /\ (∀ d, f x ≠ .dp d) /\ (AV.ok β O w x v -> AV.ok β' O' w' (f x) v)))
 (hb : ∀ b ∈ bs, w'.heap[b]? = w.heap[b]?) (hm : ∀ b cap, u = .slice (some ⟨b, 0, none⟩) n cap -> w'.heap[b]? = w.heap[b]?) (h : NstOk β O w t e n u bs cs) : NstOk β' O' w' t e n u bs (cs.map f) := by
 obtain ⟨h0, h⟩ := h
 refine ⟨by simpa using h0, ?_⟩
 rcases h with h | ⟨b, cap, vs, h1, h2, h3, h4, h5, h6, h7, h8⟩
 ·exact .inl h
 ·exact .inr ⟨b, cap, vs, h1, by rw [hm b cap h1]; exact h2, h3, h4, h5, h6, h7, NXs.imp hf hb h8⟩
theorem PrvOk.imp {β β' : Beta} {O O' : Own} {w w' : World} {f : AV -> AV} {e n : Nat} {u : Value} {bs : List Nat} {cs : List AV}
 (hf : ∀ x v, ((∃ d, x = .dp d /\ f x = .dp d) ∨ (∀ d, x ≠ .dp d) /\ (∀ d, f x ≠ .dp d) /\ (AV.ok β O w x v -> AV.ok β' O' w' (f x) v)))
 (hb : ∀ b ∈ bs, w'.heap[b]? = w.heap[b]?) (hm : ∀ b cap, u = .slice (some ⟨b, 0, none⟩) n cap -> 0 < cap -> w'.heap[b]? = w.heap[b]?) (h : PrvOk β O w e n u bs cs) : PrvOk β' O' w' e n u bs (cs.map f) := by
 obtain ⟨h0, h⟩ := h
 refine ⟨by simpa using h0, ?_⟩
 rcases h with h | ⟨b, cap, vs, t, h1, h2, h3, h4, h5, h6, h9, h7, h8⟩
 ·exact .inl h
 ·exact .inr ⟨b, cap, vs, t, h1, by rw [hm b cap h1 h9]; exact h2, h3, h4, h5, h6, h9, h7, NXs.imp hf hb h8⟩
theorem id_told {β β' : Beta} {O O' : Own} {w w' : World} (h : ∀ x v, AV.ok β O w x v -> AV.ok β' O' w' x v) (x : AV) (v : Value) :
 ((∃ d, x = .dp d /\ x = .dp d) ∨ (∀ d, x ≠ .dp d) /\ (∀ d, x ≠ .dp d) /\ (AV.ok β O w x v -> AV.ok β' O' w' x v)) := by
 cases x with
 | dp d => exact .inl ⟨d, rfl, rfl⟩
 | _ => exact .inr ⟨fun d h => (nomatch h), fun d h => (nomatch h), h _ v⟩
def wio (w : World) := (w.os, w.output, w.tape)
structure Ctx where
 O : Own
 β : Beta
 s : Sto
 w : World
 k : Nat
 ro : Option Nat := none
 dom : Nat := 0
 nm : Bool := false
def Ctx.fence (C : Ctx) : Fence := { fn := fun _ => True, depth := none, alive := false, round := C.ro }
def markOf (D : Nat) : Deferred := { target := .collected D, args := #[] }
def Marks (C : Ctx) (ds : List Deferred) : Prop :=
 (C.nm = true -> ds = []) /\ ∃ Ds : List Nat, ds = Ds.map markOf /\ Ds.Nodup /\ ∀ D ∈ Ds, C.dom <= D /\ D < C.w.heap.size /\ C.w.heap[D]? = some (.deferred (some [])) /\ ∀ id, ¬ blockOf C.β C.s id D
theorem Marks.nil {C : Ctx} : Marks C [] := ⟨fun _ => rfl, [], rfl, .nil, fun _ h => by cases h⟩
def Ctx.forb (C : Ctx) (β : Beta) (s : Sto) : Own := fun b o => C.O b o ∨ own β s b o
structure Inv (C : Ctx) (β : Beta) (s : Sto) (w : World) : Prop where
 size : C.w.heap.size <= w.heap.size
 io : wio w = wio C.w
 keep : ∀ b o v, C.w.cell? ⟨b, o, none⟩ = some v -> ¬ own C.β C.s b o -> w.cell? ⟨b, o, none⟩ = some v
 blks : ∀ b, b < C.w.heap.size -> (∀ id, ¬ blockOf C.β C.s id b) -> w.heap[b]? = C.w.heap[b]?
 ownd : ∀ b o, own β s b o -> own C.β C.s b o ∨ C.w.heap.size <= b
 ownB : ∀ id b, blockOf β s id b -> (∃ i, blockOf C.β C.s i b) ∨ C.w.heap.size <= b
 pl : ∀ id, id < C.k -> PlaceLe (C.β id) (β id)
 low : ∀ b o, C.O b o -> b < C.w.heap.size /\ ¬ own C.β C.s b o
 obs : ∀ id, ObOk β (C.forb β s) w id (sat s id)
 inj : ∀ i j b, blockOf β s i b -> blockOf β s j b -> i = j
structure St (C : Ctx) (β : Beta) (env : List AV) (s : Sto) (a : Act) (w : World) : Prop where
 defers : Marks C a.defers
 inv : Inv C β s w
 len : a.tmps.size = env.length
 env : ∀ i x, env[i]? = some x -> AV.ok β (C.forb β s) w x (a.tmps.getD i undef)
theorem Inv.blk_lt {C : Ctx} {β : Beta} {s : Sto} {w : World} (h : Inv C β s w) {id b : Nat} (hb : blockOf β s id b) : b < w.heap.size := by
 have ho := h.obs id
 unfold blockOf at hb
 cases hs : sat s id with
 | dead => rw [hs] at hb; exact hb.elim
 | obj t cs =>
  rw [hs] at hb ho
  obtain ⟨b', vs, h1, h2, _, _⟩ := ho
  rw [hb] at h1
  cases h1
  exact (Array.getElem?_eq_some_iff.1 h2).1
 | tok t e n =>
  rw [hs] at hb ho
  obtain ⟨cap, hb⟩ := hb
  obtain ⟨u, h1, h2⟩ := ho
  rw [hb] at h1
  cases h1
  rcases h2 with ⟨h2, _⟩ | ⟨b', cap', vs, h2, h3, _⟩
  ·cases h2
  ·cases h2
   exact (Array.getElem?_eq_some_iff.1 h3).1
 | gro t e n cs =>
  rw [hs] at hb ho
  obtain ⟨cap, hb⟩ := hb
  obtain ⟨u, h1, _, h2⟩ := ho
  rw [hb] at h1
  cases h1
  rcases h2 with ⟨h2, _⟩ | ⟨b', cap', vs, h2, h3, _⟩
  ·cases h2
  ·cases h2
   exact (Array.getElem?_eq_some_iff.1 h3).1
 | nst t e n cs =>
  rw [hs] at hb ho
  obtain ⟨v, bs, hb, hb2⟩ := hb
  obtain ⟨u, bs', h1, h0, _, h2⟩ := ho
  rw [hb] at h1
  cases h1
  rcases hb2 with ⟨cap, rfl⟩ | hb2
  ·rcases h2 with ⟨h2, _⟩ | ⟨b', cap', vs, h2, h3, _⟩
   ·cases h2
   ·cases h2
    exact (Array.getElem?_eq_some_iff.1 h3).1
  ·obtain ⟨vs, t', h3⟩ := h0 b hb2
   exact (Array.getElem?_eq_some_iff.1 h3).1
 | prv e n cs =>
  rw [hs] at hb ho
  obtain ⟨v, bs, hb, hb2⟩ := hb
  obtain ⟨u, bs', h1, h0, _, h2⟩ := ho
  rw [hb] at h1
  cases h1
  rcases hb2 with ⟨cap, rfl, hc0⟩ | hb2
  ·rcases h2 with ⟨⟨_, h2⟩, _⟩ | ⟨b', cap', vs, t', h2, h3, _⟩
   ·simp only [Value.slice.injEq] at h2; omega
   ·cases h2
    exact (Array.getElem?_eq_some_iff.1 h3).1
  ·obtain ⟨vs, t', h3⟩ := h0 b hb2
   exact (Array.getElem?_eq_some_iff.1 h3).1
 | mp P k es =>
  rw [hs] at hb ho
  obtain ⟨b', h1, h2⟩ := ho
  rw [hb] at h1
  cases h1
  obtain ⟨xs, c, h3⟩ := h2.block
  exact (Array.getElem?_eq_some_iff.1 h3).1
theorem Inv.own_lt {C : Ctx} {β : Beta} {s : Sto} {w : World} (h : Inv C β s w) {b o : Nat} (hb : own β s b o) : b < w.heap.size :=
 let ⟨_, hb⟩ := hb.block; h.blk_lt hb
theorem cell_lt {w : World} {b o : Nat} {v : Value} (h : w.cell? ⟨b, o, none⟩ = some v) : b < w.heap.size :=
 World.block_lt_of_cell? w _ h
structure Moves (β : Beta) (s : Sto) (w : World) (β' : Beta) (s' : Sto) (w' : World) : Prop where
 size : w.heap.size <= w'.heap.size
 io : wio w' = wio w
 keep : ∀ b o v, w.cell? ⟨b, o, none⟩ = some v -> ¬ own β s b o -> w'.cell? ⟨b, o, none⟩ = some v
 blks : ∀ b, b < w.heap.size -> (∀ id, ¬ blockOf β s id b) -> w'.heap[b]? = w.heap[b]?
 ownd : ∀ b o, own β' s' b o -> own β s b o ∨ w.heap.size <= b
 ownB : ∀ id b, blockOf β' s' id b -> (∃ i, blockOf β s i b) ∨ w.heap.size <= b
 pl : ∀ id, PlaceLe (β id) (β' id)
theorem Moves.stays {C : Ctx} {β β' : Beta} {s s' : Sto} {w w' : World} (m : Moves β s w β' s' w') :
 ∀ b o v, w.cell? ⟨b, o, none⟩ = some v -> ¬ C.forb β s b o -> w'.cell? ⟨b, o, none⟩ = some v /\ ¬ C.forb β' s' b o := by
 intro b o v hc hn
 have hlt := cell_lt hc
 refine ⟨m.keep b o v hc fun h => hn (.inr h), fun h => ?_⟩
 rcases h with h | h
 ·exact hn (.inl h)
 ·rcases m.ownd b o h with h | h
  ·exact hn (.inr h)
  ·omega
theorem Moves.ok {C : Ctx} {β β' : Beta} {s s' : Sto} {w w' : World} (m : Moves β s w β' s' w') {x : AV} {v : Value}
 (h : AV.ok β (C.forb β s) w x v) : AV.ok β' (C.forb β' s') w' x v := AV.ok_mono m.stays m.pl x v h
theorem Moves.doks {C : Ctx} {β β' : Beta} {s s' : Sto} {w w' : World} (m : Moves β s w β' s' w') {xs : List D} {vs : List Value}
 (h : D.oks (C.forb β s) w xs vs) : D.oks (C.forb β' s') w' xs vs := D.oks_mono m.stays xs vs h
theorem Moves.oks {C : Ctx} {β β' : Beta} {s s' : Sto} {w w' : World} (m : Moves β s w β' s' w') {xs : List AV} {vs : List Value}
 (h : AV.oks β (C.forb β s) w xs vs) : AV.oks β' (C.forb β' s') w' xs vs := AV.oks_mono m.stays m.pl xs vs h
theorem Inv.move {C : Ctx} {β β' : Beta} {s s' : Sto} {w w' : World} (h : Inv C β s w) (m : Moves β s w β' s' w')
 (hobs : ∀ id, ObOk β' (C.forb β' s') w' id (sat s' id)) (hinj : ∀ i j b, blockOf β' s' i b -> blockOf β' s' j b -> i = j) : Inv C β' s' w' where
 size := Nat.le_trans h.size m.size
 io := m.io.trans h.io
 keep := fun b o v hc hn => by
  have h1 := h.keep b o v hc hn
  refine m.keep b o v h1 fun ho => ?_
  rcases h.ownd b o ho with h2 | h2
  ·exact hn h2
  ·have := cell_lt hc; omega
 blks := fun b hb hn => by
  have h1 := h.blks b hb hn
  rw [<- h1]
  refine m.blks b (Nat.lt_of_lt_of_le hb h.size) fun id hid => ?_
  rcases h.ownB id b hid with ⟨i, hi⟩ | h2
  ·exact hn i hi
  ·omega
 ownd := fun b o ho => by
  rcases m.ownd b o ho with h1 | h1
  ·exact h.ownd b o h1
  ·exact .inr (Nat.le_trans h.size h1)
 ownB := fun id b hb => by
  rcases m.ownB id b hb with ⟨i, h1⟩ | h1
  ·exact h.ownB i b h1
  ·exact .inr (Nat.le_trans h.size h1)
 pl := fun id hid => (h.pl id hid).trans (m.pl id)
 low := h.low
 obs := hobs
 inj := hinj
theorem St.move {C : Ctx} {β β' : Beta} {env : List AV} {s s' : Sto} {a : Act} {w w' : World} (h : St C β env s a w) (m : Moves β s w β' s' w')
 (hobs : ∀ id, ObOk β' (C.forb β' s') w' id (sat s' id)) (hinj : ∀ i j b, blockOf β' s' i b -> blockOf β' s' j b -> i = j) : St C β' env s' a w' where
 defers := h.defers
 inv := h.inv.move m hobs hinj
 len := h.len
 env := fun i x hx => m.ok (h.env i x hx)
theorem St.put {C : Ctx} {β : Beta} {env : List AV} {s : Sto} {a : Act} {w : World} (h : St C β env s a w) {x : AV} {v : Value}
 (hx : AV.ok β (C.forb β s) w x v) (d : Option Tmp) :
 St C β (match d with | some d => env.set d x | none => env) s (a.put d v) w := by
 cases d with
 | none => exact h
 | some d =>
  refine ⟨h.defers, h.inv, by simp [Act.put, h.len], fun i y hy => ?_⟩
  simp only [Act.put]
  rw [List.getElem?_set] at hy
  by_cases hdi : d = i
  ·subst hdi
   simp only [if_true] at hy
   split at hy
   ·rename_i hlt
    cases hy
    have : d < a.tmps.size := by rw [h.len]; exact hlt
    simpa [Array.getD_eq_getD_getElem?, Array.getElem?_setIfInBounds, this] using hx
   ·cases hy
  ·simp only [hdi, if_false] at hy
   have := h.env i y hy
   simpa [Array.getD_eq_getD_getElem?, Array.getElem?_setIfInBounds, hdi] using this
theorem ObOk.moves {C : Ctx} {β β' : Beta} {s s' : Sto} {w w' : World} (m : Moves β s w β' s' w') {id : Nat} {ob : Ob}
 (h : ObOk β (C.forb β s) w id ob) (hb : β' id = β id)
 (hh : ∀ b, blockOf β s id b -> w'.heap[b]? = w.heap[b]?) (hs : sat s id = ob) : ObOk β' (C.forb β' s') w' id ob := by
 cases ob with
 | dead => exact hb.trans h
 | obj t cs =>
  obtain ⟨b, vs, h1, h2, h0, h3⟩ := h
  have hbl : blockOf β s id b := by unfold blockOf; rw [hs]; exact h1
  exact ⟨b, vs, by rw [hb, h1], by rw [hh b hbl, h2], h0, h3.imp fun _ h => m.oks h⟩
 | tok t e n =>
  obtain ⟨u, h1, h2⟩ := h
  refine ⟨u, by rw [hb, h1], ?_⟩
  rcases h2 with h2 | ⟨b, cap, vs, h2, h3, h4⟩
  ·exact .inl h2
  ·have hbl : blockOf β s id b := by unfold blockOf; rw [hs]; exact ⟨cap, by rw [h1, h2]⟩
   exact .inr ⟨b, cap, vs, h2, by rw [hh b hbl, h3], h4⟩
 | gro t e n cs =>
  obtain ⟨u, h1, hl, h2⟩ := h
  refine ⟨u, by rw [hb, h1], hl, ?_⟩
  rcases h2 with h2 | ⟨b, cap, vs, h2, h3, h4, h5, h6, h7, pre, rest, h8, h9⟩
  ·exact .inl h2
  ·have hbl : blockOf β s id b := by unfold blockOf; rw [hs]; exact ⟨cap, by rw [h1, h2]⟩
   exact .inr ⟨b, cap, vs, h2, by rw [hh b hbl, h3], h4, h5, h6, h7, pre, rest, h8, m.doks h9⟩
 | nst t e n cs =>
  obtain ⟨u, bs, h1, h0, h2⟩ := h
  have hbs : ∀ b ∈ bs, w'.heap[b]? = w.heap[b]? := fun b hb' => hh b (by unfold blockOf; rw [hs]; exact ⟨u, bs, h1, .inr hb'⟩)
  refine ⟨u, bs, by rw [hb, h1], fun b hb' => by rw [hbs b hb']; exact h0 b hb', ?_⟩
  have := h2.imp (f := fun x => x) (id_told fun x v => m.ok) hbs fun b cap hu => hh b (by unfold blockOf; rw [hs]; exact ⟨u, bs, h1, .inl ⟨cap, hu⟩⟩)
  simpa using this
 | prv e n cs =>
  obtain ⟨u, bs, h1, h0, h2⟩ := h
  have hbs : ∀ b ∈ bs, w'.heap[b]? = w.heap[b]? := fun b hb' => hh b (by unfold blockOf; rw [hs]; exact ⟨u, bs, h1, .inr hb'⟩)
  refine ⟨u, bs, by rw [hb, h1], fun b hb' => by rw [hbs b hb']; exact h0 b hb', ?_⟩
  have := h2.imp (f := fun x => x) (id_told fun x v => m.ok) hbs fun b cap hu h0 => hh b (by unfold blockOf; rw [hs]; exact ⟨u, bs, h1, .inl ⟨cap, hu, h0⟩⟩)
  simpa using this
 | mp P k es =>
  obtain ⟨b, h1, h2⟩ := h
  have hbl : blockOf β s id b := by unfold blockOf; rw [hs]; exact h1
  exact ⟨b, by rw [hb, h1], h2.imp (hh b hbl) fun x v h => D.ok_mono m.stays _ _ h⟩
theorem Moves.grow {β : Beta} {s : Sto} {w w' : World} (hs : w.heap.size <= w'.heap.size) (hio : wio w' = wio w)
 (hk : ∀ b, b < w.heap.size -> w'.heap[b]? = w.heap[b]?) : Moves β s w β s w' := by
 refine ⟨hs, hio, fun b o v hc _ => ?_, fun b hb _ => hk b hb, fun _ _ h => .inl h, fun id _ h => .inl ⟨id, h⟩, fun _ => .refl _⟩
 rw [<- hc]
 exact World.cell?_of_block (hk b (cell_lt hc))
theorem St.grow {C : Ctx} {β : Beta} {env : List AV} {s : Sto} {a : Act} {w w' : World} (h : St C β env s a w) (hs : w.heap.size <= w'.heap.size) (hio : wio w' = wio w)
 (hk : ∀ b, b < w.heap.size -> w'.heap[b]? = w.heap[b]?) : St C β env s a w' := by
 have m : Moves β s w β s w' := .grow hs hio hk
 exact h.move m (fun id => (h.inv.obs id).moves m rfl (fun b hb => hk b (h.inv.blk_lt hb)) rfl) h.inv.inj
theorem St.drew {C : Ctx} {β : Beta} {env : List AV} {s : Sto} {a : Act} {w : World} (h : St C β env s a w) : St C β env s a { w with drawn := w.drawn + 1 } :=
 h.grow (Nat.le_refl _) rfl fun _ _ => rfl
def isMapO : Obj -> Bool
 | .map _ _ => true
 | _ => false
def Odd (o : Obj) : Prop := o.isCells = false /\ isMapO o = false
theorem oddC {w : World} {row : Option Nat} (hr : ∀ r, row = some r -> ∃ o : Obj, w.heap[r]? = some o /\ Odd o) : ∀ r, row = some r -> ∃ o : Obj, w.heap[r]? = some o /\ o.isCells = false :=
 fun r e => let ⟨o, h1, h2⟩ := hr r e; ⟨o, h1, h2.1⟩
theorem grownBy_keeps_map {w w' : World} {row : Option Nat} (hg : w.grownBy w' row) (hr : ∀ r, row = some r -> ∃ o : Obj, w.heap[r]? = some o /\ Odd o) {b : Nat} {xs : Array MapEntry} {c : Nat} (h : w.heap[b]? = some (.map xs c)) : w'.heap[b]? = w.heap[b]? := by
 refine hg.block b (Array.getElem?_eq_some_iff.1 h).1 fun e => ?_
 obtain ⟨o, h1, h2⟩ := hr b e.symm
 rw [h] at h1
 cases h1
 simp [Odd, isMapO] at h2
theorem ObOk.nocell {β : Beta} {O : Own} {w w' : World} {row : Option Nat} (hg : w.grownBy w' row) (hr : ∀ r, row = some r -> ∃ o : Obj, w.heap[r]? = some o /\ Odd o) {id : Nat} {ob : Ob}
 (h : ObOk β O w id ob) : ObOk β O w' id ob := by
 have hs : ∀ b o v, w.cell? ⟨b, o, none⟩ = some v -> ¬ O b o -> w'.cell? ⟨b, o, none⟩ = some v /\ ¬ O b o := fun b o v hc hn => ⟨cell_kept hc hg (oddC hr), hn⟩
 have hb : ∀ (b : Nat) (vs : Array Value) (t : TypeId), w.heap[b]? = some (.cells vs t (0, 0)) -> w'.heap[b]? = some (.cells vs t (0, 0)) := fun b vs t h => (grownBy_keeps_cells hg (oddC hr) h rfl).trans h
 cases ob with
 | dead => exact h
 | obj t cs =>
  obtain ⟨b, vs, h1, h2, h0, h3⟩ := h
  exact ⟨b, vs, h1, hb _ _ _ h2, h0, h3.imp fun _ h => AV.oks_mono hs (fun _ => .refl _) _ _ h⟩
 | tok t e n =>
  obtain ⟨u, h1, h2⟩ := h
  refine ⟨u, h1, ?_⟩
  rcases h2 with h2 | ⟨b, cap, vs, h2, h3, h4⟩
  ·exact .inl h2
  ·exact .inr ⟨b, cap, vs, h2, hb _ _ _ h3, h4⟩
 | gro t e n cs =>
  obtain ⟨u, h1, hl, h2⟩ := h
  refine ⟨u, h1, hl, ?_⟩
  rcases h2 with h2 | ⟨b, cap, vs, h2, h3, h4, h5, h6, h7, pre, rest, h8, h9⟩
  ·exact .inl h2
  ·exact .inr ⟨b, cap, vs, h2, hb _ _ _ h3, h4, h5, h6, h7, pre, rest, h8, D.oks_mono hs _ _ h9⟩
 | nst t e n cs =>
  obtain ⟨u, bs, h1, h0, h2⟩ := h
  have hbs : ∀ b ∈ bs, w'.heap[b]? = w.heap[b]? := fun b hb' => by obtain ⟨vs, t', h3⟩ := h0 b hb'; exact grownBy_keeps_cells hg (oddC hr) h3 rfl
  refine ⟨u, bs, h1, fun b hb' => by rw [hbs b hb']; exact h0 b hb', h2.1, ?_⟩
  rcases h2.2 with h2 | ⟨b, cap, vs, h2, h3, h4, h5, h6, h7, h8, h9⟩
  ·exact .inl h2
  ·refine .inr ⟨b, cap, vs, h2, hb _ _ _ h3, h4, h5, h6, h7, h8, ?_⟩
   have := NXs.imp (f := fun x => x) (id_told fun x v => AV.ok_mono hs (fun _ => .refl _) x v) hbs h9
   simpa using this
 | prv e n cs =>
  obtain ⟨u, bs, h1, h0, h2⟩ := h
  have hbs : ∀ b ∈ bs, w'.heap[b]? = w.heap[b]? := fun b hb' => by obtain ⟨vs, t', h3⟩ := h0 b hb'; exact grownBy_keeps_cells hg (oddC hr) h3 rfl
  refine ⟨u, bs, h1, fun b hb' => by rw [hbs b hb']; exact h0 b hb', h2.1, ?_⟩
  rcases h2.2 with h2 | ⟨b, cap, vs, t, h2, h3, h4, h5, h6, h7, h10, h8, h9⟩
  ·exact .inl h2
  ·refine .inr ⟨b, cap, vs, t, h2, hb _ _ _ h3, h4, h5, h6, h7, h10, h8, ?_⟩
   have := NXs.imp (f := fun x => x) (id_told fun x v => AV.ok_mono hs (fun _ => .refl _) x v) hbs h9
   simpa using this
 | mp P k es =>
  obtain ⟨b, h1, h2⟩ := h
  obtain ⟨xs, c, h3⟩ := h2.block
  exact ⟨b, h1, h2.imp (grownBy_keeps_map hg hr h3) fun x v h => D.ok_mono hs _ _ h⟩
theorem Inv.nocell {C : Ctx} {β : Beta} {s : Sto} {w w' : World} {row : Option Nat} (h : Inv C β s w) (hg : w.grownBy w' row)
 (hr : ∀ r, row = some r -> C.w.heap.size <= r /\ ∃ o : Obj, w.heap[r]? = some o /\ Odd o) : Inv C β s w' where
 size := Nat.le_trans h.size hg.size
 io := by rw [<- h.io]; simp only [wio, hg.os, hg.tape, hg.output]
 keep := fun b o v hc hn => cell_kept (h.keep b o v hc hn) hg (oddC fun r e => (hr r e).2)
 blks := fun b hb hn => (hg.block b (Nat.lt_of_lt_of_le hb h.size) fun e => by have := (hr b e.symm).1; omega).trans (h.blks b hb hn)
 ownd := h.ownd
 ownB := h.ownB
 pl := h.pl
 low := h.low
 obs := fun id => (h.obs id).nocell hg fun r e => (hr r e).2
 inj := h.inj
theorem Inv.ro {C : Ctx} {β : Beta} {s : Sto} {w : World} (r : Option Nat) (d : Nat) (h : Inv C β s w) : Inv { C with ro := r, dom := d, nm := false } β s w :=
 ⟨h.size, h.io, h.keep, h.blks, h.ownd, h.ownB, h.pl, h.low, h.obs, h.inj⟩
theorem Inv.ro' {C : Ctx} {β : Beta} {s : Sto} {w : World} {r : Option Nat} {d : Nat} (h : Inv { C with ro := r, dom := d, nm := false } β s w) : Inv C β s w :=
 ⟨h.size, h.io, h.keep, h.blks, h.ownd, h.ownB, h.pl, h.low, h.obs, h.inj⟩
theorem Inv.back {C : Ctx} {β0 β : Beta} {s0 s : Sto} {w0 w : World} {K : Nat} (h0 : Inv C β0 s0 w0) (h : Inv { C with β := β0, s := s0, w := w0, k := K } β s w) (hK : C.k <= K) : Inv C β s w where
 size := Nat.le_trans h0.size h.size
 io := h.io.trans h0.io
 keep := fun b o v hc hn => by
  have h1 := h0.keep b o v hc hn
  refine h.keep b o v h1 fun ho => ?_
  rcases h0.ownd b o ho with h2 | h2
  ·exact hn h2
  ·have := cell_lt hc; omega
 blks := fun b hb hn => by
  have h1 := h0.blks b hb hn
  rw [<- h1]
  refine h.blks b (Nat.lt_of_lt_of_le hb h0.size) fun id hid => ?_
  rcases h0.ownB id b hid with ⟨i, hi⟩ | h2
  ·exact hn i hi
  ·omega
 ownd := fun b o ho => by
  rcases h.ownd b o ho with h1 | h1
  ·exact h0.ownd b o h1
  ·exact .inr (Nat.le_trans h0.size h1)
 ownB := fun id b hb => by
  rcases h.ownB id b hb with ⟨i, h1⟩ | h1
  ·exact h0.ownB i b h1
  ·exact .inr (Nat.le_trans h0.size h1)
 pl := fun id hid => (h0.pl id hid).trans (h.pl id (Nat.lt_of_lt_of_le hid hK))
 low := h0.low
 obs := h.obs
 inj := h.inj
theorem Inv.here {C : Ctx} {β0 : Beta} {s0 : Sto} {w0 : World} {K : Nat} (h0 : Inv C β0 s0 w0) : Inv { C with β := β0, s := s0, w := w0, k := K } β0 s0 w0 where
 size := Nat.le_refl _
 io := rfl
 keep := fun _ _ _ h _ => h
 blks := fun _ _ _ => rfl
 ownd := fun _ _ h => .inl h
 ownB := fun id _ h => .inl ⟨id, h⟩
 pl := fun _ _ => .refl _
 low := fun b o h => ⟨Nat.lt_of_lt_of_le (h0.low b o h).1 h0.size, fun h2 => by
  rcases h0.ownd b o h2 with h3 | h3
  ·exact (h0.low b o h).2 h3
  ·have := (h0.low b o h).1; omega⟩
 obs := h0.obs
 inj := h0.inj
theorem Inv.isCells {C : Ctx} {β : Beta} {s : Sto} {w : World} (h : Inv C β s w) {id b : Nat} (hb : blockOf β s id b) {o : Obj} (ho : w.heap[b]? = some o) : ¬ Odd o := by
 have hobs := h.obs id
 unfold blockOf at hb
 cases hs : sat s id with
 | dead => rw [hs] at hb; exact hb.elim
 | obj t cs =>
  rw [hs] at hb hobs
  obtain ⟨b', vs, h1, h2, _, _⟩ := hobs
  rw [hb] at h1
  cases h1
  rw [h2] at ho; cases ho; simp [Odd, Obj.isCells]
 | tok t e n =>
  rw [hs] at hb hobs
  obtain ⟨cap, hb⟩ := hb
  obtain ⟨u, h1, h2⟩ := hobs
  rw [hb] at h1
  cases h1
  rcases h2 with ⟨h2, _⟩ | ⟨b', cap', vs, h2, h3, _⟩
  ·cases h2
  ·cases h2
   rw [h3] at ho; cases ho; simp [Odd, Obj.isCells]
 | gro t e n cs =>
  rw [hs] at hb hobs
  obtain ⟨cap, hb⟩ := hb
  obtain ⟨u, h1, _, h2⟩ := hobs
  rw [hb] at h1
  cases h1
  rcases h2 with ⟨h2, _⟩ | ⟨b', cap', vs, h2, h3, _⟩
  ·cases h2
  ·cases h2
   rw [h3] at ho; cases ho; simp [Odd, Obj.isCells]
 | nst t e n cs =>
  rw [hs] at hb hobs
  obtain ⟨v, bs, hb, hb2⟩ := hb
  obtain ⟨u, bs', h1, h0, _, h2⟩ := hobs
  rw [hb] at h1
  cases h1
  rcases hb2 with ⟨cap, rfl⟩ | hb2
  ·rcases h2 with ⟨h2, _⟩ | ⟨b', cap', vs, h2, h3, _⟩
   ·cases h2
   ·cases h2
    rw [h3] at ho; cases ho; simp [Odd, Obj.isCells]
  ·obtain ⟨vs, t', h3⟩ := h0 b hb2
   rw [h3] at ho; cases ho; simp [Odd, Obj.isCells]
 | prv e n cs =>
  rw [hs] at hb hobs
  obtain ⟨v, bs, hb, hb2⟩ := hb
  obtain ⟨u, bs', h1, h0, _, h2⟩ := hobs
  rw [hb] at h1
  cases h1
  rcases hb2 with ⟨cap, rfl, hc0⟩ | hb2
  ·rcases h2 with ⟨⟨_, h2⟩, _⟩ | ⟨b', cap', vs, t', h2, h3, _⟩
   ·simp only [Value.slice.injEq] at h2; omega
   ·cases h2
    rw [h3] at ho; cases ho; simp [Odd, Obj.isCells]
  ·obtain ⟨vs, t', h3⟩ := h0 b hb2
   rw [h3] at ho; cases ho; simp [Odd, Obj.isCells]
 | mp P k es =>
  rw [hs] at hb hobs
  obtain ⟨b', h1, h2⟩ := hobs
  rw [hb] at h1
  cases h1
  obtain ⟨xs, c, h3⟩ := h2.block
  rw [h3] at ho; cases ho; simp [Odd, isMapO]
def killρ (id : Nat) : Nat -> Option Nat := fun i => if i = id then none else some i
def Ob.kill (id : Nat) : Ob -> Ob
 | .obj t cs => .obj t (AV.rens (killρ id) cs)
 | .nst t e n cs => .nst t e n (AV.rens (killρ id) cs)
 | .prv e n cs => .prv e n (AV.rens (killρ id) cs)
 | x => x
def skill (id : Nat) : Sto -> Sto
 | [] => []
 | (j, x) :: r => (j, if j = id then .dead else x.kill id) :: skill id r
theorem sat_skill (s : Sto) (id j : Nat) : sat (skill id s) j = if j = id then .dead else (sat s j).kill id := by
 induction s with
 | nil => simp only [skill, sat]; split <;> rfl
 | cons p r ih =>
  obtain ⟨q, x⟩ := p
  simp only [skill, sat, ih]
  by_cases hj : j = q
  ·subst hj; simp
  ·simp [hj]
def bset (β : Beta) (id : Nat) (p : Place) : Beta := fun i => if i = id then p else β i
theorem own_kill {β : Beta} {s : Sto} {id b o : Nat} (h : own (bset β id .no) (skill id s) b o) : own β s b o := by
 obtain ⟨i, h⟩ := h
 rw [sat_skill] at h
 by_cases hi : i = id
 ·subst hi; simp at h
 ·refine ⟨i, ?_⟩
  simp only [hi, if_false] at h
  cases hs : sat s i with
  | dead => rw [hs] at h; exact h
  | obj t cs => rw [hs] at h; simpa [Ob.kill, bset, hi] using h
  | tok t e n => rw [hs] at h; simpa [Ob.kill, bset, hi] using h
  | gro t e n cs => rw [hs] at h; simpa [Ob.kill, bset, hi] using h
  | nst t e n cs => rw [hs] at h; simpa [Ob.kill, bset, hi] using h
  | prv e n cs => rw [hs] at h; simpa [Ob.kill, bset, hi] using h
  | mp P k es => rw [hs] at h; simpa [Ob.kill, bset, hi] using h
theorem blockOf_kill {β : Beta} {s : Sto} {id i b : Nat} (h : blockOf (bset β id .no) (skill id s) i b) : blockOf β s i b := by
 unfold blockOf at h ⊢
 rw [sat_skill] at h
 by_cases hi : i = id
 ·subst hi; simp at h
 ·simp only [hi, if_false] at h
  cases hs : sat s i with
  | dead => rw [hs] at h; exact h
  | obj t cs => rw [hs] at h; simpa [Ob.kill, bset, hi] using h
  | tok t e n => rw [hs] at h; simpa [Ob.kill, bset, hi] using h
  | gro t e n cs => rw [hs] at h; simpa [Ob.kill, bset, hi] using h
  | nst t e n cs => rw [hs] at h; simpa [Ob.kill, bset, hi] using h
  | prv e n cs => rw [hs] at h; simpa [Ob.kill, bset, hi] using h
  | mp P k es => rw [hs] at h; simpa [Ob.kill, bset, hi] using h
theorem kill_ok {C : Ctx} {β : Beta} {s : Sto} {w : World} {id : Nat} {x : AV} {v : Value} (h : AV.ok β (C.forb β s) w x v) :
 AV.ok (bset β id .no) (C.forb (bset β id .no) (skill id s)) w (x.ren (killρ id)) v := by
 have h1 : AV.ok (bset β id .no) (C.forb β s) w (x.ren (killρ id)) v := AV.ok_ren (fun i j hij => by
  unfold killρ at hij
  split at hij
  ·cases hij
  ·cases hij; simp [bset, *]) x v h
 exact AV.ok_mono (fun b o v hc hn => ⟨hc, fun h => hn (h.imp (fun x => x) own_kill)⟩) (fun _ => .refl _) _ _ h1
theorem kill_oks {C : Ctx} {β : Beta} {s : Sto} {w : World} {id : Nat} : ∀ {xs : List AV} {vs : List Value}, AV.oks β (C.forb β s) w xs vs ->
 AV.oks (bset β id .no) (C.forb (bset β id .no) (skill id s)) w (AV.rens (killρ id) xs) vs
 | [], vs => fun h => by simpa [AV.rens, AV.oks] using h
 | x :: xs, vs => fun h => by
  simp only [AV.rens, AV.oks] at h ⊢
  obtain ⟨v, r, h1, h2, h3⟩ := h
  exact ⟨v, r, h1, kill_ok h2, kill_oks h3⟩
theorem kill_doks {C : Ctx} {β : Beta} {s : Sto} {w : World} {id : Nat} {xs : List D} {vs : List Value} (h : D.oks (C.forb β s) w xs vs) :
 D.oks (C.forb (bset β id .no) (skill id s)) w xs vs :=
 D.oks_mono (fun _ _ _ hc hn => ⟨hc, fun h => hn (h.imp (fun x => x) own_kill)⟩) xs vs h
theorem rens_getElem? (ρ : Nat -> Option Nat) : ∀ (xs : List AV) (i : Nat), (AV.rens ρ xs)[i]? = (xs[i]?).map (AV.ren ρ)
 | [], _ => by simp [AV.rens]
 | x :: xs, 0 => by simp [AV.rens]
 | x :: xs, i + 1 => by simp [AV.rens, rens_getElem? ρ xs i]
theorem rens_length (ρ : Nat -> Option Nat) : ∀ (xs : List AV), (AV.rens ρ xs).length = xs.length
 | [] => rfl
 | x :: xs => by simp [AV.rens, rens_length ρ xs]
theorem rens_mapB (ρ : Nat -> Option Nat) : ∀ z : List AV, AV.rens ρ z = z.map (AV.ren ρ)
 | [] => rfl
 | x :: xs => by simp only [List.map_cons, AV.rens, rens_mapB ρ xs]
theorem told_ren {β β' : Beta} {O O' : Own} {w w' : World} {ρ : Nat -> Option Nat} {x : AV} {v : Value} (h : AV.ok β O w x v -> AV.ok β' O' w' (x.ren ρ) v) :
 ((∃ d, x = .dp d /\ x.ren ρ = .dp d) ∨ (∀ d, x ≠ .dp d) /\ (∀ d, x.ren ρ ≠ .dp d) /\ (AV.ok β O w x v -> AV.ok β' O' w' (x.ren ρ) v)) := by
 cases x with
 | dp d => exact .inl ⟨d, rfl, rfl⟩
 | own e j xs => refine .inr ⟨fun d h => (nomatch h), fun d h => ?_, h⟩; simp only [AV.ren] at h; split at h <;> exact nomatch h
 | ptr j off => refine .inr ⟨fun d h => (nomatch h), fun d h => ?_, h⟩; simp only [AV.ren] at h; split at h <;> exact nomatch h
 | msl e j off len => refine .inr ⟨fun d h => (nomatch h), fun d h => ?_, h⟩; simp only [AV.ren] at h; split at h <;> exact nomatch h
 | gow e j k => refine .inr ⟨fun d h => (nomatch h), fun d h => ?_, h⟩; simp only [AV.ren] at h; split at h <;> exact nomatch h
 | gptr j k off => refine .inr ⟨fun d h => (nomatch h), fun d h => ?_, h⟩; simp only [AV.ren] at h; split at h <;> exact nomatch h
 | mp j => refine .inr ⟨fun d h => (nomatch h), fun d h => ?_, h⟩; simp only [AV.ren] at h; split at h <;> exact nomatch h
 | _ => exact .inr ⟨fun d h => (nomatch h), fun d h => (nomatch h), h⟩
theorem Inv.kill {C : Ctx} {β : Beta} {s : Sto} {w : World} (h : Inv C β s w) (id : Nat) (hid : C.k <= id) : Inv C (bset β id .no) (skill id s) w where
 size := h.size
 io := h.io
 keep := h.keep
 blks := h.blks
 ownd := fun b o ho => h.ownd b o (own_kill ho)
 ownB := fun id b hb => h.ownB id b (blockOf_kill hb)
 pl := fun i hi => by
  have : i ≠ id := by omega
  simpa [bset, this] using h.pl i hi
 low := h.low
 obs := fun i => by
  rw [sat_skill]
  by_cases hi : i = id
  ·subst hi; simp [ObOk, bset]
  ·simp only [hi, if_false]
   have ho := h.obs i
   cases hs : sat s i with
   | dead => rw [hs] at ho; simpa [Ob.kill, ObOk, bset, hi] using ho
   | obj t cs =>
    rw [hs] at ho
    obtain ⟨b, vs, h1, h2, h0, h3⟩ := ho
    exact ⟨b, vs, by simpa [bset, hi] using h1, h2, h0, h3.imp fun _ h => kill_oks h⟩
   | tok t e n =>
    rw [hs] at ho
    obtain ⟨u, h1, h2⟩ := ho
    exact ⟨u, by simpa [bset, hi] using h1, h2⟩
   | gro t e n cs =>
    rw [hs] at ho
    obtain ⟨u, h1, hl, h2⟩ := ho
    refine ⟨u, by simpa [bset, hi] using h1, hl, ?_⟩
    rcases h2 with h2 | ⟨b, cap, vs, h2, h3, h4, h5, h6, h7, pre, rest, h8, h9⟩
    ·exact .inl h2
    ·exact .inr ⟨b, cap, vs, h2, h3, h4, h5, h6, h7, pre, rest, h8, kill_doks h9⟩
   | nst t e n cs =>
    rw [hs] at ho
    obtain ⟨u, bs, h1, h0, h2⟩ := ho
    refine ⟨u, bs, by simpa [bset, hi] using h1, h0, ?_⟩
    rw [rens_mapB]
    exact h2.imp (fun x v => told_ren kill_ok) (fun _ _ => rfl) (fun _ _ _ => rfl)
   | prv e n cs =>
    rw [hs] at ho
    obtain ⟨u, bs, h1, h0, h2⟩ := ho
    refine ⟨u, bs, by simpa [bset, hi] using h1, h0, ?_⟩
    rw [rens_mapB]
    exact h2.imp (fun x v => told_ren kill_ok) (fun _ _ => rfl) (fun _ _ _ _ => rfl)
   | mp P k es =>
    rw [hs] at ho
    obtain ⟨b, h1, h2⟩ := ho
    exact ⟨b, by simpa [bset, hi] using h1, h2.imp rfl fun x v hx => D.ok_mono (fun _ _ _ hc hn => ⟨hc, fun h => hn (h.imp (fun x => x) own_kill)⟩) _ _ hx⟩
 inj := fun i j b hi hj => h.inj i j b (blockOf_kill hi) (blockOf_kill hj)
theorem St.kill {C : Ctx} {β : Beta} {env : List AV} {s : Sto} {a : Act} {w : World} (h : St C β env s a w) (id : Nat) (hid : C.k <= id) :
 St C (bset β id .no) (AV.rens (killρ id) env) (skill id s) a w where
 defers := h.defers
 inv := h.inv.kill id hid
 len := by rw [rens_length]; exact h.len
 env := fun i x hx => by
  rw [rens_getElem?] at hx
  cases hy : env[i]? with
  | none => rw [hy] at hx; cases hx
  | some y => rw [hy] at hx; cases hx; exact kill_ok (h.env i y hy)
theorem own_new {β : Beta} {s : Sto} {id b o : Nat} {ob : Ob} {p : Place} (h : own (bset β id p) (sset s id ob) b o) :
 own β s b o ∨ own (bset β id p) [(id, ob)] b o := by
 obtain ⟨i, h⟩ := h
 rw [sat_sset] at h
 by_cases hi : i = id
 ·subst hi
  exact .inr ⟨i, by simpa [sat] using h⟩
 ·refine .inl ⟨i, ?_⟩
  simp only [hi, if_false] at h
  cases hs : sat s i with
  | dead => rw [hs] at h; exact h
  | obj t cs => rw [hs] at h; simpa [bset, hi] using h
  | tok t e n => rw [hs] at h; simpa [bset, hi] using h
  | gro t e n cs => rw [hs] at h; simpa [bset, hi] using h
  | nst t e n cs => rw [hs] at h; simpa [bset, hi] using h
  | prv e n cs => rw [hs] at h; simpa [bset, hi] using h
  | mp P k es => rw [hs] at h; first | exact h.elim | simpa [bset, hi] using h
theorem own_new2 {β : Beta} {s : Sto} {id b o : Nat} {ob : Ob} {p : Place} (h : own (bset β id p) (sset s id ob) b o) :
 (∃ i, i ≠ id /\ blockOf β s i b) ∨ own (bset β id p) [(id, ob)] b o := by
 obtain ⟨i, h⟩ := h
 rw [sat_sset] at h
 by_cases hi : i = id
 ·subst hi
  exact .inr ⟨i, by simpa [sat] using h⟩
 ·refine .inl ⟨i, hi, ?_⟩
  simp only [hi, if_false] at h
  unfold blockOf
  cases hs : sat s i with
  | dead => rw [hs] at h; exact h
  | obj t cs => rw [hs] at h; simpa [bset, hi] using h
  | tok t e n => rw [hs] at h; obtain ⟨cap, h1, _⟩ := h; exact ⟨cap, by simpa [bset, hi] using h1⟩
  | gro t e n cs => rw [hs] at h; obtain ⟨cap, h1⟩ := h; exact ⟨cap, by simpa [bset, hi] using h1⟩
  | nst t e n cs => rw [hs] at h; obtain ⟨cap, bs, h1, _⟩ := h; exact ⟨_, bs, by simpa [bset, hi] using h1, .inl ⟨cap, rfl⟩⟩
  | prv e n cs => rw [hs] at h; simpa [bset, hi] using h
  | mp P k es => rw [hs] at h; first | exact h.elim | simpa [bset, hi] using h
theorem blockOf_new {β : Beta} {s : Sto} {id i b : Nat} {ob : Ob} {p : Place} (h : blockOf (bset β id p) (sset s id ob) i b) :
 (i ≠ id /\ blockOf β s i b) ∨ (i = id /\ blockOf (bset β id p) [(id, ob)] id b) := by
 unfold blockOf at h ⊢
 rw [sat_sset] at h
 by_cases hi : i = id
 ·subst hi
  exact .inr ⟨rfl, by simpa [sat] using h⟩
 ·refine .inl ⟨hi, ?_⟩
  simp only [hi, if_false] at h
  cases hs : sat s i with
  | dead => rw [hs] at h; exact h
  | obj t cs => rw [hs] at h; simpa [bset, hi] using h
  | tok t e n => rw [hs] at h; simpa [bset, hi] using h
  | gro t e n cs => rw [hs] at h; simpa [bset, hi] using h
  | nst t e n cs => rw [hs] at h; simpa [bset, hi] using h
  | prv e n cs => rw [hs] at h; simpa [bset, hi] using h
  | mp P k es => rw [hs] at h; first | exact h.elim | simpa [bset, hi] using h
theorem heap_alloc_old {w : World} {o : Obj} {b : Nat} (h : b < w.heap.size) : (w.alloc o).heap[b]? = w.heap[b]? := Go.RowKit.Below.heap_alloc w o b h
theorem heap_alloc_new {w : World} {o : Obj} : (w.alloc o).heap[w.heap.size]? = some o := by show (w.heap.push o)[w.heap.size]? = some o; simp
theorem St.fresh {C : Ctx} {β : Beta} {env : List AV} {s : Sto} {a : Act} {w : World} (h : St C β env s a w) {id : Nat}
 {ob : Ob} {p : Place} {c : Array Value} {t : Nat} (hpl : PlaceLe (β id) p)
 (hown : ∀ b o, own (bset β id p) [(id, ob)] b o -> b = w.heap.size)
 (hbl : ∀ b, blockOf (bset β id p) [(id, ob)] id b -> b = w.heap.size)
 (hob : ∀ β' F, (∀ x v, AV.ok β (C.forb β s) w x v -> AV.ok β' F (w.alloc (.cells c t)) x v) -> (∀ xs vs, AV.oks β (C.forb β s) w xs vs -> AV.oks β' F (w.alloc (.cells c t)) xs vs) ->
  β' id = p -> ObOk β' F (w.alloc (.cells c t)) id ob) :
 St C (bset β id p) env (sset s id ob) a (w.alloc (.cells c t)) /\ Moves β s w (bset β id p) (sset s id ob) (w.alloc (.cells c t)) := by
 have m : Moves β s w (bset β id p) (sset s id ob) (w.alloc (.cells c t)) := by
  refine ⟨by simp, rfl, fun b o v hc _ => ?_, fun b hb _ => heap_alloc_old hb, fun b o ho => ?_, fun i b hb => ?_, fun i => ?_⟩
  ·rw [<- hc]; exact World.cell?_of_block (heap_alloc_old (cell_lt hc))
  ·rcases own_new ho with ho | ho
   ·exact .inl ho
   ·exact .inr (Nat.le_of_eq (hown b o ho).symm)
  ·rcases blockOf_new hb with ⟨_, hb⟩ | ⟨_, hb⟩
   ·exact .inl ⟨i, hb⟩
   ·exact .inr (Nat.le_of_eq (hbl b hb).symm)
  ·by_cases hi : i = id
   ·subst hi; simpa [bset] using hpl
   ·simp only [bset, hi, if_false]; exact .refl _
 refine ⟨h.move m (fun i => ?_) (fun i j b hi hj => ?_), m⟩
 ·rw [sat_sset]
  by_cases hi : i = id
  ·subst hi
   simp only [if_true]
   exact hob _ _ (fun x v hx => m.ok hx) (fun xs vs hx => m.oks hx) (by simp [bset])
  ·simp only [hi, if_false]
   exact (h.inv.obs i).moves m (by simp [bset, hi]) (fun b hb => heap_alloc_old (h.inv.blk_lt hb)) rfl
 ·rcases blockOf_new hi with ⟨hi1, hi2⟩ | ⟨rfl, hi2⟩ <;> rcases blockOf_new hj with ⟨hj1, hj2⟩ | ⟨rfl, hj2⟩
  ·exact h.inv.inj i j b hi2 hj2
  ·have := h.inv.blk_lt hi2; have := hbl b hj2; omega
  ·have := h.inv.blk_lt hj2; have := hbl b hi2; omega
  ·rfl
theorem St.newObj {C : Ctx} {β : Beta} {env : List AV} {s : Sto} {a : Act} {w : World} (h : St C β env s a w) {id : Nat} (hd : sat s id = .dead)
 {c : Array Value} {t : Nat} {cs : List AV} (h0 : ∀ v ∈ c.toList, one v = true) (hc : AV.oks β (C.forb β s) w cs c.toList) :
 ∃ β', St C β' env (sset s id (.obj t cs)) a (w.alloc (.cells c t)) /\ Moves β s w β' (sset s id (.obj t cs)) (w.alloc (.cells c t)) /\
  AV.ok β' (C.forb β' (sset s id (.obj t cs))) (w.alloc (.cells c t)) (.ptr id 0) (.pointer (some ⟨w.heap.size, 0, none⟩)) := by
 have hno : β id = .no := by have := h.inv.obs id; rw [hd] at this; exact this
 obtain ⟨h1, h2⟩ := h.fresh (id := id) (ob := .obj t cs) (p := .blk w.heap.size) (c := c) (t := t) (by rw [hno]; trivial)
  (fun b o ho => by
   obtain ⟨i, ho⟩ := ho
   by_cases hi : i = id
   ·subst hi; simp [sat, bset] at ho; exact ho.symm
   ·simp [sat, hi] at ho)
  (fun b hb => by simp [blockOf, sat, bset] at hb; exact hb.symm)
  (fun β' F _ hxs hp => ⟨w.heap.size, c, hp, heap_alloc_new, h0, .of (hxs _ _ hc)⟩)
 exact ⟨_, h1, h2, by simp only [AV.ok]; exact ⟨w.heap.size, by simp [bset], rfl⟩⟩
theorem St.newMap {C : Ctx} {β : Beta} {env : List AV} {s : Sto} {a : Act} {w : World} (h : St C β env s a w) {id : Nat} (hd : sat s id = .dead) (P : Program) (k : Nat) :
 ∃ β', St C β' env (sset s id (.mp P k [])) a (w.alloc (.map #[] 0)) /\ Moves β s w β' (sset s id (.mp P k [])) (w.alloc (.map #[] 0)) /\
  AV.ok β' (C.forb β' (sset s id (.mp P k []))) (w.alloc (.map #[] 0)) (.mp id) (.map (some w.heap.size)) := by
 have hno : β id = .no := by have := h.inv.obs id; rw [hd] at this; exact this
 have hown : ∀ b o, ¬ own (bset β id (.blk w.heap.size)) [(id, .mp P k [])] b o := fun b o ho => by
  obtain ⟨i, ho⟩ := ho
  by_cases hi : i = id
  ·subst hi; simp [sat] at ho
  ·simp [sat, hi] at ho
 have hbl : ∀ b, blockOf (bset β id (.blk w.heap.size)) [(id, .mp P k [])] id b -> b = w.heap.size := fun b hb => by
  simp [blockOf, sat, bset] at hb; exact hb.symm
 have m : Moves β s w (bset β id (.blk w.heap.size)) (sset s id (.mp P k [])) (w.alloc (.map #[] 0)) := by
  refine ⟨by simp, rfl, fun b o v hc _ => ?_, fun b hb _ => heap_alloc_old hb, fun b o ho => ?_, fun i b hb => ?_, fun i => ?_⟩
  ·rw [<- hc]; exact World.cell?_of_block (heap_alloc_old (cell_lt hc))
  ·rcases own_new ho with ho | ho
   ·exact .inl ho
   ·exact (hown _ _ ho).elim
  ·rcases blockOf_new hb with ⟨_, hb⟩ | ⟨_, hb⟩
   ·exact .inl ⟨i, hb⟩
   ·exact .inr (Nat.le_of_eq (hbl b hb).symm)
  ·by_cases hi : i = id
   ·subst hi; rw [hno]; trivial
   ·simp only [bset, hi, if_false]; exact .refl _
 refine ⟨_, h.move m (fun i => ?_) (fun i j b hi hj => ?_), m, ?_⟩
 ·rw [sat_sset]
  by_cases hi : i = id
  ·subst hi
   simp only [if_true]
   exact ⟨w.heap.size, by simp [bset], .map [], World.ownsMap_made w P k heldR, fun kl => by simp [mget, Maps.has]⟩
  ·simp only [hi, if_false]
   exact (h.inv.obs i).moves m (by simp [bset, hi]) (fun b hb => heap_alloc_old (h.inv.blk_lt hb)) rfl
 ·rcases blockOf_new hi with ⟨hi1, hi2⟩ | ⟨rfl, hi2⟩ <;> rcases blockOf_new hj with ⟨hj1, hj2⟩ | ⟨rfl, hj2⟩
  ·exact h.inv.inj i j b hi2 hj2
  ·have := h.inv.blk_lt hi2; have := hbl b hj2; omega
  ·have := h.inv.blk_lt hj2; have := hbl b hi2; omega
  ·rfl
 ·simp only [AV.ok]; exact ⟨w.heap.size, by simp [bset], rfl⟩
theorem AV.oks_length {β : Beta} {O : Own} {w : World} : ∀ {xs : List AV} {vs : List Value}, AV.oks β O w xs vs -> vs.length = xs.length
 | [], vs => fun h => by simp [AV.oks] at h; simp [h]
 | x :: xs, vs => fun h => by
  simp only [AV.oks] at h
  obtain ⟨v, r, rfl, _, h3⟩ := h
  simp [AV.oks_length h3]
theorem AV.oks_iff {β : Beta} {O : Own} {w : World} : ∀ {xs : List AV} {vs : List Value}, AV.oks β O w xs vs ↔
 vs.length = xs.length /\ ∀ (i : Nat) (x : AV) (v : Value), xs[i]? = some x -> vs[i]? = some v -> AV.ok β O w x v
 | [], vs => by
  simp only [AV.oks]
  constructor
  ·rintro rfl; simp
  ·rintro ⟨h, _⟩; exact List.length_eq_zero_iff.1 h
 | x :: xs, vs => by
  simp only [AV.oks]
  constructor
  ·rintro ⟨v, r, rfl, h2, h3⟩
   obtain ⟨h4, h5⟩ := AV.oks_iff.1 h3
   refine ⟨by simp [h4], fun i y u hy hu => ?_⟩
   cases i with
   | zero => simp at hy hu; subst hy; subst hu; exact h2
   | succ i => simp at hy hu; exact h5 i y u hy hu
  ·rintro ⟨h1, h2⟩
   cases vs with
   | nil => simp at h1
   | cons v r => exact ⟨v, r, rfl, h2 0 x v rfl rfl, AV.oks_iff.2 ⟨by simpa using h1, fun i y u hy hu => h2 (i + 1) y u (by simpa using hy) (by simpa using hu)⟩⟩
theorem D.oks_length {O : Own} {w : World} : ∀ {xs : List D} {vs : List Value}, D.oks O w xs vs -> vs.length = xs.length
 | [], vs => fun h => by simp [D.oks] at h; simp [h]
 | x :: xs, vs => fun h => by
  simp only [D.oks] at h
  obtain ⟨v, r, rfl, _, _, h3⟩ := h
  simp [D.oks_length h3]
theorem D.oks_iff {O : Own} {w : World} : ∀ {xs : List D} {vs : List Value}, D.oks O w xs vs ↔
 vs.length = xs.length /\ ∀ (i : Nat) (x : D) (v : Value), xs[i]? = some x -> vs[i]? = some v -> one v = true /\ D.ok O w x v
 | [], vs => by
  simp only [D.oks]
  constructor
  ·rintro rfl; simp
  ·rintro ⟨h, _⟩; exact List.length_eq_zero_iff.1 h
 | x :: xs, vs => by
  simp only [D.oks]
  constructor
  ·rintro ⟨v, r, rfl, h0, h2, h3⟩
   obtain ⟨h4, h5⟩ := D.oks_iff.1 h3
   refine ⟨by simp [h4], fun i y u hy hu => ?_⟩
   cases i with
   | zero => simp at hy hu; subst hy; subst hu; exact ⟨h0, h2⟩
   | succ i => simp at hy hu; exact h5 i y u hy hu
  ·rintro ⟨h1, h2⟩
   cases vs with
   | nil => simp at h1
   | cons v r => exact ⟨v, r, rfl, (h2 0 x v rfl rfl).1, (h2 0 x v rfl rfl).2, D.oks_iff.2 ⟨by simpa using h1, fun i y u hy hu => h2 (i + 1) y u (by simpa using hy) (by simpa using hu)⟩⟩
def cD : Value -> D
 | .slice none 0 0 => .sl 0 (some true) []
 | v => if one v then .lit v else .any
def cAV : Value -> AV
 | .agg cs => if cs.toList.all one then .d (.agg (cs.toList.map cD)) else .junk
 | .tuple _ => .junk
 | v => .d (cD v)
theorem cD_ok {O : Own} {w : World} (v : Value) (h : one v = true) : D.ok O w (cD v) v := by
 unfold cD
 split
 ·simp only [D.ok]
  exact ⟨none, 0, rfl, ⟨Nat.le_refl _, by omega⟩, ⟨rfl, rfl⟩, .inl trivial⟩
 ·simp [h, D.ok]
theorem cDs_ok {O : Own} {w : World} : ∀ (vs : List Value), (∀ v ∈ vs, one v = true) -> D.oks O w (vs.map cD) vs
 | [], _ => by simp [D.oks]
 | v :: vs, h => by
  simp only [List.map_cons, D.oks]
  exact ⟨v, vs, rfl, h v (by simp), cD_ok v (h v (by simp)), cDs_ok vs fun u hu => h u (by simp [hu])⟩
theorem cAV_ok {β : Beta} {O : Own} {w : World} (v : Value) : AV.ok β O w (cAV v) v := by
 unfold cAV
 split
 ·split
  ·rename_i cs h
   simp only [AV.ok, D.ok]
   exact ⟨cs, rfl, cDs_ok _ fun v hv => by simpa using List.all_eq_true.1 h v hv⟩
  ·simp [AV.ok]
 ·simp [AV.ok]
 ·rename_i h1 h2
  simp only [AV.ok]
  exact cD_ok v (by cases v <;> simp_all [one])
def ev (env : List AV) : Operand -> AV
 | .tmp t => env.getD t .junk
 | .const v => cAV v
 | .func f => .fn f [] []
 | .global _ => .junk
theorem St.ev {C : Ctx} {β : Beta} {env : List AV} {s : Sto} {a : Act} {w : World} (h : St C β env s a w) (x : Operand) :
 AV.ok β (C.forb β s) w (ev env x) (a.eval x) := by
 cases x with
 | tmp t =>
  simp only [Abx.ev, Act.eval, List.getD]
  cases hx : env[t]? with
  | none => simp [AV.ok]
  | some y => exact h.env t y hx
 | const v => exact cAV_ok v
 | global g => simp [Abx.ev, AV.ok]
 | func f => simp only [Abx.ev, Act.eval, AV.ok, AV.oks]; exact ⟨#[], #[], rfl, rfl, rfl⟩
def OpWp (P : Program) (C : Ctx) (o : Oper) (env : List AV) (s : Sto) (k : List AV -> Sto -> Prop) : Prop :=
 (∀ c, o.op ≠ .defer c) -> ∀ Q β a w, St C β env s a w -> o.wpIn C.fence 0 P a w (fun a' w' => ∃ β' env' s', St C β' env' s' a' w' /\ k env' s') Q
def setD (d : Option Nat) (env : List AV) (x : AV) : List AV := match d with | some d => env.set d x | none => env
theorem OpWp.value {P : Program} {C : Ctx} {o : Oper} {env : List AV} {s : Sto} {k : List AV -> Sto -> Prop}
 (h : ∀ β a w, St C β env s a w -> ∃ v w' β' env' s' x, (execOp a.eval o).run P w = .ok (.value v) w' /\ St C β' env' s' a w' /\
  AV.ok β' (C.forb β' s') w' x v /\ k (setD o.dst env' x) s') : OpWp P C o env s k := by
 intro hnd Q β a w hst
 obtain ⟨v, w', β', env', s', x, hr, h1, h2, h3⟩ := h β a w hst
 refine ⟨fun _ _ => trivial, ?_⟩
 rw [Oper.semAt_eq _ _ _ hnd, hr]
 exact ⟨β', _, s', h1.put h2 o.dst, h3⟩
theorem OpWp.pure {P : Program} {C : Ctx} {o : Oper} {env : List AV} {s : Sto} {k : List AV -> Sto -> Prop} {x : AV}
 (h : ∀ β a w, St C β env s a w -> ∃ v, (execOp a.eval o).run P w = .ok (.value v) w /\ AV.ok β (C.forb β s) w x v)
 (hk : k (setD o.dst env x) s) : OpWp P C o env s k :=
 .value fun β a w hst => let ⟨v, h1, h2⟩ := h β a w hst; ⟨v, w, β, env, s, x, h1, hst, h2, hk⟩
theorem cells_ok {β : Beta} {O : Own} {w : World} {x : AV} {v : Value} (h : AV.ok β O w x v) {cs : List AV} (hc : x.cells = some cs) :
 AV.oks β O w cs v.cells.toList /\ ∀ u ∈ v.cells.toList, one u = true := by
 have single : ∀ (y : AV), AV.ok β O w y v -> (∀ c, v ≠ .agg c) -> one v = true -> AV.oks β O w [y] v.cells.toList /\ ∀ u ∈ v.cells.toList, one u = true := by
  intro y hy hn h1
  have : v.cells = #[v] := by cases v <;> simp_all [Value.cells]
  rw [this]
  exact ⟨by simp only [AV.oks]; exact ⟨v, [], rfl, hy, rfl⟩, by simpa using h1⟩
 cases x with
 | junk => simp [AV.cells] at hc
 | tup xs => simp [AV.cells] at hc
 | agg xs =>
  simp only [AV.cells, Option.some.injEq] at hc
  subst hc
  simp only [AV.ok] at h
  obtain ⟨vs, rfl, h0, h1⟩ := h
  exact ⟨h1, h0⟩
 | d x =>
  cases x with
  | agg xs =>
   simp only [AV.cells, Option.some.injEq] at hc
   subst hc
   simp only [AV.ok, D.ok] at h
   obtain ⟨vs, rfl, h1⟩ := h
   show AV.oks β O w (xs.map .d) vs.toList /\ _
   rw [D.oks_iff] at h1
   refine ⟨AV.oks_iff.2 ⟨by simp [h1.1], fun i y v hy hv => ?_⟩, fun u hu => ?_⟩
   ·rw [List.getElem?_map] at hy
    cases hz : xs[i]? with
    | none => rw [hz] at hy; cases hy
    | some z => rw [hz] at hy; cases hy; exact (h1.2 i z v hz hv).2
   ·obtain ⟨i, hi⟩ := List.getElem?_of_mem hu
    have hlt : i < xs.length := by rw [<- h1.1]; exact (List.getElem?_eq_some_iff.1 hi).1
    exact (h1.2 i _ u (List.getElem?_eq_getElem hlt) hi).1
  | any =>
   simp only [AV.cells, Option.some.injEq] at hc; subst hc
   simp only [AV.ok, D.ok] at h
   exact single _ (by simpa [AV.ok, D.ok] using h) (by intro c e; subst e; simp [one] at h) h
  | lit u =>
   simp only [AV.cells, Option.some.injEq] at hc; subst hc
   have h' := h
   simp only [AV.ok, D.ok] at h
   obtain ⟨rfl, h1⟩ := h
   exact single _ h' (by intro c e; subst e; simp [one] at h1) h1
  | sl e nl ys =>
   simp only [AV.cells, Option.some.injEq] at hc; subst hc
   have h' := h
   simp only [AV.ok, D.ok] at h
   obtain ⟨a, cap, rfl, _⟩ := h
   exact single _ h' (by intro c e; cases e) rfl
 | own e id xs =>
  simp only [AV.cells, Option.some.injEq] at hc; subst hc
  have h' := h
  simp only [AV.ok, D.ok] at h
  obtain ⟨⟨a, cap, rfl, _⟩, _⟩ := h
  exact single _ h' (by intro c e; cases e) rfl
 | ptr id off =>
  simp only [AV.cells, Option.some.injEq] at hc; subst hc
  have h' := h
  simp only [AV.ok] at h
  obtain ⟨b, _, rfl⟩ := h
  exact single _ h' (by intro c e; cases e) rfl
 | msl e id off len =>
  simp only [AV.cells, Option.some.injEq] at hc; subst hc
  have h' := h
  simp only [AV.ok] at h
  obtain ⟨b, cap, _, _, rfl⟩ := h
  exact single _ h' (by intro c e; cases e) rfl
 | pv cs' =>
  simp only [AV.cells, Option.some.injEq] at hc; subst hc
  have h' := h
  simp only [AV.ok] at h
  obtain ⟨b, o, vs, rfl, _⟩ := h
  exact single _ h' (by intro c e; cases e) rfl
 | fn f a b =>
  simp only [AV.cells, Option.some.injEq] at hc; subst hc
  have h' := h
  simp only [AV.ok] at h
  obtain ⟨fs, cs', rfl, _⟩ := h
  exact single _ h' (by intro c e; cases e) rfl
 | gow e id n =>
  simp only [AV.cells, Option.some.injEq] at hc; subst hc
  have h' := h
  simp only [AV.ok] at h
  obtain ⟨u, m, _, _, _, ⟨_, rfl, _⟩ | ⟨b, cap, rfl, _⟩⟩ := h
  ·exact single _ h' (by intro c e; cases e) rfl
  ·exact single _ h' (by intro c e; cases e) rfl
 | gptr id k off =>
  simp only [AV.cells, Option.some.injEq] at hc; subst hc
  have h' := h
  simp only [AV.ok] at h
  obtain ⟨u, m, b, off', _, _, rfl, _⟩ := h
  exact single _ h' (by intro c e; cases e) rfl
 | ful e xs =>
  simp only [AV.cells, Option.some.injEq] at hc; subst hc
  have h' := h
  simp only [AV.ok] at h
  obtain ⟨a, rfl, _⟩ := h
  exact single _ h' (by intro c e; cases e) rfl
 | dp d => simp [AV.cells] at hc
 | mp id =>
  simp only [AV.cells, Option.some.injEq] at hc; subst hc
  have h' := h
  simp only [AV.ok] at h
  obtain ⟨b, _, rfl⟩ := h
  exact single _ h' (by intro c e; cases e) rfl
theorem undo_ok : ∀ {cs : List AV} {ds : List D}, AV.undo cs = some ds -> cs = ds.map .d
 | [], ds => fun h => by simp only [AV.undo, Option.some.injEq] at h; subst h; rfl
 | .d x :: xs, ds => fun h => by
  simp only [AV.undo, Option.map_eq_some_iff] at h
  obtain ⟨es, h1, rfl⟩ := h
  simp [undo_ok h1]
 | .junk :: _, _ => fun h => by simp [AV.undo] at h
 | .own .. :: _, _ => fun h => by simp [AV.undo] at h
 | .ptr .. :: _, _ => fun h => by simp [AV.undo] at h
 | .msl .. :: _, _ => fun h => by simp [AV.undo] at h
 | .pv .. :: _, _ => fun h => by simp [AV.undo] at h
 | .agg .. :: _, _ => fun h => by simp [AV.undo] at h
 | .tup .. :: _, _ => fun h => by simp [AV.undo] at h
 | .fn .. :: _, _ => fun h => by simp [AV.undo] at h
 | .gow .. :: _, _ => fun h => by simp [AV.undo] at h
 | .gptr .. :: _, _ => fun h => by simp [AV.undo] at h
 | .ful .. :: _, _ => fun h => by simp [AV.undo] at h
 | .dp .. :: _, _ => fun h => by simp [AV.undo] at h
 | .mp .. :: _, _ => fun h => by simp [AV.undo] at h
theorem mk_ok {β : Beta} {O : Own} {w : World} {cs : List AV} {vs : Array Value} (h : AV.oks β O w cs vs.toList) (h1 : ∀ u ∈ vs.toList, one u = true) :
 AV.ok β O w (AV.mk cs) (.agg vs) := by
 unfold AV.mk
 split
 ·rename_i ds hd
  have := undo_ok hd
  subst this
  simp only [AV.ok, D.ok]
  refine ⟨vs, rfl, ?_⟩
  rw [AV.oks_iff] at h
  rw [D.oks_iff]
  refine ⟨by simpa using h.1, fun i x v hx hv => ⟨h1 v (List.mem_of_getElem? hv), ?_⟩⟩
  have := h.2 i (.d x) v (by simp [hx]) hv
  simpa [AV.ok] using this
 ·simp only [AV.ok]
  exact ⟨vs, rfl, h1, h⟩
theorem oks_drop {β : Beta} {O : Own} {w : World} (n : Nat) {xs : List AV} {vs : List Value} (h : AV.oks β O w xs vs) : AV.oks β O w (xs.drop n) (vs.drop n) := by
 rw [AV.oks_iff] at h ⊢
 exact ⟨by simp [h.1], fun i x v hx hv => h.2 (n + i) x v (by simpa using hx) (by simpa using hv)⟩
theorem oks_take {β : Beta} {O : Own} {w : World} (n : Nat) {xs : List AV} {vs : List Value} (h : AV.oks β O w xs vs) : AV.oks β O w (xs.take n) (vs.take n) := by
 rw [AV.oks_iff] at h ⊢
 refine ⟨by simp [h.1], fun i x v hx hv => ?_⟩
 rw [List.getElem?_take] at hx hv
 split at hx
 ·rename_i hi; rw [if_pos hi] at hv; exact h.2 i x v hx hv
 ·cases hx
theorem oks_append {β : Beta} {O : Own} {w : World} {xs ys : List AV} {vs us : List Value} (h : AV.oks β O w xs vs) (k : AV.oks β O w ys us) :
 AV.oks β O w (xs ++ ys) (vs ++ us) := by
 induction xs generalizing vs with
 | nil => simp only [AV.oks] at h; subst h; simpa using k
 | cons x xs ih =>
  simp only [AV.oks] at h
  obtain ⟨v, r, rfl, h1, h2⟩ := h
  simp only [List.cons_append, AV.oks]
  exact ⟨v, r ++ us, rfl, h1, ih h2⟩
theorem doks_drop {O : Own} {w : World} (n : Nat) {xs : List D} {vs : List Value} (h : D.oks O w xs vs) : D.oks O w (xs.drop n) (vs.drop n) := by
 rw [D.oks_iff] at h ⊢
 exact ⟨by simp [h.1], fun i x v hx hv => h.2 (n + i) x v (by simpa using hx) (by simpa using hv)⟩
theorem doks_take {O : Own} {w : World} (n : Nat) {xs : List D} {vs : List Value} (h : D.oks O w xs vs) : D.oks O w (xs.take n) (vs.take n) := by
 rw [D.oks_iff] at h ⊢
 refine ⟨by simp [h.1], fun i x v hx hv => ?_⟩
 rw [List.getElem?_take] at hx hv
 split at hx
 ·rename_i hi; rw [if_pos hi] at hv; exact h.2 i x v hx hv
 ·cases hx
theorem run_loadVar {P : Program} {t : TypeId} {i : TypeInfo} {ag : Bool} (hi : P.info? t = some i)
 (hg : (match P.underlying t with | some (.struct _) | some (.array _ _) => some true | some _ => some false | none => none) = some ag)
 (w : World) (b o : Nat) (vs : List Value) (hc : ∀ j v, vs[j]? = some v -> w.cell? ⟨b, o + j, none⟩ = some v) (hl : vs.length = if ag then i.size else 1) :
 (loadVar t ⟨b, o, none⟩).run P w = .ok (if ag then .agg vs.toArray else vs.headD undef) w := by
 cases ag with
 | true =>
  have hu : ∃ d, P.underlying t = some d /\ ((∃ f, d = .struct f) ∨ ∃ n e, d = .array n e) := by
   cases hq : P.underlying t with
   | none => simp [hq] at hg
   | some d => rw [hq] at hg; cases d <;> simp at hg <;> exact ⟨_, rfl, by simp⟩
  obtain ⟨d, hd, h2⟩ := hu
  have hag : ∀ w, (isAgg t).run P w = .ok true w := by
   intro w
   rcases h2 with ⟨f, rfl⟩ | ⟨n, e, rfl⟩ <;> simp [isAgg, run_underlying hd]
  simp only [if_true] at hl
  have hl' := run_loadCells_list (P := P) w ⟨b, o, none⟩ vs (fun j v hj => by rw [Addr.add_lit]; exact hc j v hj)
  rw [hl] at hl'
  simp [loadVar, hag, Go.sizeOf, typeInfo, hi, hl']
 | false =>
  have hu : ∃ d, P.underlying t = some d /\ (∀ f, d ≠ .struct f) /\ ∀ n e, d ≠ .array n e := by
   cases hq : P.underlying t with
   | none => simp [hq] at hg
   | some d => rw [hq] at hg; cases d <;> simp at hg <;> exact ⟨_, rfl, by simp, by simp⟩
  obtain ⟨d, hd, h2, h3⟩ := hu
  have hag : ∀ w, (isAgg t).run P w = .ok false w := by
   intro w
   simp only [isAgg, Sem.run_bind, run_underlying hd, Result.andThen_ok]
   cases d <;> simp_all
  simp only [Bool.false_eq_true, if_false] at hl
  match vs, hl with
  | [v], _ =>
   have := hc 0 v rfl
   simp only [Nat.add_zero] at this
   simp [loadVar, hag, this]
def aggOf (P : Program) (t : TypeId) : Option Bool :=
 match P.underlying t with
 | some (.struct _) | some (.array _ _) => some true
 | some _ => some false
 | none => none
inductive MOp where
 | mv (x : Operand)
 | pick (c a b : Operand)
 | alloc (id t : Nat) (z : List D)
 | box (id t : Nat) (x : Operand)
 | boxi (id d t : Nat) (x : Operand)
 | build (z : List D) (parts : List (Nat × Nat × Operand))
 | bsl (id t e : Nat) (xs : List Operand)
 | bslg (id t e : Nat) (xs : List Operand)
 | bslo (id t e : Nat) (xs : List Operand)
 | bsln (id t e : Nat) (xs : List Operand)
 | mksld (id t e bytes : Nat) (z : List D) (tok : Bool) (len cap : Operand)
 | mkslp (id t e bytes : Nat) (z : List D) (tok : Bool) (len cap : Operand)
 | load (n : Nat) (ag : Bool) (p : Operand)
 | store (n : Nat) (p x : Operand)
 | nilc (x : Operand)
 | bin (op : BinOp) (x y : Operand)
 | binb (neg : Bool) (x y : Operand)
 | eqnil (neg : Bool) (x : Operand)
 | un (op : UnOp) (x : Operand)
 | conv (k : IntKind) (x : Operand)
 | mkfn (f : Nat) (first cap : List Operand)
 | mksl (id t e bytes : Nat) (z : List D) (tok : Bool) (len cap : Operand)
 | slc (x : Operand) (e : Nat) (lo hi mx : Option Operand)
 | slcA (p : Operand) (e n : Nat) (lo hi mx : Option Operand)
 | fad (off : Nat) (p : Operand)
 | fld (off n : Nat) (ag : Bool) (x : Operand)
 | ixa (e : Nat) (x i : Operand)
 | ixaA (e n : Nat) (p i : Operand)
 | len (x : Operand)
 | lens (x : Operand)
 | ixs (x i : Operand)
 | sls (x : Operand) (lo hi : Option Operand)
 | app (id t e bytes : Nat) (x y : Operand)
 | appg (id t e bytes : Nat) (x y : Operand)
 | appn (id t e bytes : Nat) (x y : Operand)
 | callf (f : Nat) (args : List Operand)
 | callv (g : Operand) (args : List Operand)
 | ext (x : Operand) (i : Nat)
 | max (x y : Operand)
 | min (x y : Operand)
 | mkmap (id k : Nat)
 | look (k : Nat) (kd : Option IntKind) (z : D) (ok : Bool) (m x : Operand)
 | mput (k : Nat) (kd : Option IntKind) (m x v : Operand)
 | mdel (k : Nat) (kd : Option IntKind) (m x : Operand)
 | dead
structure MOper where
 dst : Option Nat
 op : MOp
 guard : Option (Option Nat × Bool)
inductive MCode where
 | skip
 | reg (ops : List MOper)
 | draw (ops : List MOper) (after : List (List Nat))
 | seq (a b : MCode)
 | cond (c : Operand) (a b : MCode)
 | block (id : Nat) (a : MCode)
 | loop (a : MCode)
 | exit (id : Nat)
 | ret
 | dead
 | ghost (a : MCode)
 | rng (g : Operand) (ps : List Nat) (a b : MCode)
def MOp.erase : MOp -> MOp
 | .bslg id t e xs => .bsl id t e xs
 | .boxi _ d t x => .box d t x
 | .bslo id t e xs => .bsl id t e xs
 | .bsln id t e xs => .bsl id t e xs
 | .mksld id t e b z tok l c => .mksl id t e b z tok l c
 | .mkslp id t e b z tok l c => .mksl id t e b z tok l c
 | .appg id t e b x y => .app id t e b x y
 | .appn id t e b x y => .app id t e b x y
 | x => x
def MOper.erase (m : MOper) : MOper := ⟨m.dst, m.op.erase, m.guard⟩
def MCode.erase : MCode -> MCode
 | .reg ms => .reg (ms.map MOper.erase)
 | .draw ms af => .draw (ms.map MOper.erase) af
 | .seq a b => .seq a.erase b.erase
 | .cond c a b => .cond c a.erase b.erase
 | .block id a => .block id a.erase
 | .loop a => .loop a.erase
 | .ghost a => a.erase
 | .rng g ps a b => .rng g ps a.erase b.erase
 | x => x
def zeroD (P : Program) (t : Nat) : Option (List D) :=
 (P.info? t).bind fun i => i.zero.bind fun z => if z.cells.toList.all one && z.cells.size == i.size then some (z.cells.toList.map cD) else none
def sizeP (P : Program) (t : Nat) : Option Nat := (P.info? t).map (·.size)
def bytesP (P : Program) (t : Nat) : Option Nat := (P.info? t).map (·.bytes)
def elemP (P : Program) (t : Nat) : Option Nat := match P.underlying t with | some (.slice e) => some e | _ => none
def mapP (P : Program) (t : Nat) : Option (Nat × Nat) := match P.underlying t with | some (.map k e) => some (k, e) | _ => none
def keyK (P : Program) (k : Nat) : Option (Option IntKind) := match P.underlying k with | some .string => some none | some (.int q) => some (some q) | _ => none
def zeroV1 (P : Program) (t : Nat) : Option Value := (P.info? t).bind fun i => i.zero.bind fun u => if one u then some u else none
def litOf : Value -> Lit
 | .string s => .string s.data.toList
 | .int q a => .int q a
 | _ => .nil
def keyOkL : Option IntKind -> Value -> Prop
 | none, .string s => s.size <= maxLen
 | some q, .int q' a => q' = q /\ (Lit.int q a).wf = true
 | _, _ => False
def lookAV (ok : Bool) (z : D) (o : Option D) : AV := if ok then .tup [.d (o.getD z), .d (.lit (.bool o.isSome))] else .d (o.getD z)
def isAggD : D -> Bool
 | .agg _ => true
 | _ => false
def partsOf (P : Program) (fs : Array Field) (p : Nat × Operand) : Option (Nat × Nat × Operand) :=
 (fs[p.1]?).bind fun (f : Field) => (sizeP P f.type).map fun n => (f.offset, n, p.2)
def fullParts (n : Nat) (ps : List (Nat × Operand)) : Option (List Operand) :=
 if ps.map (·.1) = List.range n then some (ps.map (·.2)) else none
def isZero : Operand -> Bool
 | .const (.int _ 0) => true
 | _ => false
def isNilSlice : Operand -> Bool
 | .const (.slice none 0 0) => true
 | _ => false
def sameOpd : Operand -> Operand -> Bool
 | .tmp a, .tmp b => a == b
 | .const (.int j a), .const (.int k b) => j == k && a == b
 | _, _ => false
def enters (P : Program) (f : Nat) : Bool :=
 match P.funcs[f]? with
 | some fn => !(fn.name == "runtime.NumGoroutine") && fn.body.isSome
 | none => false
def miniOp (P : Program) (o : Oper) : Option MOp :=
 match o.op with
 | .move x | .assign x => some (.mv x)
 | .pick c a b => some (.pick c a b)
 | .alloc t => o.dst.bind fun d => (zeroD P t).map fun z => .alloc d t z
 | .box t x => o.dst.map fun d => .box d t x
 | .build t ps =>
  match P.underlying t with
  | some (.struct fs) => (zeroD P t).bind fun z =>
   if fs.toList.all (fun (f : Field) => (sizeP P f.type).isSome) then (ps.toList.mapM (partsOf P fs)).map fun qs => .build z qs else none
  | some (.array _ e) => if ps.toList.isEmpty then (sizeP P e).bind fun _ => (zeroD P t).map fun z => .build z [] else none
  | _ => none
 | .buildSlice t n ps => o.dst.bind fun d => (elemP P t).bind fun e => (sizeP P e).bind fun sz => (zeroD P e).bind fun _ =>
  if n * sz <= 2 ^ 24 /\ 0 < sz then (fullParts n ps.toList).map fun xs => .bsl d e sz xs else none
 | .load t p => (sizeP P t).bind fun n => (aggOf P t).map fun ag => .load (if ag then n else 1) ag p
 | .store t p x => (sizeP P t).map fun n => .store n p x
 | .nilCheck x => some (.nilc x)
 | .binOp op t x y _ =>
  match P.underlying t with
  | some (.int _) | some .string => some (.bin op x y)
  | some .bool => match op with | .eql => some (.binb false x y) | .neq => some (.binb true x y) | _ => none
  | some (.slice _) => if isNilSlice y then (match op with | .eql => some (.eqnil false x) | .neq => some (.eqnil true x) | _ => none) else none
  | _ => none
 | .unOp op _ x => some (.un op x)
 | .convert a b x =>
  match P.underlying a, P.underlying b with
  | some (.int _), some (.int k) => some (.conv k x)
  | _, _ => none
 | .makeFunc (.func f) first cap => some (.mkfn f first.toList cap.toList)
 | .makeSlice t l c => o.dst.bind fun d => (elemP P t).bind fun e => (sizeP P e).bind fun sz => (bytesP P e).bind fun by' => (zeroD P e).bind fun z =>
  if 0 < sz then (if isZero l then some (.mksl d e sz by' z true l c) else if sameOpd l c then some (.mksl d e sz by' z false l c) else none) else none
 | .slice t x lo hi mx =>
  match P.underlying t with
  | some (.slice e) => (sizeP P e).map fun sz => .slc x sz lo hi mx
  | some (.array n e) => if n < 2 ^ 62 then (sizeP P e).map fun sz => .slcA x sz n lo hi mx else none
  | some .string => match mx with | none => some (.sls x lo hi) | some _ => none
  | _ => none
 | .fieldAddr t p f =>
  match P.underlying t with
  | some (.struct fs) => (fs[f]?).bind fun fd => (sizeP P fd.type).bind fun n => if n = 0 then none else some (.fad fd.offset p)
  | _ => none
 | .field t x f =>
  match P.underlying t with
  | some (.struct fs) => (fs[f]?).bind fun fd => (sizeP P fd.type).bind fun n => (aggOf P fd.type).map fun ag => .fld fd.offset n ag x
  | _ => none
 | .indexAddr t x i =>
  match P.underlying t with
  | some (.slice e) => (sizeP P e).map fun sz => .ixa sz x i
  | some (.array n e) => (sizeP P e).map fun sz => .ixaA sz n x i
  | _ => none
 | .extract x i => some (.ext x i)
 | .call c =>
  match c.callee with
  | .value (.func f) => if enters P f then some (.callf f c.args.toList) else none
  | .value g => some (.callv g c.args.toList)
  | .builtin .len => match (c.argTypes[0]?).bind P.underlying, c.args.toList with
   | some (.slice _), [x] => some (.len x)
   | some .string, [x] => some (.lens x)
   | _, _ => none
  | .builtin .append => match c.args.toList, c.argTypes[0]?, c.argTypes[1]? with
   | [x, y], some t, some u => o.dst.bind fun d => (elemP P t).bind fun e => (elemP P u).bind fun _ => (sizeP P e).bind fun sz => (bytesP P e).bind fun by' => (zeroD P e).bind fun _ =>
    if 0 < sz /\ 0 < by' then some (.app d e sz by' x y) else none
   | _, _, _ => none
  | .builtin .max => match c.args.toList with | [x, y] => some (.max x y) | _ => none
  | .builtin .min => match c.args.toList with | [x, y] => some (.min x y) | _ => none
  | .builtin .delete => match c.args.toList, c.argTypes.toList with
   | [m, x], [t, k] => (mapP P t).bind fun p => (keyK P k).bind fun kd => if p.1 = k then some (.mdel k kd m x) else none
   | _, _ => none
  | _ => none
 | .index t x i =>
  match P.underlying t with
  | some .string => some (.ixs x i)
  | _ => none
 | .makeMap t none => o.dst.bind fun d => (mapP P t).map fun p => .mkmap d p.1
 | .lookup t m x ok => (mapP P t).bind fun p => (keyK P p.1).bind fun kd => (zeroV1 P p.2).map fun u => .look p.1 kd (cD u) ok m x
 | .mapUpdate t m x v => (mapP P t).bind fun p => (keyK P p.1).map fun kd => .mput p.1 kd m x v
 | _ => none
def miniOper (P : Program) (ops : Array Oper) (o : Oper) : Option MOper :=
 some { dst := o.dst, op := (miniOp P o).getD .dead, guard := o.guard.map fun (j, b) => ((ops[j]?).bind (·.dst), b) }
def mini (P : Program) : Code -> Option MCode
 | .skip => some .skip
 | .region _ ops draw => (ops.toList.mapM (miniOper P ops)).map fun ms =>
  if draw then .draw ms (ops.toList.map fun o => (o.after.toList.filter (Region.binds .any)).map (·.on)) else .reg ms
 | .seq a b => (mini P a).bind fun x => (mini P b).map fun y => .seq x y
 | .cond c a b => (mini P a).bind fun x => (mini P b).map fun y => .cond c x y
 | .block id a => (mini P a).map fun x => .block id x
 | .loop a => (mini P a).map fun x => .loop x
 | .exit id => some (.exit id)
 | .ret => some .ret
 | .rangeFunc g ps a b => (mini P a).bind fun x => (mini P b).map fun y => .rng g ps.toList x y
 | _ => some .dead
def Br (b w : Bool) (A B : Prop) : Prop := if b = w then A else B
abbrev iD (n : Int) : D := .lit (.int .i64 n)
abbrev bD (b : Bool) : D := .lit (.bool b)
def slK : AV -> Option (Nat × List D)
 | .d (.sl e _ xs) => some (e, xs)
 | .own e _ xs => some (e, xs)
 | _ => none
def nlK : AV -> Option Bool
 | .d (.sl _ (some b) _) => some b
 | .msl .. => some false
 | _ => none
def dcells : D -> List D
 | .agg cs => cs
 | x => [x]
mutual
def AV.fin : AV -> Option D
 | .d x => some x
 | .own e _ xs => some (.sl e none xs)
 | .agg cs => (AV.finAll cs).map .agg
 | .junk => none
 | .ptr _ _ => none
 | .msl _ _ _ _ => none
 | .pv _ => none
 | .tup _ => none
 | .fn _ _ _ => none
 | .gow _ _ _ => none
 | .gptr _ _ _ => none
 | .ful _ _ => none
 | .dp _ => none
 | .mp _ => none
def AV.finAll : List AV -> Option (List D)
 | [] => some []
 | x :: xs => (AV.fin x).bind fun y => (AV.finAll xs).map (y :: ·)
end
def Ob.isDead : Ob -> Bool
 | .dead => true
 | _ => false
def newK (k0 id : Nat) (env : List AV) (s : Sto) (K : List AV -> Sto -> (AV -> AV) -> Prop) : Prop :=
 k0 <= id /\ if (sat s id).isDead then K env s (fun x => x) else K (AV.rens (killρ id) env) (skill id s) (AV.ren (killρ id))
def kOk : BinOp -> IntKind -> IntKind -> Prop
 | .shl, _, _ => True
 | .shr, _, _ => True
 | _, k, k' => k = k'
def andI (k : IntKind) (a b : Int) : Int := k.wrap (BitVec.ofInt k.bits a &&& BitVec.ofInt k.bits b).toNat
def orI (k : IntKind) (a b : Int) : Int := k.wrap (BitVec.ofInt k.bits a ||| BitVec.ofInt k.bits b).toNat
def xorI (k : IntKind) (a b : Int) : Int := k.wrap (BitVec.ofInt k.bits a ^^^ BitVec.ofInt k.bits b).toNat
def andnI (k : IntKind) (a b : Int) : Int := k.wrap (BitVec.ofInt k.bits a &&& ~~~BitVec.ofInt k.bits b).toNat
def shlI (k : IntKind) (a b : Int) : Int := k.wrap (a * 2 ^ (min b.toNat k.bits))
def shrI (k : IntKind) (a b : Int) : Int := a.fdiv (2 ^ (min b.toNat k.bits))
def binK (op : BinOp) (x y : AV) (K : AV -> Prop) : Prop :=
 match x, y with
 | .d (.lit (.int k a)), .d (.lit (.int k' b)) => kOk op k k' /\
  match op with
  | .add => K (.d (.lit (.int k (k.wrap (a + b)))))
  | .sub => K (.d (.lit (.int k (k.wrap (a - b)))))
  | .mul => K (.d (.lit (.int k (k.wrap (a * b)))))
  | .quo => b ≠ 0 /\ K (.d (.lit (.int k (k.wrap (a.tdiv b)))))
  | .rem => b ≠ 0 /\ K (.d (.lit (.int k (a.tmod b))))
  | .eql => K (.d (bD (a == b)))
  | .neq => K (.d (bD (a != b)))
  | .lss => K (.d (bD (decide (a < b))))
  | .leq => K (.d (bD (decide (a <= b))))
  | .gtr => K (.d (bD (decide (b < a))))
  | .geq => K (.d (bD (decide (b <= a))))
  | .and => K (.d (.lit (.int k (andI k a b))))
  | .or => K (.d (.lit (.int k (orI k a b))))
  | .xor => K (.d (.lit (.int k (xorI k a b))))
  | .andNot => K (.d (.lit (.int k (andnI k a b))))
  | .shl => 0 <= b /\ K (.d (.lit (.int k (shlI k a b))))
  | .shr => 0 <= b /\ K (.d (.lit (.int k (shrI k a b))))
 | .d (.lit (.string a)), .d (.lit (.string b)) =>
  match op with
  | .add => a.size + b.size < 2 ^ 63 /\ K (.d (.lit (.string (a ++ b))))
  | .eql => K (.d (bD (a.toList == b.toList)))
  | .neq => K (.d (bD (!(a.toList == b.toList))))
  | _ => False
 | _, _ => False
def sget (b : ByteArray) (i : Nat) : Int := (((b.data[i]?).getD 0).toNat : Int)
def aInt : AV -> Option Int
 | .d (.lit (.int _ n)) => some n
 | _ => none
def bnd (env : List AV) (dflt : Int) : Option Operand -> Option Int
 | none => some dflt
 | some x => aInt (ev env x)
def ACalls (P : Program) (f : Nat) (args : List AV) (s : Sto) (k : Nat) (R : AV -> Sto -> Prop) : Prop :=
 ∀ (C : Ctx) (vs : Array Value), C.s = s -> C.k = k -> Inv C C.β C.s C.w -> AV.oks C.β (C.forb C.β C.s) C.w args vs.toList ->
  Calls P f vs C.w fun e w' => ∃ v x β' s', e = .returned v /\ Inv C β' s' w' /\ AV.ok β' (C.forb β' s') w' x v /\ R x s'
def Ob.ren (ρ : Nat -> Option Nat) : Ob -> Ob
 | .obj t cs => .obj t (AV.rens ρ cs)
 | .nst t e n cs => .nst t e n (AV.rens ρ cs)
 | .prv e n cs => .prv e n (AV.rens ρ cs)
 | x => x
def outρ : List (Nat × Nat) -> Nat -> Option Nat
 | [], _ => none
 | (c, j) :: r, i => if i = c then some j else outρ r i
def inρ : List (Nat × Nat) -> Nat -> Option Nat
 | [], _ => none
 | (c, j) :: r, i => if i = j then some c else inρ r i
def scallee (s : Sto) (pr mp : List (Nat × Nat)) : Sto := mp.map fun (c, j) => (c, (sat s j).ren (inρ pr))
def sback (s s' : Sto) (mp all : List (Nat × Nat)) : Sto :=
 match mp with
 | [] => s
 | (c, j) :: r => sback (sset s j ((sat s' c).ren (outρ all))) s' r all
def callK (P : Program) (k0 f : Nat) (args : List AV) (env : List AV) (s : Sto) (K : AV -> List AV -> Sto -> Prop) : Prop :=
 ∃ (pr nw : List (Nat × Nat)) (R : AV -> Sto -> Prop),
  pr.map (·.1) = List.range pr.length /\ ((pr ++ nw).map (·.1)).Nodup /\ ((pr ++ nw).map (·.2)).Nodup /\
  (∀ p ∈ nw, sat s p.2 = .dead /\ k0 <= p.2) /\
  ACalls P f (args.map fun x => x.ren (inρ pr)) (scallee s pr pr) pr.length R /\
  ∀ x s', R x s' -> K (x.ren (outρ (pr ++ nw))) env (sback s s' (pr ++ nw) (pr ++ nw))
def callS (P : Program) (k0 f : Nat) (args : List AV) (env : List AV) (s : Sto) (K : AV -> List AV -> Sto -> Prop) : Prop :=
 ∀ (C : Ctx) (β : Beta) (a : Act) (w : World) (vs : Array Value), C.k = k0 -> St C β env s a w -> AV.oks β (C.forb β s) w args vs.toList ->
  Calls P f vs w fun e w' => ∃ v x β' env' s', e = .returned v /\ St C β' env' s' a w' /\ AV.ok β' (C.forb β' s') w' x v /\ K x env' s'
def ixaK (e : Nat) (x i : AV) (K : AV -> Prop) : Prop :=
 match aInt i with
 | none => False
 | some n => match x with
  | .msl e' id off len => e' = e /\ 0 <= n /\ n < len /\ K (.ptr id (off + n.toNat * e))
  | .gow e' id m => e' = e /\ 0 <= n /\ n < m /\ K (.gptr id m (n.toNat * e))
  | x => match slK x with
   | some (e', xs) => e' = e /\ 0 <= n /\ n < xs.length /\ K (.pv (dcells (xs.getD n.toNat .any)))
   | none => False
def isDp : AV -> Bool
 | .dp _ => true
 | _ => false
def noDp (cs : List AV) : Bool := cs.all fun x => !isDp x
def loadK (n : Nat) (ag : Bool) (p : AV) (s : Sto) (K : AV -> Prop) : Prop :=
 match p with
 | .ptr id off => match sat s id with
  | .obj _ cs => off + n <= cs.length /\ K (if ag then AV.mk ((cs.drop off).take n) else cs.getD off .junk)
  | _ => False
 | .pv cs => n <= cs.length /\ K (.d (if ag then .agg (cs.take n) else cs.headD .any))
 | .gptr id k off => match sat s id with
  | .gro _ _ m cs => m = k /\ off + n <= cs.length /\ K (.d (if ag then .agg ((cs.drop off).take n) else cs.getD off .any))
  | .prv _ m cs => m = k /\ off + n <= cs.length /\ ag = false /\ n = 1 /\ isDp (cs.getD off .junk) = false /\ K (cs.getD off .junk)
  | _ => False
 | _ => False
def storeK (n : Nat) (p x : AV) (s : Sto) (K : Sto -> Prop) : Prop :=
 match p with
 | .ptr id off => match sat s id with
  | .obj t cs => match x.cells with
   | some xs => xs.length = n /\ off + n <= cs.length /\ K (sset s id (.obj t (cs.take off ++ xs ++ cs.drop (off + n))))
   | none => False
  | _ => False
 | .gptr id k off => match sat s id with
  | .gro t e m cs => match x.fin with
   | some d => m = k /\ (dcells d).length = n /\ off + n <= cs.length /\ K (sset s id (.gro t e m (cs.take off ++ dcells d ++ cs.drop (off + n))))
   | none => False
  | .prv e m cs => match x.cells with
   | some xs => m = k /\ xs.length = n /\ 0 < n /\ off + n <= cs.length /\ noDp xs = true /\ K (sset s id (.prv e m (cs.take off ++ xs ++ cs.drop (off + n))))
   | none => False
  | _ => False
 | _ => False
def putParts (env : List AV) : List AV -> List (Nat × Nat × Operand) -> Option (List AV)
 | cs, [] => some cs
 | cs, (off, n, x) :: r => match (ev env x).cells with
  | some xs => if xs.length = n /\ off + n <= cs.length then putParts env (cs.take off ++ xs ++ cs.drop (off + n)) r else none
  | none => none
def AV.acells : AV -> Option (List AV)
 | .d (.agg cs) => some (cs.map .d)
 | .agg cs => some cs
 | _ => none
def slcK (x : AV) (lo hi : Option Int) (K : AV -> Prop) : Prop :=
 match slK x, lo, hi with
 | some (e, xs), some l, some h => 0 <= l /\ l <= h /\ h <= xs.length /\ K (.d (.sl e (nlK x) ((xs.take h.toNat).drop l.toNat)))
 | _, _, _ => False
def appK (id t e bytes k0 : Nat) (x y : AV) (env : List AV) (s : Sto) (K : AV -> List AV -> Sto -> Prop) : Prop :=
 match slK y with
 | none => False
 | some (e2, ys) => (ys = [] ∨ e2 = e) /\
  match x with
  | .own e' j xs => e' = e /\ sat s j = .tok t e xs.length /\ (xs.length + ys.length) * bytes <= 2 ^ 47 /\
   K (.own e j (xs ++ ys)) env (sset s j (.tok t e (xs.length + ys.length)))
  | .gow e' j n => e' = e /\ (match sat s j with
   | .gro t' e2 m cs => t' = t /\ e2 = e /\ m = n /\ (n + ys.length) * bytes <= 2 ^ 47 /\
    K (.gow e j (n + ys.length)) env (sset s j (.gro t e (n + ys.length) (cs ++ ys.flatMap dcells)))
   | _ => False)
  | .d (.sl _ (some true) []) => ys.length * bytes <= 2 ^ 47 /\ newK k0 id env s fun env s _ => K (.own e id ys) env (sset s id (.tok t e ys.length))
  | .ful e' xs => e' = e /\ (xs.length + ys.length) * bytes <= 2 ^ 47 /\ K (.d (.sl e none (xs ++ ys))) env s
  | _ => False
def appgK (id t e bytes k0 : Nat) (x y : AV) (env : List AV) (s : Sto) (K : AV -> List AV -> Sto -> Prop) : Prop :=
 match slK y, x with
 | some (e2, ys), .d (.sl _ (some true) []) => (ys = [] ∨ e2 = e) /\ ys.length * bytes <= 2 ^ 47 /\
  newK k0 id env s fun env s _ => K (.gow e id ys.length) env (sset s id (.gro t e ys.length (ys.flatMap dcells)))
 | _, x => appK id t e bytes k0 x y env s K
def AV.flat (e : Nat) : List AV -> Option (List AV)
 | [] => some []
 | x :: xs => match x.cells, AV.flat e xs with
  | some c, some r => if c.length = e then some (c ++ r) else none
  | _, _ => none
def appnK (t e bytes : Nat) (x y : AV) (env : List AV) (s : Sto) (K : AV -> List AV -> Sto -> Prop) : Prop :=
 match x, y with
 | .own e' j xs, .own e2 j2 ys => e' = e /\ e2 = e /\ j ≠ j2 /\ ys ≠ [] /\ (xs.length + ys.length) * bytes <= 2 ^ 47 /\
  match sat s j, sat s j2 with
  | .nst t1 e3 n cs, .nst t2 e4 m cs2 => t1 = t /\ e3 = e /\ n = xs.length /\ e4 = e /\ m = ys.length /\
   K (.own e j (xs ++ ys)) env (sset (sset s j (.nst t e (xs.length + ys.length) (cs ++ cs2))) j2 (.nst t2 e ys.length (List.replicate cs2.length .junk)))
  | _, _ => False
 | _, _ => False
def bslnK (id t e k0 : Nat) (ds : Option (List D)) (cs : Option (List AV)) (env : List AV) (s : Sto) (K : AV -> List AV -> Sto -> Prop) : Prop :=
 match ds, cs with
 | some ds, some cs => (∀ d ∈ ds, (dcells d).length = e) /\ noDp cs = true /\ k0 <= id /\ (if (sat s id).isDead then K (.own e id ds) env (sset s id (.nst t e ds.length cs))
  else K (.own e id ds) (AV.rens (killρ id) env) (sset (skill id s) id (.nst t e ds.length (cs.map (AV.ren (killρ id))))))
 | _, _ => False
def vop (P : Program) (k0 : Nat) (m : MOp) (env : List AV) (s : Sto) (K : AV -> List AV -> Sto -> Prop) : Prop :=
 match m with
 | .mv x => K (ev env x) env s
 | .pick c a b => match ev env c with
  | .d (.lit (.bool t)) => Br t true (K (ev env a) env s) (K (ev env b) env s)
  | _ => False
 | .alloc id t z => newK k0 id env s fun env s _ => K (.ptr id 0) env (sset s id (.obj t (z.map .d)))
 | .boxi id _ t x => match (ev env x).cells with
  | some cs => newK k0 id env s fun env' s' f => K (.ptr id 0) env' (sset s' id (.obj t (cs.map f)))
  | none => False
 | .box id t x => match (ev env x).cells with
  | some cs => newK k0 id env s fun env' s' f => K (.ptr id 0) env' (sset s' id (.obj t (cs.map f)))
  | none => False
 | .build z ps => match putParts env (z.map .d) ps with
  | some cs => K (AV.mk cs) env s
  | none => False
 | .bsl id t e xs => match AV.finAll (xs.map (ev env)) with
  | some ds => (∀ d ∈ ds, (dcells d).length = e) /\ newK k0 id env s fun env s _ => K (.own e id ds) env (sset s id (.tok t e ds.length))
  | none => False
 | .bslg id t e xs => match AV.finAll (xs.map (ev env)) with
  | some ds => (∀ d ∈ ds, (dcells d).length = e) /\ newK k0 id env s fun env s _ => K (.gow e id ds.length) env (sset s id (.gro t e ds.length (ds.flatMap dcells)))
  | none => False
 | .bslo id t e xs => match AV.flat e (xs.map (ev env)) with
  | some cs => newK k0 id env s fun env s f => K (.msl e id 0 xs.length) env (sset s id (.obj t (cs.map f)))
  | none => False
 | .bsln id t e xs => bslnK id t e k0 (AV.finAll (xs.map (ev env))) (AV.flat e (xs.map (ev env))) env s K
 | .load n ag p => loadK n ag (ev env p) s fun x => K x env s
 | .store n p x => storeK n (ev env p) (ev env x) s fun s => K .junk env s
 | .nilc x => match ev env x with
  | .ptr id off => K (.ptr id off) env s
  | .pv cs => K (.pv cs) env s
  | .fn f a b => K (.fn f a b) env s
  | .gptr id m off => K (.gptr id m off) env s
  | _ => False
 | .bin op x y => binK op (ev env x) (ev env y) fun r => K r env s
 | .binb neg x y => match ev env x, ev env y with
  | .d (.lit (.bool a)), .d (.lit (.bool b)) => K (.d (bD (if neg then a != b else a == b))) env s
  | _, _ => False
 | .eqnil neg x => match nlK (ev env x) with
  | some b => K (.d (bD (if neg then !b else b))) env s
  | none => match slK (ev env x) with
   | some (_, xs) => (xs = [] -> K (.d (bD (if neg then !true else true))) env s) /\ K (.d (bD (if neg then !false else false))) env s
   | none => False
 | .un op x => match op, ev env x with
  | .not, .d (.lit (.bool b)) => K (.d (bD (!b))) env s
  | .neg, .d (.lit (.int k n)) => K (.d (.lit (.int k (k.wrap (0 - n))))) env s
  | _, _ => False
 | .conv k x => match ev env x with
  | .d (.lit (.int _ n)) => K (.d (.lit (.int k (k.wrap n)))) env s
  | _ => False
 | .mkfn f first cap => K (.fn f (first.map (ev env)) (cap.map (ev env))) env s
 | .mksld _ _ e bytes z tok len cap => match aInt (ev env len), aInt (ev env cap), z with
  | some l, some c, [zd] => e = 1 /\ tok = false /\ 0 <= l /\ l <= c /\ bytes * c <= 2 ^ 48 /\ c < 2 ^ 62 /\ K (.d (.sl 1 none (List.replicate l.toNat zd))) env s
  | _, _, _ => False
 | .mkslp id _ e bytes z tok len cap => match aInt (ev env len), aInt (ev env cap) with
  | some l, some c => tok = false /\ 0 < e /\ 0 <= l /\ l <= c /\ bytes * c <= 2 ^ 48 /\ c < 2 ^ 62 /\ k0 <= id /\ (sat s id).isDead = true /\ K (.gow e id l.toNat) env (sset s id (.prv e l.toNat ((List.replicate l.toNat (z.map .d)).flatten)))
  | _, _ => False
 | .mksl id t e bytes z tok len cap => match aInt (ev env len), aInt (ev env cap) with
  | some l, some c => 0 <= l /\ l <= c /\ bytes * c <= 2 ^ 48 /\ c < 2 ^ 62 /\ newK k0 id env s fun env s _ =>
   if tok then K (.own e id []) env (sset s id (.tok t e 0))
   else K (.msl e id 0 l.toNat) env (sset s id (.obj t ((List.replicate l.toNat (z.map .d)).flatten)))
  | _, _ => False
 | .slc x e lo hi mx => match slK (ev env x) with
  | some (e', xs) => match mx with
   | none => (xs = [] ∨ e' = e) /\ slcK (ev env x) (bnd env 0 lo) (bnd env xs.length hi) fun r => K r env s
   | some m => lo = none /\ ∃ hh h, hi = some hh /\ aInt (ev env hh) = some h /\ aInt (ev env m) = some h /\ (xs = [] ∨ e' = e) /\ 0 <= h /\ h <= xs.length /\ K (.ful e' (xs.take h.toNat)) env s
  | none => False
 | .slcA p e n lo hi mx => match ev env p, lo, hi, mx with
  | .ptr id off, none, none, none => K (.msl e id off n) env s
  | .ptr id off, none, some h, none => match aInt (ev env h) with
   | some h => 0 <= h /\ h <= n /\ K (.msl e id off h.toNat) env s
   | none => False
  | _, _, _, _ => False
 | .fad off p => match ev env p with
  | .ptr id o => K (.ptr id (o + off)) env s
  | .pv cs => K (.pv (cs.drop off)) env s
  | .gptr id k o => K (.gptr id k (o + off)) env s
  | _ => False
 | .fld off n ag x => match (ev env x).acells with
  | some cs => off + (if ag then n else 1) <= cs.length /\ K (if ag then AV.mk ((cs.drop off).take n) else cs.getD off .junk) env s
  | none => False
 | .ixa e x i => ixaK e (ev env x) (ev env i) fun r => K r env s
 | .ixaA e n p i => match aInt (ev env i), ev env p with
  | some j, .ptr id off => 0 <= j /\ j < n /\ K (.ptr id (off + j.toNat * e)) env s
  | some j, .pv cs => 0 <= j /\ j < n /\ K (.pv (cs.drop (j.toNat * e))) env s
  | _, _ => False
 | .len x => match ev env x with
  | .msl _ _ _ n => K (.d (iD n)) env s
  | .gow _ _ n => K (.d (iD n)) env s
  | x => match slK x with
   | some (_, xs) => K (.d (iD xs.length)) env s
   | none => False
 | .lens x => match ev env x with
  | .d (.lit (.string b)) => K (.d (iD b.size)) env s
  | _ => False
 | .ixs x i => match ev env x, ev env i with
  | .d (.lit (.string b)), .d (.lit (.int _ n)) => 0 <= n /\ n < b.size /\ K (.d (.lit (.int .u8 (sget b n.toNat)))) env s
  | _, _ => False
 | .sls x lo hi => match ev env x with
  | .d (.lit (.string b)) => match bnd env 0 lo, bnd env b.size hi with
   | some l, some h => 0 <= l /\ l <= h /\ h <= b.size /\ K (.d (.lit (.string (b.extract l.toNat h.toNat)))) env s
   | _, _ => False
  | _ => False
 | .app id t e bytes x y => appK id t e bytes k0 (ev env x) (ev env y) env s K
 | .appg id t e bytes x y => appgK id t e bytes k0 (ev env x) (ev env y) env s K
 | .appn _ t e bytes x y => appnK t e bytes (ev env x) (ev env y) env s K
 | .callf f args => callS P k0 f (args.map (ev env)) env s K
 | .callv g args => match ev env g with
  | .fn f first cap => enters P f = true /\ callS P k0 f (first ++ args.map (ev env) ++ cap) env s K
  | _ => False
 | .ext x i => match ev env x with
  | .tup cs => i < cs.length /\ K (cs.getD i .junk) env s
  | _ => False
 | .max x y => match ev env x, ev env y with
  | .d (.lit (.int k a)), .d (.lit (.int k' b)) => k = k' /\ K (.d (.lit (.int k (if b > a then b else a)))) env s
  | _, _ => False
 | .min x y => match ev env x, ev env y with
  | .d (.lit (.int k a)), .d (.lit (.int k' b)) => k = k' /\ K (.d (.lit (.int k (if b < a then b else a)))) env s
  | _, _ => False
 | .mkmap id k => newK k0 id env s fun env s _ => K (.mp id) env (sset s id (.mp P k []))
 | .look k kd z ok m x => match ev env m, ev env x with
  | .mp id, .d (.lit kv) => match sat s id with
   | .mp P' k' es => P' = P /\ k' = k /\ keyOkL kd kv /\ K (lookAV ok z (mget es (litOf kv))) env s
   | _ => False
  | _, _ => False
 | .mput k kd m x v => match ev env m, ev env x, (ev env v).fin with
  | .mp id, .d (.lit kv), some d => match sat s id with
   | .mp P' k' es => P' = P /\ k' = k /\ keyOkL kd kv /\ es.length < 2 ^ 40 /\ isAggD d = false /\ K .junk env (sset s id (.mp P k ((litOf kv, d) :: es)))
   | _ => False
  | _, _, _ => False
 | .mdel k kd m x => match ev env m, ev env x with
  | .mp id, .d (.lit kv) => match sat s id with
   | .mp P' k' es => P' = P /\ k' = k /\ keyOkL kd kv /\ K (.tup []) env (sset s id (.mp P k (mdel (litOf kv) es)))
   | _ => False
  | _, _ => False
 | .dead => False
theorem row_get {O : Own} {w : World} {b e : Nat} : ∀ {xs : List D} {o i : Nat} {x : D}, D.row O w b o e xs -> xs[i]? = some x ->
 ∃ vs, vs.length = e /\ Cells O w b (o + i * e) vs /\ D.cel O w x vs
 | [], _, _, _ => fun _ h => by simp at h
 | y :: ys, o, 0, x => fun h hx => by
  rw [D.row_cons] at h
  simp at hx
  subst hx
  obtain ⟨vs, h1, h2, h3⟩ := h.1
  exact ⟨vs, h1, by simpa using h2, h3⟩
 | y :: ys, o, i + 1, x => fun h hx => by
  rw [D.row_cons] at h
  obtain ⟨vs, h1, h2, h3⟩ := row_get h.2 (by simpa using hx)
  refine ⟨vs, h1, ?_, h3⟩
  have : o + e + i * e = o + (i + 1) * e := by rw [Nat.add_mul]; omega
  rwa [this] at h2
theorem cel_oks {O : Own} {w : World} {b o : Nat} {x : D} {vs : List Value} (h : D.cel O w x vs) (hc : Cells O w b o vs) : D.oks O w (dcells x) vs := by
 cases x with
 | agg cs => exact h
 | any => obtain ⟨v, rfl, h⟩ := h; simp only [dcells, D.oks]; exact ⟨v, [], rfl, (hc 0 v rfl).2.2, h, rfl⟩
 | lit u => obtain ⟨v, rfl, h⟩ := h; simp only [dcells, D.oks]; exact ⟨v, [], rfl, (hc 0 v rfl).2.2, h, rfl⟩
 | sl e nl ys => obtain ⟨v, rfl, h⟩ := h; simp only [dcells, D.oks]; exact ⟨v, [], rfl, (hc 0 v rfl).2.2, h, rfl⟩
theorem oks_cel {O : Own} {w : World} {x : D} {vs : List Value} (h : D.oks O w (dcells x) vs) : D.cel O w x vs := by
 cases x with
 | agg cs => exact h
 | any => simp only [dcells, D.oks] at h; obtain ⟨v, r, rfl, _, h, rfl⟩ := h; exact ⟨v, rfl, h⟩
 | lit u => simp only [dcells, D.oks] at h; obtain ⟨v, r, rfl, _, h, rfl⟩ := h; exact ⟨v, rfl, h⟩
 | sl e nl ys => simp only [dcells, D.oks] at h; obtain ⟨v, r, rfl, _, h, rfl⟩ := h; exact ⟨v, rfl, h⟩
theorem slK_ok {β : Beta} {O : Own} {w : World} {x : AV} {v : Value} {e : Nat} {xs : List D} (h : AV.ok β O w x v) (hs : slK x = some (e, xs)) :
 ∃ a cap, v = .slice a xs.length cap /\ LenOk xs.length cap /\ (∀ b, nlK x = some b -> NlOk (some b) a cap) /\ (xs = [] ∨ ∃ b o, a = some ⟨b, o, none⟩ /\ D.row O w b o e xs) := by
 cases x with
 | d x =>
  cases x with
  | sl e' nl ys =>
   simp only [slK, Option.some.injEq, Prod.mk.injEq] at hs
   obtain ⟨rfl, rfl⟩ := hs
   simp only [AV.ok, D.ok] at h
   obtain ⟨a, cap, h1, h2, h3, h4⟩ := h
   refine ⟨a, cap, h1, h2, fun b hb => ?_, h4⟩
   cases nl with
   | some b' => simp only [nlK, Option.some.injEq] at hb; subst hb; exact h3
   | none => simp [nlK] at hb
  | any => simp [slK] at hs
  | lit u => simp [slK] at hs
  | agg cs => simp [slK] at hs
 | own e' id ys =>
  simp only [slK, Option.some.injEq, Prod.mk.injEq] at hs
  obtain ⟨rfl, rfl⟩ := hs
  simp only [AV.ok, D.ok] at h
  obtain ⟨⟨a, cap, h1, h2, _, h4⟩, _⟩ := h
  refine ⟨a, cap, h1, h2, fun b hb => ?_, h4⟩
  simp [nlK] at hb
 | junk => simp [slK] at hs
 | ptr id off => simp [slK] at hs
 | msl e id off len => simp [slK] at hs
 | pv cs => simp [slK] at hs
 | agg cs => simp [slK] at hs
 | tup cs => simp [slK] at hs
 | fn f a b => simp [slK] at hs
 | gow e id n => simp [slK] at hs
 | gptr id k off => simp [slK] at hs
 | ful e xs => simp [slK] at hs
 | dp d => simp [slK] at hs
 | mp id => simp [slK] at hs
theorem nlK_ok {β : Beta} {O : Own} {w : World} {x : AV} {v : Value} {t : Bool} (h : AV.ok β O w x v) (hn : nlK x = some t) :
 ∃ a n cap, v = .slice a n cap /\ a.isNone = t := by
 cases hs : slK x with
 | some p =>
  obtain ⟨e, xs⟩ := p
  obtain ⟨a, cap, h1, _, h3, _⟩ := slK_ok h hs
  refine ⟨a, _, cap, h1, ?_⟩
  have := h3 t hn
  cases t with
  | true => rw [this.1]; rfl
  | false => cases a with
   | none => exact absurd rfl this
   | some a => rfl
 | none =>
  cases x with
  | msl e id off len =>
   simp only [nlK, Option.some.injEq] at hn
   subst hn
   simp only [AV.ok] at h
   obtain ⟨b, cap, _, _, rfl⟩ := h
   exact ⟨_, _, _, rfl, rfl⟩
  | d x => cases x <;> simp_all [slK, nlK]
  | own e id xs => simp [slK] at hs
  | junk => simp [nlK] at hn
  | ptr id off => simp [nlK] at hn
  | pv cs => simp [nlK] at hn
  | agg cs => simp [nlK] at hn
  | tup cs => simp [nlK] at hn
  | fn f a b => simp [nlK] at hn
  | gow e id n => simp [nlK] at hn
  | gptr id k off => simp [nlK] at hn
  | ful e xs => simp [nlK] at hn
  | dp d => simp [nlK] at hn
  | mp id => simp [nlK] at hn
theorem aInt_ok {β : Beta} {O : Own} {w : World} {x : AV} {v : Value} {n : Int} (h : AV.ok β O w x v) (hn : aInt x = some n) : ∃ k, v = .int k n := by
 cases x with
 | d x =>
  cases x with
  | lit u =>
   simp only [AV.ok, D.ok] at h
   obtain ⟨h, _⟩ := h
   subst h
   cases v <;> simp [aInt] at hn
   subst hn
   exact ⟨_, rfl⟩
  | any => simp [aInt] at hn
  | sl e nl xs => simp [aInt] at hn
  | agg cs => simp [aInt] at hn
 | own e id xs => simp [aInt] at hn
 | msl e id off len => simp [aInt] at hn
 | junk => simp [aInt] at hn
 | ptr id off => simp [aInt] at hn
 | pv cs => simp [aInt] at hn
 | agg cs => simp [aInt] at hn
 | tup cs => simp [aInt] at hn
 | fn f a b => simp [aInt] at hn
 | gow e id n => simp [aInt] at hn
 | gptr id k off => simp [aInt] at hn
 | ful e xs => simp [aInt] at hn
 | dp d => simp [aInt] at hn
 | mp id => simp [aInt] at hn
theorem lit_ok {β : Beta} {O : Own} {w : World} {u v : Value} (h : AV.ok β O w (.d (.lit u)) v) : v = u := by
 simp only [AV.ok, D.ok] at h; exact h.1
theorem ok_lit {β : Beta} {O : Own} {w : World} {u : Value} (h : one u = true) : AV.ok β O w (.d (.lit u)) u := by
 simp [AV.ok, D.ok, h]
section
variable {P : Program} {C : Ctx} {o : Oper} {env : List AV} {s : Sto} {k : List AV -> Sto -> Prop}
theorem s_mv {x : Operand} (hop : o.op = .move x ∨ o.op = .assign x) (hk : k (setD o.dst env (ev env x)) s) : OpWp P C o env s k :=
 .pure (fun β a w hst => ⟨a.eval x, by rcases hop with h | h <;> simp [execOp, h], hst.ev x⟩) hk
theorem s_pick {c x y : Operand} (hop : o.op = .pick c x y) {t : Bool} (hc : ev env c = .d (.lit (.bool t)))
 (hk : Br t true (k (setD o.dst env (ev env x)) s) (k (setD o.dst env (ev env y)) s)) : OpWp P C o env s k := by
 unfold Br at hk
 refine .value fun β a w hst => ?_
 have h1 := hst.ev c
 rw [hc] at h1
 have h1 := lit_ok h1
 cases t with
 | true => exact ⟨a.eval x, w, β, env, s, _, by simp [execOp, hop, h1, asBool], hst, hst.ev x, by simpa using hk⟩
 | false => exact ⟨a.eval y, w, β, env, s, _, by simp [execOp, hop, h1, asBool], hst, hst.ev y, by simpa using hk⟩
theorem zeroD_spec {t : Nat} {z : List D} (h : zeroD P t = some z) : ∃ i u, P.info? t = some i /\ i.zero = some u /\ u.cells.size = i.size /\
 (∀ v ∈ u.cells.toList, one v = true) /\ z = u.cells.toList.map cD := by
 unfold zeroD at h
 cases hi : P.info? t with
 | none => simp [hi] at h
 | some i =>
  cases hz : i.zero with
  | none => simp [hi, hz] at h
  | some u =>
   simp only [hi, hz, Option.bind_some] at h
   split at h
   ·rename_i hc
    simp only [Bool.and_eq_true, beq_iff_eq] at hc
    cases h
    exact ⟨i, u, rfl, hz, hc.2, fun v hv => by simpa using List.all_eq_true.1 hc.1 v hv, rfl⟩
   ·cases h
theorem d_oks {β : Beta} {O : Own} {w : World} {ds : List D} {vs : List Value} (h : D.oks O w ds vs) : AV.oks β O w (ds.map .d) vs := by
 rw [D.oks_iff] at h
 refine AV.oks_iff.2 ⟨by simp [h.1], fun i x v hx hv => ?_⟩
 rw [List.getElem?_map] at hx
 cases hz : ds[i]? with
 | none => rw [hz] at hx; cases hx
 | some z => rw [hz] at hx; cases hx; exact (h.2 i z v hz hv).2
theorem newK_sound {id : Nat} {K : List AV -> Sto -> (AV -> AV) -> Prop} (h : newK C.k id env s K) {β : Beta} {a : Act} {w : World} (hst : St C β env s a w) :
 ∃ β' env' s' f, St C β' env' s' a w /\ sat s' id = .dead /\ K env' s' f /\ (∀ x v, AV.ok β (C.forb β s) w x v -> AV.ok β' (C.forb β' s') w (f x) v) /\
  ∀ b o, C.forb β' s' b o -> C.forb β s b o := by
 unfold newK at h
 obtain ⟨h1, h2⟩ := h
 split at h2
 ·rename_i hd
  refine ⟨β, env, s, _, hst, ?_, h2, fun x v hx => hx, fun _ _ h => h⟩
  cases hs : sat s id <;> simp_all [Ob.isDead]
 ·exact ⟨_, _, _, _, hst.kill id h1, by rw [sat_skill]; simp, h2, fun x v hx => kill_ok hx, fun _ _ h => h.imp (fun x => x) own_kill⟩
theorem oks_map {β β' : Beta} {O O' : Own} {w : World} {f : AV -> AV} (hf : ∀ x v, AV.ok β O w x v -> AV.ok β' O' w (f x) v) {xs : List AV} {vs : List Value}
 (h : AV.oks β O w xs vs) : AV.oks β' O' w (xs.map f) vs := by
 rw [AV.oks_iff] at h ⊢
 refine ⟨by simpa using h.1, fun i x v hx hv => ?_⟩
 rw [List.getElem?_map] at hx
 cases hz : xs[i]? with
 | none => rw [hz] at hx; cases hx
 | some z => rw [hz] at hx; cases hx; exact hf _ _ (h.2 i z v hz hv)
theorem s_alloc {d t : Nat} {z : List D} (hop : o.op = .alloc t) (hz : zeroD P t = some z)
 (hk : newK C.k d env s fun env s _ => k (setD o.dst env (.ptr d 0)) (sset s d (.obj t (z.map .d)))) : OpWp P C o env s k := by
 refine .value fun β a w hst => ?_
 obtain ⟨i, u, hi, hu, hsz, h1, rfl⟩ := zeroD_spec hz
 obtain ⟨β1, env1, s1, f, hst1, hd, hk1, hf, _⟩ := newK_sound hk hst
 obtain ⟨β2, hst2, m, hp⟩ := hst1.newObj (id := d) hd (c := u.cells) (t := t) (cs := (u.cells.toList.map cD).map .d) h1 (d_oks (cDs_ok _ h1))
 exact ⟨_, _, β2, env1, _, .ptr d 0, by simp [execOp, hop, Instr.alloc, zeroValue, typeInfo, hi, hu, newVar, newRow], hst2, hp, hk1⟩
theorem s_box {d t : Nat} {x : Operand} (hop : o.op = .box t x) {cs : List AV} (hc : (ev env x).cells = some cs)
 (hk : newK C.k d env s fun env s f => k (setD o.dst env (.ptr d 0)) (sset s d (.obj t (cs.map f)))) : OpWp P C o env s k := by
 refine .value fun β a w hst => ?_
 obtain ⟨h0, h1⟩ := cells_ok (hst.ev x) hc
 obtain ⟨β1, env1, s1, f, hst1, hd, hk1, hf, _⟩ := newK_sound hk hst
 obtain ⟨β2, hst2, m, hp⟩ := hst1.newObj (id := d) hd (c := (a.eval x).cells) (t := t) (cs := cs.map f) h1 (oks_map hf h0)
 exact ⟨_, _, β2, env1, _, .ptr d 0, by simp [execOp, hop, Instr.box, newVar, newRow], hst2, hp, hk1⟩
theorem s_boxi {d t : Nat} {x : Operand} (hop : o.op = .box t x) {cs : List AV} (hc : (ev env x).cells = some cs)
 (hk : newK C.k d env s fun env s f => k (setD o.dst env (.ptr d 0)) (sset s d (.obj t (cs.map f)))) : OpWp P C o env s k := by
 refine .value fun β a w hst => ?_
 obtain ⟨h0, h1⟩ := cells_ok (hst.ev x) hc
 obtain ⟨β1, env1, s1, f, hst1, hd, hk1, hf, _⟩ := newK_sound hk hst
 obtain ⟨β2, hst2, m, hp⟩ := hst1.newObj (id := d) hd (c := (a.eval x).cells) (t := t) (cs := cs.map f) h1 (oks_map hf h0)
 exact ⟨_, _, β2, env1, _, .ptr d 0, by simp [execOp, hop, Instr.box, newVar, newRow], hst2, hp, hk1⟩
theorem aggOf_eq {t : Nat} {ag : Bool} (h : aggOf P t = some ag) :
 (match P.underlying t with | some (.struct _) | some (.array _ _) => some true | some _ => some false | none => none) = some ag := h
theorem NXs_at {β : Beta} {O : Own} {w : World} : ∀ {cs : List AV} {us : List Value} {bs : List Nat} {j : Nat}, NXs β O w cs us bs -> j < cs.length -> ∃ x v, cs[j]? = some x /\ us[j]? = some v /\ ∃ b, NX β O w x v b
 | [], _, _, _, _, h => by simp at h
 | x :: xs, us, bs, j, h, hj => by
  simp only [NXs] at h
  obtain ⟨v, r, c1, c2, rfl, rfl, h3, h4⟩ := h
  cases j with
  | zero => exact ⟨x, v, rfl, rfl, c1, h3⟩
  | succ j =>
   obtain ⟨y, u, h5, h6, h7⟩ := NXs_at h4 (by simpa using hj)
   exact ⟨y, u, by simpa using h5, by simpa using h6, h7⟩
theorem NX_ok {β : Beta} {O : Own} {w : World} {x : AV} {v : Value} {b : List Nat} (hx : isDp x = false) (h : NX β O w x v b) : AV.ok β O w x v := by
 cases x with
 | dp d => cases hx
 | _ => exact h.1
theorem load_core {t n : Nat} {ag : Bool} (hn : sizeP P t = some n) (hg' : aggOf P t = some ag) {β : Beta} {a : Act} {w : World} (hst : St C β env s a w)
 {px : AV} {pval : Value} (hp : AV.ok β (C.forb β s) w px pval) {K : AV -> Prop} (hk : loadK (if ag then n else 1) ag px s K) :
 ∃ v x, (Instr.loadAt t pval).run P w = .ok v w /\ AV.ok β (C.forb β s) w x v /\ K x := by
 obtain ⟨i, hi, hin⟩ : ∃ i, P.info? t = some i /\ i.size = n := by
  unfold sizeP at hn
  cases hq : P.info? t with
  | none => simp [hq] at hn
  | some i => exact ⟨i, rfl, by simpa [hq] using hn⟩
 generalize hN : (if ag then n else 1) = N at hk
 cases px with
 | ptr id off =>
  simp only [AV.ok] at hp
  obtain ⟨b, hb, hv⟩ := hp
  simp only [loadK] at hk
  have ho := hst.inv.obs id
  cases hs : sat s id with
  | dead => simp [hs] at hk
  | tok t' e' n' => simp [hs] at hk
  | nst t' e' n' cs => simp [hs] at hk
  | prv e' n' cs => simp [hs] at hk
  | mp P k es => simp [hs] at hk
  | gro t' e' n' cs => simp [hs] at hk
  | obj t' cs =>
   rw [hs] at ho
   simp only [hs] at hk
   obtain ⟨hlen, hk⟩ := hk
   obtain ⟨b', vs, hb', hh, h1, h2⟩ := ho
   rw [hb] at hb'
   cases hb'
   obtain ⟨pre, rest, hvs, h2⟩ := h2
   have hl := AV.oks_length h2
   have hseg := oks_take N (oks_drop off h2)
   have hpre : (vs.toList.drop off).take N = (pre.drop off).take N := by
    rw [hvs, List.drop_append_of_le_length (by omega), List.take_append_of_le_length (by simp; omega)]
   rw [<- hpre] at hseg
   have hcell : ∀ j v, ((vs.toList.drop off).take N)[j]? = some v -> w.cell? ⟨b, off + j, none⟩ = some v := by
    intro j v hj
    rw [List.getElem?_take] at hj
    split at hj
    ·rw [List.getElem?_drop] at hj
     simp only [World.cell?, hh, Option.isSome_none, Bool.false_eq_true, if_false]
     simpa using hj
    ·cases hj
   have hlen2 : ((vs.toList.drop off).take N).length = N := by rw [hpre]; simp; omega
   have hrun := run_loadVar (P := P) hi (aggOf_eq hg') w b off _ hcell (by rw [hlen2, <- hN, hin])
   refine ⟨if ag then .agg ((vs.toList.drop off).take N).toArray else ((vs.toList.drop off).take N).headD undef, _, ?_, ?_, hk⟩
   ·simp only [Instr.loadAt, hv, Instr.sureAddr, Sem.run_bind, Sem.run_pure, Result.andThen_ok, hrun]
   ·cases ag with
    | true =>
     simp only [if_true]
     have : ∀ u ∈ ((vs.toList.drop off).take N).toArray.toList, one u = true := by
      intro u hu
      exact h1 u (List.mem_of_mem_drop (List.mem_of_mem_take (by simpa using hu)))
     exact mk_ok (vs := ((vs.toList.drop off).take N).toArray) (by simpa using hseg) this
    | false =>
     simp only [Bool.false_eq_true, if_false] at hN ⊢
     subst hN
     have hltp : off < pre.length := by omega
     have hlt : off < vs.toList.length := by rw [hvs, List.length_append]; omega
     have hlt2 : off < cs.length := by omega
     have e1 : ((vs.toList.drop off).take 1).headD undef = vs.toList[off] := by
      rw [List.drop_eq_getElem_cons hlt]; rfl
     rw [e1, List.getD_eq_getElem?_getD, List.getElem?_eq_getElem hlt2]
     refine (AV.oks_iff.1 h2).2 off _ _ (List.getElem?_eq_getElem hlt2) ?_
     rw [<- List.getElem?_eq_getElem hlt, hvs, List.getElem?_append_left hltp]
 | pv cs =>
  simp only [AV.ok] at hp
  obtain ⟨b, off, vs, hv, hc, h2⟩ := hp
  simp only [loadK] at hk
  obtain ⟨hlen, hk⟩ := hk
  have hl := D.oks_length h2
  have hseg := doks_take N h2
  have hcell : ∀ j v, (vs.take N)[j]? = some v -> w.cell? ⟨b, off + j, none⟩ = some v := by
   intro j v hj
   rw [List.getElem?_take] at hj
   split at hj
   ·exact (hc j v hj).1
   ·cases hj
  have hlen2 : (vs.take N).length = N := by simp; omega
  have hrun := run_loadVar (P := P) hi (aggOf_eq hg') w b off _ hcell (by rw [hlen2, <- hN, hin])
  refine ⟨if ag then .agg (vs.take N).toArray else (vs.take N).headD undef, _, ?_, ?_, hk⟩
  ·simp only [Instr.loadAt, hv, Instr.sureAddr, Sem.run_bind, Sem.run_pure, Result.andThen_ok, hrun]
  ·cases ag with
   | true =>
    simp only [if_true, AV.ok, D.ok]
    exact ⟨(vs.take N).toArray, rfl, by simpa using hseg⟩
   | false =>
    simp only [Bool.false_eq_true, if_false] at hN ⊢
    subst hN
    cases cs with
    | nil => simp at hlen
    | cons c cs =>
     simp only [D.oks] at h2
     obtain ⟨v, r, rfl, _, h3, _⟩ := h2
     simpa [AV.ok] using h3
 | junk => simp [loadK] at hk
 | d x => simp [loadK] at hk
 | own e id xs => simp [loadK] at hk
 | msl e id off len => simp [loadK] at hk
 | agg cs => simp [loadK] at hk
 | tup cs => simp [loadK] at hk
 | fn f a b => simp [loadK] at hk
 | gow e id n => simp [loadK] at hk
 | ful e xs => simp [loadK] at hk
 | dp d => simp [loadK] at hk
 | mp id => simp [loadK] at hk
 | gptr id kk off =>
  simp only [AV.ok] at hp
  obtain ⟨u, m, b, off', hb, _, hv, hpt⟩ := hp
  simp only [loadK] at hk
  have ho := hst.inv.obs id
  cases hs : sat s id with
  | dead => simp [hs] at hk
  | tok t' e' n' => simp [hs] at hk
  | nst t' e' n' cs => simp [hs] at hk
  | mp P k es => simp [hs] at hk
  | obj t' cs => simp [hs] at hk
  | prv e' n' cs =>
   rw [hs] at ho
   simp only [hs] at hk
   obtain ⟨hkm, hlen, rfl, hn1, hdp, hk⟩ := hk
   subst hn1
   obtain ⟨u', bs, hb', _, hcl, hg⟩ := ho
   rw [hb'] at hb
   obtain ⟨rfl, rfl⟩ := hb
   obtain ⟨cap, hu, had⟩ := hpt hkm
   subst had
   rcases hg with ⟨_, hg, _⟩ | ⟨b', cap', vs, t', hg, hh, _, _, _, h1, _, _, h2⟩
   ·subst hg
    simp only [Nat.zero_mul] at hcl
    omega
   ·rw [hu] at hg
    simp only [Value.slice.injEq, Option.some.injEq, Addr.mk.injEq] at hg
    obtain ⟨⟨rfl, _⟩, _⟩ := hg
    obtain ⟨x0, v0, hx0, hv0, bx, hnx⟩ := NXs_at h2 (by omega : off' < cs.length)
    have hdp' : isDp x0 = false := by rw [List.getD_eq_getElem?_getD, hx0] at hdp; exact hdp
    have hxv := NX_ok hdp' hnx
    have hc0 : w.cell? ⟨b, off', none⟩ = some v0 := by
     simp only [World.cell?, hh, Option.isSome_none, Bool.false_eq_true, if_false]
     simpa using hv0
    have hrun := run_loadVar (P := P) hi (aggOf_eq hg') w b off' [v0] (fun j v hj => by
     cases j with
     | zero => simp at hj; subst hj; exact hc0
     | succ j => simp at hj) (by simpa using hN.symm)
    refine ⟨v0, _, ?_, ?_, hk⟩
    ·simp only [Instr.loadAt, hv, Instr.sureAddr, Sem.run_bind, Sem.run_pure, Result.andThen_ok, hrun]
     rfl
    ·rw [List.getD_eq_getElem?_getD, hx0]
     exact hxv
  | gro t' e' n' cs =>
   rw [hs] at ho
   simp only [hs] at hk
   obtain ⟨hkm, hlen, hk⟩ := hk
   obtain ⟨u', hb', hcl, hg⟩ := ho
   rw [hb'] at hb
   obtain ⟨rfl, rfl⟩ := hb
   obtain ⟨cap, hu, had⟩ := hpt hkm
   subst had
   rcases hg with ⟨hg, _⟩ | ⟨b', cap', vs, hg, hh, _, _, _, h1, pre, rest, hvs, h2⟩
   ·rw [hg] at hu; cases hu
   ·rw [hu] at hg
    cases hg
    have hl := D.oks_length h2
    have hseg := doks_take N (doks_drop off' h2)
    have hpre : (vs.toList.drop off').take N = (pre.drop off').take N := by
     rw [hvs, List.drop_append_of_le_length (by omega), List.take_append_of_le_length (by simp; omega)]
    rw [<- hpre] at hseg
    have hcell : ∀ j v, ((vs.toList.drop off').take N)[j]? = some v -> w.cell? ⟨b, off' + j, none⟩ = some v := by
     intro j v hj
     rw [List.getElem?_take] at hj
     split at hj
     ·rw [List.getElem?_drop] at hj
      simp only [World.cell?, hh, Option.isSome_none, Bool.false_eq_true, if_false]
      simpa using hj
     ·cases hj
    have hlen2 : ((vs.toList.drop off').take N).length = N := by rw [hpre]; simp; omega
    have hrun := run_loadVar (P := P) hi (aggOf_eq hg') w b off' _ hcell (by rw [hlen2, <- hN, hin])
    refine ⟨if ag then .agg ((vs.toList.drop off').take N).toArray else ((vs.toList.drop off').take N).headD undef, _, ?_, ?_, hk⟩
    ·simp only [Instr.loadAt, hv, Instr.sureAddr, Sem.run_bind, Sem.run_pure, Result.andThen_ok, hrun]
    ·cases ag with
     | true =>
      simp only [if_true, AV.ok, D.ok]
      exact ⟨((vs.toList.drop off').take N).toArray, rfl, by simpa using hseg⟩
     | false =>
      simp only [Bool.false_eq_true, if_false] at hN ⊢
      subst hN
      have hltp : off' < pre.length := by omega
      have hlt : off' < vs.toList.length := by rw [hvs, List.length_append]; omega
      have hlt2 : off' < cs.length := by omega
      have e1 : ((vs.toList.drop off').take 1).headD undef = vs.toList[off'] := by
       rw [List.drop_eq_getElem_cons hlt]; rfl
      simp only [AV.ok]
      rw [e1, List.getD_eq_getElem?_getD, List.getElem?_eq_getElem hlt2]
      refine ((D.oks_iff.1 h2).2 off' _ _ (List.getElem?_eq_getElem hlt2) ?_).2
      rw [<- List.getElem?_eq_getElem hlt, hvs, List.getElem?_append_left hltp]
theorem s_load {t n : Nat} {ag : Bool} {p : Operand} (hop : o.op = .load t p) (hn : sizeP P t = some n) (hg : aggOf P t = some ag)
 (hk : loadK (if ag then n else 1) ag (ev env p) s fun x => k (setD o.dst env x) s) : OpWp P C o env s k := by
 refine .value fun β a w hst => ?_
 obtain ⟨v, x, h1, h2, h3⟩ := load_core (P := P) hn hg hst (hst.ev p) hk
 exact ⟨v, w, β, env, s, x, by simp only [execOp, hop, Sem.run_bind, h1, Result.andThen_ok, Sem.run_pure], hst, h2, h3⟩
end
theorem bset_same (β : Beta) (id : Nat) : bset β id (β id) = β := by
 funext i; unfold bset; split
 ·rename_i h; rw [h]
 ·rfl
theorem St.turn {C : Ctx} {β : Beta} {env : List AV} {s : Sto} {a : Act} {w w' : World} (h : St C β env s a w) {id b : Nat} {ob : Ob} {p : Place}
 (hbl : blockOf β s id b) (hsize : w'.heap.size = w.heap.size) (hio : wio w' = wio w) (hoth : ∀ b', b' ≠ b -> w'.heap[b']? = w.heap[b']?)
 (hkeep : ∀ o v, w.cell? ⟨b, o, none⟩ = some v -> ¬ own β s b o -> w'.cell? ⟨b, o, none⟩ = some v)
 (hown : ∀ b' o, own (bset β id p) [(id, ob)] b' o -> own β s b' o)
 (hblk : ∀ b', blockOf (bset β id p) [(id, ob)] id b' -> b' = b)
 (hpl : PlaceLe (β id) p)
 (hob : ∀ β' F, (∀ x v, AV.ok β (C.forb β s) w x v -> AV.ok β' F w' x v) -> (∀ xs vs, AV.oks β (C.forb β s) w xs vs -> AV.oks β' F w' xs vs) ->
  β' id = p -> ObOk β' F w' id ob) :
 St C (bset β id p) env (sset s id ob) a w' /\ Moves β s w (bset β id p) (sset s id ob) w' := by
 have m : Moves β s w (bset β id p) (sset s id ob) w' := by
  refine ⟨by omega, hio, fun b' o v hc hn => ?_, fun b' _ hn => ?_, fun b' o ho => ?_, fun i b' hb => ?_, fun i => ?_⟩
  ·by_cases hbb : b' = b
   ·subst hbb; exact hkeep o v hc hn
   ·rw [<- hc]; exact World.cell?_of_block (hoth b' hbb)
  ·exact hoth b' fun e => hn id (e ▸ hbl)
  ·rcases own_new ho with ho | ho
   ·exact .inl ho
   ·exact .inl (hown b' o ho)
  ·rcases blockOf_new hb with ⟨_, hb⟩ | ⟨_, hb⟩
   ·exact .inl ⟨i, hb⟩
   ·exact .inl ⟨id, (hblk b' hb) ▸ hbl⟩
  ·by_cases hi : i = id
   ·subst hi; simpa [bset] using hpl
   ·simp only [bset, hi, if_false]; exact .refl _
 refine ⟨h.move m (fun i => ?_) (fun i j b' hi hj => ?_), m⟩
 ·rw [sat_sset]
  by_cases hi : i = id
  ·subst hi
   simp only [if_true]
   exact hob _ _ (fun x v hx => m.ok hx) (fun xs vs hx => m.oks hx) (by simp [bset])
  ·simp only [hi, if_false]
   refine (h.inv.obs i).moves m (by simp [bset, hi]) (fun b' hb => hoth b' fun e => hi ?_) rfl
   subst e
   exact h.inv.inj i id b' hb hbl
 ·rcases blockOf_new hi with ⟨hi1, hi2⟩ | ⟨rfl, hi2⟩ <;> rcases blockOf_new hj with ⟨hj1, hj2⟩ | ⟨rfl, hj2⟩
  ·exact h.inv.inj i j b' hi2 hj2
  ·exact absurd (h.inv.inj i _ b' hi2 ((hblk b' hj2) ▸ hbl)) hi1
  ·exact absurd (h.inv.inj j _ b' hj2 ((hblk b' hi2) ▸ hbl)) hj1
  ·rfl
theorem St.storeObj {C : Ctx} {β : Beta} {env : List AV} {s : Sto} {a : Act} {w : World} (h : St C β env s a w) {id b t : Nat} {cs cs' : List AV} {vs vs' : Array Value}
 (hs : sat s id = .obj t cs) (hb : β id = .blk b) (hh : w.heap[b]? = some (.cells vs t (0, 0))) (h1 : ∀ v ∈ vs'.toList, one v = true)
 (h2 : POks β (C.forb β s) w cs' vs'.toList) : St C β env (sset s id (.obj t cs')) a (w.setRow b vs') := by
 have hbl : blockOf β s id b := by unfold blockOf; rw [hs]; exact hb
 have := (h.turn (id := id) (b := b) (ob := .obj t cs') (p := .blk b) (w' := w.setRow b vs') hbl (by simp) (by simp [wio])
  (fun b' hb' => setRow_other w b b' vs' (fun e => hb' e))
  (fun o v _ hn => absurd ⟨id, by rw [hs]; exact hb⟩ hn)
  (fun b' o ho => by
   obtain ⟨i, ho⟩ := ho
   by_cases hi : i = id
   ·subst hi
    simp [sat, bset] at ho
    subst ho
    exact ⟨i, by rw [hs]; exact hb⟩
   ·simp [sat, hi] at ho)
  (fun b' hb' => by simp [blockOf, sat, bset] at hb'; exact hb'.symm)
  (by rw [hb]; rfl)
  (fun β' F _ hxs hp => ⟨b, vs', hp, setRow_heap w b vs vs' t (0, 0) hh, h1, h2.imp fun _ h => hxs _ _ h⟩)).1
 rw [<- hb, bset_same] at this
 exact this
section
variable {P : Program} {C : Ctx} {o : Oper} {env : List AV} {s : Sto} {k : List AV -> Sto -> Prop}
theorem OpWp.skip {P : Program} {C : Ctx} {o : Oper} {env : List AV} {s : Sto} {k : List AV -> Sto -> Prop}
 (h : ∀ β a w, St C β env s a w -> ∃ w' β' env' s', (execOp a.eval o).run P w = .ok .skip w' /\ St C β' env' s' a w' /\
  k (setD o.dst env' .junk) s') : OpWp P C o env s k := by
 intro hnd Q β a w hst
 obtain ⟨w', β', env', s', hr, h1, h3⟩ := h β a w hst
 refine ⟨fun _ _ => trivial, ?_⟩
 rw [Oper.semAt_eq _ _ _ hnd, hr]
 exact ⟨β', _, s', h1.put (x := .junk) (v := undef) (by simp [AV.ok]) o.dst, h3⟩
theorem one_oneCell {v : Value} (h : one v = true) : v.oneCell' = true := by cases v <;> simp_all [one, Value.oneCell']
theorem s_nilc {x : Operand} (hop : o.op = .nilCheck x) {y : AV} (hx : ev env x = y) (hy : (∃ id off, y = .ptr id off) ∨ (∃ cs, y = .pv cs) ∨ (∃ f a b, y = .fn f a b) ∨ ∃ id m off, y = .gptr id m off)
 (hk : k (setD o.dst env y) s) : OpWp P C o env s k := by
 refine .value fun β a w hst => ?_
 have h := hst.ev x
 rw [hx] at h
 refine ⟨a.eval x, w, β, env, s, y, ?_, hst, h, hk⟩
 rcases hy with ⟨id, off, rfl⟩ | ⟨cs, rfl⟩ | ⟨f, c, d, rfl⟩ | ⟨id, m, off, rfl⟩
 ·simp only [AV.ok] at h
  obtain ⟨b, _, h⟩ := h
  simp [execOp, hop, h]
 ·simp only [AV.ok] at h
  obtain ⟨b, off, vs, h, _⟩ := h
  simp [execOp, hop, h]
 ·simp only [AV.ok] at h
  obtain ⟨fs, cs, h, _⟩ := h
  simp [execOp, hop, h]
 ·simp only [AV.ok] at h
  obtain ⟨u, m', b, off', _, _, h, _⟩ := h
  simp [execOp, hop, h]
theorem s_bin {op : BinOp} {t t' : Nat} {x y : Operand} (hop : o.op = .binOp op t x y t')
 (hk : binK op (ev env x) (ev env y) fun r => k (setD o.dst env r) s) : OpWp P C o env s k := by
 refine .value fun β a w hst => ?_
 unfold binK at hk
 split at hk
 ·rename_i j n j' m hx hy
  have h1 := hst.ev x
  have h2 := hst.ev y
  rw [hx] at h1
  rw [hy] at h2
  have h1 := lit_ok h1
  have h2 := lit_ok h2
  obtain ⟨hkk, hk⟩ := hk
  have hguard : (eqGuard op t x y (.int j n) (.int j' m)).run P w = .ok () w := by
   unfold eqGuard
   split <;> simp
  have main : ∀ r : Value, one r = true -> (binOp op t (.int j n) (.int j' m)).run P w = .ok r w -> k (setD o.dst env (.d (.lit r))) s ->
   ∃ v w' β' env' s' x, (execOp a.eval o).run P w = .ok (.value v) w' /\ St C β' env' s' a w' /\ AV.ok β' (C.forb β' s') w' x v /\ k (setD o.dst env' x) s' := by
   intro r hr hrun hk
   exact ⟨r, w, β, env, s, _, by simp [execOp, hop, h1, h2, hguard, hrun], hst, ok_lit hr, hk⟩
  cases op with
  | add => cases hkk; exact main _ rfl (by simp [binOp]; rfl) hk
  | sub => cases hkk; exact main _ rfl (by simp [binOp]; rfl) hk
  | mul => cases hkk; exact main _ rfl (by simp [binOp]; rfl) hk
  | quo => cases hkk; exact main _ rfl (by simp [binOp, Op.intDiv, hk.1]) hk.2
  | rem => cases hkk; exact main _ rfl (by simp [binOp, Op.intDiv, hk.1]) hk.2
  | and => cases hkk; exact main _ rfl (by simp [binOp, Op.intBits, andI]) hk
  | or => cases hkk; exact main _ rfl (by simp [binOp, Op.intBits, orI]) hk
  | xor => cases hkk; exact main _ rfl (by simp [binOp, Op.intBits, xorI]) hk
  | shl => exact main _ rfl (by simp [binOp, Op.shift, shlI, Int.not_lt.2 hk.1]) hk.2
  | shr => exact main _ rfl (by simp [binOp, Op.shift, shrI, Int.not_lt.2 hk.1]) hk.2
  | andNot => cases hkk; exact main _ rfl (by simp [binOp, Op.intBits, andnI]) hk
  | eql => cases hkk; exact main _ rfl (by simp [binOp]; rfl) hk
  | neq => cases hkk; exact main _ rfl (by simp [binOp]; rfl) hk
  | lss => cases hkk; exact main _ rfl (by simp [binOp]; rfl) hk
  | leq => cases hkk; exact main _ rfl (by simp [binOp]; rfl) hk
  | gtr => cases hkk; exact main _ rfl (by simp [binOp]; rfl) hk
  | geq => cases hkk; exact main _ rfl (by simp [binOp]; rfl) hk
 ·rename_i b c hx hy
  have h1 := hst.ev x
  have h2 := hst.ev y
  rw [hx] at h1
  rw [hy] at h2
  have h1 := lit_ok h1
  have h2 := lit_ok h2
  have hguard : (eqGuard op t x y (.string b) (.string c)).run P w = .ok () w := by
   unfold eqGuard
   split <;> simp
  have main : ∀ r : Value, one r = true -> (binOp op t (.string b) (.string c)).run P w = .ok r w -> k (setD o.dst env (.d (.lit r))) s ->
   ∃ v w' β' env' s' x, (execOp a.eval o).run P w = .ok (.value v) w' /\ St C β' env' s' a w' /\ AV.ok β' (C.forb β' s') w' x v /\ k (setD o.dst env' x) s' := by
   intro r hr hrun hk
   exact ⟨r, w, β, env, s, _, by simp [execOp, hop, h1, h2, hguard, hrun], hst, ok_lit hr, hk⟩
  cases op with
  | add =>
   have hle : ¬ ((b.size + c.size : Nat) : Int) > IntKind.i64.max := by
    have h0 := hk.1
    have : IntKind.i64.max = 9223372036854775807 := by decide
    rw [this]; omega
   exact main _ rfl (by simp only [binOp, Op.stringOp]; rw [if_neg hle]; rfl) hk.2
  | eql => exact main _ rfl (by simp only [binOp, Op.stringOp]; rfl) hk
  | neq => exact main _ rfl (by simp only [binOp, Op.stringOp]; rfl) hk
  | _ => exact hk.elim
 ·exact hk.elim
theorem run_equal_bool {t : Nat} (hu : P.underlying t = some .bool) (w : World) (p q : Bool) : (Op.equal t (.bool p) (.bool q)).run P w = .ok (p == q) w := by
 have hd : Op.maxDepth = 9999 + 1 := rfl
 unfold Op.equal
 rw [hd]
 unfold Op.equalIn
 simp only [Sem.run_bind, run_underlying hu, Result.andThen_ok]
 rfl
theorem s_binb {op : BinOp} {t t' : Nat} {x y : Operand} (hop : o.op = .binOp op t x y t') (hu : P.underlying t = some .bool) {neg : Bool}
 (hn : (op = .eql /\ neg = false) ∨ (op = .neq /\ neg = true)) {p q : Bool} (hx : ev env x = .d (.lit (.bool p))) (hy : ev env y = .d (.lit (.bool q)))
 (hk : k (setD o.dst env (.d (bD (if neg then p != q else p == q)))) s) : OpWp P C o env s k := by
 refine .value fun β a w hst => ?_
 have h1 := hst.ev x
 have h2 := hst.ev y
 rw [hx] at h1
 rw [hy] at h2
 have h1 := lit_ok h1
 have h2 := lit_ok h2
 refine ⟨.bool (if neg then p != q else p == q), w, β, env, s, _, ?_, hst, ok_lit rfl, hk⟩
 have hguard : (eqGuard op t x y (.bool p) (.bool q)).run P w = .ok () w := by
  unfold eqGuard
  split <;> simp
 rcases hn with ⟨rfl, rfl⟩ | ⟨rfl, rfl⟩
 ·simp [execOp, hop, h1, h2, hguard, binOp, run_equal_bool hu]
 ·simp [execOp, hop, h1, h2, hguard, binOp, run_equal_bool hu, bne]
theorem s_eqnil0 {op : BinOp} {t t' e : Nat} {x y : Operand} (hop : o.op = .binOp op t x y t') (hu : P.underlying t = some (.slice e)) (hy : isNilSlice y = true) {neg : Bool}
 (hn : (op = .eql /\ neg = false) ∨ (op = .neq /\ neg = true))
 (hx : ∀ β a w, St C β env s a w -> ∃ (ad : Option Addr) (n cap : Nat) (b : Bool), a.eval x = .slice ad n cap /\ ad.isNone = b /\ k (setD o.dst env (.d (bD (if neg then !b else b)))) s) : OpWp P C o env s k := by
 refine .value fun β a w hst => ?_
 obtain ⟨ad, n, cap, b, h1, h3, hk⟩ := hx β a w hst
 have h2 : a.eval y = .slice none 0 0 := by
  unfold isNilSlice at hy
  split at hy
  ·rfl
  ·cases hy
 refine ⟨.bool (if neg then !b else b), w, β, env, s, _, ?_, hst, ok_lit rfl, hk⟩
 have hguard : (eqGuard op t x y (.slice ad n cap) (.slice none 0 0)).run P w = .ok () w := by
  unfold eqGuard
  split <;> simp
 have heq : (Op.equal t (.slice ad n cap) (.slice none 0 0)).run P w = .ok b w := by
  subst h3
  have hd : Op.maxDepth = 9999 + 1 := rfl
  unfold Op.equal
  rw [hd]
  unfold Op.equalIn
  simp only [Sem.run_bind, run_underlying hu, Result.andThen_ok]
  cases ad <;> rfl
 rcases hn with ⟨rfl, rfl⟩ | ⟨rfl, rfl⟩
 ·simp [execOp, hop, h1, h2, hguard, binOp, heq]
 ·simp [execOp, hop, h1, h2, hguard, binOp, heq]
theorem s_eqnil {op : BinOp} {t t' e : Nat} {x y : Operand} (hop : o.op = .binOp op t x y t') (hu : P.underlying t = some (.slice e)) (hy : isNilSlice y = true) {neg : Bool}
 (hn : (op = .eql /\ neg = false) ∨ (op = .neq /\ neg = true)) {b : Bool} (hx : nlK (ev env x) = some b)
 (hk : k (setD o.dst env (.d (bD (if neg then !b else b)))) s) : OpWp P C o env s k := s_eqnil0 hop hu hy hn fun _ _ _ hst =>
 let ⟨ad, n, cap, h1, h3⟩ := nlK_ok (hst.ev x) hx; ⟨ad, n, cap, b, h1, h3, hk⟩
theorem s_eqnilU {op : BinOp} {t t' e : Nat} {x y : Operand} (hop : o.op = .binOp op t x y t') (hu : P.underlying t = some (.slice e)) (hy : isNilSlice y = true) {neg : Bool}
 (hn : (op = .eql /\ neg = false) ∨ (op = .neq /\ neg = true)) {e' : Nat} {xs : List D} (hx : slK (ev env x) = some (e', xs))
 (hk1 : xs = [] -> k (setD o.dst env (.d (bD (if neg then !true else true)))) s) (hk2 : k (setD o.dst env (.d (bD (if neg then !false else false)))) s) : OpWp P C o env s k :=
 s_eqnil0 hop hu hy hn fun β a w hst => by
  obtain ⟨ad, cap, h1, _, _, h4⟩ := slK_ok (hst.ev x) hx
  cases ad with
  | some p => exact ⟨_, _, _, false, h1, rfl, hk2⟩
  | none =>
   refine ⟨_, _, _, true, h1, rfl, hk1 ?_⟩
   rcases h4 with h4 | ⟨b, o, h4, _⟩
   ·exact h4
   ·cases h4
theorem s_not {t : Nat} {x : Operand} (hop : o.op = .unOp .not t x) {b : Bool} (hx : ev env x = .d (.lit (.bool b)))
 (hk : k (setD o.dst env (.d (bD (!b)))) s) : OpWp P C o env s k := by
 refine .pure (x := .d (bD (!b))) (fun β a w hst => ?_) hk
 have h := hst.ev x
 rw [hx] at h
 have h := lit_ok h
 exact ⟨.bool (!b), by simp [execOp, hop, h, Op.unary], ok_lit rfl⟩
theorem s_neg {t : Nat} {x : Operand} (hop : o.op = .unOp .neg t x) {j : IntKind} {n : Int} (hx : ev env x = .d (.lit (.int j n)))
 (hk : k (setD o.dst env (.d (.lit (.int j (j.wrap (0 - n)))))) s) : OpWp P C o env s k := by
 refine .pure (x := .d (.lit (.int j (j.wrap (0 - n))))) (fun β a w hst => ?_) hk
 have h := hst.ev x
 rw [hx] at h
 have h := lit_ok h
 exact ⟨.int j (j.wrap (0 - n)), by simp [execOp, hop, h, Op.unary, Op.intArith], ok_lit rfl⟩
theorem s_conv {t u : Nat} {x : Operand} (hop : o.op = .convert t u x) {j' : IntKind} (ht : ∃ j, P.underlying t = some (.int j)) (hu : P.underlying u = some (.int j'))
 {j : IntKind} {n : Int} (hx : ev env x = .d (.lit (.int j n)))
 (hk : k (setD o.dst env (.d (.lit (.int j' (j'.wrap n))))) s) : OpWp P C o env s k := by
 refine .pure (x := .d (.lit (.int j' (j'.wrap n)))) (fun β a w hst => ?_) hk
 have h := hst.ev x
 rw [hx] at h
 have h := lit_ok h
 obtain ⟨j0, ht⟩ := ht
 exact ⟨.int j' (j'.wrap n), by simp [execOp, hop, h, convert, run_underlying ht, run_underlying hu, Conv.intToInt], ok_lit rfl⟩
theorem evs_ok {β : Beta} {a : Act} {w : World} (hst : St C β env s a w) : ∀ (xs : List Operand), AV.oks β (C.forb β s) w (xs.map (ev env)) (xs.map a.eval)
 | [] => by simp [AV.oks]
 | x :: xs => by simp only [List.map_cons, AV.oks]; exact ⟨_, _, rfl, hst.ev x, evs_ok hst xs⟩
theorem s_mkfn {f : Nat} {first cap : Array Operand} (hop : o.op = .makeFunc (.func f) first cap)
 (hk : k (setD o.dst env (.fn f (first.toList.map (ev env)) (cap.toList.map (ev env)))) s) : OpWp P C o env s k := by
 refine .pure (x := .fn f (first.toList.map (ev env)) (cap.toList.map (ev env))) (fun β a w hst => ?_) hk
 refine ⟨.func (.func f) (first.map a.eval) (cap.map a.eval), by simp [execOp, hop, Instr.makeFunc], ?_⟩
 simp only [AV.ok]
 exact ⟨_, _, rfl, by simpa using evs_ok hst first.toList, by simpa using evs_ok hst cap.toList⟩
theorem s_ext {x : Operand} {i : Nat} (hop : o.op = .extract x i) {cs : List AV} (hx : ev env x = .tup cs) (hi : i < cs.length)
 (hk : k (setD o.dst env (cs.getD i .junk)) s) : OpWp P C o env s k := by
 refine .value fun β a w hst => ?_
 have h := hst.ev x
 rw [hx] at h
 simp only [AV.ok] at h
 obtain ⟨vs, h1, h2⟩ := h
 have hl := AV.oks_length h2
 have hlt : i < vs.size := by simpa [<- hl] using hi
 refine ⟨vs[i], w, β, env, s, _, by simp [execOp, hop, h1, Instr.extract, Array.getElem?_eq_getElem hlt], hst, ?_, hk⟩
 rw [List.getD_eq_getElem?_getD, List.getElem?_eq_getElem hi]
 exact (AV.oks_iff.1 h2).2 i _ _ (List.getElem?_eq_getElem hi) (by simp [Array.getElem?_eq_getElem hlt])
theorem s_max {c : Call} (hop : o.op = .call c) (hc : c.callee = .builtin .max) {x y : Operand} (ha : c.args = #[x, y]) {j : IntKind} {n m : Int}
 (hx : ev env x = .d (.lit (.int j n))) (hy : ev env y = .d (.lit (.int j m)))
 (hk : k (setD o.dst env (.d (.lit (.int j (if m > n then m else n))))) s) : OpWp P C o env s k := by
 refine .pure (x := .d (.lit (.int j (if m > n then m else n)))) (fun β a w hst => ?_) hk
 have h1 := hst.ev x
 have h2 := hst.ev y
 rw [hx] at h1
 rw [hy] at h2
 have h1 := lit_ok h1
 have h2 := lit_ok h2
 exact ⟨.int j (if m > n then m else n), by simp [execOp, hop, resolve, hc, ha, h1, h2, invoke, builtin, Builtin.max_, Builtin.max2], ok_lit rfl⟩
theorem s_min {c : Call} (hop : o.op = .call c) (hc : c.callee = .builtin .min) {x y : Operand} (ha : c.args = #[x, y]) {j : IntKind} {n m : Int}
 (hx : ev env x = .d (.lit (.int j n))) (hy : ev env y = .d (.lit (.int j m)))
 (hk : k (setD o.dst env (.d (.lit (.int j (if m < n then m else n))))) s) : OpWp P C o env s k := by
 refine .pure (x := .d (.lit (.int j (if m < n then m else n)))) (fun β a w hst => ?_) hk
 have h1 := hst.ev x
 have h2 := hst.ev y
 rw [hx] at h1
 rw [hy] at h2
 have h1 := lit_ok h1
 have h2 := lit_ok h2
 exact ⟨.int j (if m < n then m else n), by simp [execOp, hop, resolve, hc, ha, h1, h2, invoke, builtin, Builtin.min_, Builtin.min2], ok_lit rfl⟩
theorem s_fad {t f : Nat} {p : Operand} (hop : o.op = .fieldAddr t p f) {fs : Array Field} (hu : P.underlying t = some (.struct fs)) {fd : Field} (hf : fs[f]? = some fd)
 {n : Nat} (hn : sizeP P fd.type = some n) (h0 : n ≠ 0) {r : AV}
 (hr : (∃ id off, ev env p = .ptr id off /\ r = .ptr id (off + fd.offset)) ∨ (∃ cs, ev env p = .pv cs /\ r = .pv (cs.drop fd.offset)) ∨ (∃ id m off, ev env p = .gptr id m off /\ r = .gptr id m (off + fd.offset)))
 (hk : k (setD o.dst env r) s) : OpWp P C o env s k := by
 refine .value fun β a w hst => ?_
 obtain ⟨i, hi, hin⟩ : ∃ i, P.info? fd.type = some i /\ i.size = n := by
  unfold sizeP at hn
  cases hq : P.info? fd.type with
  | none => simp [hq] at hn
  | some i => exact ⟨i, rfl, by simpa [hq] using hn⟩
 have hp := hst.ev p
 have hplace : ∀ b off, (fieldPlace ⟨b, off, none⟩ fd).run P w = .ok ⟨b, off + fd.offset, none⟩ w := by
  intro b off
  simp [fieldPlace, Go.sizeOf, typeInfo, hi, hin, h0, Addr.add_lit]
 rcases hr with ⟨id, off, he, rfl⟩ | ⟨cs, he, rfl⟩ | ⟨id, m, off, he, rfl⟩
 ·rw [he] at hp
  simp only [AV.ok] at hp
  obtain ⟨b, hb, hv⟩ := hp
  refine ⟨.pointer (some ⟨b, off + fd.offset, none⟩), w, β, env, s, _, ?_, hst, ?_, hk⟩
  ·simp [execOp, hop, Instr.fieldAt, run_underlying hu, hf, hv, Instr.sureAddr, hplace]
  ·simp only [AV.ok]; exact ⟨b, hb, rfl⟩
 ·rw [he] at hp
  simp only [AV.ok] at hp
  obtain ⟨b, off, vs, hv, hc, h2⟩ := hp
  refine ⟨.pointer (some ⟨b, off + fd.offset, none⟩), w, β, env, s, _, ?_, hst, ?_, hk⟩
  ·simp [execOp, hop, Instr.fieldAt, run_underlying hu, hf, hv, Instr.sureAddr, hplace]
  ·simp only [AV.ok]
   refine ⟨b, off + fd.offset, vs.drop fd.offset, rfl, fun j v hj => ?_, doks_drop _ h2⟩
   rw [List.getElem?_drop] at hj
   have := hc _ v hj
   rwa [<- Nat.add_assoc] at this
 ·rw [he] at hp
  simp only [AV.ok] at hp
  obtain ⟨u, m', b, off', hb, hle, hv, hpt⟩ := hp
  refine ⟨.pointer (some ⟨b, off' + fd.offset, none⟩), w, β, env, s, _, ?_, hst, ?_, hk⟩
  ·simp [execOp, hop, Instr.fieldAt, run_underlying hu, hf, hv, Instr.sureAddr, hplace]
  ·simp only [AV.ok]
   refine ⟨u, m', b, off' + fd.offset, hb, hle, rfl, fun e => ?_⟩
   obtain ⟨cap, h1, h2⟩ := hpt e
   exact ⟨cap, h1, by rw [h2]⟩
end
theorem acells_ok {β : Beta} {O : Own} {w : World} {x : AV} {v : Value} (h : AV.ok β O w x v) {cs : List AV} (hc : x.acells = some cs) :
 ∃ vs : Array Value, v = .agg vs /\ AV.oks β O w cs vs.toList /\ ∀ u ∈ vs.toList, one u = true := by
 cases x with
 | d x =>
  cases x with
  | agg xs =>
   have h2 := cells_ok h (cs := cs) hc
   simp only [AV.ok, D.ok] at h
   obtain ⟨vs, rfl, h1⟩ := h
   exact ⟨vs, rfl, h2⟩
  | any => simp [AV.acells] at hc
  | lit u => simp [AV.acells] at hc
  | sl e nl ys => simp [AV.acells] at hc
 | agg xs =>
  have h2 := cells_ok h (cs := cs) hc
  simp only [AV.ok] at h
  obtain ⟨vs, rfl, _, h1⟩ := h
  exact ⟨vs, rfl, h2⟩
 | junk => simp [AV.acells] at hc
 | own e id xs => simp [AV.acells] at hc
 | ptr id off => simp [AV.acells] at hc
 | msl e id off len => simp [AV.acells] at hc
 | pv cs => simp [AV.acells] at hc
 | tup cs => simp [AV.acells] at hc
 | fn f a b => simp [AV.acells] at hc
 | gow e id n => simp [AV.acells] at hc
 | gptr id k off => simp [AV.acells] at hc
 | ful e xs => simp [AV.acells] at hc
 | dp d => simp [AV.acells] at hc
 | mp id => simp [AV.acells] at hc
section
variable {P : Program} {C : Ctx} {o : Oper} {env : List AV} {s : Sto} {k : List AV -> Sto -> Prop}
theorem sizeP_spec {t n : Nat} (hn : sizeP P t = some n) : ∃ i, P.info? t = some i /\ i.size = n := by
 unfold sizeP at hn
 cases hq : P.info? t with
 | none => simp [hq] at hn
 | some i => exact ⟨i, rfl, by simpa [hq] using hn⟩
theorem bytesP_spec {t n : Nat} (hn : bytesP P t = some n) : ∃ i, P.info? t = some i /\ i.bytes = n := by
 unfold bytesP at hn
 cases hq : P.info? t with
 | none => simp [hq] at hn
 | some i => exact ⟨i, rfl, by simpa [hq] using hn⟩
theorem elemP_spec {t e : Nat} (hn : elemP P t = some e) : P.underlying t = some (.slice e) := by
 unfold elemP at hn
 split at hn
 ·cases hn; assumption
 ·cases hn
theorem run_isAgg {t : Nat} {ag : Bool} (h : aggOf P t = some ag) (w : World) : (isAgg t).run P w = .ok ag w := by
 unfold aggOf at h
 cases hq : P.underlying t with
 | none => simp [hq] at h
 | some d =>
  simp only [isAgg, Sem.run_bind, run_underlying hq, Result.andThen_ok]
  rw [hq] at h
  cases d <;> simp_all
theorem s_fld {t f : Nat} {x : Operand} (hop : o.op = .field t x f) {fs : Array Field} (hu : P.underlying t = some (.struct fs)) {fd : Field} (hf : fs[f]? = some fd)
 {n : Nat} (hn : sizeP P fd.type = some n) {ag : Bool} (hg : aggOf P fd.type = some ag) {cs : List AV} (hc : (ev env x).acells = some cs)
 (hl : fd.offset + (if ag then n else 1) <= cs.length)
 (hk : k (setD o.dst env (if ag then AV.mk ((cs.drop fd.offset).take n) else cs.getD fd.offset .junk)) s) : OpWp P C o env s k := by
 refine .value fun β a w hst => ?_
 obtain ⟨i, hi, hin⟩ := sizeP_spec hn
 obtain ⟨vs, hv, h2, h1⟩ := acells_ok (hst.ev x) hc
 have hlen := AV.oks_length h2
 cases ag with
 | true =>
  simp only [if_true] at hl
  refine ⟨.agg (vs.extract fd.offset (fd.offset + n)), w, β, env, s, _, ?_, hst, ?_, hk⟩
  ·simp [execOp, hop, Instr.field, run_underlying hu, hf, part, run_isAgg hg, hv, asAgg, Go.sizeOf, typeInfo, hi, hin]
  ·simp only [if_true]
   have e1 : (vs.extract fd.offset (fd.offset + n)).toList = (vs.toList.drop fd.offset).take n := by
    simp [Array.toList_extract]
   refine mk_ok ?_ fun u hu => ?_
   ·rw [e1]; exact oks_take n (oks_drop _ h2)
   ·rw [e1] at hu; exact h1 u (List.mem_of_mem_drop (List.mem_of_mem_take hu))
 | false =>
  simp only [Bool.false_eq_true, if_false] at hl ⊢
  have hlt : fd.offset < vs.size := by simp at hlen; omega
  refine ⟨vs[fd.offset], w, β, env, s, _, ?_, hst, ?_, hk⟩
  ·simp [execOp, hop, Instr.field, run_underlying hu, hf, part, run_isAgg hg, hv, asAgg, Array.getElem?_eq_getElem hlt]
  ·simp only [Bool.false_eq_true, if_false]
   have hlt2 : fd.offset < cs.length := by omega
   rw [List.getD_eq_getElem?_getD, List.getElem?_eq_getElem hlt2]
   exact (AV.oks_iff.1 h2).2 _ _ _ (List.getElem?_eq_getElem hlt2) (by simp [Array.getElem?_eq_getElem hlt])
theorem run_indexAt {t e : Nat} {i : TypeInfo} (hu : P.underlying t = some (.slice e)) (hi : P.info? e = some i) (w : World) (b off len cap : Nat) (j : IntKind) (n : Int)
 (h0 : 0 <= n) (hn : n < len) : (Instr.indexAt t (.slice (some ⟨b, off, none⟩) len cap) (.int j n)).run P w = .ok (.pointer (some ⟨b, off + n.toNat * i.size, none⟩)) w := by
 simp [Instr.indexAt, asIntOf, run_underlying hu, h0, hn, Go.sizeOf, typeInfo, hi, Addr.add_lit]
theorem s_ixa {t e n : Nat} {x ix : Operand} (hop : o.op = .indexAddr t x ix) (hu : P.underlying t = some (.slice e)) (hn : sizeP P e = some n)
 (hk : ixaK n (ev env x) (ev env ix) fun r => k (setD o.dst env r) s) : OpWp P C o env s k := by
 refine .value fun β a w hst => ?_
 obtain ⟨i, hi, hin⟩ := sizeP_spec hn
 unfold ixaK at hk
 split at hk
 ·exact hk.elim
 ·rename_i m hm
  obtain ⟨j, hv⟩ := aInt_ok (hst.ev ix) hm
  have hx := hst.ev x
  split at hk
  ·rename_i e' id off len hxe
   obtain ⟨rfl, h0, h1, hk⟩ := hk
   rw [hxe] at hx
   simp only [AV.ok] at hx
   obtain ⟨b, cap, hb, _, hxv⟩ := hx
   refine ⟨.pointer (some ⟨b, off + m.toNat * i.size, none⟩), w, β, env, s, _, ?_, hst, ?_, hk⟩
   ·simp only [execOp, hop, hxv, hv, Sem.run_bind, run_indexAt hu hi w b off len cap j m h0 h1, Result.andThen_ok, Sem.run_pure]
   ·simp only [AV.ok, hin]; exact ⟨b, hb, rfl⟩
  ·rename_i e' id len hxe
   obtain ⟨rfl, h0, h1, hk⟩ := hk
   rw [hxe] at hx
   simp only [AV.ok] at hx
   obtain ⟨u, q, hb, hle, heq, ⟨_, hxv, hl0⟩ | ⟨g, cap, hxv, _, _⟩⟩ := hx
   ·subst hl0; omega
   ·refine ⟨.pointer (some ⟨g, 0 + m.toNat * i.size, none⟩), w, β, env, s, _, ?_, hst, ?_, hk⟩
    ·simp only [execOp, hop, hxv, hv, Sem.run_bind, run_indexAt hu hi w g 0 len cap j m h0 h1, Result.andThen_ok, Sem.run_pure]
    ·simp only [AV.ok, hin]
     refine ⟨u, q, g, _, hb, hle, rfl, fun e => ⟨cap, ?_, by simp⟩⟩
     rw [<- heq e.symm, hxv, e]
  ·split at hk
   ·rename_i e' xs hxs
    obtain ⟨rfl, h0, h1, hk⟩ := hk
    obtain ⟨ad, cap, hxv, _, _, hrow⟩ := slK_ok hx hxs
    rcases hrow with hrow | ⟨b, off, rfl, hrow⟩
    ·subst hrow; simp at h1; omega
    ·have hlt : m.toNat < xs.length := by omega
     obtain ⟨vs, hvs, hc, hcel⟩ := row_get hrow (List.getElem?_eq_getElem hlt)
     refine ⟨.pointer (some ⟨b, off + m.toNat * i.size, none⟩), w, β, env, s, _, ?_, hst, ?_, hk⟩
     ·simp only [execOp, hop, hxv, hv, Sem.run_bind, run_indexAt hu hi w b off xs.length cap j m h0 h1, Result.andThen_ok, Sem.run_pure]
     ·simp only [AV.ok]
      refine ⟨b, _, vs, rfl, by rw [hin]; exact hc, ?_⟩
      rw [List.getD_eq_getElem?_getD, List.getElem?_eq_getElem hlt]
      exact cel_oks hcel hc
   ·exact hk.elim
theorem s_ixaA {t e n len : Nat} {x ix : Operand} (hop : o.op = .indexAddr t x ix) (hu : P.underlying t = some (.array len e)) (hn : sizeP P e = some n)
 {m : Int} (hm : aInt (ev env ix) = some m) (h0 : 0 <= m) (h1 : m < len) {r : AV}
 (hr : (∃ id off, ev env x = .ptr id off /\ r = .ptr id (off + m.toNat * n)) ∨ (∃ cs, ev env x = .pv cs /\ r = .pv (cs.drop (m.toNat * n))))
 (hk : k (setD o.dst env r) s) : OpWp P C o env s k := by
 refine .value fun β a w hst => ?_
 obtain ⟨i, hi, hin⟩ := sizeP_spec hn
 obtain ⟨j, hv⟩ := aInt_ok (hst.ev ix) hm
 have hx := hst.ev x
 have hrun : ∀ b off, (Instr.indexAt t (.pointer (some ⟨b, off, none⟩)) (.int j m)).run P w = .ok (.pointer (some ⟨b, off + m.toNat * n, none⟩)) w := by
  intro b off
  simp [Instr.indexAt, asIntOf, run_underlying hu, h0, h1, Go.sizeOf, typeInfo, hi, hin, Addr.add_lit, Instr.sureAddr]
 rcases hr with ⟨id, off, he, rfl⟩ | ⟨cs, he, rfl⟩
 ·rw [he] at hx
  simp only [AV.ok] at hx
  obtain ⟨b, hb, hxv⟩ := hx
  refine ⟨.pointer (some ⟨b, off + m.toNat * n, none⟩), w, β, env, s, _, by simp only [execOp, hop, hxv, hv, Sem.run_bind, hrun, Result.andThen_ok, Sem.run_pure], hst, ?_, hk⟩
  simp only [AV.ok]; exact ⟨b, hb, rfl⟩
 ·rw [he] at hx
  simp only [AV.ok] at hx
  obtain ⟨b, off, vs, hxv, hc, h2⟩ := hx
  refine ⟨.pointer (some ⟨b, off + m.toNat * n, none⟩), w, β, env, s, _, by simp only [execOp, hop, hxv, hv, Sem.run_bind, hrun, Result.andThen_ok, Sem.run_pure], hst, ?_, hk⟩
  simp only [AV.ok]
  refine ⟨b, _, vs.drop (m.toNat * n), rfl, fun q v hj => ?_, doks_drop _ h2⟩
  rw [List.getElem?_drop] at hj
  have := hc _ v hj
  rwa [<- Nat.add_assoc] at this
theorem s_len {c : Call} (hop : o.op = .call c) (hc : c.callee = .builtin .len) {x : Operand} (ha : c.args = #[x]) {t : Nat} (ht : c.argTypes[0]? = some t)
 {e : Nat} (hu : P.underlying t = some (.slice e)) {n : Nat}
 (hv : ∀ β w v, AV.ok β (C.forb β s) w (ev env x) v -> ∃ a cap, v = .slice a n cap)
 (hk : k (setD o.dst env (.d (iD n))) s) : OpWp P C o env s k := by
 refine .pure (x := .d (iD n)) (fun β a w hst => ?_) hk
 obtain ⟨ad, cap, hx⟩ := hv _ _ _ (hst.ev x)
 exact ⟨.int .i64 n, by simp [execOp, hop, resolve, hc, ha, invoke, builtin, Builtin.len_, ht, run_underlying hu, hx, goInt], ok_lit rfl⟩
theorem s_lens {c : Call} (hop : o.op = .call c) (hc : c.callee = .builtin .len) {x : Operand} (ha : c.args = #[x]) {t : Nat} (ht : c.argTypes[0]? = some t)
 (hu : P.underlying t = some .string) {b : ByteArray} (hx : ev env x = .d (.lit (.string b)))
 (hk : k (setD o.dst env (.d (iD b.size))) s) : OpWp P C o env s k := by
 refine .pure (x := .d (iD b.size)) (fun β a w hst => ?_) hk
 have h := hst.ev x
 rw [hx] at h
 have h := lit_ok h
 exact ⟨.int .i64 b.size, by simp [execOp, hop, resolve, hc, ha, invoke, builtin, Builtin.len_, ht, run_underlying hu, h, goInt], ok_lit rfl⟩
theorem s_ixs {t : Nat} {x i : Operand} (hop : o.op = .index t x i) (hu : P.underlying t = some .string) {b : ByteArray} {kk : IntKind} {n : Int} (hx : ev env x = .d (.lit (.string b))) (hi : ev env i = .d (.lit (.int kk n))) (h0 : 0 <= n) (h1 : n < b.size)
 (hk : k (setD o.dst env (.d (.lit (.int .u8 (sget b n.toNat))))) s) : OpWp P C o env s k := by
 refine .pure (x := .d (.lit (.int .u8 (sget b n.toNat)))) (fun β a w hst => ?_) hk
 have g1 := hst.ev x
 rw [hx] at g1
 have g1 := lit_ok g1
 have g2 := hst.ev i
 rw [hi] at g2
 have g2 := lit_ok g2
 have hlt : n.toNat < b.size := by omega
 have hg : b[n.toNat]? = some b[n.toNat] := by simp [hlt]
 refine ⟨.int .u8 (sget b n.toNat), ?_, ok_lit rfl⟩
 have hs : sget b n.toNat = ((b[n.toNat]).toNat : Int) := by
  unfold sget
  have hl2 : n.toNat < b.data.size := hlt
  rw [Array.getElem?_eq_getElem hl2]; rfl
 rw [hs]
 simp [execOp, hop, g1, g2, Instr.index, asIntOf, run_underlying hu, h0, hg]
theorem row_drop {O : Own} {w : World} {b e : Nat} : ∀ {xs : List D} {o : Nat} (l : Nat), D.row O w b o e xs -> D.row O w b (o + l * e) e (xs.drop l)
 | [], o, l => fun _ => by simp [D.row]
 | x :: xs, o, 0 => fun h => by simpa using h
 | x :: xs, o, l + 1 => fun h => by
  rw [D.row_cons] at h
  have := row_drop l h.2
  have e1 : o + e + l * e = o + (l + 1) * e := by rw [Nat.add_mul]; omega
  rw [e1] at this
  simpa using this
theorem row_take {O : Own} {w : World} {b e : Nat} : ∀ {xs : List D} {o : Nat} (l : Nat), D.row O w b o e xs -> D.row O w b o e (xs.take l)
 | [], o, l => fun _ => by simp [D.row]
 | x :: xs, o, 0 => fun _ => by simp [D.row]
 | x :: xs, o, l + 1 => fun h => by
  rw [D.row_cons] at h
  rw [List.take_succ_cons, D.row_cons]
  exact ⟨h.1, row_take l h.2⟩
theorem bnd_ok {β : Beta} {a : Act} {w : World} (hst : St C β env s a w) {d n : Int} {x : Option Operand} (h : bnd env d x = some n) :
 (x = none /\ n = d) ∨ ∃ y j, x = some y /\ a.eval y = .int j n := by
 cases x with
 | none => simp only [bnd, Option.some.injEq] at h; exact .inl ⟨rfl, h.symm⟩
 | some y =>
  simp only [bnd] at h
  obtain ⟨j, hj⟩ := aInt_ok (hst.ev y) h
  exact .inr ⟨y, j, rfl, hj⟩
theorem run_sliceBounds {β : Beta} {a : Act} {w : World} (hst : St C β env s a w) {lo hi : Option Operand} {l h : Int} (len cap : Nat)
 (hl : bnd env 0 lo = some l) (hh : bnd env len hi = some h) (h0 : 0 <= l) (h1 : l <= h) (h2 : h <= len) (hc : len <= cap) :
 (Instr.sliceBounds true len cap (lo.map a.eval) (hi.map a.eval) none).run P w = .ok (l.toNat, h.toNat, cap) w := by
 have hb : ∀ (j : IntKind) (n : Int) (y : Nat) (c : BoundsCode), 0 <= n -> n <= y -> (Instr.sliceBound (.int j n) y c).run P w = .ok n.toNat w := by
  intro j n y c h3 h4
  simp [Instr.sliceBound, asIntOf, h3, h4]
 rcases bnd_ok hst hh with ⟨rfl, rfl⟩ | ⟨yh, jh, rfl, eh⟩ <;> rcases bnd_ok hst hl with ⟨rfl, rfl⟩ | ⟨yl, jl, rfl, el⟩
 ·simp [Instr.sliceBounds]
 ·simp only [Instr.sliceBounds, Option.map_none, Option.map_some, el, Sem.run_bind, Sem.run_pure, Result.andThen_ok]
  rw [hb jl l len _ h0 h1]
  simp
 ·simp only [Instr.sliceBounds, Option.map_none, Option.map_some, eh, Sem.run_bind, Sem.run_pure, Result.andThen_ok]
  rw [hb jh h cap _ (by omega) (by omega)]
  simp
 ·simp only [Instr.sliceBounds, Option.map_some, eh, el, Sem.run_bind, Sem.run_pure, Result.andThen_ok]
  rw [hb jh h cap _ (by omega) (by omega)]
  simp only [Result.andThen_ok]
  rw [hb jl l h.toNat _ h0 (by omega)]
  simp
theorem run_sliceBoundsF {β : Beta} {a : Act} {w : World} (hst : St C β env s a w) {lo hi : Option Operand} {l h : Int} (len cap : Nat)
 (hl : bnd env 0 lo = some l) (hh : bnd env len hi = some h) (h0 : 0 <= l) (h1 : l <= h) (h2 : h <= len) (hc : len <= cap) :
 (Instr.sliceBounds false len cap (lo.map a.eval) (hi.map a.eval) none).run P w = .ok (l.toNat, h.toNat, cap) w := by
 have hb : ∀ (j : IntKind) (n : Int) (y : Nat) (c : BoundsCode), 0 <= n -> n <= y -> (Instr.sliceBound (.int j n) y c).run P w = .ok n.toNat w := by
  intro j n y c h3 h4
  simp [Instr.sliceBound, asIntOf, h3, h4]
 rcases bnd_ok hst hh with ⟨rfl, rfl⟩ | ⟨yh, jh, rfl, eh⟩ <;> rcases bnd_ok hst hl with ⟨rfl, rfl⟩ | ⟨yl, jl, rfl, el⟩
 ·simp [Instr.sliceBounds]
 ·simp only [Instr.sliceBounds, Option.map_none, Option.map_some, el, Sem.run_bind, Sem.run_pure, Result.andThen_ok]
  rw [hb jl l len _ h0 h1]
  simp
 ·simp only [Instr.sliceBounds, Option.map_none, Option.map_some, eh, Sem.run_bind, Sem.run_pure, Result.andThen_ok]
  rw [hb jh h cap _ (by omega) (by omega)]
  simp
 ·simp only [Instr.sliceBounds, Option.map_some, eh, el, Sem.run_bind, Sem.run_pure, Result.andThen_ok]
  rw [hb jh h cap _ (by omega) (by omega)]
  simp only [Result.andThen_ok]
  rw [hb jl l h.toNat _ h0 (by omega)]
  simp
theorem s_sls {t : Nat} {x : Operand} {lo hi : Option Operand} (hop : o.op = .slice t x lo hi none) (hu : P.underlying t = some .string) {b : ByteArray} (hx : ev env x = .d (.lit (.string b))) {l h : Int} (hl : bnd env 0 lo = some l) (hh : bnd env b.size hi = some h) (h0 : 0 <= l) (h1 : l <= h) (h2 : h <= b.size)
 (hk : k (setD o.dst env (.d (.lit (.string (b.extract l.toNat h.toNat))))) s) : OpWp P C o env s k := by
 refine .pure (x := .d (.lit (.string (b.extract l.toNat h.toNat)))) (fun β a w hst => ?_) hk
 have g1 := hst.ev x
 rw [hx] at g1
 have g1 := lit_ok g1
 have hrun := run_sliceBoundsF (P := P) hst (lo := lo) (hi := hi) b.size b.size hl hh h0 h1 h2 (Nat.le_refl _)
 refine ⟨.string (b.extract l.toNat h.toNat), ?_, ok_lit rfl⟩
 simp only [execOp, hop, Instr.sliceAt, Sem.run_bind, run_underlying hu, Result.andThen_ok, g1]
 simp [Instr.slice, run_underlying hu, hrun]
theorem s_slc {t e n : Nat} {x : Operand} {lo hi : Option Operand} (hop : o.op = .slice t x lo hi none) (hu : P.underlying t = some (.slice e)) (hn : sizeP P e = some n)
 {xs : List D} {e' : Nat} (hxs : slK (ev env x) = some (e', xs)) (he : xs = [] ∨ e' = n) (hk : slcK (ev env x) (bnd env 0 lo) (bnd env xs.length hi) fun r => k (setD o.dst env r) s) : OpWp P C o env s k := by
 refine .value fun β a w hst => ?_
 obtain ⟨i, hi', hin⟩ := sizeP_spec hn
 obtain ⟨ad, cap, hxv, hcap, hnl, hrow⟩ := slK_ok (hst.ev x) hxs
 unfold slcK at hk
 rw [hxs] at hk
 split at hk
 ·rename_i e2 ys l h he2 hl hh
  cases he2
  obtain ⟨h0, h1, h2, hk⟩ := hk
  have hcap1 : xs.length <= cap := hcap.1
  have hrun := run_sliceBounds (P := P) hst (lo := lo) (hi := hi) xs.length cap hl hh h0 h1 h2 hcap.1
  refine ⟨.slice (if cap = l.toNat then ad else ad.map (·.add (l.toNat * n))) (h.toNat - l.toNat) (cap - l.toNat), w, β, env, s, _, ?_, hst, ?_, hk⟩
  ·simp only [execOp, hop, Instr.sliceAt, Sem.run_bind, run_underlying hu, Result.andThen_ok, hxv]
   simp [Instr.slice, run_underlying hu, hrun, Go.sizeOf, typeInfo, hi', hin]
  ·simp only [AV.ok, D.ok]
   have hlen : ((xs.take h.toNat).drop l.toNat).length = h.toNat - l.toNat := by simp; omega
   refine ⟨_, _, by rw [hlen], by rw [hlen]; exact ⟨by omega, by have := hcap.2; omega⟩, ?_, ?_⟩
   ·cases hq : nlK (ev env x) with
    | none => trivial
    | some b =>
     have := hnl b hq
     cases b with
     | true =>
      obtain ⟨rfl, rfl⟩ := this
      refine ⟨?_, by omega⟩
      split <;> rfl
     | false =>
      show _ ≠ none
      split
      ·exact this
      ·cases ad with
       | none => exact absurd rfl this
       | some a => simp
   ·rcases hrow with hrow | ⟨b, off, rfl, hrow⟩
    ·subst hrow; left; simp
    ·by_cases hz : (xs.take h.toNat).drop l.toNat = []
     ·exact .inl hz
     ·right
      have hlt : l.toNat < h.toNat := by
       rcases Nat.lt_or_ge l.toNat h.toNat with h3 | h3
       ·exact h3
       ·exfalso; apply hz; apply List.length_eq_zero_iff.1; rw [hlen]; omega
      have hne : cap ≠ l.toNat := by omega
      rcases he with he | he
      ·subst he; simp at hz
      ·subst he
       exact ⟨b, off + l.toNat * e', by rw [if_neg hne]; simp [Addr.add_lit], row_drop _ (row_take _ hrow)⟩
 ·exact hk.elim
theorem s_slc3 {t e n : Nat} {x hh m : Operand} (hop : o.op = .slice t x none (some hh) (some m)) (hu : P.underlying t = some (.slice e)) (hn : sizeP P e = some n)
 {xs : List D} {e' : Nat} (hxs : slK (ev env x) = some (e', xs)) {h : Int} (h1 : aInt (ev env hh) = some h) (h2 : aInt (ev env m) = some h) (h0 : 0 <= h) (hle : h <= xs.length)
 (hk : k (setD o.dst env (.ful e' (xs.take h.toNat))) s) : OpWp P C o env s k := by
 refine .value fun β a w hst => ?_
 obtain ⟨i, hi', hin⟩ := sizeP_spec hn
 obtain ⟨ad, cap, hxv, hcap, hnl, hrow⟩ := slK_ok (hst.ev x) hxs
 obtain ⟨jh, eh⟩ := aInt_ok (hst.ev hh) h1
 obtain ⟨jm, em⟩ := aInt_ok (hst.ev m) h2
 have hcap1 : xs.length <= cap := hcap.1
 have hb : ∀ (j : IntKind) (n : Int) (y : Nat) (c : BoundsCode), 0 <= n -> n <= y -> (Instr.sliceBound (.int j n) y c).run P w = .ok n.toNat w := by
  intro j n y c h3 h4
  simp [Instr.sliceBound, asIntOf, h3, h4]
 have hrun : (Instr.sliceBounds true xs.length cap none (some (a.eval hh)) (some (a.eval m))).run P w = .ok (0, h.toNat, h.toNat) w := by
  simp only [Instr.sliceBounds, eh, em, Sem.run_bind, Sem.run_pure, Result.andThen_ok]
  rw [hb jm h cap _ h0 (by omega)]
  simp only [Result.andThen_ok]
  rw [hb jh h h.toNat _ h0 (by omega)]
  simp
 have hlen : (xs.take h.toNat).length = h.toNat := by simp; omega
 refine ⟨.slice (if h.toNat = 0 then ad else ad.map (·.add 0)) h.toNat h.toNat, w, β, env, s, _, ?_, hst, ?_, hk⟩
 ·simp only [execOp, hop, Instr.sliceAt, Sem.run_bind, run_underlying hu, Result.andThen_ok, hxv]
  simp [Instr.slice, run_underlying hu, hrun, Go.sizeOf, typeInfo, hi', hin]
 ·have had : (if h.toNat = 0 then ad else ad.map (·.add 0)) = ad := by
   split
   ·rfl
   ·cases ad <;> simp [Addr.add]
  rw [had]
  simp only [AV.ok, D.ok]
  refine ⟨ad, by rw [hlen], ad, h.toNat, by rw [hlen], by rw [hlen]; exact ⟨Nat.le_refl _, by have := hcap.2; omega⟩, trivial, ?_⟩
  rcases hrow with hrow | ⟨b, off, rfl, hrow⟩
  ·left; rw [hrow]; simp
  ·right; exact ⟨b, off, rfl, row_take _ hrow⟩
theorem s_slcA {t e n len : Nat} {x : Operand} {hi : Option Operand} (hlen : len < 2 ^ 62) (hop : o.op = .slice t x none hi none) (hu : P.underlying t = some (.array len e)) (hn : sizeP P e = some n)
 {id off : Nat} (hx : ev env x = .ptr id off) {h : Int} (hh : bnd env len hi = some h) (h0 : 0 <= h) (h1 : h <= len)
 (hk : k (setD o.dst env (.msl n id off h.toNat)) s) : OpWp P C o env s k := by
 refine .value fun β a w hst => ?_
 obtain ⟨i, hi', hin⟩ := sizeP_spec hn
 have hv := hst.ev x
 rw [hx] at hv
 simp only [AV.ok] at hv
 obtain ⟨b, hb, hxv⟩ := hv
 refine ⟨.slice (some ⟨b, off, none⟩) h.toNat len, w, β, env, s, _, ?_, hst, ?_, hk⟩
 ·have hsb : (Instr.sliceBounds false len len none (hi.map a.eval) none).run P w = .ok (0, h.toNat, len) w := by
   rcases bnd_ok hst hh with ⟨rfl, rfl⟩ | ⟨yh, jh, rfl, eh⟩
   ·simp [Instr.sliceBounds]
   ·simp [Instr.sliceBounds, eh, Instr.sliceBound, asIntOf, h0, h1]
  simp [execOp, hop, Instr.sliceAt, run_underlying hu, hxv, Instr.sureAddr, hsb, Go.sizeOf, typeInfo, hi']
  simp [Addr.add]
 ·simp only [AV.ok]; exact ⟨b, len, hb, by omega, rfl⟩
end
theorem Cells.append {O : Own} {w : World} {b o : Nat} {vs us : List Value} (h : Cells O w b o vs) (k : Cells O w b (o + vs.length) us) : Cells O w b o (vs ++ us) := by
 intro j v hj
 rw [List.getElem?_append] at hj
 split at hj
 ·exact h j v hj
 ·rename_i hlt
  have := k _ v hj
  have e1 : o + vs.length + (j - vs.length) = o + j := by omega
  rwa [e1] at this
theorem row_copy {O : Own} {w : World} {b e : Nat} : ∀ {xs : List D} {o : Nat}, D.row O w b o e xs ->
 ∃ vs, vs.length = xs.length * e /\ Cells O w b o vs /\ ∀ (O' : Own) (w' : World) (b' o' : Nat),
  (∀ b o v, w.cell? ⟨b, o, none⟩ = some v -> ¬ O b o -> w'.cell? ⟨b, o, none⟩ = some v /\ ¬ O' b o) -> Cells O' w' b' o' vs -> D.row O' w' b' o' e xs
 | [], o => fun _ => ⟨[], by simp, fun j v hj => by simp at hj, fun _ _ _ _ _ _ => by simp [D.row]⟩
 | x :: xs, o => fun h => by
  rw [D.row_cons] at h
  obtain ⟨⟨us, h1, h2, h3⟩, h4⟩ := h
  obtain ⟨vs, k1, k2, k3⟩ := row_copy h4
  refine ⟨us ++ vs, by simp [h1, k1, Nat.add_mul]; omega, h2.append (by rw [h1]; exact k2), fun O' w' b' o' hm hc => ?_⟩
  rw [D.row_cons]
  refine ⟨⟨us, h1, fun j v hj => ?_, ?_⟩, k3 O' w' b' (o' + e) hm fun j v hj => ?_⟩
  ·have hlt : j < us.length := (List.getElem?_eq_some_iff.1 hj).1
   exact hc j v (by rw [List.getElem?_append_left hlt]; exact hj)
  ·cases x with
   | agg cs => exact D.oks_mono hm _ _ h3
   | any => obtain ⟨v, h5, h6⟩ := h3; exact ⟨v, h5, D.ok_mono hm _ _ h6⟩
   | lit u => obtain ⟨v, h5, h6⟩ := h3; exact ⟨v, h5, D.ok_mono hm _ _ h6⟩
   | sl e' nl ys => obtain ⟨v, h5, h6⟩ := h3; exact ⟨v, h5, D.ok_mono hm _ _ h6⟩
  ·have := hc (us.length + j) v (by rw [List.getElem?_append_right (by omega)]; simpa using hj)
   rw [h1] at this
   rwa [Nat.add_assoc]
theorem row_append {O : Own} {w : World} {b e : Nat} : ∀ {xs ys : List D} {o : Nat}, D.row O w b o e xs -> D.row O w b (o + xs.length * e) e ys -> D.row O w b o e (xs ++ ys)
 | [], ys, o => fun _ h => by simpa using h
 | x :: xs, ys, o => fun h k => by
  rw [D.row_cons] at h
  rw [List.cons_append, D.row_cons]
  refine ⟨h.1, row_append h.2 ?_⟩
  have e1 : o + (x :: xs).length * e = o + e + xs.length * e := by simp [Nat.add_mul]; omega
  rwa [e1] at k
theorem cells_of_heap {O : Own} {w : World} {b o : Nat} {c : Array Value} {t : Nat} {fr : Nat × Nat} {vs : List Value} (hh : w.heap[b]? = some (.cells c t fr))
 (hc : ∀ j v, vs[j]? = some v -> c.toList[o + j]? = some v) (ho : ∀ j, j < vs.length -> ¬ O b (o + j)) (h1 : ∀ v ∈ vs, one v = true) : Cells O w b o vs := by
 intro j v hj
 have hlt : j < vs.length := (List.getElem?_eq_some_iff.1 hj).1
 refine ⟨?_, ho j hlt, h1 v (List.mem_of_getElem? hj)⟩
 simp only [World.cell?, hh, Option.isSome_none, Bool.false_eq_true, if_false]
 simpa using hc j v hj
theorem Cells.one {O : Own} {w : World} {b o : Nat} {vs : List Value} (h : Cells O w b o vs) : ∀ v ∈ vs, one v = true := fun v hv => by
 obtain ⟨i, hi⟩ := List.getElem?_of_mem hv
 exact (h i v hi).2.2
theorem own_of_new {C : Ctx} {β : Beta} {env : List AV} {s : Sto} {a : Act} {w : World} (h : St C β env s a w) {id t e n cap : Nat} {c : Array Value} {xs : List D}
 (hpl : PlaceLe (β id) (.tok (.slice (some ⟨w.heap.size, 0, none⟩) n cap) n))
 (hsz : c.size = cap * e) (hn : n <= cap) (hcap : cap < 2 ^ 63) (h1 : ∀ v ∈ c.toList, one v = true) (hx : xs.length = n)
 (hrow : ∀ (O' : Own) (w' : World), (∀ b o v, w.cell? ⟨b, o, none⟩ = some v -> ¬ C.forb β s b o -> w'.cell? ⟨b, o, none⟩ = some v /\ ¬ O' b o) ->
  Cells O' w' w.heap.size 0 (c.toList.take (n * e)) -> D.row O' w' w.heap.size 0 e xs) :
 ∃ β', St C β' env (sset s id (.tok t e n)) a (w.alloc (.cells c t)) /\
  AV.ok β' (C.forb β' (sset s id (.tok t e n))) (w.alloc (.cells c t)) (.own e id xs) (.slice (some ⟨w.heap.size, 0, none⟩) n cap) := by
 obtain ⟨h2, m⟩ := h.fresh (id := id) (ob := .tok t e n) (p := .tok (.slice (some ⟨w.heap.size, 0, none⟩) n cap) n) (c := c) (t := t) hpl
  (fun b o ho => by
   obtain ⟨i, ho⟩ := ho
   by_cases hi : i = id
   ·subst hi
    simp only [sat, if_true, bset] at ho
    obtain ⟨cap', ho, _⟩ := ho
    simp at ho
    exact ho.1.symm
   ·simp [sat, hi] at ho)
  (fun b hb => by
   simp only [blockOf, sat, if_true, bset] at hb
   obtain ⟨cap', hb⟩ := hb
   simp at hb
   exact hb.1.symm)
  (fun β' F _ _ hp => ⟨_, hp, .inr ⟨w.heap.size, cap, c, rfl, heap_alloc_new, hsz, hn, hcap, h1⟩⟩)
 refine ⟨_, h2, ?_⟩
 simp only [AV.ok, D.ok]
 refine ⟨⟨_, cap, by rw [hx], ⟨by omega, hcap⟩, trivial, ?_⟩, _, n, by simp [bset, Place.at], by omega, fun _ => rfl⟩
 right
 refine ⟨w.heap.size, 0, rfl, hrow _ _ m.stays ?_⟩
 refine cells_of_heap heap_alloc_new (fun j v hj => ?_) (fun j hj hf => ?_) (fun v hv => h1 v (List.mem_of_mem_take hv))
 ·rw [List.getElem?_take] at hj
  split at hj
  ·simpa using hj
  ·cases hj
 ·rcases hf with hf | hf
  ·have := (h.inv.low _ _ hf).1
   have := h.inv.size
   omega
  ·rcases own_new hf with hf | hf
   ·have := h.inv.own_lt hf; omega
   ·obtain ⟨i, hf⟩ := hf
    by_cases hi : i = id
    ·subst hi
     simp only [sat, if_true, bset] at hf
     obtain ⟨_, _, hf⟩ := hf
     have : (c.toList.take (n * e)).length <= n * e := List.length_take_le _ _
     omega
    ·simp [sat, hi] at hf
theorem own_of_nil {C : Ctx} {β : Beta} {env : List AV} {s : Sto} {a : Act} {w : World} (h : St C β env s a w) {id : Nat} (t e : Nat) (hd : sat s id = .dead) :
 ∃ β', St C β' env (sset s id (.tok t e 0)) a w /\ AV.ok β' (C.forb β' (sset s id (.tok t e 0))) w (.own e id []) (.slice none 0 0) := by
 have hno : β id = .no := by have := h.inv.obs id; rw [hd] at this; exact this
 have hown : ∀ b o, own (bset β id (.tok (.slice none 0 0) 0)) (sset s id (.tok t e 0)) b o -> own β s b o := by
  intro b o ho
  rcases own_new ho with ho | ho
  ·exact ho
  ·obtain ⟨i, ho⟩ := ho
   by_cases hi : i = id
   ·subst hi; simp [sat, bset] at ho
   ·simp [sat, hi] at ho
 have hblk : ∀ i b, blockOf (bset β id (.tok (.slice none 0 0) 0)) (sset s id (.tok t e 0)) i b -> blockOf β s i b := by
  intro i b hb
  rcases blockOf_new hb with ⟨_, hb⟩ | ⟨_, hb⟩
  ·exact hb
  ·simp [blockOf, sat, bset] at hb
 have m : Moves β s w (bset β id (.tok (.slice none 0 0) 0)) (sset s id (.tok t e 0)) w :=
  ⟨Nat.le_refl _, rfl, fun _ _ _ hc _ => hc, fun _ _ _ => rfl, fun b o ho => .inl (hown b o ho), fun i b hb => .inl ⟨i, hblk i b hb⟩, fun i => by
   by_cases hi : i = id
   ·subst hi; rw [hno]; trivial
   ·simp only [bset, hi, if_false]; exact .refl _⟩
 refine ⟨_, h.move m (fun i => ?_) (fun i j b hi hj => h.inv.inj i j b (hblk i b hi) (hblk j b hj)), ?_⟩
 ·rw [sat_sset]
  by_cases hi : i = id
  ·subst hi
   simp only [if_true]
   exact ⟨.slice none 0 0, by simp [bset], .inl ⟨rfl, rfl⟩⟩
  ·simp only [hi, if_false]
   exact (h.inv.obs i).moves m (by simp [bset, hi]) (fun _ _ => rfl) rfl
 ·simp only [AV.ok, D.ok]
  exact ⟨⟨none, 0, rfl, ⟨Nat.le_refl _, by omega⟩, trivial, .inl trivial⟩, _, 0, by simp [bset, Place.at], Nat.le_refl _, fun _ => rfl⟩
section
variable {P : Program} {C : Ctx} {o : Oper} {env : List AV} {s : Sto} {k : List AV -> Sto -> Prop}
theorem run_firstCells {w : World} {size n len cap : Nat} {a : Option Addr} {vs : List Value} (hl : vs.length = n * size)
 (hc : vs = [] ∨ ∃ b o, a = some ⟨b, o, none⟩ /\ ∀ j v, vs[j]? = some v -> w.cell? ⟨b, o + j, none⟩ = some v) :
 (Builtin.firstCells size n (.slice a len cap)).run P w = .ok vs.toArray w := by
 rcases hc with rfl | ⟨b, off, rfl, hc⟩
 ·cases a with
  | none => simp [Builtin.firstCells]
  | some a => simp [Builtin.firstCells, <- hl, loadCells, loadCellsFrom]
 ·have := run_loadCells_list (P := P) w ⟨b, off, none⟩ vs (fun j v hj => by rw [Addr.add_lit]; exact hc j v hj)
  rw [hl] at this
  simpa [Builtin.firstCells] using this
theorem run_append_room' {w : World} (t u ty e e2 : TypeId) (i : TypeInfo) (ht : P.underlying t = some (.slice e)) (hu : P.underlying u = some (.slice e2)) (hi : P.info? e = some i)
 (g sLen sCap : Nat) (cur : Array Value) (el : Nat) (hg : w.heap[g]? = some (.cells cur el (0, 0)))
 (a : Option Addr) (m c : Nat) (news : List Value) (hl : news.length = m * i.size)
 (hnews : news = [] ∨ ∃ b o, a = some ⟨b, o, none⟩ /\ ∀ j v, news[j]? = some v -> w.cell? ⟨b, o + j, none⟩ = some v) (h1 : ∀ u ∈ news, one u = true)
 (hroom : sLen + m <= sCap) (hfit : sLen * i.size + news.length <= cur.size) :
 (Builtin.append_ #[t, u] ty #[.slice (some ⟨g, 0, none⟩) sLen sCap, .slice a m c]).run P w =
  .ok (.slice (some ⟨g, 0, none⟩) (sLen + m) sCap) (w.setRow g (cur.toList.take (sLen * i.size) ++ news ++ cur.toList.drop (sLen * i.size + news.length)).toArray) := by
 have hf := run_firstCells (P := P) (w := w) (size := i.size) (n := m) (len := m) (cap := c) (a := a) hl hnews
 have hst := run_storeCells_at P g (sLen * i.size) el news 0 cur w hg (by simpa using hfit) (fun v hv => one_oneCell (h1 v hv))
 simp only [Nat.add_zero] at hst
 simp [Builtin.append_, run_underlying ht, run_underlying hu, Go.sizeOf, typeInfo, hi, Builtin.lenOf, hroom, hf, Addr.add_lit, hst]
theorem run_append_grow' {w : World} (t u ty e e2 : TypeId) (i : TypeInfo) (z : Value) (ht : P.underlying t = some (.slice e)) (hu : P.underlying u = some (.slice e2)) (hi : P.info? e = some i) (hz : i.zero = some z)
 (b : Option Addr) (sLen sCap : Nat) (olds : List Value) (hlo : olds.length = sLen * i.size)
 (holds : olds = [] ∨ ∃ b' o, b = some ⟨b', o, none⟩ /\ ∀ j v, olds[j]? = some v -> w.cell? ⟨b', o + j, none⟩ = some v)
 (a : Option Addr) (n c : Nat) (news : List Value) (hl : news.length = n * i.size)
 (hnews : news = [] ∨ ∃ b o, a = some ⟨b, o, none⟩ /\ ∀ j v, news[j]? = some v -> w.cell? ⟨b, o + j, none⟩ = some v)
 (hg : sCap < sLen + n) (h63 : ((sLen + n : Nat) : Int) <= 9223372036854775807) (hfit : Builtin.nextslicecap (sLen + n) sCap * i.bytes <= 281474976710656) :
 (Builtin.append_ #[t, u] ty #[.slice b sLen sCap, .slice a n c]).run P w =
  .ok (.slice (some ⟨w.heap.size, 0, none⟩) (sLen + n) (grownCap w (sLen + n) sCap e))
   (w.drew.alloc (.cells (olds.toArray ++ news.toArray ++ Builtin.zeroCells z.cells (grownCap w (sLen + n) sCap e - (sLen + n))) e)) := by
 have hn : ¬ (sLen + n <= sCap) := by omega
 have h63' : ¬ (9223372036854775807 < ((sLen : Int) + (n : Int))) := by omega
 have h48' : ¬ (281474976710656 < Builtin.nextslicecap (sLen + n) sCap * i.bytes) := by omega
 have hf := run_firstCells (P := P) (w := w.drew) (size := i.size) (n := n) (len := n) (cap := c) (a := a) hl (by simpa using hnews)
 have hfo := run_firstCells (P := P) (w := w.drew) (size := i.size) (n := sLen) (len := sLen) (cap := sCap) (a := b) hlo (by simpa using holds)
 simp [Builtin.append_, run_underlying ht, run_underlying hu, Go.sizeOf, typeInfo, zeroValue, hi, hz, Builtin.lenOf, hn, h63', h48', Question.forced, hf, hfo, newRow, grownCap]
 congr 2
 apply Array.ext'
 simp [List.append_assoc]
theorem zeroCells_one {z : Array Value} (h : ∀ v ∈ z.toList, one v = true) (n : Nat) : ∀ v ∈ (Builtin.zeroCells z n).toList, one v = true := by
 intro v hv
 simp only [Builtin.zeroCells] at hv
 simp at hv
 obtain ⟨i, hi, rfl⟩ := hv
 by_cases hz : z.size = 0
 ·simp [hz] at hi
 ·have hlt : i % z.size < z.size := Nat.mod_lt _ (by omega)
  rw [getElem!_pos z _ hlt]
  exact h _ (Array.getElem_mem_toList hlt)
theorem take_of_append {α : Type} (xs ys : List α) (n : Nat) (h : xs.length = n) : (xs ++ ys).take n = xs := by
 subst h; simp
theorem slK_cells {β : Beta} {w : World} {y : AV} {v : Value} {e2 e : Nat} {ys : List D} (hy : AV.ok β (C.forb β s) w y v) (hs : slK y = some (e2, ys)) (he : ys = [] ∨ e2 = e) :
 ∃ a cap news, v = .slice a ys.length cap /\ news.length = ys.length * e /\ (∀ u ∈ news, one u = true) /\
  (news = [] ∨ ∃ b o, a = some ⟨b, o, none⟩ /\ Cells (C.forb β s) w b o news) /\
  ∀ (O' : Own) (w' : World) (b' o' : Nat), (∀ b o v, w.cell? ⟨b, o, none⟩ = some v -> ¬ C.forb β s b o -> w'.cell? ⟨b, o, none⟩ = some v /\ ¬ O' b o) ->
   Cells O' w' b' o' news -> D.row O' w' b' o' e ys := by
 obtain ⟨a, cap, h1, _, _, h4⟩ := slK_ok hy hs
 rcases h4 with rfl | ⟨b, off, rfl, h4⟩
 ·exact ⟨a, cap, [], h1, by simp, by simp, .inl rfl, fun _ _ _ _ _ _ => by simp [D.row]⟩
 ·rcases he with rfl | rfl
  ·exact ⟨_, cap, [], h1, by simp, by simp, .inl rfl, fun _ _ _ _ _ _ => by simp [D.row]⟩
  ·obtain ⟨vs, k1, k2, k3⟩ := row_copy h4
   exact ⟨_, cap, vs, h1, k1, k2.one, .inr ⟨b, off, rfl, k2⟩, k3⟩
end
theorem doks_of {β β' : Beta} {O F : Own} {w w' : World} (h : ∀ x v, AV.ok β O w x v -> AV.ok β' F w' x v) {ds : List D} {vs : List Value} (k : D.oks O w ds vs) : D.oks F w' ds vs := by
 rw [D.oks_iff] at k ⊢
 exact ⟨k.1, fun i x v hx hv => ⟨(k.2 i x v hx hv).1, by have := h (.d x) v (by simpa [AV.ok] using (k.2 i x v hx hv).2); simpa [AV.ok] using this⟩⟩
theorem doks_append {O : Own} {w : World} {xs ys : List D} {vs us : List Value} (h : D.oks O w xs vs) (k : D.oks O w ys us) : D.oks O w (xs ++ ys) (vs ++ us) := by
 induction xs generalizing vs with
 | nil => simp only [D.oks] at h; subst h; simpa using k
 | cons x xs ih =>
  simp only [D.oks] at h
  obtain ⟨v, r, rfl, h0, h1, h2⟩ := h
  simp only [List.cons_append, D.oks]
  exact ⟨v, r ++ us, rfl, h0, h1, ih h2⟩
theorem row_flat {O : Own} {w : World} {b e : Nat} : ∀ {xs : List D} {o : Nat}, D.row O w b o e xs ->
 ∃ vs, vs.length = xs.length * e /\ Cells O w b o vs /\ D.oks O w (xs.flatMap dcells) vs
 | [], o => fun _ => ⟨[], by simp, fun j v hj => by simp at hj, by simp [D.oks]⟩
 | x :: xs, o => fun h => by
  rw [D.row_cons] at h
  obtain ⟨⟨us, h1, h2, h3⟩, h4⟩ := h
  obtain ⟨vs, k1, k2, k3⟩ := row_flat h4
  refine ⟨us ++ vs, by simp [h1, k1, Nat.add_mul]; omega, h2.append (by rw [h1]; exact k2), ?_⟩
  rw [List.flatMap_cons]
  exact doks_append (cel_oks h3 h2) k3
theorem slK_flat {β : Beta} {O : Own} {w : World} {y : AV} {v : Value} {e2 e : Nat} {ys : List D} (hy : AV.ok β O w y v) (hs : slK y = some (e2, ys)) (he : ys = [] ∨ e2 = e) :
 ∃ a cap news, v = .slice a ys.length cap /\ news.length = ys.length * e /\ (∀ u ∈ news, one u = true) /\
  (news = [] ∨ ∃ b o, a = some ⟨b, o, none⟩ /\ Cells O w b o news) /\ D.oks O w (ys.flatMap dcells) news := by
 obtain ⟨a, cap, h1, _, _, h4⟩ := slK_ok hy hs
 rcases h4 with rfl | ⟨b, off, rfl, h4⟩
 ·exact ⟨a, cap, [], h1, by simp, by simp, .inl rfl, by simp [D.oks]⟩
 ·rcases he with rfl | rfl
  ·exact ⟨_, cap, [], h1, by simp, by simp, .inl rfl, by simp [D.oks]⟩
  ·obtain ⟨vs, k1, k2, k3⟩ := row_flat h4
   exact ⟨_, cap, vs, h1, k1, k2.one, .inr ⟨b, off, rfl, k2⟩, k3⟩
theorem St.same {C : Ctx} {β : Beta} {env : List AV} {s s' : Sto} {a : Act} {w : World} (hst : St C β env s a w) (hsame : ∀ q, sat s' q = sat s q) : St C β env s' a w := by
 have hown : ∀ b o, own β s' b o ↔ own β s b o := by intro b o; unfold own; simp only [hsame]
 have hblk : ∀ q b, blockOf β s' q b ↔ blockOf β s q b := by intro q b; unfold blockOf; simp only [hsame]
 have m : Moves β s w β s' w :=
  ⟨Nat.le_refl _, rfl, fun _ _ _ h _ => h, fun _ _ _ => rfl, fun b o h => .inl ((hown b o).1 h), fun q b h => .inl ⟨q, (hblk q b).1 h⟩, fun _ => .refl _⟩
 exact hst.move m (fun q => by rw [hsame]; exact (hst.inv.obs q).moves m rfl (fun _ _ => rfl) rfl) (fun p q b hp hq => hst.inv.inj p q b ((hblk p b).1 hp) ((hblk q b).1 hq))
theorem gro_of_new {C : Ctx} {β : Beta} {env : List AV} {s : Sto} {a : Act} {w : World} (h : St C β env s a w) {id t e n cap : Nat} {c : Array Value} {cs : List D} {pre rest : List Value}
 (hpl : PlaceLe (β id) (.tok (.slice (some ⟨w.heap.size, 0, none⟩) n cap) n))
 (hsz : c.size = cap * e) (hn : n <= cap) (hcap : cap < 2 ^ 63) (h1 : ∀ v ∈ c.toList, one v = true) (hl : cs.length = n * e)
 (hc : c.toList = pre ++ rest) (hcs : D.oks (C.forb β s) w cs pre) :
 ∃ β', St C β' env (sset s id (.gro t e n cs)) a (w.alloc (.cells c t)) /\
  AV.ok β' (C.forb β' (sset s id (.gro t e n cs))) (w.alloc (.cells c t)) (.gow e id n) (.slice (some ⟨w.heap.size, 0, none⟩) n cap) := by
 obtain ⟨h2, m⟩ := h.fresh (id := id) (ob := .gro t e n cs) (p := .tok (.slice (some ⟨w.heap.size, 0, none⟩) n cap) n) (c := c) (t := t) hpl
  (fun b o ho => by
   obtain ⟨i, ho⟩ := ho
   by_cases hi : i = id
   ·subst hi
    simp only [sat, if_true, bset] at ho
    obtain ⟨cap', ho⟩ := ho
    simp at ho
    exact ho.1.symm
   ·simp [sat, hi] at ho)
  (fun b hb => by
   simp only [blockOf, sat, if_true, bset] at hb
   obtain ⟨cap', hb⟩ := hb
   simp at hb
   exact hb.1.symm)
  (fun β' F hx _ hp => ⟨_, hp, hl, .inr ⟨w.heap.size, cap, c, rfl, heap_alloc_new, hsz, hn, hcap, h1, pre, rest, hc, doks_of hx hcs⟩⟩)
 refine ⟨_, h2, ?_⟩
 simp only [AV.ok]
 exact ⟨_, n, by simp [bset, Place.at], Nat.le_refl _, fun _ => rfl, .inr ⟨_, cap, rfl, hn, hcap⟩⟩
theorem gro_turn {C : Ctx} {β : Beta} {env : List AV} {s : Sto} {a : Act} {w : World} (h : St C β env s a w) {id g t e n n' cap : Nat} {cs cs' : List D} {vs vs' : Array Value} {pre rest : List Value}
 (hs : sat s id = .gro t e n cs) (hb : β id = .tok (.slice (some ⟨g, 0, none⟩) n cap) n) (hh : w.heap[g]? = some (.cells vs t (0, 0)))
 (hnn : n <= n') (hsz : vs'.size = cap * e) (hn : n' <= cap) (hcap : cap < 2 ^ 63) (h1 : ∀ v ∈ vs'.toList, one v = true) (hl : cs'.length = n' * e)
 (hc : vs'.toList = pre ++ rest) (hcs : D.oks (C.forb β s) w cs' pre) :
 ∃ β', St C β' env (sset s id (.gro t e n' cs')) a (w.setRow g vs') /\
  AV.ok β' (C.forb β' (sset s id (.gro t e n' cs'))) (w.setRow g vs') (.gow e id n') (.slice (some ⟨g, 0, none⟩) n' cap) := by
 have hbl : blockOf β s id g := by unfold blockOf; rw [hs]; exact ⟨cap, hb⟩
 obtain ⟨hst', m⟩ := h.turn (id := id) (b := g) (ob := .gro t e n' cs') (p := .tok (.slice (some ⟨g, 0, none⟩) n' cap) n') (w' := w.setRow g vs') hbl (by simp) (by simp [wio])
  (fun b' hb' => setRow_other w g b' vs' (fun e => hb' e))
  (fun o v _ hn => absurd ⟨id, by rw [hs]; exact ⟨cap, hb⟩⟩ hn)
  (fun b' o ho => by
   obtain ⟨i, ho⟩ := ho
   by_cases hi : i = id
   ·subst hi
    simp only [sat, if_true, bset] at ho
    obtain ⟨cap', ho⟩ := ho
    simp at ho
    obtain ⟨rfl, _⟩ := ho
    exact ⟨i, by rw [hs]; exact ⟨cap, hb⟩⟩
   ·simp [sat, hi] at ho)
  (fun b' hb' => by
   simp only [blockOf, sat, if_true, bset] at hb'
   obtain ⟨_, hb'⟩ := hb'
   simp at hb'
   exact hb'.1.symm)
  (by rw [hb]; exact ⟨_, _, rfl, hnn, fun e => by subst e; rfl⟩)
  (fun β' F hx _ hp => ⟨_, hp, hl, .inr ⟨g, cap, vs', rfl, setRow_heap w g vs vs' t (0, 0) hh, hsz, hn, hcap, h1, pre, rest, hc, doks_of hx hcs⟩⟩)
 refine ⟨_, hst', ?_⟩
 simp only [AV.ok]
 exact ⟨_, n', by simp [bset, Place.at], Nat.le_refl _, fun _ => rfl, .inr ⟨_, cap, rfl, hn, hcap⟩⟩
theorem gro_of_nil {C : Ctx} {β : Beta} {env : List AV} {s : Sto} {a : Act} {w : World} (h : St C β env s a w) {id : Nat} (t e : Nat) (hd : sat s id = .dead) :
 ∃ β', St C β' env (sset s id (.gro t e 0 [])) a w /\ AV.ok β' (C.forb β' (sset s id (.gro t e 0 []))) w (.gow e id 0) (.slice none 0 0) := by
 have hno : β id = .no := by have := h.inv.obs id; rw [hd] at this; exact this
 have hown : ∀ b o, own (bset β id (.tok (.slice none 0 0) 0)) (sset s id (.gro t e 0 [])) b o -> own β s b o := by
  intro b o ho
  rcases own_new ho with ho | ho
  ·exact ho
  ·obtain ⟨i, ho⟩ := ho
   by_cases hi : i = id
   ·subst hi; simp [sat, bset] at ho
   ·simp [sat, hi] at ho
 have hblk : ∀ i b, blockOf (bset β id (.tok (.slice none 0 0) 0)) (sset s id (.gro t e 0 [])) i b -> blockOf β s i b := by
  intro i b hb
  rcases blockOf_new hb with ⟨_, hb⟩ | ⟨_, hb⟩
  ·exact hb
  ·simp [blockOf, sat, bset] at hb
 have m : Moves β s w (bset β id (.tok (.slice none 0 0) 0)) (sset s id (.gro t e 0 [])) w :=
  ⟨Nat.le_refl _, rfl, fun _ _ _ hc _ => hc, fun _ _ _ => rfl, fun b o ho => .inl (hown b o ho), fun i b hb => .inl ⟨i, hblk i b hb⟩, fun i => by
   by_cases hi : i = id
   ·subst hi; rw [hno]; trivial
   ·simp only [bset, hi, if_false]; exact .refl _⟩
 refine ⟨_, h.move m (fun i => ?_) (fun i j b hi hj => h.inv.inj i j b (hblk i b hi) (hblk j b hj)), ?_⟩
 ·rw [sat_sset]
  by_cases hi : i = id
  ·subst hi
   simp only [if_true]
   exact ⟨.slice none 0 0, by simp [bset], by simp, .inl ⟨rfl, rfl⟩⟩
  ·simp only [hi, if_false]
   exact (h.inv.obs i).moves m (by simp [bset, hi]) (fun _ _ => rfl) rfl
 ·simp only [AV.ok]
  exact ⟨_, 0, by simp [bset, Place.at], Nat.le_refl _, fun _ => rfl, .inl ⟨none, rfl, trivial⟩⟩
theorem gow_spec {C : Ctx} {β : Beta} {env : List AV} {s : Sto} {a : Act} {w : World} (h : St C β env s a w) {id t e e' n : Nat} {cs : List D} {v : Value}
 (hs : sat s id = .gro t e n cs) (hv : AV.ok β (C.forb β s) w (.gow e' id n) v) :
 β id = .tok v n /\ cs.length = n * e /\ GroOk (C.forb β s) w t e n v cs := by
 have ho := h.inv.obs id
 rw [hs] at ho
 obtain ⟨u, h1, h2, h3⟩ := ho
 simp only [AV.ok] at hv
 obtain ⟨u', m, k1, k2, k3, k4⟩ := hv
 rw [h1] at k1
 obtain ⟨rfl, rfl⟩ := k1
 have := k3 rfl
 subst this
 exact ⟨h1, h2, h3⟩
section
variable {P : Program} {C : Ctx} {o : Oper} {env : List AV} {s : Sto} {k : List AV -> Sto -> Prop}
theorem run_append_zero' {w : World} (t u ty e e2 : TypeId) (i : TypeInfo) (ht : P.underlying t = some (.slice e)) (hu : P.underlying u = some (.slice e2)) (hi : P.info? e = some i)
 (ad : Option Addr) (c : Nat) : (Builtin.append_ #[t, u] ty #[.slice none 0 0, .slice ad 0 c]).run P w = .ok (.slice none 0 0) w := by
 have hf := run_firstCells (P := P) (w := w) (size := i.size) (n := 0) (len := 0) (cap := c) (a := ad) (vs := []) (by simp) (.inl rfl)
 simp [Builtin.append_, run_underlying ht, run_underlying hu, Go.sizeOf, typeInfo, hi, Builtin.lenOf, hf]
theorem gro_grow {β : Beta} {a : Act} {w : World} (hst : St C β env s a w) {t u ty e e2 sz by' : Nat} {i : TypeInfo} {z : Value}
 (ht : P.underlying t = some (.slice e)) (hu : P.underlying u = some (.slice e2)) (hi : P.info? e = some i) (hz : i.zero = some z) (hsz : i.size = sz) (hb : i.bytes = by') (hb0 : 0 < by')
 (hz1 : z.cells.size = i.size) (hz2 : ∀ v ∈ z.cells.toList, one v = true)
 {base : Option Addr} {sLen sCap : Nat} {cs : List D} {olds : List Value} (hlo : olds.length = sLen * sz) (hlo1 : ∀ v ∈ olds, one v = true)
 (holds : olds = [] ∨ ∃ b' o, base = some ⟨b', o, none⟩ /\ ∀ j v, olds[j]? = some v -> w.cell? ⟨b', o + j, none⟩ = some v)
 (hcs : D.oks (C.forb β s) w cs olds)
 {ad : Option Addr} {c m : Nat} {ys : List D} {news : List Value} (hln : news.length = m * sz) (hln1 : ∀ v ∈ news, one v = true)
 (hnews : news = [] ∨ ∃ b o, ad = some ⟨b, o, none⟩ /\ Cells (C.forb β s) w b o news)
 (hys : D.oks (C.forb β s) w ys news)
 (hg : sCap < sLen + m) (hbd : (sLen + m) * by' <= 2 ^ 47) {id : Nat} (hpl : PlaceLe (β id) (.tok (.slice (some ⟨w.heap.size, 0, none⟩) (sLen + m) (grownCap w (sLen + m) sCap e)) (sLen + m))) :
 ∃ v w' β', (Builtin.append_ #[t, u] ty #[.slice base sLen sCap, .slice ad m c]).run P w = .ok v w' /\
  St C β' env (sset s id (.gro e sz (sLen + m) (cs ++ ys))) a w' /\ AV.ok β' (C.forb β' (sset s id (.gro e sz (sLen + m) (cs ++ ys)))) w' (.gow sz id (sLen + m)) v := by
 have hneed : sLen + m <= 2 ^ 47 := Nat.le_trans (Nat.le_mul_of_pos_right _ hb0) hbd
 have hrun := run_append_grow' (P := P) (w := w) t u ty e e2 i z ht hu hi hz base sLen sCap olds (by rw [hsz]; exact hlo) holds ad m c news (by rw [hsz]; exact hln)
  (hnews.imp (fun x => x) fun ⟨b', o', h1, h2⟩ => ⟨b', o', h1, fun j v hj => (h2 j v hj).1⟩) hg (by omega) (by rw [hb]; exact growslice_fits hg (by simpa using hbd))
 have hcap1 := grownCap_ge w (sLen + m) sCap e
 have hcap2 := grownCap_le_maxLen w (sLen + m) sCap e (by unfold Go.maxLen; omega)
 have hcell : (olds.toArray ++ news.toArray ++ Builtin.zeroCells z.cells (grownCap w (sLen + m) sCap e - (sLen + m))).toList = olds ++ news ++ (Builtin.zeroCells z.cells (grownCap w (sLen + m) sCap e - (sLen + m))).toList := by simp
 have hst' : St C β env s a w.drew := hst.drew
 have hoks := doks_append hcs hys
 have hlen := D.oks_length hoks
 have hoks' : D.oks (C.forb β s) w.drew (cs ++ ys) (olds ++ news) := D.oks_mono (O := C.forb β s) (w := w) (w' := w.drew) (fun _ _ _ hc hn => ⟨hc, hn⟩) _ _ hoks
 obtain ⟨β', h1, h2⟩ := gro_of_new hst' (id := id) (t := e) (e := sz) (n := sLen + m) (cap := grownCap w (sLen + m) sCap e) (cs := cs ++ ys)
  (c := olds.toArray ++ news.toArray ++ Builtin.zeroCells z.cells (grownCap w (sLen + m) sCap e - (sLen + m))) (pre := olds ++ news) hpl
  (by
   rw [Array.size_append, Array.size_append, size_zeroCells, hz1, hsz]
   simp only [List.size_toArray, hlo, hln]
   rw [<- Nat.add_mul, <- Nat.add_mul]
   congr 1
   omega)
  hcap1 (by unfold Go.maxLen at hcap2; omega)
  (fun v hv => by
   rw [hcell] at hv
   simp only [List.mem_append] at hv
   rcases hv with (hv | hv) | hv
   ·exact hlo1 v hv
   ·exact hln1 v hv
   ·exact zeroCells_one hz2 _ v hv)
  (by rw [<- hlen, List.length_append, hlo, hln, Nat.add_mul]) hcell
  hoks'
 exact ⟨_, _, β', hrun, h1, h2⟩
theorem app_gro {β : Beta} {a : Act} {w : World} (hst : St C β env s a w) {t u ty e e2 sz by' : Nat} {i : TypeInfo} {z : Value}
 (ht : P.underlying t = some (.slice e)) (hu : P.underlying u = some (.slice e2)) (hi : P.info? e = some i) (hz : i.zero = some z) (hsz : i.size = sz) (hb : i.bytes = by') (hb0 : 0 < by')
 (hz1 : z.cells.size = i.size) (hz2 : ∀ v ∈ z.cells.toList, one v = true)
 {j n : Nat} {cs : List D} (hsj : sat s j = .gro e sz n cs) {v : Value} (hx : AV.ok β (C.forb β s) w (.gow sz j n) v)
 {ad : Option Addr} {c m : Nat} {ys : List D} {news : List Value} (hln : news.length = m * sz) (hln1 : ∀ v ∈ news, one v = true)
 (hnews : news = [] ∨ ∃ b o, ad = some ⟨b, o, none⟩ /\ Cells (C.forb β s) w b o news)
 (hys : D.oks (C.forb β s) w ys news) (hbd : (n + m) * by' <= 2 ^ 47) :
 ∃ v' w' β', (Builtin.append_ #[t, u] ty #[v, .slice ad m c]).run P w = .ok v' w' /\
  St C β' env (sset s j (.gro e sz (n + m) (cs ++ ys))) a w' /\ AV.ok β' (C.forb β' (sset s j (.gro e sz (n + m) (cs ++ ys)))) w' (.gow sz j (n + m)) v' := by
 obtain ⟨hbj, hcl, hg⟩ := gow_spec hst hsj hx
 rcases hg with ⟨rfl, rfl⟩ | ⟨g, cap, vs, rfl, hh, h3, h4, h5, h6, pre, rest, h7, h8⟩
 ·have hc0 : cs = [] := List.length_eq_zero_iff.1 (by simpa using hcl)
  subst hc0
  by_cases hm : m = 0
  ·subst hm
   have hn0 : news = [] := List.length_eq_zero_iff.1 (by simpa using hln)
   subst hn0
   simp only [D.oks_iff] at hys
   have hy0 : ys = [] := List.length_eq_zero_iff.1 (by simpa using hys.1.symm)
   subst hy0
   have hsame : ∀ q, sat (sset s j (.gro e sz (0 + 0) (([] : List D) ++ []))) q = sat s q := by
    intro q; rw [sat_sset]; split
    ·rename_i hq; subst hq; rw [hsj]; simp
    ·rfl
   refine ⟨_, w, β, run_append_zero' (P := P) (w := w) t u ty e e2 i ht hu hi ad c, hst.same hsame, ?_⟩
   simp only [AV.ok] at hx ⊢
   exact hx
  ·obtain ⟨v', w', β', h1, h2, h3⟩ := gro_grow (P := P) hst (ty := ty) ht hu hi hz hsz hb hb0 hz1 hz2 (base := none) (sLen := 0) (sCap := 0) (cs := []) (olds := []) (by simp) (by simp) (.inl rfl) (by simp [D.oks])
    hln hln1 hnews hys (c := c) (by omega) hbd (id := j) (by rw [hbj]; exact ⟨_, _, rfl, by omega, fun h => by omega⟩)
   exact ⟨v', w', β', h1, h2, h3⟩
 ·have hpl := D.oks_length h8
  by_cases hroom : n + m <= cap
  ·have hfit : n * sz + news.length <= vs.size := by
    rw [h3, hln, <- Nat.add_mul]
    exact Nat.mul_le_mul_right _ hroom
   have hrun := run_append_room' (P := P) (w := w) t u ty e e2 i ht hu hi g n cap vs e hh ad m c news (by rw [hsz]; exact hln)
    (hnews.imp (fun x => x) fun ⟨b', o', q1, q2⟩ => ⟨b', o', q1, fun j v hj => (q2 j v hj).1⟩) hln1 hroom (by rw [hsz]; exact hfit)
   rw [hsz] at hrun
   have htk : vs.toList.take (n * sz) = pre := by rw [h7]; exact take_of_append _ _ _ (by rw [hpl, hcl])
   have hoks := doks_append h8 hys
   have hlen := D.oks_length hoks
   obtain ⟨β', h9, h10⟩ := gro_turn hst (n' := n + m) (cs' := cs ++ ys) (vs' := (vs.toList.take (n * sz) ++ news ++ vs.toList.drop (n * sz + news.length)).toArray) (pre := pre ++ news) (rest := vs.toList.drop (n * sz + news.length))
    hsj hbj hh (by omega)
    (by simp only [List.size_toArray, List.length_append, List.length_take, List.length_drop, Array.length_toList]; omega)
    hroom h5
    (fun v hv => by
     simp only [List.mem_append] at hv
     rcases hv with (hv | hv) | hv
     ·exact h6 v (List.mem_of_mem_take hv)
     ·exact hln1 v hv
     ·exact h6 v (List.mem_of_mem_drop hv))
    (by rw [List.length_append, hcl, <- D.oks_length hys, hln, Nat.add_mul])
    (by simp only [htk]) hoks
   exact ⟨_, _, β', hrun, h9, h10⟩
  ·have hone : ∀ v ∈ pre, one v = true := fun v hv => h6 v (by rw [h7]; exact List.mem_append_left _ hv)
   obtain ⟨v', w', β', q1, q2, q3⟩ := gro_grow (P := P) hst (ty := ty) ht hu hi hz hsz hb hb0 hz1 hz2 (base := some ⟨g, 0, none⟩) (sLen := n) (sCap := cap) (cs := cs) (olds := pre) (by rw [hpl, hcl]) hone
    (.inr ⟨g, 0, rfl, fun q v hq => by
     simp only [World.cell?, hh, Option.isSome_none, Bool.false_eq_true, if_false, Nat.zero_add]
     have hlt : q < pre.length := (List.getElem?_eq_some_iff.1 hq).1
     have : vs.toList[q]? = some v := by rw [h7, List.getElem?_append_left hlt]; exact hq
     simpa using this⟩) h8
    hln hln1 hnews hys (c := c) (by omega) hbd (id := j) (by rw [hbj]; exact ⟨_, _, rfl, by omega, fun h => by omega⟩)
   exact ⟨v', w', β', q1, q2, q3⟩
end
section
variable {P : Program} {C : Ctx} {o : Oper} {env : List AV} {s : Sto} {k : List AV -> Sto -> Prop}
theorem app_grow {β : Beta} {a : Act} {w : World} (hst : St C β env s a w) {t u ty e e2 sz by' : Nat} {i : TypeInfo} {z : Value}
 (ht : P.underlying t = some (.slice e)) (hu : P.underlying u = some (.slice e2)) (hi : P.info? e = some i) (hz : i.zero = some z) (hsz : i.size = sz) (hb : i.bytes = by') (hb0 : 0 < by')
 (hz1 : z.cells.size = i.size) (hz2 : ∀ v ∈ z.cells.toList, one v = true)
 {base : Option Addr} {sLen sCap : Nat} {xs : List D} (hxl : xs.length = sLen) {olds : List Value} (hlo : olds.length = sLen * sz) (hlo1 : ∀ v ∈ olds, one v = true)
 (holds : olds = [] ∨ ∃ b' o, base = some ⟨b', o, none⟩ /\ Cells (C.forb β s) w b' o olds)
 (hrowX : ∀ (O' : Own) (w' : World) (b' o' : Nat), (∀ b o v, w.cell? ⟨b, o, none⟩ = some v -> ¬ C.forb β s b o -> w'.cell? ⟨b, o, none⟩ = some v /\ ¬ O' b o) ->
  Cells O' w' b' o' olds -> D.row O' w' b' o' sz xs)
 {ad : Option Addr} {c : Nat} {ys : List D} {news : List Value} (hln : news.length = ys.length * sz) (hln1 : ∀ v ∈ news, one v = true)
 (hnews : news = [] ∨ ∃ b o, ad = some ⟨b, o, none⟩ /\ Cells (C.forb β s) w b o news)
 (hrowY : ∀ (O' : Own) (w' : World) (b' o' : Nat), (∀ b o v, w.cell? ⟨b, o, none⟩ = some v -> ¬ C.forb β s b o -> w'.cell? ⟨b, o, none⟩ = some v /\ ¬ O' b o) ->
  Cells O' w' b' o' news -> D.row O' w' b' o' sz ys)
 (hg : sCap < sLen + ys.length) (hbd : (sLen + ys.length) * by' <= 2 ^ 47) {id : Nat} (hpl : PlaceLe (β id) (.tok (.slice (some ⟨w.heap.size, 0, none⟩) (sLen + ys.length) (grownCap w (sLen + ys.length) sCap e)) (sLen + ys.length))) :
 ∃ v w' β', (Builtin.append_ #[t, u] ty #[.slice base sLen sCap, .slice ad ys.length c]).run P w = .ok v w' /\
  St C β' env (sset s id (.tok e sz (sLen + ys.length))) a w' /\ AV.ok β' (C.forb β' (sset s id (.tok e sz (sLen + ys.length)))) w' (.own sz id (xs ++ ys)) v := by
 have hneed : sLen + ys.length <= 2 ^ 47 := Nat.le_trans (Nat.le_mul_of_pos_right _ hb0) hbd
 have hrun := run_append_grow' (P := P) (w := w) t u ty e e2 i z ht hu hi hz base sLen sCap olds (by rw [hsz]; exact hlo)
  (holds.imp (fun x => x) fun ⟨b', o', h1, h2⟩ => ⟨b', o', h1, fun j v hj => (h2 j v hj).1⟩) ad ys.length c news (by rw [hsz]; exact hln)
  (hnews.imp (fun x => x) fun ⟨b', o', h1, h2⟩ => ⟨b', o', h1, fun j v hj => (h2 j v hj).1⟩) hg (by omega) (by rw [hb]; exact growslice_fits hg (by simpa using hbd))
 have hcap1 := grownCap_ge w (sLen + ys.length) sCap e
 have hcap2 := grownCap_le_maxLen w (sLen + ys.length) sCap e (by unfold Go.maxLen; omega)
 have hcell : (olds.toArray ++ news.toArray ++ Builtin.zeroCells z.cells (grownCap w (sLen + ys.length) sCap e - (sLen + ys.length))).toList = olds ++ news ++ (Builtin.zeroCells z.cells (grownCap w (sLen + ys.length) sCap e - (sLen + ys.length))).toList := by simp
 have hlen : (olds ++ news).length = (sLen + ys.length) * sz := by rw [List.length_append, hlo, hln, Nat.add_mul]
 have hst' : St C β env s a w.drew := hst.drew
 obtain ⟨β', h1, h2⟩ := own_of_new hst' (id := id) (t := e) (e := sz) (n := sLen + ys.length) (cap := grownCap w (sLen + ys.length) sCap e)
  (c := olds.toArray ++ news.toArray ++ Builtin.zeroCells z.cells (grownCap w (sLen + ys.length) sCap e - (sLen + ys.length))) (xs := xs ++ ys) hpl
  (by
   rw [Array.size_append, Array.size_append, size_zeroCells, hz1, hsz]
   simp only [List.size_toArray, hlo, hln]
   rw [<- Nat.add_mul, <- Nat.add_mul]
   congr 1
   omega)
  hcap1 (by unfold Go.maxLen at hcap2; omega)
  (fun v hv => by
   rw [hcell] at hv
   simp only [List.mem_append] at hv
   rcases hv with (hv | hv) | hv
   ·exact hlo1 v hv
   ·exact hln1 v hv
   ·exact zeroCells_one hz2 _ v hv)
  (by simp [hxl])
  (fun O' w' hm hc => by
   rw [hcell, take_of_append _ _ _ hlen] at hc
   refine row_append (hrowX O' w' _ 0 hm fun j v hj => ?_) (hrowY O' w' _ _ hm fun j v hj => ?_)
   ·have hlt : j < olds.length := (List.getElem?_eq_some_iff.1 hj).1
    exact hc j v (by rw [List.getElem?_append_left hlt]; exact hj)
   ·have := hc (olds.length + j) v (by rw [List.getElem?_append_right (by omega)]; simpa using hj)
    rw [hlo] at this
    rw [hxl]
    simpa [Nat.add_assoc] using this)
 exact ⟨_, _, β', hrun, h1, h2⟩
theorem data_of_new {C : Ctx} {β : Beta} {env : List AV} {s : Sto} {a : Act} {w : World} (h : St C β env s a w) {t e n cap : Nat} {c : Array Value} {xs : List D}
 (hn : n <= cap) (hcap : cap < 2 ^ 63) (h1 : ∀ v ∈ c.toList, one v = true) (hx : xs.length = n)
 (hrow : ∀ (O' : Own) (w' : World), (∀ b o v, w.cell? ⟨b, o, none⟩ = some v -> ¬ C.forb β s b o -> w'.cell? ⟨b, o, none⟩ = some v /\ ¬ O' b o) ->
  Cells O' w' w.heap.size 0 (c.toList.take (n * e)) -> D.row O' w' w.heap.size 0 e xs) :
 St C β env s a (w.alloc (.cells c t)) /\ D.ok (C.forb β s) (w.alloc (.cells c t)) (.sl e none xs) (.slice (some ⟨w.heap.size, 0, none⟩) n cap) := by
 have hold : ∀ b, b < w.heap.size -> (w.alloc (.cells c t)).heap[b]? = w.heap[b]? := fun b hb => Go.RowKit.Below.heap_alloc w _ b hb
 have hnew : (w.alloc (.cells c t)).heap[w.heap.size]? = some (.cells c t (0, 0)) := World.alloc_heap_new w _
 have hnf : ∀ o, ¬ C.forb β s w.heap.size o := fun o hf => by
  rcases hf with hf | hf
  ·have := (h.inv.low _ _ hf).1; have := h.inv.size; omega
  ·have := h.inv.own_lt hf; omega
 refine ⟨h.grow (by simp) rfl hold, ?_⟩
 simp only [D.ok]
 refine ⟨some ⟨w.heap.size, 0, none⟩, cap, by rw [hx], by rw [hx]; exact ⟨hn, hcap⟩, trivial, .inr ⟨w.heap.size, 0, rfl, hrow _ _ (fun b o v hc hn => ⟨?_, hn⟩) fun j v hj => ?_⟩⟩
 ·rw [<- hc]; exact World.cell?_of_block (hold b (cell_lt hc))
 ·have hj' : c.toList[j]? = some v := by
   have hlt := (List.getElem?_eq_some_iff.1 hj).1
   rw [List.getElem?_take] at hj
   split at hj
   ·exact hj
   ·cases hj
  refine ⟨?_, hnf _, h1 v (List.mem_of_getElem? hj')⟩
  simp only [World.cell?, hnew, Option.isSome_none, Bool.false_eq_true, if_false, Nat.zero_add]
  simpa using hj'
theorem app_data {β : Beta} {a : Act} {w : World} (hst : St C β env s a w) {t u ty e e2 sz by' : Nat} {i : TypeInfo} {z : Value}
 (ht : P.underlying t = some (.slice e)) (hu : P.underlying u = some (.slice e2)) (hi : P.info? e = some i) (hz : i.zero = some z) (hsz : i.size = sz) (hb : i.bytes = by') (hb0 : 0 < by')
 (hz2 : ∀ v ∈ z.cells.toList, one v = true)
 {base : Option Addr} {sLen sCap : Nat} {xs : List D} (hxl : xs.length = sLen) {olds : List Value} (hlo : olds.length = sLen * sz) (hlo1 : ∀ v ∈ olds, one v = true)
 (holds : olds = [] ∨ ∃ b' o, base = some ⟨b', o, none⟩ /\ Cells (C.forb β s) w b' o olds)
 (hrowX : ∀ (O' : Own) (w' : World) (b' o' : Nat), (∀ b o v, w.cell? ⟨b, o, none⟩ = some v -> ¬ C.forb β s b o -> w'.cell? ⟨b, o, none⟩ = some v /\ ¬ O' b o) ->
  Cells O' w' b' o' olds -> D.row O' w' b' o' sz xs)
 {ad : Option Addr} {c : Nat} {ys : List D} {news : List Value} (hln : news.length = ys.length * sz) (hln1 : ∀ v ∈ news, one v = true)
 (hnews : news = [] ∨ ∃ b o, ad = some ⟨b, o, none⟩ /\ Cells (C.forb β s) w b o news)
 (hrowY : ∀ (O' : Own) (w' : World) (b' o' : Nat), (∀ b o v, w.cell? ⟨b, o, none⟩ = some v -> ¬ C.forb β s b o -> w'.cell? ⟨b, o, none⟩ = some v /\ ¬ O' b o) ->
  Cells O' w' b' o' news -> D.row O' w' b' o' sz ys)
 (hg : sCap < sLen + ys.length) (hbd : (sLen + ys.length) * by' <= 2 ^ 47) :
 ∃ v w', (Builtin.append_ #[t, u] ty #[.slice base sLen sCap, .slice ad ys.length c]).run P w = .ok v w' /\ St C β env s a w' /\ D.ok (C.forb β s) w' (.sl sz none (xs ++ ys)) v := by
 have hneed : sLen + ys.length <= 2 ^ 47 := Nat.le_trans (Nat.le_mul_of_pos_right _ hb0) hbd
 have hrun := run_append_grow' (P := P) (w := w) t u ty e e2 i z ht hu hi hz base sLen sCap olds (by rw [hsz]; exact hlo)
  (holds.imp (fun x => x) fun ⟨b', o', h1, h2⟩ => ⟨b', o', h1, fun j v hj => (h2 j v hj).1⟩) ad ys.length c news (by rw [hsz]; exact hln)
  (hnews.imp (fun x => x) fun ⟨b', o', h1, h2⟩ => ⟨b', o', h1, fun j v hj => (h2 j v hj).1⟩) hg (by omega) (by rw [hb]; exact growslice_fits hg (by simpa using hbd))
 have hcap1 := grownCap_ge w (sLen + ys.length) sCap e
 have hcap2 := grownCap_le_maxLen w (sLen + ys.length) sCap e (by unfold Go.maxLen; omega)
 have hcell : (olds.toArray ++ news.toArray ++ Builtin.zeroCells z.cells (grownCap w (sLen + ys.length) sCap e - (sLen + ys.length))).toList = olds ++ news ++ (Builtin.zeroCells z.cells (grownCap w (sLen + ys.length) sCap e - (sLen + ys.length))).toList := by simp
 have hlen : (olds ++ news).length = (sLen + ys.length) * sz := by rw [List.length_append, hlo, hln, Nat.add_mul]
 have hst' : St C β env s a w.drew := hst.drew
 obtain ⟨h1, h2⟩ := data_of_new hst' (t := e) (e := sz) (n := sLen + ys.length) (cap := grownCap w (sLen + ys.length) sCap e)
  (c := olds.toArray ++ news.toArray ++ Builtin.zeroCells z.cells (grownCap w (sLen + ys.length) sCap e - (sLen + ys.length))) (xs := xs ++ ys)
  hcap1 (by unfold Go.maxLen at hcap2; omega)
  (fun v hv => by
   rw [hcell] at hv
   simp only [List.mem_append] at hv
   rcases hv with (hv | hv) | hv
   ·exact hlo1 v hv
   ·exact hln1 v hv
   ·exact zeroCells_one hz2 _ v hv)
  (by simp [hxl])
  (fun O' w' hm hc => by
   rw [hcell, take_of_append _ _ _ hlen] at hc
   refine row_append (hrowX O' w' _ 0 hm fun j v hj => ?_) (hrowY O' w' _ _ hm fun j v hj => ?_)
   ·have hlt : j < olds.length := (List.getElem?_eq_some_iff.1 hj).1
    exact hc j v (by rw [List.getElem?_append_left hlt]; exact hj)
   ·have := hc (olds.length + j) v (by rw [List.getElem?_append_right (by omega)]; simpa using hj)
    rw [hlo] at this
    rw [hxl]
    simpa [Nat.add_assoc] using this)
 exact ⟨_, _, hrun, h1, h2⟩
theorem run_append_none {w : World} (t u ty e e2 : TypeId) (i : TypeInfo) (ht : P.underlying t = some (.slice e)) (hu : P.underlying u = some (.slice e2)) (hi : P.info? e = some i)
 (base ad : Option Addr) (n c : Nat) : (Builtin.append_ #[t, u] ty #[.slice base n n, .slice ad 0 c]).run P w = .ok (.slice base n n) w := by
 have hf := run_firstCells (P := P) (w := w) (size := i.size) (n := 0) (len := 0) (cap := c) (a := ad) (vs := []) (by simp) (.inl rfl)
 cases base <;> simp [Builtin.append_, run_underlying ht, run_underlying hu, Go.sizeOf, typeInfo, hi, Builtin.lenOf, hf, storeCells]
theorem run_append_zero {w : World} (t u ty e e2 : TypeId) (i : TypeInfo) (ht : P.underlying t = some (.slice e)) (hu : P.underlying u = some (.slice e2)) (hi : P.info? e = some i)
 (ad : Option Addr) (c : Nat) : (Builtin.append_ #[t, u] ty #[.slice none 0 0, .slice ad 0 c]).run P w = .ok (.slice none 0 0) w := by
 have hf := run_firstCells (P := P) (w := w) (size := i.size) (n := 0) (len := 0) (cap := c) (a := ad) (vs := []) (by simp) (.inl rfl)
 simp [Builtin.append_, run_underlying ht, run_underlying hu, Go.sizeOf, typeInfo, hi, Builtin.lenOf, hf]
theorem s_app {c : Call} {d : Nat} (hop : o.op = .call c) (hc : c.callee = .builtin .append) {x y : Operand} (ha : c.args = #[x, y]) {t u : Nat}
 (hat : c.argTypes[0]? = some t) (hau : c.argTypes[1]? = some u) {e e2 : Nat} (ht : P.underlying t = some (.slice e)) (hu : P.underlying u = some (.slice e2))
 {sz by' : Nat} (hsz : sizeP P e = some sz) (hby : bytesP P e = some by') {z : List D} (hz : zeroD P e = some z) (hsz0 : 0 < sz) (hb0 : 0 < by')
 (hk : appK d e sz by' C.k (ev env x) (ev env y) env s fun x env s => k (setD o.dst env x) s) : OpWp P C o env s k := by
 refine .value fun β a w hst => ?_
 obtain ⟨i, zv, hi, hzv, hz1, hz2, _⟩ := zeroD_spec hz
 have hisz : i.size = sz := by obtain ⟨i', h1, h2⟩ := sizeP_spec hsz; rw [hi] at h1; cases h1; exact h2
 have hib : i.bytes = by' := by obtain ⟨i', h1, h2⟩ := bytesP_spec hby; rw [hi] at h1; cases h1; exact h2
 have hexec : ∀ v w', (Builtin.append_ #[t, u] o.type #[a.eval x, a.eval y]).run P w = .ok v w' -> (execOp a.eval o).run P w = .ok (.value v) w' := by
  intro v w' hr
  have hargs : c.argTypes[0]? = some t /\ c.argTypes[1]? = some u := ⟨hat, hau⟩
  have : ∀ w, (Builtin.append_ c.argTypes o.type #[a.eval x, a.eval y]).run P w = (Builtin.append_ #[t, u] o.type #[a.eval x, a.eval y]).run P w := by
   intro w
   unfold Builtin.append_
   simp [hat, hau]
  simp [execOp, hop, resolve, hc, ha, invoke, builtin, this, hr]
 unfold appK at hk
 split at hk
 ·exact hk.elim
 ·rename_i e3 ys hys
  obtain ⟨he3, hk⟩ := hk
  obtain ⟨ad, cap, news, hyv, hln, hln1, hnews, hrowY⟩ := slK_cells (e := sz) (hst.ev y) hys he3
  have hx := hst.ev x
  split at hk
  ·rename_i e' j xs hxe
   obtain ⟨rfl, hsj, hbd, hk⟩ := hk
   rw [hxe] at hx
   simp only [AV.ok] at hx
   obtain ⟨hxd, uv, n, hbj, hle, heq⟩ := hx
   have ho := hst.inv.obs j
   rw [hsj] at ho
   obtain ⟨u2, hb2, htok⟩ := ho
   rw [hb2] at hbj
   obtain ⟨rfl, rfl⟩ := hbj
   have hbj := hb2
   have hxv : a.eval x = u2 := heq rfl
   obtain ⟨ax, capx, hxa, hcx, _, hrx⟩ := hxd
   rw [hxv] at hxa
   rcases htok with ⟨h1, h2⟩ | ⟨g, capg, vs, h1, h2, h3, h4, h5, h6⟩
   ·-- nil
    have hxs : xs = [] := List.length_eq_zero_iff.1 h2
    subst hxs
    by_cases hy0 : ys = []
    ·subst hy0
     have hrun := run_append_zero (P := P) (w := w) t u o.type e e2 i ht hu hi ad cap
     have hs' : sset s j (.tok e e' ([] : List D).length) = sset s j (.tok e e' (([] : List D).length + ([] : List D).length)) := by simp
     refine ⟨_, w, β, env, sset s j (.tok e e' (([] : List D).length + ([] : List D).length)), _, hexec _ _ (by rw [hxv, h1, hyv]; exact hrun), ?_, ?_, hk⟩
     ·have hsame : ∀ q, sat (sset s j (.tok e e' (([] : List D).length + ([] : List D).length))) q = sat s q := by
       intro q; rw [sat_sset]; split
       ·rename_i hq; subst hq; rw [hsj]; simp
       ·rfl
      have hown : ∀ b o, own β (sset s j (.tok e e' (([] : List D).length + ([] : List D).length))) b o ↔ own β s b o := by
       intro b o; unfold own; simp only [hsame]
      have hblk : ∀ q b, blockOf β (sset s j (.tok e e' (([] : List D).length + ([] : List D).length))) q b ↔ blockOf β s q b := by
       intro q b; unfold blockOf; simp only [hsame]
      have m : Moves β s w β (sset s j (.tok e e' (([] : List D).length + ([] : List D).length))) w :=
       ⟨Nat.le_refl _, rfl, fun _ _ _ h _ => h, fun _ _ _ => rfl, fun b o h => .inl ((hown b o).1 h), fun q b h => .inl ⟨q, (hblk q b).1 h⟩, fun _ => .refl _⟩
      exact hst.move m (fun q => by rw [hsame]; exact (hst.inv.obs q).moves m rfl (fun _ _ => rfl) rfl) (fun p q b hp hq => hst.inv.inj p q b ((hblk p b).1 hp) ((hblk q b).1 hq))
     ·simp only [AV.ok, D.ok]
      exact ⟨⟨none, 0, rfl, ⟨Nat.le_refl _, by omega⟩, trivial, .inl rfl⟩, _, _, by rw [hbj]; exact ⟨rfl, rfl⟩, Nat.le_refl _, fun _ => h1.symm⟩
    ·have hpos : 0 < ys.length := List.length_pos_iff.2 hy0
     obtain ⟨v, w', β', hrun, hst', hok⟩ := app_grow (P := P) hst (ty := o.type) ht hu hi hzv hisz hib hb0 hz1 hz2 (base := none) (sLen := 0) (sCap := 0) (xs := []) rfl (olds := []) (by simp) (by simp) (.inl rfl)
      (fun _ _ _ _ _ _ => by simp [D.row]) hln hln1 hnews hrowY (c := cap) (by omega) (by simpa using hbd) (id := j)
      (by rw [hbj]; exact ⟨_, _, rfl, by simp, fun h => by simp at h; omega⟩)
     refine ⟨v, w', β', env, _, _, hexec _ _ (by rw [hxv, h1, hyv]; exact hrun), ?_, ?_, hk⟩
     ·simpa using hst'
     ·simpa using hok
   ·by_cases hroom : xs.length + ys.length <= capg
    ·-- room
     have hfit : xs.length * e' + news.length <= vs.size := by
      rw [h3, hln, <- Nat.add_mul]
      exact Nat.mul_le_mul_right _ hroom
     have hrun := run_append_room' (P := P) (w := w) t u o.type e e2 i ht hu hi g xs.length capg vs e h2 ad ys.length cap news (by rw [hisz]; exact hln)
      (hnews.imp (fun x => x) fun ⟨b', o', q1, q2⟩ => ⟨b', o', q1, fun j v hj => (q2 j v hj).1⟩) hln1 hroom (by rw [hisz]; exact hfit)
     rw [hisz] at hrun
     have hbl : blockOf β s j g := by unfold blockOf; rw [hsj]; exact ⟨capg, by rw [hbj, h1]⟩
     obtain ⟨hst', m⟩ := hst.turn (id := j) (b := g) (ob := .tok e e' (xs.length + ys.length))
      (p := .tok (.slice (some ⟨g, 0, none⟩) (xs.length + ys.length) capg) (xs.length + ys.length))
      (w' := w.setRow g (vs.toList.take (xs.length * e') ++ news ++ vs.toList.drop (xs.length * e' + news.length)).toArray)
      hbl (by simp) (by simp [wio]) (fun b' hb' => setRow_other w g b' _ (fun e => hb' e))
      (fun q v hcell hn => by
       have hq : q < xs.length * e' := by
        rcases Nat.lt_or_ge q (xs.length * e') with hlt | hge
        ·exact hlt
        ·exact absurd ⟨j, by rw [hsj]; exact ⟨capg, by rw [hbj, h1], hge⟩⟩ hn
       have hh' := setRow_heap w g vs (vs.toList.take (xs.length * e') ++ news ++ vs.toList.drop (xs.length * e' + news.length)).toArray e (0, 0) h2
       simp only [World.cell?, h2, Option.isSome_none, Bool.false_eq_true, if_false] at hcell
       simp only [World.cell?, hh', Option.isSome_none, Bool.false_eq_true, if_false]
       rw [<- hcell]
       have hq2 : q < (vs.toList.take (xs.length * e')).length := by simp; omega
       simp only [List.getElem?_toArray]
       rw [List.append_assoc, List.getElem?_append_left hq2, List.getElem?_take, if_pos hq]
       simp)
      (fun b' q hown => by
       obtain ⟨i', hown⟩ := hown
       by_cases hi' : i' = j
       ·subst hi'
        simp only [sat, if_true, bset] at hown
        obtain ⟨cap', q1, q2⟩ := hown
        simp at q1
        obtain ⟨rfl, _⟩ := q1
        refine ⟨i', ?_⟩
        rw [hsj]
        refine ⟨capg, by rw [hbj, h1], Nat.le_trans (Nat.mul_le_mul_right _ (Nat.le_add_right _ _)) q2⟩
       ·simp [sat, hi'] at hown)
      (fun b' hb' => by
       simp only [blockOf, sat, if_true, bset] at hb'
       obtain ⟨_, hb'⟩ := hb'
       simp at hb'
       exact hb'.1.symm)
      (by
       rw [hbj]
       refine ⟨_, _, rfl, by omega, fun hh => ?_⟩
       have : ys.length = 0 := by omega
       rw [h1, this]; rfl)
      (fun β' F _ _ hp => ⟨_, hp, .inr ⟨g, capg, _, rfl, setRow_heap w g vs _ e (0, 0) h2, by
       simp only [List.size_toArray, List.length_append, List.length_take, List.length_drop, Array.length_toList]
       omega, hroom, h5, fun v hv => by
        simp only [List.mem_append] at hv
        rcases hv with (hv | hv) | hv
        ·exact h6 v (List.mem_of_mem_take hv)
        ·exact hln1 v hv
        ·exact h6 v (List.mem_of_mem_drop hv)⟩⟩)
     refine ⟨_, _, _, env, _, _, hexec _ _ (by rw [hxv, h1, hyv]; exact hrun), hst', ?_, hk⟩
     simp only [AV.ok, D.ok]
     refine ⟨⟨_, capg, by rw [List.length_append], by rw [List.length_append]; exact ⟨hroom, h5⟩, trivial, .inr ⟨g, 0, rfl, ?_⟩⟩, _, xs.length + ys.length, by simp [bset, Place.at], by simp, fun _ => rfl⟩
     have hh' := setRow_heap w g vs (vs.toList.take (xs.length * e') ++ news ++ vs.toList.drop (xs.length * e' + news.length)).toArray e (0, 0) h2
     have hforb : ∀ q, q < (xs.length + ys.length) * e' -> ¬ C.forb (bset β j (.tok (.slice (some ⟨g, 0, none⟩) (xs.length + ys.length) capg) (xs.length + ys.length))) (sset s j (.tok e e' (xs.length + ys.length))) g q := by
      intro q hq hf
      rcases hf with hf | hf
      ·-- the outer memory: g is not below, or it is owned
       have h7 := hst.inv.low _ _ hf
       by_cases hq1 : q < xs.length * e'
       ·rcases hrx with hrx | ⟨b', o', q2, q3⟩
        ·subst hrx; simp at hq1
        ·obtain ⟨us, k1, k2, _⟩ := row_copy q3
         rw [h1] at hxa
         simp only [Value.slice.injEq] at hxa
         rw [<- hxa.1] at q2
         cases q2
         have hlt : q < us.length := by omega
         have := (k2 q _ (List.getElem?_eq_getElem hlt)).2.1
         exact this (.inl (by simpa using hf))
       ·rcases hst.inv.ownd g q ⟨j, by rw [hsj]; exact ⟨capg, by rw [hbj, h1], by omega⟩⟩ with h8 | h8
        ·exact h7.2 h8
        ·omega
      ·rcases own_new2 hf with ⟨i', hi', hf⟩ | hf
       ·exact hi' (hst.inv.inj i' j g hf hbl)
       ·obtain ⟨i', hf⟩ := hf
        by_cases hi' : i' = j
        ·subst hi'
         simp only [sat, if_true, bset] at hf
         obtain ⟨_, _, hf⟩ := hf
         omega
        ·simp [sat, hi'] at hf
     have hXcells : D.row (C.forb (bset β j (.tok (.slice (some ⟨g, 0, none⟩) (xs.length + ys.length) capg) (xs.length + ys.length))) (sset s j (.tok e e' (xs.length + ys.length))))
      (w.setRow g (vs.toList.take (xs.length * e') ++ news ++ vs.toList.drop (xs.length * e' + news.length)).toArray) g 0 e' xs := by
      rcases hrx with hrx | ⟨b', o', q2, q3⟩
      ·subst hrx; simp [D.row]
      ·rw [h1] at hxa
       simp only [Value.slice.injEq] at hxa
       rw [<- hxa.1] at q2
       cases q2
       exact D.row_mono m.stays _ _ _ _ q3
     refine row_append hXcells (hrowY _ _ _ _ m.stays ?_)
     refine cells_of_heap hh' (fun q v hq => ?_) (fun q hq => hforb _ ?_) hln1
     ·have hq2 : q < news.length := (List.getElem?_eq_some_iff.1 hq).1
      have hlen : (vs.toList.take (xs.length * e')).length = xs.length * e' := by simp; omega
      simp only [Nat.zero_add]
      rw [List.append_assoc, List.getElem?_append_right (by omega), hlen, Nat.add_sub_cancel_left, List.getElem?_append_left hq2]
      exact hq
     ·rw [Nat.add_mul]; omega
    ·-- no room
     have hrowX : ∃ olds : List Value, olds.length = xs.length * e' /\ (∀ v ∈ olds, one v = true) /\ (olds = [] ∨ ∃ b' o, (some ⟨g, 0, none⟩ : Option Addr) = some ⟨b', o, none⟩ /\ Cells (C.forb β s) w b' o olds) /\
      ∀ (O' : Own) (w' : World) (b' o' : Nat), (∀ b o v, w.cell? ⟨b, o, none⟩ = some v -> ¬ C.forb β s b o -> w'.cell? ⟨b, o, none⟩ = some v /\ ¬ O' b o) ->
       Cells O' w' b' o' olds -> D.row O' w' b' o' e' xs := by
      rcases hrx with hrx | ⟨b', o', q2, q3⟩
      ·subst hrx; exact ⟨[], by simp, by simp, .inl rfl, fun _ _ _ _ _ _ => by simp [D.row]⟩
      ·rw [h1] at hxa
       simp only [Value.slice.injEq] at hxa
       rw [<- hxa.1] at q2
       obtain ⟨us, k1, k2, k3⟩ := row_copy q3
       exact ⟨us, k1, k2.one, .inr ⟨b', o', q2, k2⟩, k3⟩
     obtain ⟨olds, o1, o2, o3, o4⟩ := hrowX
     obtain ⟨v, w', β', hrun, hst', hok⟩ := app_grow (P := P) hst (ty := o.type) ht hu hi hzv hisz hib hb0 hz1 hz2 (base := some ⟨g, 0, none⟩) (sLen := xs.length) (sCap := capg) (xs := xs) rfl (olds := olds) o1 o2 o3 o4
      hln hln1 hnews hrowY (c := cap) (by omega) hbd (id := j)
      (by rw [hbj]; exact ⟨_, _, rfl, by omega, fun h => by omega⟩)
     exact ⟨v, w', β', env, _, _, hexec _ _ (by rw [hxv, h1, hyv]; exact hrun), hst', hok, hk⟩
  ·rename_i e' j n hxe
   obtain ⟨rfl, hk⟩ := hk
   split at hk
   ·rename_i t' e2' m' cs hsj
    obtain ⟨rfl, rfl, rfl, hbd, hk⟩ := hk
    rw [hxe] at hx
    obtain ⟨ad', cap', news', hyv', hln', hln1', hnews', hys'⟩ := slK_flat (e := e2') (hst.ev y) hys he3
    obtain ⟨v, w', β', hrun, hst', hok⟩ := app_gro (P := P) hst (ty := o.type) ht hu hi hzv hisz hib hb0 hz1 hz2 hsj hx (c := cap') hln' hln1' hnews' hys' hbd
    exact ⟨v, w', β', env, _, _, hexec _ _ (by rw [hyv']; exact hrun), hst', hok, hk⟩
   ·exact hk.elim
  ·rename_i e4 hxe
   obtain ⟨hbd, hk⟩ := hk
   rw [hxe] at hx
   simp only [AV.ok, D.ok] at hx
   obtain ⟨ax, capx, hxv, _, hnl, _⟩ := hx
   obtain ⟨rfl, rfl⟩ := hnl
   simp only [List.length_nil] at hxv
   obtain ⟨β1, env1, s1, f, hst1, hd1, hk1, _, hf⟩ := newK_sound hk hst
   by_cases hy0 : ys = []
   ·subst hy0
    have hrun := run_append_zero (P := P) (w := w) t u o.type e e2 i ht hu hi ad cap
    obtain ⟨β', hst', hok⟩ := own_of_nil hst1 (id := d) e sz hd1
    exact ⟨_, w, β', env1, _, _, hexec _ _ (by rw [hxv, hyv]; exact hrun), hst', hok, hk1⟩
   ·have hpos : 0 < ys.length := List.length_pos_iff.2 hy0
    have hno : β1 d = .no := by have := hst1.inv.obs d; rw [hd1] at this; exact this
    obtain ⟨v, w', β', hrun, hst', hok⟩ := app_grow (P := P) hst1 (ty := o.type) ht hu hi hzv hisz hib hb0 hz1 hz2 (base := none) (sLen := 0) (sCap := 0) (xs := []) rfl (olds := []) (by simp) (by simp) (.inl rfl)
     (fun _ _ _ _ _ _ => by simp [D.row]) hln hln1
     (hnews.imp (fun x => x) fun ⟨b', o', q1, q2⟩ => ⟨b', o', q1, q2.mono fun b o v hc hn => ⟨hc, fun h => hn (hf b o h)⟩⟩)
     (fun O' w' b' o' hm hc => hrowY O' w' b' o' (fun b o v q1 q2 => hm b o v q1 fun h => q2 (hf b o h)) hc) (c := cap) (by omega) (by simpa using hbd) (id := d)
     (by rw [hno]; trivial)
    refine ⟨v, w', β', env1, _, _, hexec _ _ (by rw [hxv, hyv]; exact hrun), ?_, ?_, hk1⟩
    ·simpa using hst'
    ·simpa using hok
  ·rename_i e' xs hxe
   obtain ⟨rfl, hbd, hk⟩ := hk
   rw [hxe] at hx
   simp only [AV.ok] at hx
   obtain ⟨ax, hxv, hxd⟩ := hx
   by_cases hy0 : ys = []
   ·subst hy0
    have hrun := run_append_none (P := P) (w := w) t u o.type e e2 i ht hu hi ax ad xs.length cap
    exact ⟨_, w, β, env, s, _, hexec _ _ (by rw [hxv, hyv]; exact hrun), hst, by simp only [AV.ok, List.append_nil]; rw [<- hxv]; exact hxd, hk⟩
   ·have hpos : 0 < ys.length := List.length_pos_iff.2 hy0
    simp only [D.ok] at hxd
    obtain ⟨a2, cap2, q1, _, _, hrx⟩ := hxd
    rw [hxv] at q1
    cases q1
    have hrowX : ∃ olds : List Value, olds.length = xs.length * e' /\ (∀ v ∈ olds, one v = true) /\ (olds = [] ∨ ∃ b' o, ax = some ⟨b', o, none⟩ /\ Cells (C.forb β s) w b' o olds) /\
     ∀ (O' : Own) (w' : World) (b' o' : Nat), (∀ b o v, w.cell? ⟨b, o, none⟩ = some v -> ¬ C.forb β s b o -> w'.cell? ⟨b, o, none⟩ = some v /\ ¬ O' b o) ->
      Cells O' w' b' o' olds -> D.row O' w' b' o' e' xs := by
     rcases hrx with hrx | ⟨b', o', q2, q3⟩
     ·subst hrx; exact ⟨[], by simp, by simp, .inl rfl, fun _ _ _ _ _ _ => by simp [D.row]⟩
     ·obtain ⟨us, k1, k2, k3⟩ := row_copy q3
      exact ⟨us, k1, k2.one, .inr ⟨b', o', q2, k2⟩, k3⟩
    obtain ⟨olds, o1, o2, o3, o4⟩ := hrowX
    obtain ⟨v, w', hrun, hst', hok⟩ := app_data (P := P) hst (ty := o.type) ht hu hi hzv hisz hib hb0 hz2 (base := ax) (sLen := xs.length) (sCap := xs.length) (xs := xs) rfl (olds := olds) o1 o2 o3 o4
     hln hln1 hnews hrowY (c := cap) (by omega) hbd
    exact ⟨v, w', β, env, s, _, hexec _ _ (by rw [hxv, hyv]; exact hrun), hst', by simpa only [AV.ok] using hok, hk⟩
  ·exact hk.elim
theorem s_appg {c : Call} {d : Nat} (hop : o.op = .call c) (hc : c.callee = .builtin .append) {x y : Operand} (ha : c.args = #[x, y]) {t u : Nat}
 (hat : c.argTypes[0]? = some t) (hau : c.argTypes[1]? = some u) {e e2 : Nat} (ht : P.underlying t = some (.slice e)) (hu : P.underlying u = some (.slice e2))
 {sz by' : Nat} (hsz : sizeP P e = some sz) (hby : bytesP P e = some by') {z : List D} (hz : zeroD P e = some z) (hsz0 : 0 < sz) (hb0 : 0 < by')
 (hk : appgK d e sz by' C.k (ev env x) (ev env y) env s fun x env s => k (setD o.dst env x) s) : OpWp P C o env s k := by
 intro hnd Q β a w hst
 unfold appgK at hk
 split at hk
 case h_2 => exact s_app hop hc ha hat hau ht hu hsz hby hz hsz0 hb0 hk hnd Q β a w hst
 rename_i e2' ys e4 hys hxe
 revert hnd Q β a w
 show OpWp P C o env s k
 refine .value fun β a w hst => ?_
 obtain ⟨i, zv, hi, hzv, hz1, hz2, _⟩ := zeroD_spec hz
 have hisz : i.size = sz := by obtain ⟨i', h1, h2⟩ := sizeP_spec hsz; rw [hi] at h1; cases h1; exact h2
 have hib : i.bytes = by' := by obtain ⟨i', h1, h2⟩ := bytesP_spec hby; rw [hi] at h1; cases h1; exact h2
 have hexec : ∀ v w', (Builtin.append_ #[t, u] o.type #[a.eval x, a.eval y]).run P w = .ok v w' -> (execOp a.eval o).run P w = .ok (.value v) w' := by
  intro v w' hr
  have hargs : c.argTypes[0]? = some t /\ c.argTypes[1]? = some u := ⟨hat, hau⟩
  have : ∀ w, (Builtin.append_ c.argTypes o.type #[a.eval x, a.eval y]).run P w = (Builtin.append_ #[t, u] o.type #[a.eval x, a.eval y]).run P w := by
   intro w
   unfold Builtin.append_
   simp [hat, hau]
  simp [execOp, hop, resolve, hc, ha, invoke, builtin, this, hr]
 obtain ⟨he3, hbd, hk⟩ := hk
 obtain ⟨ad, cap, news, hyv, hln, hln1, hnews, hoks⟩ := slK_flat (e := sz) (hst.ev y) hys he3
 have hx := hst.ev x
 rw [hxe] at hx
 simp only [AV.ok, D.ok] at hx
 obtain ⟨ax, capx, hxv, _, hnl, _⟩ := hx
 obtain ⟨rfl, rfl⟩ := hnl
 simp only [List.length_nil] at hxv
 obtain ⟨β1, env1, s1, f, hst1, hd1, hk1, _, hf⟩ := newK_sound hk hst
 have hmo : ∀ b o v, w.cell? ⟨b, o, none⟩ = some v -> ¬ C.forb β s b o -> w.cell? ⟨b, o, none⟩ = some v /\ ¬ C.forb β1 s1 b o := fun b o v hc hn => ⟨hc, fun h => hn (hf b o h)⟩
 by_cases hy0 : ys = []
 ·subst hy0
  have hrun := run_append_zero (P := P) (w := w) t u o.type e e2 i ht hu hi ad cap
  obtain ⟨β', hst', hok⟩ := gro_of_nil hst1 (id := d) e sz hd1
  exact ⟨_, w, β', env1, _, _, hexec _ _ (by rw [hxv, hyv]; exact hrun), hst', hok, hk1⟩
 ·have hpos : 0 < ys.length := List.length_pos_iff.2 hy0
  have hno : β1 d = .no := by have := hst1.inv.obs d; rw [hd1] at this; exact this
  obtain ⟨v, w', β', hrun, hst', hok⟩ := gro_grow (P := P) hst1 (ty := o.type) ht hu hi hzv hisz hib hb0 hz1 hz2 (base := none) (sLen := 0) (sCap := 0) (cs := []) (olds := []) (by simp) (by simp) (.inl rfl) (by simp [D.oks])
   hln hln1 (hnews.imp (fun x => x) fun ⟨b', o', q1, q2⟩ => ⟨b', o', q1, q2.mono hmo⟩) (D.oks_mono hmo _ _ hoks) (c := cap) (by omega) (by simpa using hbd) (id := d)
   (by rw [hno]; trivial)
  refine ⟨v, w', β', env1, _, _, hexec _ _ (by rw [hxv, hyv]; exact hrun), ?_, ?_, hk1⟩
  ·simpa using hst'
  ·simpa using hok
end
end Abx
